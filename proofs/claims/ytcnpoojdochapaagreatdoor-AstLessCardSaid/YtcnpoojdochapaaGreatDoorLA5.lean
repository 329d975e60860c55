/- Closed calls of the standard library; calls of function values; texts as rows of bytes; the first of a row that breaks a limit. -/
import Derived.Laws.Externs
import Derived.Lib.Bytealg
import Derived.WalkKit
import Derived.Orders
import Derived.Test.YtcnpoojdochapaaGreatDoorLA4
set_option linter.unusedVariables false
set_option linter.unusedSimpArgs false
set_option maxRecDepth 100000
namespace Go.CE
open Go.RowKit
open Go.Eng (callable Od)
def ixb:List UInt8→Nat→Nat→Int
 | [],_,_=>-1
 | b::l,c,i=>match Nat.beq b.toNat c with
  | true=>.ofNat i
  | false=>ixb l c (i+1)
theorem ixb_eq (c:UInt8):∀ (l:List UInt8) (i:Nat),ixb l c.toNat i=if Lib.indexByte l c = -1 then -1 else Lib.indexByte l c+i:=by
 intro l
 induction l with
 | nil=>intro i;simp [ixb,Lib.indexByte]
 | cons b l ih =>
  intro i
  by_cases h:b=c
  ·subst h
   have h0:Lib.indexByte (b::l) b=0:=by simp [Lib.indexByte]
   rw [h0]
   simp [ixb]
  ·have h1:Nat.beq b.toNat c.toNat=false:=by
    cases hh:Nat.beq b.toNat c.toNat with
    | false=>rfl
    | true=>exact absurd (UInt8.toNat_inj.1 (Nat.eq_of_beq_eq_true hh)) h
   have h0:Lib.indexByte (b::l) c=if Lib.indexByte l c = -1 then -1 else Lib.indexByte l c+1:=by simp [Lib.indexByte,h]
   have:=Lib.indexByte_ge l c
   simp only [ixb,h1,ih]
   rw [h0]
   by_cases h3:Lib.indexByte l c = -1
   ·simp only [h3,if_true]
   ·simp only [h3,if_false]
    rw [if_neg (by omega)]
    push_cast
    omega
def hIx (f0:Nat):Call':=fun f args mem nx=>match Nat.beq f f0 with
 | true=>match args with
  | [.c (.v (.string s)),.c (.v (.int .u8 c))]=>some (.c (.v (.int .i64 (ixb s.data.toList (Nat.mod c.toNat 256) 0))),mem,nx)
  | _=>none
 | false=>none
theorem hIx_snd {P : Program} {f0 : Nat} {fn : Func} (hf : P.funcs[f0]? = some fn) (hname : (fn.name == "runtime.NumGoroutine") = false) (hb : fn.body.isNone = true) (hn : Extern.findNext fn = none) (he : Extern.find fn = some Extern.BytealgIndexByte.indexByte) : CallSnd P (hIx f0) := by
 intro f args mem nx res mem' nx' h
 simp only [hIx] at h
 split at h
 case h_2 => cases h
 rename_i hff
 have := Nat.eq_of_beq_eq_true hff
 subst this
 split at h
 case h_2 => cases h
 rename_i s c
 injection h with h
 obtain ⟨h1, h2⟩ := Prod.mk.inj h
 subst h1
 obtain ⟨h3, h4⟩ := Prod.mk.inj h2
 subst h3
 subst h4
 refine ⟨Low.refl _ _, fun K w0 ρ w vs hms hfree hl hrep => .inr ⟨.int .i64 (Lib.indexByte s.data.toList c.toNat.toUInt8), ?_, _, ρ, rfl, Grown.refl _ _, hms, ?_⟩⟩
 ·have h0 := hrep 0 _ rfl
  have h1 := hrep 1 _ rfl
  have e0 : vs.getD 0 undef = .string s := h0.valInv rfl
  have e1 : vs.getD 1 undef = .int .u8 c := h1.valInv rfl
  have hsz : vs.size = 2 := hl
  have hvs : vs = #[.string s, .int .u8 c] := by
   apply Array.ext
   ·exact hsz
   ·intro i h1 h2
    have : i = 0 ∨ i = 1 := by omega
    rcases this with rfl | rfl
    ·simpa [Array.getD_eq_getD_getElem?, hsz] using e0
    ·simpa [Array.getD_eq_getD_getElem?, hsz] using e1
  rw [hvs, run_callFunc_extern hf hname hb hn he, Lib.run_indexByteString]
  rfl
 ·have : ixb s.data.toList (Nat.mod c.toNat 256) 0 = Lib.indexByte s.data.toList c.toNat.toUInt8 := by
   have e : Nat.mod c.toNat 256 = c.toNat.toUInt8.toNat := by simp [Nat.toUInt8, UInt8.ofNat]; rfl
   rw [e, ixb_eq]
   split
   ·rename_i hh; exact hh.symm
   ·simp
  rw [this]
  exact .c _ _ (.v _ rfl)
theorem ixb_fc {T:Tr FE} {g ty k0 k f0:Nat} {s:ByteArray} {c:Int} (hT:T.get f0=none) (hg:Nat.beq f0 g=false) (hk:1≤k) {z:Mem}:FC (evF T (handG g ty (hIx f0)) k0 k) f0 [.c (.v (.string s)),.c (.v (.int .u8 c))] z fun v _=>v=.c (.v (.int .i64 (ixb s.data.toList (Nat.mod c.toNat 256) 0))):=fun mem nx hh=>by
 obtain ⟨j,rfl⟩:∃ j,k=j+1:=⟨k - 1,by omega⟩
 refine ⟨_,mem,nx,z,[],?_,Nat.le_refl _,fun _ _ _=>rfl,hh,zle.refl _,fun b k hb=>.inl hb,fun b hb=>by simp [fps] at hb,rfl,rfl⟩
 rw [evF,hT]
 show handG g ty (hIx f0) f0 _ mem nx=_
 unfold handG
 rw [hg]
 simp only
 unfold hIx
 rw [Nat.beq_refl]
theorem ixb_mem {l:List UInt8} {c:Nat} {i:Nat}:0≤ixb l c i↔∃ b,b∈l∧b.toNat=c:=by
 induction l generalizing i with
 | nil=>simp [ixb]
 | cons b l ih =>
  simp only [ixb]
  cases h:Nat.beq b.toNat c with
  | true =>
   simp only
   exact ⟨fun _=>⟨b,by simp,Nat.eq_of_beq_eq_true h⟩,fun _=>Int.natCast_nonneg i⟩
  | false =>
   simp only
   rw [ih]
   have hb:b.toNat≠c:=fun e=>by rw [e,Nat.beq_refl] at h;cases h
   constructor
   ·rintro ⟨x,hx,hc⟩;exact ⟨x,by simp [hx],hc⟩
   ·rintro ⟨x,hx,hc⟩
    rcases List.mem_cons.1 hx with rfl | hx
    ·exact absurd hc hb
    ·exact ⟨x,hx,hc⟩
open Go.RowKit
open Go.Eng (callable Od)
theorem fd_callv {call:Call'} {B:Base} {an:List Nat} {j:Nat} {l:List CE.D} {D:DS} {Q:Sf→Prop} {i:I} {d f:Nat} {t:Od} {us cs:List (Bool×List C)} {args:List Od} {vs:List AV} {af:List Nat} {Post:AV→Mem→Prop} (hi:i.o=.callv t args) (hd:i.d=some d) (hg:GK D.fs i) (hbits:Nat.beq (an.getD j 0 ||| D.last) (an.getD j 0)=true) (hpj:(D.pj.all fun q=>(an.getD j 0).testBit q)=true)
    (ht:D.fs.ev t=.c (.fn f us cs)) (ha:AV.cs us++(args.map D.fs.ev++AV.cs cs)=vs) (hc:FC call f vs D.fs.z Post) (hw:∀ v z',zle D.fs.z z'→Post v z'→FD call B an (j+1) l ⟨⟨eput D.fs.e d v,z',D.fs.H⟩,D.T,j+1,an.getD j 0 ||| (1 <<< j),[],D.lj⟩ Q):FD call B an j (⟨i,af⟩::l) D Q:=fun a r=>by
  have hgo:=gk_ok (d:=⟨i,af⟩) r.rf hg
  obtain ⟨m,ml,hm⟩:=r.hd
  have hhd:=r.seqget hm
  obtain ⟨v, mem', nx', z', H', h1, h2, h3, h4, h5, h6, h7, h8, h9⟩ := hc (ovl m a.pend) a.nx (by
    have:=r.rf.hold
    simp only [Acc.seq,hhd] at this
    exact Hold.left (Hs:=[]) (Hr:=D.fs.H) this)
  subst h8
  have hev:∀ m n,AV.cs us++(args.map (⟨restr a.env (CE.D.sl ⟨i,af⟩),m,n⟩:AS).ev++AV.cs cs)=vs:=fun m n=>by
    rw [← ha]
    congr 2
    refine List.map_congr_left fun x hx=>?_
    rw [ev_sub (m':=a.seq.mem) (n':=a.seq.nx) fun q hq=>sl_sub (d:=⟨i,af⟩) (by rw [hi];simp only [Ins.sl,Od.sls,List.mem_append,List.mem_flatMap];exact .inr ⟨x,hx,hq⟩)]
    exact r.rf.ev x
  have htv:∀ m n,(⟨restr a.env (CE.D.sl ⟨i,af⟩),m,n⟩:AS).ev t=.c (.fn f us cs):=fun m n=>by
    rw [← ht,ev_sub (m':=a.seq.mem) (n':=a.seq.nx) fun q hq=>sl_sub (d:=⟨i,af⟩) (by rw [hi];simp only [Ins.sl,Od.sls,List.mem_append];exact .inl hq)]
    exact r.rf.ev t
  have hp:=pend_all (bits:=an.getD j 0) (l:=a.pend) (by rw [r.pj];exact hpj)
  have hT:∀ b k,D.T b k→mem'.get b=some k:=fun b k hb=>by
    rw [h3 b (r.tlt b k hb) (by simp [fps])]
    exact ovl_keep (fun p hp' e=>r.np p hp' k (e ▸ hb)) (r.t0 (D.tag,m) (by rw [hm];exact List.mem_cons_self ..) b k hb)
  obtain ⟨fl',hf1,hf2⟩:=flOk_some (bits:=an.getD j 0) (m:=mem') (l:=a.fl) fun p hp=>(r.fl p hp).2 mem' hT
  refine wd_go (a':=⟨putE a.env i.d v,nx',(j+1,mem')::a.mems,a.pend.filter (fun p=>!(an.getD j 0).testBit p.1),fl',(an.getD j 0) ||| (1 <<< j)⟩) ?_ ?_
  · simp only [dStep]
    rw [show gOk i ⟨restr a.env (CE.D.sl ⟨i,af⟩),.nil,a.nx⟩=some true from hgo]
    simp only [hi,stepQ,isLoad,stepE,hm,hp.1,evV,callee,htv,hev,h1,r.last,hbits,hf1]
  · rw [hd,hp.2]
    refine hw v z' h5 h9 _ ⟨?_,⟨mem',a.mems,rfl⟩,fun p hp' b k hb=>?_,fun b k hb=>Nat.lt_of_lt_of_le (r.tlt b k hb) h2,fun p hp=>by simp at hp,fun p hp=>r.fl p (hf2 p hp),rfl,rfl,fun p hp=>by simp at hp⟩
    · have := r.rf.callR (Hs := []) (Hr := D.fs.H) rfl (mem' := mem') (nx' := nx') (z' := z') (H' := []) h2 (fun b hb hb2 => by
        rw [h3 b hb hb2];simp only [Acc.seq,hhd]) h4 h5 h6 h7
      exact this.put d v
    · rcases List.mem_cons.1 hp' with rfl | hp'
      · exact hT b k hb
      · exact r.t0 p hp' b k hb
theorem fg_callvZ {call:Call'} {B:Base} {an:List Nat} {j:Nat} {l:List CE.D} {fs:Sf} {T:Mem} {tag last:Nat} {pj lj:List Nat} {Q:Sf→Prop} (z0:Mem) {i:I} {d f:Nat} {t:Od} {us cs:List (Bool×List C)} {args:List Od} {vs:List AV} {af:List Nat} {Post:AV→Mem→Prop} (ht:fs.ev t=.c (.fn f us cs)) (hc:FC call f vs z0 Post) (hi:i.o=.callv t args) (hd:i.d=some d) (hg:GK fs i) (hbits:Nat.beq (an.getD j 0 ||| last) (an.getD j 0)=true) (hpj:(pj.all fun q=>(an.getD j 0).testBit q)=true)
  (ha:AV.cs us++(args.map fs.ev++AV.cs cs)=vs) (hz0:fs.z=z0) (hw:∀ v z',zle z0 z'→Post v z'→FG call B an (j+1) l (fs.res d v z' fs.H) T (j+1) (an.getD j 0 ||| (1 <<< j)) [] lj Q):FG call B an j (⟨i,af⟩::l) fs T tag last pj lj Q:=by
 subst hz0
 exact fd_callv (D:=⟨fs,T,tag,last,pj,lj⟩) hi hd hg hbits hpj ht ha hc hw
theorem fl_callvZ {call:Call'} {B:Base} {fs:Sf} {l:List I} {Q:Sf→Prop} {d:Nat} (z0:Mem) {t:Od} {f:Nat} {us cs:List (Bool×List C)} {args:List Od} {vs:List AV} {Post:AV→Mem→Prop} (ht:fs.ev t=.c (.fn f us cs)) (hc:FC call f vs z0 Post) (ha:AV.cs us++(args.map fs.ev++AV.cs cs)=vs) (hz0:fs.z=z0)
  (hw:∀ v z',zle z0 z'→Post v z'→FL call B l (fs.res d v z' fs.H) Q):FL call B (⟨some d,none,.callv t args⟩::l) fs Q:=by
 subst hz0
 exact fl_callv ht ha hc hw
open Go.RowKit
open Go.Eng (callable Od need need_pos need_some setL setL_length setL_def bget)
abbrev bs (l:List UInt8):ByteArray:=⟨l.toArray⟩
abbrev sV (l:List UInt8):AV:=.c (.v (.string (bs l)))
theorem bs_size (l:List UInt8):(bs l).size=l.length:=by simp [bs,ByteArray.size]
theorem bs_get (l:List UInt8) (i:Nat):bget (bs l) i=l.getD i 0:=by simp [bs,bget]
theorem bs_cut (l:List UInt8) (i j:Nat):bcut (bs l) i j=bs ((l.take j).drop i):=by simp [bs,bcut]
theorem bS_eql (a b:List UInt8):binW .eql (.string (bs a)) (.string (bs b))=some (.bool (decide (a=b))):=by
 show binS .eql (bs a) (bs b)=_
 simp only [binS,bsame_eq]
 by_cases h:a=b<;>simp [bs,h]
theorem bS_neq (a b:List UInt8):binW .neq (.string (bs a)) (.string (bs b))=some (.bool (!decide (a=b))):=by
 show binS .neq (bs a) (bs b)=_
 simp only [binS,bsame_eq]
 by_cases h:a=b<;>simp [bs,h]
def cB (f:Nat→Bool):List C:=(List.range 256).map fun c=>.v (.bool (f c))
theorem cB_len (f:Nat→Bool):(cB f).length=256:=by simp [cB]
theorem cB_get {f:Nat→Bool} {i:Nat} (h:i<256):(cB f)[i]? = some (.v (.bool (f i))):=by simp [cB,h]
theorem cB_set {f:Nat→Bool} {i:Nat} (h:i<256):setL (cB f) i [.v (.bool true)]=cB fun k=>decide (k=i) || f k:=by
  apply List.ext_getElem?
  intro k
  rcases Nat.lt_or_ge k 256 with hk | hk
  · rw [cB_get hk,setL_def]
    rcases Nat.lt_trichotomy k i with h1 | h1 | h1
    · rw [List.append_assoc,List.getElem?_append_left (by rw [List.length_take,cB_len];omega),List.getElem?_take,if_pos h1,cB_get hk,decide_eq_false (by omega),Bool.false_or]
    · subst h1
      rw [List.append_assoc,List.getElem?_append_right (by rw [List.length_take,cB_len];omega),List.length_take,cB_len,Nat.min_eq_left (by omega),Nat.sub_self,decide_eq_true rfl,Bool.true_or]
      rfl
    · rw [List.append_assoc, List.getElem?_append_right (by rw [List.length_take, cB_len]; omega), List.length_take, cB_len, Nat.min_eq_left (by omega), List.getElem?_append_right (by simp; omega), List.getElem?_drop, decide_eq_false (by omega), Bool.false_or]
      rw [show i + [C.v (Value.bool true)].length+(k - i - [C.v (Value.bool true)].length)=k by simp;omega,cB_get hk]
  · rw [List.getElem?_eq_none (by rw [setL_length _ _ _ (by rw [cB_len];show i+1≤256;omega),cB_len];exact hk),List.getElem?_eq_none (by rw [cB_len];exact hk)]
theorem cB_rep:(List.replicate 256 (Value.bool false)).map (fun v=>C.v v)=cB fun _=>false:=by
 apply List.ext_getElem?
 intro k
 rcases Nat.lt_or_ge k 256 with hk | hk
 ·rw [cB_get hk,List.getElem?_map,List.getElem?_replicate,if_pos hk];rfl
 ·rw [List.getElem?_eq_none (by rw [List.length_map,List.length_replicate];exact hk),List.getElem?_eq_none (by rw [cB_len];exact hk)]
theorem blt_t {a b:Nat} (h:a<b):Nat.blt a b=true:=Nat.ble_eq_true_of_le h
theorem blt_f {a b:Nat} (h:b≤a):Nat.blt a b=false:=by
 cases e:Nat.blt a b with
 | false=>rfl
 | true=>have:=Nat.le_of_ble_eq_true e;omega
section
variable {call:Call'} {B:Base} {fs:Sf} {l:List I} {Q:Sf→Prop} {d:Nat}
theorem fl_cutS {x:Od} {lo hi:Option Od} {s:List UInt8} {i j:Nat} (hx:fs.ev x=sV s) (hlo:bndE fs lo 0 i) (hhi:bndE fs hi s.length j) (hij:i≤j) (hj:j≤s.length) {r:List UInt8} (he:(s.take j).drop i=r) (hw:FL call B l (fs.put d (sV r)) Q):FL call B (⟨some d,none,.slcS x lo hi⟩::l) fs Q:=
  fl_q (fun _ => rfl) (fun st rf => by
    have h1:=bnd_of rf hlo
    have h2:=bnd_of rf hhi
    rw [← bs_size] at h2
    simp only [stepQ,rf.ev,hx,AV.val?,h1,h2]
    rw [need_pos ⟨by omega,by omega,by rw [bs_size];omega⟩,Int.toNat_natCast,Int.toNat_natCast,bs_cut,he]
    rfl) hw
theorem fl_lenT {x:Od} {s:List UInt8} (hx:fs.ev x=sV s) (hw:FL call B l (fs.put d (.c (.v (.int .i64 (s.length:Nat))))) Q):FL call B (⟨some d,none,.len true x⟩::l) fs Q:=fl_lens hx (by rw [bs_size];exact hw)
theorem fl_ixT {x i:Od} {s:List UInt8} {kd:IntKind} {z:Int} (hx:fs.ev x=sV s) (hi:fs.ev i=.c (.v (.int kd z))) (j:Nat) (hj:z=(j:Int)) (h:j<s.length) (hw:FL call B l (fs.put d (.c (.v (.int .u8 ((s.getD j 0).toNat:Nat))))) Q):FL call B (⟨some d,none,.ixs x i⟩::l) fs Q:=fl_ixs hx hi j hj (by rw [bs_size];exact h) (by rw [bs_get];exact hw)
theorem fl_iaa {n size:Nat} {x i:Od} {b o:Nat} {kd:IntKind} {z:Int} (hx:fs.ev x=.c (.ptr b o)) (hi:fs.ev i=.c (.v (.int kd z))) (j:Nat) (hj:z=(j:Int)) (h:j<n) (hw:FL call B l (fs.put d (.c (.ptr b (o+j * size)))) Q):FL call B (⟨some d,none,.iaa n size x i⟩::l) fs Q:=
  fl_q (fun _ => rfl) (fun st rf => by
    subst hj
    simp only [stepQ,rf.ev,hx,hi,AV.int?]
    rw [need_pos ⟨by omega,by omega⟩,Int.toNat_natCast]) hw
theorem fl_alB {ty:Nat} {zs:List Value} (h:zs=List.replicate 256 (.bool false)) (hw:∀ b,FL call B l (fs.own d (.c (.ptr b 0)) (.blk b (.cells ty (cB fun _=>false)))) Q):FL call B (⟨some d,none,.alloc ty zs⟩::l) fs Q:=fl_alloc fun b=>by
 rw [h,cB_rep]
 exact hw b
theorem fl_ldB {x:Od} {b ty:Nat} {f:Nat→Bool} (hx:fs.ev x=.c (.ptr b 0)) (hm:HA.blk b (.cells ty (cB f))∈fs.H) (hw:FL call B l (fs.put d (.agg (cB f))) Q):FL call B (⟨some d,none,.load true 256 x⟩::l) fs Q:=fl_ld (v:=.agg (cB f)) hx hm (by rw [cB_len];omega) (by rw [List.drop_zero,List.take_of_length_le (by rw [cB_len];omega)];rfl) hw
theorem fl_stA {x y:Od} {b ty:Nat} {f g:Nat→Bool} {H':List HA} (hx:fs.ev x=.c (.ptr b 0)) (hy:fs.ev y=.agg (cB g)) (hr:Rep1 fs.H (.blk b (.cells ty (cB f))) (.blk b (.cells ty (cB g))) H') (hw:FL call B l (fs.heap H') Q):FL call B (⟨none,none,.store 256 x y⟩::l) fs Q:=by
 have e:setL (cB f) 0 (cB g)=cB g:=by
  rw [setL_def,List.take_zero,List.nil_append,List.drop_eq_nil_of_le (by rw [cB_len,cB_len];omega),List.append_nil]
 exact fl_st (ds:=cB g) hx hy rfl (by rw [e];exact hr) (cB_len g) (by rw [cB_len];omega) hw
theorem fl_stB {x:Od} {b p ty:Nat} {f g:Nat→Bool} {H':List HA} (j:Nat) (hx:fs.ev x=.c (.ptr b p)) (he:(fun k=>decide (k=j) || f k)=g) (hr:Rep1 fs.H (.blk b (.cells ty (cB f))) (.blk b (.cells ty (cB g))) H') (hj:p=j) (h:j<256) (hw:FL call B l (fs.heap H') Q):FL call B (⟨none,none,.store 1 x (.k (.bool true))⟩::l) fs Q:=by
 subst hj
 subst he
 exact fl_st (ds:=[.v (.bool true)]) hx rfl rfl (by rw [cB_set h];exact hr) rfl (by rw [cB_len];omega) hw
theorem fl_ldb {x:Od} {b p ty:Nat} {f:Nat→Bool} (j:Nat) (hx:fs.ev x=.c (.ptr b p)) (hm:fs.z b (.cells ty (cB f))) (hj:p=j) (h:j<256) (hw:FL call B l (fs.put d (.c (.v (.bool (f j))))) Q):FL call B (⟨some d,none,.load false 1 x⟩::l) fs Q:=by
 subst hj
 refine fl_ldA1 (c:=.v (.bool (f p))) hx ⟨_,_,hm,rfl,by rw [cB_len];exact h,?_⟩ hw
 apply List.ext_getElem?
 intro k
 cases k with
 | zero=>rw [List.getElem?_take,if_pos (by simp),List.getElem?_drop,Nat.add_zero,cB_get h];rfl
 | succ k=>rw [List.getElem?_eq_none (by rw [List.length_take];simp;omega),List.getElem?_eq_none (by simp)]
theorem fl_rngS {x:Od} {s:List UInt8} (hx:fs.ev x=sV s) (hw:∀ b,FL call B l (fs.own d (.c (.ptr b 0)) (.blk b (.sit (bs s) 0))) Q):FL call B (⟨some d,none,.rngS x⟩::l) fs Q:=
 fl_new (w:=fun b=>.c (.ptr b 0)) (fun _=>rfl) (fun _=>rfl) (fun st r=>by simp only [stepE,r.ev,hx,AV.val?]) hw
theorem fl_nxtS {x:Od} {b i:Nat} {s:List UInt8} {H':List HA} (hx:fs.ev x=.c (.ptr b 0)) (hr:Rep1 fs.H (.blk b (.sit (bs s) i)) (.blk b (.sit (bs s) (i+1))) H') (hi:i<s.length) (ha:(s.getD i 0).toNat<128) (hw:FL call B l (fs.res d (.tup [.c (.v (.bool true)),.c (.v (.int .i64 (i:Nat))),.c (.v (.int .i32 ((s.getD i 0).toNat:Nat)))]) fs.z H') Q):FL call B (⟨some d,none,.nxtS x⟩::l) fs Q:=fun st r=>by
  have hg:=r.hold.h _ hr.mem
  have hlt:Nat.blt i (bs s).size=true:=by rw [bs_size];exact blt_t hi
  have hlt2:Nat.blt (bget (bs s) i).toNat 128=true:=by rw [bs_get];exact blt_t ha
  refine w_of (i_e rfl rfl (v:=.tup [.c (.v (.bool true)),.c (.v (.int .i64 (i:Nat))),.c (.v (.int .i32 ((s.getD i 0).toNat:Nat)))]) (st':=st.setB b (.sit (bs s) (i+1))) ?_) ?_
  · simp only [stepE,r.ev,hx]
    rw [show st.mem.get b=some (.sit (bs s) i) from hg]
    simp only [hlt,hlt2]
    rw [← bs_get]
    rfl
  · have := r.rep hr (Nat.le_refl _) (by show (st.setB b (.sit (bs s) (i + 1))).mem.get b = _; rw [setB_mem, if_pos rfl]) (fun c hc => .inl hc) (by simp [HA.fp]) (fun c _ hc => by show (st.setB b _).mem.get c = _; rw [setB_mem, if_neg fun e => hc (by simp [HA.fp, e])])
    exact hw _ (this.put d _)
theorem fl_nxtE {x:Od} {b i:Nat} {s:List UInt8} (hx:fs.ev x=.c (.ptr b 0)) (hm:HA.blk b (.sit (bs s) i)∈fs.H) (hi:s.length≤i) (hw:FL call B l (fs.put d (.tup [.c (.v (.bool false))])) Q):FL call B (⟨some d,none,.nxtS x⟩::l) fs Q:=fun st r=>by
 have hlt:Nat.blt i (bs s).size=false:=by rw [bs_size];exact blt_f hi
 refine w_of (i_e rfl rfl (v:=.tup [.c (.v (.bool false))]) (st':=st) ?_) (hw _ (r.put d _))
 simp only [stepE,r.ev,hx]
 rw [show st.mem.get b=some (.sit (bs s) i) from r.hold.h _ hm]
 simp only [hlt]
 rfl
theorem fl_nxtC {x:Od} {b i:Nat} {s:List UInt8} {H':List HA} (hx:fs.ev x=.c (.ptr b 0)) (hr:Rep1 fs.H (.blk b (.sit (bs s) i)) (.blk b (.sit (bs s) (i+1))) H') (ha:i<s.length→(s.getD i 0).toNat<128) (h1:i<s.length→FL call B l (fs.res d (.tup [.c (.v (.bool true)),.c (.v (.int .i64 (i:Nat))),.c (.v (.int .i32 ((s.getD i 0).toNat:Nat)))]) fs.z H') Q)
  (h2:s.length≤i→FL call B l (fs.put d (.tup [.c (.v (.bool false))])) Q):FL call B (⟨some d,none,.nxtS x⟩::l) fs Q:=by
 rcases Nat.lt_or_ge i s.length with h | h
 ·exact fl_nxtS hx hr h (ha h) (h1 h)
 ·exact fl_nxtE hx hr.mem h (h2 h)
end
theorem rc256 {fs:Sf} {i b ty:Nat} {f:Nat→Bool} {rs:List RR} {vs:List AV} (hp:fs.e i=.c (.ptr b 0)) (hm:HA.blk b (.cells ty (cB f))∈fs.H) (t:ResL fs rs vs):ResL fs (.c i true 256::rs) (.agg (cB f)::vs):=rc hp hm (by rw [cB_len];omega) (by rw [List.drop_zero,List.take_of_length_le (by rw [cB_len];omega)];rfl) t
open Go.RowKit
open Go.Eng (Od setL setL_def)
def wrongX (size ty tf : Nat) (zs : List Value) : XC := (.seq (.region [⟨some 10, none, .mv (.k (.pointer none))⟩])
 (.seq (.seq (.region [⟨some 13, none, .mv (.t 2)⟩, ⟨some 14, none, .len false (.t 13)⟩, ⟨some 15, none, .mv (.k (.int .i64 0))⟩])
 (.block 0 (.loop (.seq (.region [⟨some 16, none, .bin .lss (.t 15) (.t 14)⟩])
 (.seq (.cond (.t 16) .skip
 (.exit 0))
 (.seq (.block 1 (.seq (.region [⟨some 17, none, .mv (.t 15)⟩, ⟨some 18, none, .iad size (.t 13) (.t 15)⟩, ⟨some 19, none, .load true size (.t 18)⟩, ⟨some 12, none, .alloc ty zs⟩, ⟨some 11, none, .mv (.t 17)⟩, ⟨none, none, .store size (.t 12) (.t 19)⟩])
 (.block 2 (.seq (.region [⟨some 21, none, .mv (.t 11)⟩, ⟨some 22, none, .mv (.t 3)⟩, ⟨some 23, none, .bin .eql (.t 21) (.t 22)⟩, ⟨some 20, none, .mv (.t 23)⟩])
 (.cond (.t 20) (.seq (.region [⟨some 24, none, .mv (.t 0)⟩, ⟨some 25, none, .mv (.t 1)⟩, ⟨some 26, none, .mv (.t 11)⟩, ⟨some 27, none, .build [(.int .u8 0), (.int .i64 0), (.int .i64 0)] [(0, 1, (.t 24)), (1, 1, (.t 25)), (2, 1, (.t 26))]⟩, ⟨some 28, none, .build [(.int .u8 0), (.int .i64 0), (.int .i64 0), (.int .i64 0)] [(0, 3, (.t 27)), (3, 1, (.k (.int .i64 3)))]⟩, ⟨some 29, none, .box tf (.t 28)⟩, ⟨some 10, none, .mv (.t 29)⟩])
 .ret)
 (.seq (.region [⟨some 31, none, .mv (.t 4)⟩, ⟨some 32, none, .load true size (.t 12)⟩, ⟨some 33, none, .callv (.t 31) [(.t 32)]⟩, ⟨some 34, none, .un .not (.t 33)⟩, ⟨some 30, none, .mv (.t 34)⟩])
 (.cond (.t 30) (.seq (.region [⟨some 35, none, .mv (.t 0)⟩, ⟨some 36, none, .mv (.t 1)⟩, ⟨some 37, none, .mv (.t 11)⟩, ⟨some 38, none, .build [(.int .u8 0), (.int .i64 0), (.int .i64 0)] [(0, 1, (.t 35)), (1, 1, (.t 36)), (2, 1, (.t 37))]⟩, ⟨some 39, none, .build [(.int .u8 0), (.int .i64 0), (.int .i64 0), (.int .i64 0)] [(0, 3, (.t 38)), (3, 1, (.k (.int .i64 2)))]⟩, ⟨some 40, none, .box tf (.t 39)⟩, ⟨some 10, none, .mv (.t 40)⟩])
 .ret)
 .skip)))))))
 (.region [⟨some 41,none,.bin .add (.t 15) (.k (.int .i64 1))⟩,⟨some 15,none,.mv (.t 41)⟩])))))))
 (.seq (.region [⟨some 10, none, .mv (.k (.pointer none))⟩])
 .ret)))
def wrong1 (tf : Nat) : XC := (.seq (.region [⟨some 10, none, .mv (.k (.pointer none))⟩])
 (.seq (.seq (.region [⟨some 13, none, .mv (.t 2)⟩, ⟨some 14, none, .len false (.t 13)⟩, ⟨some 15, none, .mv (.k (.int .i64 0))⟩])
 (.block 0 (.loop (.seq (.region [⟨some 16, none, .bin .lss (.t 15) (.t 14)⟩])
 (.seq (.cond (.t 16) .skip
 (.exit 0))
 (.seq (.block 1 (.seq (.region [⟨some 17, none, .mv (.t 15)⟩, ⟨some 18, none, .iad 1 (.t 13) (.t 15)⟩, ⟨some 19, none, .load false 1 (.t 18)⟩, ⟨some 11, none, .mv (.t 17)⟩, ⟨some 12, none, .mv (.t 19)⟩])
 (.block 2 (.seq (.region [⟨some 21, none, .mv (.t 11)⟩, ⟨some 22, none, .mv (.t 3)⟩, ⟨some 23, none, .bin .eql (.t 21) (.t 22)⟩, ⟨some 20, none, .mv (.t 23)⟩])
 (.cond (.t 20) (.seq (.region [⟨some 24, none, .mv (.t 0)⟩, ⟨some 25, none, .mv (.t 1)⟩, ⟨some 26, none, .mv (.t 11)⟩, ⟨some 27, none, .build [(.int .u8 0), (.int .i64 0), (.int .i64 0)] [(0, 1, (.t 24)), (1, 1, (.t 25)), (2, 1, (.t 26))]⟩, ⟨some 28, none, .build [(.int .u8 0), (.int .i64 0), (.int .i64 0), (.int .i64 0)] [(0, 3, (.t 27)), (3, 1, (.k (.int .i64 3)))]⟩, ⟨some 29, none, .box tf (.t 28)⟩, ⟨some 10, none, .mv (.t 29)⟩])
 .ret)
 (.seq (.region [⟨some 31, none, .mv (.t 4)⟩, ⟨some 32, none, .mv (.t 12)⟩, ⟨some 33, none, .callv (.t 31) [(.t 32)]⟩, ⟨some 34, none, .un .not (.t 33)⟩, ⟨some 30, none, .mv (.t 34)⟩])
 (.cond (.t 30) (.seq (.region [⟨some 35, none, .mv (.t 0)⟩, ⟨some 36, none, .mv (.t 1)⟩, ⟨some 37, none, .mv (.t 11)⟩, ⟨some 38, none, .build [(.int .u8 0), (.int .i64 0), (.int .i64 0)] [(0, 1, (.t 35)), (1, 1, (.t 36)), (2, 1, (.t 37))]⟩, ⟨some 39, none, .build [(.int .u8 0), (.int .i64 0), (.int .i64 0), (.int .i64 0)] [(0, 3, (.t 38)), (3, 1, (.k (.int .i64 2)))]⟩, ⟨some 40, none, .box tf (.t 39)⟩, ⟨some 10, none, .mv (.t 40)⟩])
 .ret)
 .skip)))))))
 (.region [⟨some 41,none,.bin .add (.t 15) (.k (.int .i64 1))⟩,⟨some 15,none,.mv (.t 41)⟩])))))))
 (.seq (.region [⟨some 10, none, .mv (.k (.pointer none))⟩])
 .ret)))
structure Fault where
 part:Int
 year:Int
 at_:Int
 e:Int
def PC (tf:Nat) (z:Mem) (c:C):Option Fault→Prop
 | none=>c=.v (.pointer none)
 | some f=>∃ b,c=.ptr b 0∧z b (.cells tf [.v (.int .u8 f.part),.v (.int .i64 f.year),.v (.int .i64 f.at_),.v (.int .i64 f.e)])
theorem PC.mono {tf:Nat} {z z':Mem} {c:C} {r:Option Fault} (h:PC tf z c r) (hz:zle z z'):PC tf z' c r:=by
 cases r with
 | none=>exact h
 | some f =>
  obtain ⟨b,h1,h2⟩:=h
  exact ⟨b,h1,hz _ _ h2⟩
def wrongAt {α:Type} (most:Nat) (pr:α→Bool):Nat→List α→Option (Nat×Int)
 | _,[]=>none
 | i,a::r=>if i=most then some (i,3) else if pr a=true then wrongAt most pr (i+1) r else some (i,2)
def wrongS {α:Type} (part year:Int) (most:Nat) (pr:α→Bool) (l:List α):Option Fault:=(wrongAt most pr 0 l).map fun q=>⟨part,year,q.1,q.2⟩
section
variable {α:Type} {most:Nat} {pr:α→Bool} {l:List α} {i:Nat}
theorem wrong_next (h:i<l.length) (h1:¬ i=most) (h2:pr l[i]=true):wrongAt most pr i (l.drop i)=wrongAt most pr (i+1) (l.drop (i+1)):=by
 rw [List.drop_eq_getElem_cons h,wrongAt,if_neg h1,if_pos h2]
theorem wrong_most (h:i<l.length) (h1:i=most):wrongAt most pr i (l.drop i)=some (i,3):=by
 rw [List.drop_eq_getElem_cons h,wrongAt,if_pos h1]
theorem wrong_bad (h:i<l.length) (h1:¬ i=most) (h2:pr l[i]=false):wrongAt most pr i (l.drop i)=some (i,2):=by
 rw [List.drop_eq_getElem_cons h,wrongAt,if_neg h1,if_neg (by rw [h2];decide)]
theorem wrong_end (h:l.length≤i):wrongAt most pr i (l.drop i)=none:=by
 rw [List.drop_eq_nil_of_le h,wrongAt]
theorem wrong_pn {tf:Nat} {z:Mem} {c:C} {part year:Int} (h:wrongAt most pr 0 l=none) (hc:c=.v (.pointer none)):PC tf z c (wrongS part year most pr l):=by
 rw [wrongS,h];exact hc
theorem wrong_pc {tf:Nat} {z:Mem} {c:C} {part year e:Int} {q:Nat} (h:wrongAt most pr 0 l=some (q,e)) (hc:∃ b,c=.ptr b 0∧z b (.cells tf [.v (.int .u8 part),.v (.int .i64 year),.v (.int .i64 (q:Nat)),.v (.int .i64 e)])):PC tf z c (wrongS part year most pr l):=by
 rw [wrongS,h];exact hc
end
section
variable {call:Call'} {B:Base} {fs:Sf} {l:List I} {Q:Sf→Prop} {d:Nat}
theorem fl_ldAs {size:Nat} {x:Od} {b p:Nat} {cs:List C} (hx:fs.ev x=.c (.ptr b p)) (ha:At fs.z b p cs) (hs:cs.length=size) (hw:FL call B l (fs.put d (.agg cs)) Q):FL call B (⟨some d,none,.load true size x⟩::l) fs Q:=fl_ldA (off:=0) (v:=.agg cs) hx ha rfl (by omega) (by rw [List.drop_zero,List.take_of_length_le (by omega)];rfl) hw
theorem fl_ldAll {size:Nat} {x:Od} {b ty:Nat} {cs:List C} (hx:fs.ev x=.c (.ptr b 0)) (hm:HA.blk b (.cells ty cs)∈fs.H) (hs:cs.length=size) (hw:FL call B l (fs.put d (.agg cs)) Q):FL call B (⟨some d,none,.load true size x⟩::l) fs Q:=fl_ld (v:=.agg cs) hx hm (by omega) (by rw [List.drop_zero,List.take_of_length_le (by omega)];rfl) hw
theorem fl_stAll {size:Nat} {x y:Od} {b ty:Nat} {cs ds:List C} {H':List HA} (hx:fs.ev x=.c (.ptr b 0)) (hy:fs.ev y=.agg ds) (hs:ds.length=size) (hc:cs.length=size) (hr:Rep1 fs.H (.blk b (.cells ty cs)) (.blk b (.cells ty ds)) H') (hw:FL call B l (fs.heap H') Q):FL call B (⟨none,none,.store size x y⟩::l) fs Q:=by
 have e:setL cs 0 ds=ds:=by rw [setL_def,List.take_zero,List.nil_append,List.drop_eq_nil_of_le (by omega),List.append_nil]
 exact fl_st (ds:=ds) hx hy rfl (by rw [e];exact hr) hs (by omega) hw
end
theorem wrong_fc {T:Tr FE} {hand:Call'} {k0 k f g size ty tf most:Nat} {zs:List Value} {part year:Int} {α:Type} {R:RT α} [RMono R] {z:Mem} {v:AV} {l:List α} {pr:α→Bool} (hT:T.get f=some ⟨42,wrongX size ty tf zs,[.t 10]⟩) (hk:1≤k) (hk0:9223372036854775807<k0) (hx:SZ size R z v l) (hzs:(zs.map fun v=>C.v v).length=size) (hcs:∀ {z:Mem} {cs:List C} {a:α},R z cs a→cs.length=size) (hg:∀ {j:Nat},k=j+1→∀ z' cs a,zle z z'→a∈l→R z' cs a→FC (evF T hand k0 j) g [.agg cs] z' fun v _=>v=.c (.v (.bool (pr a)))):FC (evF T hand k0 k) f [.c (.v (.int .u8 part)),.c (.v (.int .i64 year)),v,.c (.v (.int .i64 (most:Nat))),.c (.fn g [] [])] z fun v' z'=>∃ c,v'=.c c∧PC tf z' c (wrongS part year most pr l):=by
 have hxl:=hx.le
 refine fc_of hT (by omega) (len1 rfl) fun B j hj=>?_
 refine xR ?_
 refine lC rfl ?_
 refine lN ?_
 refine fx_ss ?_
 refine xR ?_
 refine lM rfl ?_
 refine fl_lenS rfl hx ?_
 refine lC rfl ?_
 refine lN ?_
 refine fx_seq (fx_block ?_)
 refine fx_loop (fun n fs=>∃ (i:Nat),LI z [] [(0,.c (.v (.int .u8 part))),(1,.c (.v (.int .i64 year))),(3,.c (.v (.int .i64 ((most:Nat):Int)))),(4,.c (.fn g [] [])),(13,v),(14,.c (.v (.int .i64 ((l.length:Nat):Int)))),(15,.c (.v (.int .i64 ((i:Nat):Int))))] fs∧n=l.length - i∧(i≤l.length)∧(wrongAt most pr 0 l=wrongAt most pr i (l.drop i))) ?_ _ ⟨0,LI.mk [] (zle.refl _) (atc rfl (atc rfl (atc rfl (atc rfl (atc rfl (atc rfl (atc rfl atn))))))),rfl,Nat.zero_le _,rfl⟩ (by omega)
 intro n fs hI
 obtain ⟨i,hL0,hmz0,hi,hw⟩:=hI
 refine hL0.open fun e zl0 hzl0=>?_
 refine xR ?_
 refine lB rfl rfl (b_lss _ _ _) ?_
 refine lN ?_
 refine fx_cseq ?_
 refine xD rfl (fun hc16=>?_) (fun hc16=>?_)
 ·refine fx_kseq ?_
  refine fx_seq (fx_block ?_)
  refine xR ?_
  refine lC rfl ?_
  refine fl_iadS rfl rfl (hx.mono (hzl0)) i rfl _ (List.getElem?_eq_getElem (by omega)) fun b18 p18 cs at18 hR=>?_
  have hsz:=hcs hR
  refine fl_ldAs rfl at18 hsz ?_
  refine fl_alloc fun b12=>?_
  refine lC rfl ?_
  refine fl_stAll rfl rfl hsz hzs rep0 ?_
  refine lN ?_
  refine fx_block ?_
  refine xR ?_
  refine lC rfl ?_
  refine lC rfl ?_
  refine lB rfl rfl (b_eql _ _ _) ?_
  refine lC rfl ?_
  refine lN ?_
  refine xD rfl (fun hc20=>?_) (fun hc20=>?_)
  ·refine xR ?_
   refine lC rfl ?_
   refine lC rfl ?_
   refine lC rfl ?_
   refine fl_bd (cs:=[_,_,_]) rfl ?_
   refine fl_bd (cs:=[_,_,_,_]) rfl ?_
   refine fl_bx rfl fun b29=>?_
   refine fl_frzZ zl0 (p:=[]) rfl rfl rfl (fun _ h=>h) fun zfg29 hzfg29 g29=>?_
   refine lC rfl ?_
   refine lN ?_
   refine xT ?_
   refine sq_r ?_
   refine lq_r ?_
   refine sq_r ?_
   refine rQ (.inl rfl) (rt rfl rn) ?_
   exact ⟨_,rfl,wrong_pc (hw.trans (wrong_most (by omega) (by omega))) ⟨_,rfl,g29⟩⟩
  ·refine xR ?_
   refine lC rfl ?_
   refine fl_ldAll rfl mem0 hsz ?_
   refine fl_callvZ zl0 rfl ((hg hj _ _ _ (hzl0) (List.getElem_mem (show i<l.length by omega)) hR)) rfl rfl fun v33 z33 hz33 hv33=>?_
   subst hv33
   refine fl_un rfl (u_not _) ?_
   refine lC rfl ?_
   refine lN ?_
   refine fx_condB rfl (fun hc30=>?_) (fun hc30=>?_)
   ·refine xR ?_
    refine lC rfl ?_
    refine lC rfl ?_
    refine lC rfl ?_
    refine fl_bd (cs:=[_,_,_]) rfl ?_
    refine fl_bd (cs:=[_,_,_,_]) rfl ?_
    refine fl_bx rfl fun b40=>?_
    refine fl_frzZ z33 (p:=[]) rfl rfl rfl (fun _ h=>h) fun zfg40 hzfg40 g40=>?_
    refine lC rfl ?_
    refine lN ?_
    refine xT ?_
    refine sq_r ?_
    refine lq_r ?_
    refine sq_r ?_
    refine rQ (.inl rfl) (rt rfl rn) ?_
    exact ⟨_,rfl,wrong_pc (hw.trans (wrong_bad (by omega) (by omega) (by simpa using hc30))) ⟨_,rfl,g40⟩⟩
   ·refine fx_skip ?_
    refine sq_n ?_
    refine xG ?_
    refine lB rfl rfl (bI_add (n:=i+1) (by omega) (by omega)) ?_
    refine lC rfl ?_
    refine lN ?_
    exact lq_n (by omega) ⟨i+1,LI.mk [_] (hzl0.trans hz33) (atc rfl (atc rfl (atc rfl (atc rfl (atc rfl (atc rfl (atc rfl atn))))))),rfl,by omega,hw.trans (wrong_next (by omega) (by omega) (by simpa using hc30))⟩
 ·refine fx_eseq ?_
  refine lq_e ?_
  refine sq_n ?_
  refine xR ?_
  refine lC rfl ?_
  refine lN ?_
  refine xT ?_
  refine rQ (.inl rfl) (rt rfl rn) ?_
  exact ⟨_,rfl,wrong_pn (hw.trans (wrong_end (by omega))) rfl⟩
theorem wrong1_fc {T:Tr FE} {hand:Call'} {k0 k f g tf most:Nat} {part year:Int} {α:Type} {R:RT α} [RMono R] {z:Mem} {v:AV} {l:List α} {pr:α→Bool} (hT:T.get f=some ⟨42,wrong1 tf,[.t 10]⟩) (hk:1≤k) (hk0:9223372036854775807<k0) (hx:SZ 1 R z v l) (hcs:∀ {z:Mem} {cs:List C} {a:α},R z cs a→∃ c,cs=[c]) (hg:∀ {j:Nat},k=j+1→∀ z' c a,zle z z'→a∈l→R z' [c] a→FC (evF T hand k0 j) g [.c c] z' fun v _=>v=.c (.v (.bool (pr a)))):FC (evF T hand k0 k) f [.c (.v (.int .u8 part)),.c (.v (.int .i64 year)),v,.c (.v (.int .i64 (most:Nat))),.c (.fn g [] [])] z fun v' z'=>∃ c,v'=.c c∧PC tf z' c (wrongS part year most pr l):=by
 have hxl:=hx.le
 refine fc_of hT (by omega) (len1 rfl) fun B j hj=>?_
 refine xR ?_
 refine lC rfl ?_
 refine lN ?_
 refine fx_ss ?_
 refine xR ?_
 refine lM rfl ?_
 refine fl_lenS rfl hx ?_
 refine lC rfl ?_
 refine lN ?_
 refine fx_seq (fx_block ?_)
 refine fx_loop (fun n fs=>∃ (i:Nat),LI z [] [(0,.c (.v (.int .u8 part))),(1,.c (.v (.int .i64 year))),(3,.c (.v (.int .i64 ((most:Nat):Int)))),(4,.c (.fn g [] [])),(13,v),(14,.c (.v (.int .i64 ((l.length:Nat):Int)))),(15,.c (.v (.int .i64 ((i:Nat):Int))))] fs∧n=l.length - i∧(i≤l.length)∧(wrongAt most pr 0 l=wrongAt most pr i (l.drop i))) ?_ _ ⟨0,LI.mk [] (zle.refl _) (atc rfl (atc rfl (atc rfl (atc rfl (atc rfl (atc rfl (atc rfl atn))))))),rfl,Nat.zero_le _,rfl⟩ (by omega)
 intro n fs hI
 obtain ⟨i,hL0,hmz0,hi,hw⟩:=hI
 refine hL0.open fun e zl0 hzl0=>?_
 refine xR ?_
 refine lB rfl rfl (b_lss _ _ _) ?_
 refine lN ?_
 refine fx_cseq ?_
 refine xD rfl (fun hc16=>?_) (fun hc16=>?_)
 ·refine fx_kseq ?_
  refine fx_seq (fx_block ?_)
  refine xR ?_
  refine lC rfl ?_
  refine fl_iadS rfl rfl (hx.mono (hzl0)) i rfl _ (List.getElem?_eq_getElem (by omega)) fun b18 p18 cs at18 hR=>?_
  obtain ⟨c,hc⟩:=hcs hR
  subst hc
  refine fl_ldA1 rfl at18 ?_
  refine lC rfl ?_
  refine lC rfl ?_
  refine lN ?_
  refine fx_block ?_
  refine xR ?_
  refine lC rfl ?_
  refine lC rfl ?_
  refine lB rfl rfl (b_eql _ _ _) ?_
  refine lC rfl ?_
  refine lN ?_
  refine xD rfl (fun hc20=>?_) (fun hc20=>?_)
  ·refine xR ?_
   refine lC rfl ?_
   refine lC rfl ?_
   refine lC rfl ?_
   refine fl_bd (cs:=[_,_,_]) rfl ?_
   refine fl_bd (cs:=[_,_,_,_]) rfl ?_
   refine fl_bx rfl fun b29=>?_
   refine fl_frzZ zl0 (p:=[]) rfl rfl rfl (fun _ h=>h) fun zfg29 hzfg29 g29=>?_
   refine lC rfl ?_
   refine lN ?_
   refine xT ?_
   refine sq_r ?_
   refine lq_r ?_
   refine sq_r ?_
   refine rQ (.inl rfl) (rt rfl rn) ?_
   exact ⟨_,rfl,wrong_pc (hw.trans (wrong_most (by omega) (by omega))) ⟨_,rfl,g29⟩⟩
  ·refine xR ?_
   refine lC rfl ?_
   refine lC rfl ?_
   refine fl_callvZ zl0 rfl ((hg hj _ _ _ (hzl0) (List.getElem_mem (show i<l.length by omega)) hR)) rfl rfl fun v33 z33 hz33 hv33=>?_
   subst hv33
   refine fl_un rfl (u_not _) ?_
   refine lC rfl ?_
   refine lN ?_
   refine fx_condB rfl (fun hc30=>?_) (fun hc30=>?_)
   ·refine xR ?_
    refine lC rfl ?_
    refine lC rfl ?_
    refine lC rfl ?_
    refine fl_bd (cs:=[_,_,_]) rfl ?_
    refine fl_bd (cs:=[_,_,_,_]) rfl ?_
    refine fl_bx rfl fun b40=>?_
    refine fl_frzZ z33 (p:=[]) rfl rfl rfl (fun _ h=>h) fun zfg40 hzfg40 g40=>?_
    refine lC rfl ?_
    refine lN ?_
    refine xT ?_
    refine sq_r ?_
    refine lq_r ?_
    refine sq_r ?_
    refine rQ (.inl rfl) (rt rfl rn) ?_
    exact ⟨_,rfl,wrong_pc (hw.trans (wrong_bad (by omega) (by omega) (by simpa using hc30))) ⟨_,rfl,g40⟩⟩
   ·refine fx_skip ?_
    refine sq_n ?_
    refine xG ?_
    refine lB rfl rfl (bI_add (n:=i+1) (by omega) (by omega)) ?_
    refine lC rfl ?_
    refine lN ?_
    exact lq_n (by omega) ⟨i+1,LI.mk [] (hzl0.trans hz33) (atc rfl (atc rfl (atc rfl (atc rfl (atc rfl (atc rfl (atc rfl atn))))))),rfl,by omega,hw.trans (wrong_next (by omega) (by omega) (by simpa using hc30))⟩
 ·refine fx_eseq ?_
  refine lq_e ?_
  refine sq_n ?_
  refine xR ?_
  refine lC rfl ?_
  refine lN ?_
  refine xT ?_
  refine rQ (.inl rfl) (rt rfl rn) ?_
  exact ⟨_,rfl,wrong_pn (hw.trans (wrong_end (by omega))) rfl⟩
end Go.CE
