/- Closed calls of the standard library; calls of function values; texts as rows of bytes; the first of a row that breaks a limit. -/
import Derived.Laws.Externs
import Derived.Lib.Bytealg
import Derived.WalkKit
import Derived.Orders
import Derived.Test.YtcnpoojdochapaaGreatDoorRA4
set_option linter.unusedVariables false
set_option linter.unusedSimpArgs false
set_option maxRecDepth 100000
namespace Go.CE
open Go.RowKit
open Go.Eng (callable Od)
def ixb:List UInt8→Nat→Nat→Int
 | [],_,_=>-1
 | b::l,c,i=>match Nat.beq b.toNat c with
  | true=>.ofNat i
  | false=>ixb l c (i+1)
theorem bQr (c:UInt8):∀ (l:List UInt8) (i:Nat),ixb l c.toNat i=if Lib.indexByte l c = -1 then -1 else Lib.indexByte l c+i:=by
 intro l
 induction l with
 | nil=>intro i;simp [ixb,Lib.indexByte]
 | cons b l ih =>
  intro i
  by_cases h:b=c
  ·subst h
   have h0:Lib.indexByte (b::l) b=0:=by simp [Lib.indexByte]
   rw [h0]
   simp [ixb]
  have h1:Nat.beq b.toNat c.toNat=false:=by
   cases hh:Nat.beq b.toNat c.toNat with
   | false=>rfl
   | true=>exact absurd (UInt8.toNat_inj.1 (Nat.eq_of_beq_eq_true hh)) h
  have h0:Lib.indexByte (b::l) c=if Lib.indexByte l c = -1 then -1 else Lib.indexByte l c+1:=by simp [Lib.indexByte,h]
  have:=Lib.indexByte_ge l c
  simp only [ixb,h1,ih]
  rw [h0]
  by_cases h3:Lib.indexByte l c = -1
  ·simp only [h3,if_true]
  simp only [h3,if_false]
  rw [if_neg (by omega)]
  push_cast
  omega
def hIx (f0:Nat):jO:=fun f args mem nx=>match Nat.beq f f0 with
 | true=>match args with
  | [.c (.v (.string s)),.c (.v (.int .u8 c))]=>some (.c (.v (.int .i64 (ixb s.data.toList (Nat.mod c.toNat 256) 0))),mem,nx)
  | _=>none
 | false=>none
theorem bK1 {P : Program} {f0 : Nat} {fn : Func} (hf : P.funcs[f0]? = some fn) (hname : (fn.name == "runtime.NumGoroutine") = false) (hb : fn.body.isNone = true) (hn : Extern.findNext fn = none) (he : Extern.find fn = some Extern.BytealgIndexByte.indexByte) : Bd P (hIx f0) := by
 intro f args mem nx res mem' nx' h
 simp only [hIx] at h
 split at h
 case h_2 => cases h
 rename_i hff
 have := Nat.eq_of_beq_eq_true hff
 subst this
 split at h
 case h_2 => cases h
 rename_i s c
 injection h with h
 obtain ⟨h1, h2⟩ := Prod.mk.inj h
 subst h1
 obtain ⟨h3, h4⟩ := Prod.mk.inj h2
 subst h3
 subst h4
 refine ⟨Low.refl _ _, fun K w0 ρ w vs hms hfree hl hrep => .inr ⟨.int .i64 (Lib.indexByte s.data.toList c.toNat.toUInt8), ?_, _, ρ, rfl, zO.refl _ _, hms, ?_⟩⟩
 ·have h0 := hrep 0 _ rfl
  have h1 := hrep 1 _ rfl
  have e0 : vs.getD 0 undef = .string s := h0.valInv rfl
  have e1 : vs.getD 1 undef = .int .u8 c := h1.valInv rfl
  have hsz : vs.size = 2 := hl
  have hvs : vs = #[.string s, .int .u8 c] := by
   apply Array.ext
   ·exact hsz
   intro i h1 h2
   have : i = 0 ∨ i = 1 := by omega
   rcases this with rfl | rfl
   ·simpa [Array.getD_eq_getD_getElem?, hsz] using e0
   simpa [Array.getD_eq_getD_getElem?, hsz] using e1
  rw [hvs, run_callFunc_extern hf hname hb hn he, Lib.run_indexByteString]
  rfl
 have : ixb s.data.toList (Nat.mod c.toNat 256) 0 = Lib.indexByte s.data.toList c.toNat.toUInt8 := by
  have e : Nat.mod c.toNat 256 = c.toNat.toUInt8.toNat := by simp [Nat.toUInt8, UInt8.ofNat]; rfl
  rw [e, bQr]
  split
  ·rename_i hh; exact hh.symm
  simp
 rw [this]
 exact .c _ _ (.v _ rfl)
theorem bPp {T:Tr FE} {g ty k0 k f0:Nat} {s:ByteArray} {c:Int} (hT:T.get f0=none) (hg:Nat.beq f0 g=false) (hk:1≤k) {z:dE}:FC (evF T (aHc g ty (hIx f0)) k0 k) f0 [.c (.v (.string s)),.c (.v (.int .u8 c))] z fun v _=>v=.c (.v (.int .i64 (ixb s.data.toList (Nat.mod c.toNat 256) 0))):=fun mem nx hh=>by
 obtain ⟨j,rfl⟩:∃ j,k=j+1:=⟨k - 1,by omega⟩
 refine ⟨_,mem,nx,z,[],?_,Nat.le_refl _,fun _ _ _=>rfl,hh,zle.refl _,fun b k hb=>.inl hb,fun b hb=>by simp [yI] at hb,rfl,rfl⟩
 rw [evF,hT]
 show aHc g ty (hIx f0) f0 _ mem nx=_
 unfold aHc
 rw [hg]
 simp only
 unfold hIx
 rw [Nat.beq_refl]
theorem bLv {l:List UInt8} {c:Nat} {i:Nat}:0≤ixb l c i↔∃ b,b∈l∧b.toNat=c:=by
 induction l generalizing i with
 | nil=>simp [ixb]
 | cons b l ih =>
  simp only [ixb]
  cases h:Nat.beq b.toNat c with
  | true =>
   simp only
   exact ⟨fun _=>⟨b,by simp,Nat.eq_of_beq_eq_true h⟩,fun _=>Int.natCast_nonneg i⟩
  | false =>
   simp only
   rw [ih]
   have hb:b.toNat≠c:=fun e=>by rw [e,Nat.beq_refl] at h;cases h
   constructor
   ·rintro ⟨x,hx,hc⟩;exact ⟨x,by simp [hx],hc⟩
   rintro ⟨x,hx,hc⟩
   rcases List.mem_cons.1 hx with rfl | hx
   ·exact absurd hc hb
   exact ⟨x,hx,hc⟩
open Go.RowKit
open Go.Eng (callable Od)
theorem bEV {call:jO} {B:sY} {an:List Nat} {j:Nat} {l:List CE.D} {D:DS} {Q:Sf→Prop} {i:I} {d f:Nat} {t:Od} {us cs:List (Bool×List C)} {args:List Od} {vs:List AV} {af:List Nat} {Post:AV→dE→Prop} (hi:i.o=.callv t args) (hd:i.d=some d) (hg:GK D.fs i) (hbits:Nat.beq (an.getD j 0 ||| D.last) (an.getD j 0)=true) (hpj:(D.pj.all fun q=>(an.getD j 0).testBit q)=true)
    (ht:D.fs.ev t=.c (.fn f us cs)) (ha:AV.cs us++(args.map D.fs.ev++AV.cs cs)=vs) (hc:FC call f vs D.fs.z Post) (hw:∀ v z',zle D.fs.z z'→Post v z'→FD call B an (j+1) l ⟨⟨aE6 D.fs.e d v,z',D.fs.H⟩,D.T,j+1,an.getD j 0 ||| (1 <<< j),[],D.lj⟩ Q):FD call B an j (⟨i,af⟩::l) D Q:=fun a r=>by
  have hgo:=aNq (d:=⟨i,af⟩) r.rf hg
  obtain ⟨m,ml,hm⟩:=r.hd
  have hhd:=r.seqget hm
  obtain ⟨v, mem', nx', z', H', h1, h2, h3, h4, h5, h6, h7, h8, h9⟩ := hc (ovl m a.pend) a.nx (by
    have:=r.rf.hold
    simp only [Acc.seq,hhd] at this
    exact aFt.left (Hs:=[]) (Hr:=D.fs.H) this)
  subst h8
  have hev:∀ m n,AV.cs us++(args.map (⟨nE a.env (CE.D.sl ⟨i,af⟩),m,n⟩:AS).ev++AV.cs cs)=vs:=fun m n=>by
    rw [← ha]
    congr 2
    refine List.map_congr_left fun x hx=>?_
    rw [aAI (m':=a.seq.mem) (n':=a.seq.nx) fun q hq=>Qo (d:=⟨i,af⟩) (by rw [hi];simp only [jM.sl,Od.sls,List.mem_append,List.mem_flatMap];exact .inr ⟨x,hx,hq⟩)]
    exact r.rf.ev x
  have htv:∀ m n,(⟨nE a.env (CE.D.sl ⟨i,af⟩),m,n⟩:AS).ev t=.c (.fn f us cs):=fun m n=>by
    rw [← ht,aAI (m':=a.seq.mem) (n':=a.seq.nx) fun q hq=>Qo (d:=⟨i,af⟩) (by rw [hi];simp only [jM.sl,Od.sls,List.mem_append];exact .inl hq)]
    exact r.rf.ev t
  have hp:=aEJ (bits:=an.getD j 0) (l:=a.pend) (by rw [r.pj];exact hpj)
  have hT:∀ b k,D.T b k→mem'.get b=some k:=fun b k hb=>by
    rw [h3 b (r.tlt b k hb) (by simp [yI])]
    exact aFs (fun p hp' e=>r.np p hp' k (e ▸ hb)) (r.t0 (D.tag,m) (by rw [hm];exact List.mem_cons_self ..) b k hb)
  obtain ⟨fl',hf1,hf2⟩:=aBH (bits:=an.getD j 0) (m:=mem') (l:=a.fl) fun p hp=>(r.fl p hp).2 mem' hT
  refine aHh (a':=⟨aCi a.env i.d v,nx',(j+1,mem')::a.mems,a.pend.filter (fun p=>!(an.getD j 0).testBit p.1),fl',(an.getD j 0) ||| (1 <<< j)⟩) ?_ ?_
  · simp only [Y0]
    rw [show gOk i ⟨nE a.env (CE.D.sl ⟨i,af⟩),.nil,a.nx⟩=some true from hgo]
    simp only [hi,cP,aA5,eE,hm,hp.1,evV,callee,htv,hev,h1,r.last,hbits,hf1]
  · rw [hd,hp.2]
    refine hw v z' h5 h9 _ ⟨?_,⟨mem',a.mems,rfl⟩,fun p hp' b k hb=>?_,fun b k hb=>Nat.lt_of_lt_of_le (r.tlt b k hb) h2,fun p hp=>by simp at hp,fun p hp=>r.fl p (hf2 p hp),rfl,rfl,fun p hp=>by simp at hp⟩
    · have := r.rf.callR (Hs := []) (Hr := D.fs.H) rfl (mem' := mem') (nx' := nx') (z' := z') (H' := []) h2 (fun b hb hb2 => by
        rw [h3 b hb hb2];simp only [Acc.seq,hhd]) h4 h5 h6 h7
      exact this.put d v
    · rcases List.mem_cons.1 hp' with rfl | hp'
      · exact hT b k hb
      · exact r.t0 p hp' b k hb
theorem aB3 {call:jO} {B:sY} {an:List Nat} {j:Nat} {l:List CE.D} {fs:Sf} {T:dE} {tag last:Nat} {pj lj:List Nat} {Q:Sf→Prop} (z0:dE) {i:I} {d f:Nat} {t:Od} {us cs:List (Bool×List C)} {args:List Od} {vs:List AV} {af:List Nat} {Post:AV→dE→Prop} (ht:fs.ev t=.c (.fn f us cs)) (hc:FC call f vs z0 Post) (hi:i.o=.callv t args) (hd:i.d=some d) (hg:GK fs i) (hbits:Nat.beq (an.getD j 0 ||| last) (an.getD j 0)=true) (hpj:(pj.all fun q=>(an.getD j 0).testBit q)=true)
  (ha:AV.cs us++(args.map fs.ev++AV.cs cs)=vs) (hz0:fs.z=z0) (hw:∀ v z',zle z0 z'→Post v z'→FG call B an (j+1) l (fs.res d v z' fs.H) T (j+1) (an.getD j 0 ||| (1 <<< j)) [] lj Q):FG call B an j (⟨i,af⟩::l) fs T tag last pj lj Q:=by
 subst hz0
 exact bEV (D:=⟨fs,T,tag,last,pj,lj⟩) hi hd hg hbits hpj ht ha hc hw
theorem aPe {call:jO} {B:sY} {fs:Sf} {l:List I} {Q:Sf→Prop} {d:Nat} (z0:dE) {t:Od} {f:Nat} {us cs:List (Bool×List C)} {args:List Od} {vs:List AV} {Post:AV→dE→Prop} (ht:fs.ev t=.c (.fn f us cs)) (hc:FC call f vs z0 Post) (ha:AV.cs us++(args.map fs.ev++AV.cs cs)=vs) (hz0:fs.z=z0)
  (hw:∀ v z',zle z0 z'→Post v z'→FL call B l (fs.res d v z' fs.H) Q):FL call B (⟨some d,none,.callv t args⟩::l) fs Q:=by
 subst hz0
 exact bFI ht ha hc hw
open Go.RowKit
open Go.Eng (callable Od need jX jF oH pG V4 bget)
abbrev bs (l:List UInt8):ByteArray:=⟨l.toArray⟩
abbrev sV (l:List UInt8):AV:=.c (.v (.string (bs l)))
theorem aGp (l:List UInt8):(bs l).size=l.length:=by simp [bs,ByteArray.size]
theorem aYy (l:List UInt8) (i:Nat):bget (bs l) i=l.getD i 0:=by simp [bs,bget]
theorem bMB (l:List UInt8) (i j:Nat):bHC (bs l) i j=bs ((l.take j).drop i):=by simp [bs,bHC]
theorem aYW (a b:List UInt8):pR .eql (.string (bs a)) (.string (bs b))=some (.bool (decide (a=b))):=by
 show aYC .eql (bs a) (bs b)=_
 simp only [aYC,Xm]
 by_cases h:a=b<;>simp [bs,h]
theorem bMo (a b:List UInt8):pR .neq (.string (bs a)) (.string (bs b))=some (.bool (!decide (a=b))):=by
 show aYC .neq (bs a) (bs b)=_
 simp only [aYC,Xm]
 by_cases h:a=b<;>simp [bs,h]
def cB (f:Nat→Bool):List C:=(List.range 256).map fun c=>.v (.bool (f c))
theorem Cf (f:Nat→Bool):(cB f).length=256:=by simp [cB]
theorem aTR {f:Nat→Bool} {i:Nat} (h:i<256):(cB f)[i]? = some (.v (.bool (f i))):=by simp [cB,h]
theorem bOw {f:Nat→Bool} {i:Nat} (h:i<256):oH (cB f) i [.v (.bool true)]=cB fun k=>decide (k=i) || f k:=by
  apply List.ext_getElem?
  intro k
  rcases Nat.lt_or_ge k 256 with hk | hk
  · rw [aTR hk,V4]
    rcases Nat.lt_trichotomy k i with h1 | h1 | h1
    · rw [List.append_assoc,List.getElem?_append_left (by rw [List.length_take,Cf];omega),List.getElem?_take,if_pos h1,aTR hk,decide_eq_false (by omega),Bool.false_or]
    · subst h1
      rw [List.append_assoc,List.getElem?_append_right (by rw [List.length_take,Cf];omega),List.length_take,Cf,Nat.min_eq_left (by omega),Nat.sub_self,decide_eq_true rfl,Bool.true_or]
      rfl
    · rw [List.append_assoc, List.getElem?_append_right (by rw [List.length_take, Cf]; omega), List.length_take, Cf, Nat.min_eq_left (by omega), List.getElem?_append_right (by simp; omega), List.getElem?_drop, decide_eq_false (by omega), Bool.false_or]
      rw [show i + [C.v (Value.bool true)].length+(k - i - [C.v (Value.bool true)].length)=k by simp;omega,aTR hk]
  · rw [List.getElem?_eq_none (by rw [pG _ _ _ (by rw [Cf];show i+1≤256;omega),Cf];exact hk),List.getElem?_eq_none (by rw [Cf];exact hk)]
theorem bN9:(List.replicate 256 (Value.bool false)).map (fun v=>C.v v)=cB fun _=>false:=by
 apply List.ext_getElem?
 intro k
 rcases Nat.lt_or_ge k 256 with hk | hk
 ·rw [aTR hk,List.getElem?_map,List.getElem?_replicate,if_pos hk];rfl
 rw [List.getElem?_eq_none (by rw [List.length_map,List.length_replicate];exact hk),List.getElem?_eq_none (by rw [Cf];exact hk)]
theorem bL1 {a b:Nat} (h:a<b):Nat.blt a b=true:=Nat.ble_eq_true_of_le h
theorem bTu {a b:Nat} (h:b≤a):Nat.blt a b=false:=by
 cases e:Nat.blt a b with
 | false=>rfl
 | true=>have:=Nat.le_of_ble_eq_true e;omega
section
variable {call:jO} {B:sY} {fs:Sf} {l:List I} {Q:Sf→Prop} {d:Nat}
theorem aZu {x:Od} {lo hi:Option Od} {s:List UInt8} {i j:Nat} (hx:fs.ev x=sV s) (hlo:aVz fs lo 0 i) (hhi:aVz fs hi s.length j) (hij:i≤j) (hj:j≤s.length) {r:List UInt8} (he:(s.take j).drop i=r) (hw:FL call B l (fs.put d (sV r)) Q):FL call B (⟨some d,none,.slcS x lo hi⟩::l) fs Q:=
  aIw (fun _ => rfl) (fun st rf => by
    have h1:=aOC rf hlo
    have h2:=aOC rf hhi
    rw [← aGp] at h2
    simp only [cP,rf.ev,hx,AV.val?,h1,h2]
    rw [jX ⟨by omega,by omega,by rw [aGp];omega⟩,Int.toNat_natCast,Int.toNat_natCast,bMB,he]
    rfl) hw
theorem Oo {x:Od} {s:List UInt8} (hx:fs.ev x=sV s) (hw:FL call B l (fs.put d (.c (.v (.int .i64 (s.length:Nat))))) Q):FL call B (⟨some d,none,.len true x⟩::l) fs Q:=bAg hx (by rw [aGp];exact hw)
theorem aTS {x i:Od} {s:List UInt8} {kd:IntKind} {z:Int} (hx:fs.ev x=sV s) (hi:fs.ev i=.c (.v (.int kd z))) (j:Nat) (hj:z=(j:Int)) (h:j<s.length) (hw:FL call B l (fs.put d (.c (.v (.int .u8 ((s.getD j 0).toNat:Nat))))) Q):FL call B (⟨some d,none,.ixs x i⟩::l) fs Q:=bII hx hi j hj (by rw [aGp];exact h) (by rw [aYy];exact hw)
theorem bGn {n size:Nat} {x i:Od} {b o:Nat} {kd:IntKind} {z:Int} (hx:fs.ev x=.c (.ptr b o)) (hi:fs.ev i=.c (.v (.int kd z))) (j:Nat) (hj:z=(j:Int)) (h:j<n) (hw:FL call B l (fs.put d (.c (.ptr b (o+j * size)))) Q):FL call B (⟨some d,none,.iaa n size x i⟩::l) fs Q:=
  aIw (fun _ => rfl) (fun st rf => by
    subst hj
    simp only [cP,rf.ev,hx,hi,AV.int?]
    rw [jX ⟨by omega,by omega⟩,Int.toNat_natCast]) hw
theorem bGX {ty:Nat} {zs:List Value} (h:zs=List.replicate 256 (.bool false)) (hw:∀ b,FL call B l (fs.own d (.c (.ptr b 0)) (.blk b (.cells ty (cB fun _=>false)))) Q):FL call B (⟨some d,none,.alloc ty zs⟩::l) fs Q:=mR fun b=>by
 rw [h,bN9]
 exact hw b
theorem bNp {x:Od} {b ty:Nat} {f:Nat→Bool} (hx:fs.ev x=.c (.ptr b 0)) (hm:HA.blk b (.cells ty (cB f))∈fs.H) (hw:FL call B l (fs.put d (.agg (cB f))) Q):FL call B (⟨some d,none,.load true 256 x⟩::l) fs Q:=mK (v:=.agg (cB f)) hx hm (by rw [Cf];omega) (by rw [List.drop_zero,List.take_of_length_le (by rw [Cf];omega)];rfl) hw
theorem bGQ {x y:Od} {b ty:Nat} {f g:Nat→Bool} {H':List HA} (hx:fs.ev x=.c (.ptr b 0)) (hy:fs.ev y=.agg (cB g)) (hr:Hy fs.H (.blk b (.cells ty (cB f))) (.blk b (.cells ty (cB g))) H') (hw:FL call B l (fs.heap H') Q):FL call B (⟨none,none,.store 256 x y⟩::l) fs Q:=by
 have e:oH (cB f) 0 (cB g)=cB g:=by
  rw [V4,List.take_zero,List.nil_append,List.drop_eq_nil_of_le (by rw [Cf,Cf];omega),List.append_nil]
 exact aVa (ds:=cB g) hx hy rfl (by rw [e];exact hr) (Cf g) (by rw [Cf];omega) hw
theorem bQy {x:Od} {b p ty:Nat} {f g:Nat→Bool} {H':List HA} (j:Nat) (hx:fs.ev x=.c (.ptr b p)) (he:(fun k=>decide (k=j) || f k)=g) (hr:Hy fs.H (.blk b (.cells ty (cB f))) (.blk b (.cells ty (cB g))) H') (hj:p=j) (h:j<256) (hw:FL call B l (fs.heap H') Q):FL call B (⟨none,none,.store 1 x (.k (.bool true))⟩::l) fs Q:=by
 subst hj
 subst he
 exact aVa (ds:=[.v (.bool true)]) hx rfl rfl (by rw [bOw h];exact hr) rfl (by rw [Cf];omega) hw
theorem bMm {x:Od} {b p ty:Nat} {f:Nat→Bool} (j:Nat) (hx:fs.ev x=.c (.ptr b p)) (hm:fs.z b (.cells ty (cB f))) (hj:p=j) (h:j<256) (hw:FL call B l (fs.put d (.c (.v (.bool (f j))))) Q):FL call B (⟨some d,none,.load false 1 x⟩::l) fs Q:=by
 subst hj
 refine Z0 (c:=.v (.bool (f p))) hx ⟨_,_,hm,rfl,by rw [Cf];exact h,?_⟩ hw
 apply List.ext_getElem?
 intro k
 cases k with
 | zero=>rw [List.getElem?_take,if_pos (by simp),List.getElem?_drop,Nat.add_zero,aTR h];rfl
 | succ k=>rw [List.getElem?_eq_none (by rw [List.length_take];simp;omega),List.getElem?_eq_none (by simp)]
theorem bKM {x:Od} {s:List UInt8} (hx:fs.ev x=sV s) (hw:∀ b,FL call B l (fs.own d (.c (.ptr b 0)) (.blk b (.sit (bs s) 0))) Q):FL call B (⟨some d,none,.rngS x⟩::l) fs Q:=
 aRH (w:=fun b=>.c (.ptr b 0)) (fun _=>rfl) (fun _=>rfl) (fun st r=>by simp only [eE,r.ev,hx,AV.val?]) hw
theorem bKA {x:Od} {b i:Nat} {s:List UInt8} {H':List HA} (hx:fs.ev x=.c (.ptr b 0)) (hr:Hy fs.H (.blk b (.sit (bs s) i)) (.blk b (.sit (bs s) (i+1))) H') (hi:i<s.length) (ha:(s.getD i 0).toNat<128) (hw:FL call B l (fs.res d (.tup [.c (.v (.bool true)),.c (.v (.int .i64 (i:Nat))),.c (.v (.int .i32 ((s.getD i 0).toNat:Nat)))]) fs.z H') Q):FL call B (⟨some d,none,.nxtS x⟩::l) fs Q:=fun st r=>by
  have hg:=r.hold.h _ hr.mem
  have hlt:Nat.blt i (bs s).size=true:=by rw [aGp];exact bL1 hi
  have hlt2:Nat.blt (bget (bs s) i).toNat 128=true:=by rw [aYy];exact bL1 ha
  refine aAV (i_e rfl rfl (v:=.tup [.c (.v (.bool true)),.c (.v (.int .i64 (i:Nat))),.c (.v (.int .i32 ((s.getD i 0).toNat:Nat)))]) (st':=st.setB b (.sit (bs s) (i+1))) ?_) ?_
  · simp only [eE,r.ev,hx]
    rw [show st.mem.get b=some (.sit (bs s) i) from hg]
    simp only [hlt,hlt2]
    rw [← aYy]
    rfl
  · have := r.rep hr (Nat.le_refl _) (by show (st.setB b (.sit (bs s) (i + 1))).mem.get b = _; rw [aF6, if_pos rfl]) (fun c hc => .inl hc) (by simp [HA.fp]) (fun c _ hc => by show (st.setB b _).mem.get c = _; rw [aF6, if_neg fun e => hc (by simp [HA.fp, e])])
    exact hw _ (this.put d _)
theorem bJx {x:Od} {b i:Nat} {s:List UInt8} (hx:fs.ev x=.c (.ptr b 0)) (hm:HA.blk b (.sit (bs s) i)∈fs.H) (hi:s.length≤i) (hw:FL call B l (fs.put d (.tup [.c (.v (.bool false))])) Q):FL call B (⟨some d,none,.nxtS x⟩::l) fs Q:=fun st r=>by
 have hlt:Nat.blt i (bs s).size=false:=by rw [aGp];exact bTu hi
 refine aAV (i_e rfl rfl (v:=.tup [.c (.v (.bool false))]) (st':=st) ?_) (hw _ (r.put d _))
 simp only [eE,r.ev,hx]
 rw [show st.mem.get b=some (.sit (bs s) i) from r.hold.h _ hm]
 simp only [hlt]
 rfl
theorem bLM {x:Od} {b i:Nat} {s:List UInt8} {H':List HA} (hx:fs.ev x=.c (.ptr b 0)) (hr:Hy fs.H (.blk b (.sit (bs s) i)) (.blk b (.sit (bs s) (i+1))) H') (ha:i<s.length→(s.getD i 0).toNat<128) (h1:i<s.length→FL call B l (fs.res d (.tup [.c (.v (.bool true)),.c (.v (.int .i64 (i:Nat))),.c (.v (.int .i32 ((s.getD i 0).toNat:Nat)))]) fs.z H') Q)
  (h2:s.length≤i→FL call B l (fs.put d (.tup [.c (.v (.bool false))])) Q):FL call B (⟨some d,none,.nxtS x⟩::l) fs Q:=by
 rcases Nat.lt_or_ge i s.length with h | h
 ·exact bKA hx hr h (ha h) (h1 h)
 exact bJx hx hr.mem h (h2 h)
end
theorem bRr {fs:Sf} {i b ty:Nat} {f:Nat→Bool} {rs:List RR} {vs:List AV} (hp:fs.e i=.c (.ptr b 0)) (hm:HA.blk b (.cells ty (cB f))∈fs.H) (t:Xr fs rs vs):Xr fs (.c i true 256::rs) (.agg (cB f)::vs):=rc hp hm (by rw [Cf];omega) (by rw [List.drop_zero,List.take_of_length_le (by rw [Cf];omega)];rfl) t
open Go.RowKit
open Go.Eng (Od oH V4)
def aDv (size ty tf : Nat) (zs : List Value) : XC := (.seq (.region [⟨some 10, none, .mv (.k (.pointer none))⟩])
 (.seq (.seq (.region [⟨some 13, none, .mv (.t 2)⟩, ⟨some 14, none, .len false (.t 13)⟩, ⟨some 15, none, .mv (.k (.int .i64 0))⟩])
 (.block 0 (.loop (.seq (.region [⟨some 16, none, .bin .lss (.t 15) (.t 14)⟩])
 (.seq (.cond (.t 16) .skip
 (.exit 0))
 (.seq (.block 1 (.seq (.region [⟨some 17, none, .mv (.t 15)⟩, ⟨some 18, none, .iad size (.t 13) (.t 15)⟩, ⟨some 19, none, .load true size (.t 18)⟩, ⟨some 12, none, .alloc ty zs⟩, ⟨some 11, none, .mv (.t 17)⟩, ⟨none, none, .store size (.t 12) (.t 19)⟩])
 (.block 2 (.seq (.region [⟨some 21, none, .mv (.t 11)⟩, ⟨some 22, none, .mv (.t 3)⟩, ⟨some 23, none, .bin .eql (.t 21) (.t 22)⟩, ⟨some 20, none, .mv (.t 23)⟩])
 (.cond (.t 20) (.seq (.region [⟨some 24, none, .mv (.t 0)⟩, ⟨some 25, none, .mv (.t 1)⟩, ⟨some 26, none, .mv (.t 11)⟩, ⟨some 27, none, .build [(.int .u8 0), (.int .i64 0), (.int .i64 0)] [(0, 1, (.t 24)), (1, 1, (.t 25)), (2, 1, (.t 26))]⟩, ⟨some 28, none, .build [(.int .u8 0), (.int .i64 0), (.int .i64 0), (.int .i64 0)] [(0, 3, (.t 27)), (3, 1, (.k (.int .i64 3)))]⟩, ⟨some 29, none, .box tf (.t 28)⟩, ⟨some 10, none, .mv (.t 29)⟩])
 .ret)
 (.seq (.region [⟨some 31, none, .mv (.t 4)⟩, ⟨some 32, none, .load true size (.t 12)⟩, ⟨some 33, none, .callv (.t 31) [(.t 32)]⟩, ⟨some 34, none, .un .not (.t 33)⟩, ⟨some 30, none, .mv (.t 34)⟩])
 (.cond (.t 30) (.seq (.region [⟨some 35, none, .mv (.t 0)⟩, ⟨some 36, none, .mv (.t 1)⟩, ⟨some 37, none, .mv (.t 11)⟩, ⟨some 38, none, .build [(.int .u8 0), (.int .i64 0), (.int .i64 0)] [(0, 1, (.t 35)), (1, 1, (.t 36)), (2, 1, (.t 37))]⟩, ⟨some 39, none, .build [(.int .u8 0), (.int .i64 0), (.int .i64 0), (.int .i64 0)] [(0, 3, (.t 38)), (3, 1, (.k (.int .i64 2)))]⟩, ⟨some 40, none, .box tf (.t 39)⟩, ⟨some 10, none, .mv (.t 40)⟩])
 .ret)
 .skip)))))))
 (.region [⟨some 41,none,.bin .add (.t 15) (.k (.int .i64 1))⟩,⟨some 15,none,.mv (.t 41)⟩])))))))
 (.seq (.region [⟨some 10, none, .mv (.k (.pointer none))⟩])
 .ret)))
def aYA (tf : Nat) : XC := (.seq (.region [⟨some 10, none, .mv (.k (.pointer none))⟩])
 (.seq (.seq (.region [⟨some 13, none, .mv (.t 2)⟩, ⟨some 14, none, .len false (.t 13)⟩, ⟨some 15, none, .mv (.k (.int .i64 0))⟩])
 (.block 0 (.loop (.seq (.region [⟨some 16, none, .bin .lss (.t 15) (.t 14)⟩])
 (.seq (.cond (.t 16) .skip
 (.exit 0))
 (.seq (.block 1 (.seq (.region [⟨some 17, none, .mv (.t 15)⟩, ⟨some 18, none, .iad 1 (.t 13) (.t 15)⟩, ⟨some 19, none, .load false 1 (.t 18)⟩, ⟨some 11, none, .mv (.t 17)⟩, ⟨some 12, none, .mv (.t 19)⟩])
 (.block 2 (.seq (.region [⟨some 21, none, .mv (.t 11)⟩, ⟨some 22, none, .mv (.t 3)⟩, ⟨some 23, none, .bin .eql (.t 21) (.t 22)⟩, ⟨some 20, none, .mv (.t 23)⟩])
 (.cond (.t 20) (.seq (.region [⟨some 24, none, .mv (.t 0)⟩, ⟨some 25, none, .mv (.t 1)⟩, ⟨some 26, none, .mv (.t 11)⟩, ⟨some 27, none, .build [(.int .u8 0), (.int .i64 0), (.int .i64 0)] [(0, 1, (.t 24)), (1, 1, (.t 25)), (2, 1, (.t 26))]⟩, ⟨some 28, none, .build [(.int .u8 0), (.int .i64 0), (.int .i64 0), (.int .i64 0)] [(0, 3, (.t 27)), (3, 1, (.k (.int .i64 3)))]⟩, ⟨some 29, none, .box tf (.t 28)⟩, ⟨some 10, none, .mv (.t 29)⟩])
 .ret)
 (.seq (.region [⟨some 31, none, .mv (.t 4)⟩, ⟨some 32, none, .mv (.t 12)⟩, ⟨some 33, none, .callv (.t 31) [(.t 32)]⟩, ⟨some 34, none, .un .not (.t 33)⟩, ⟨some 30, none, .mv (.t 34)⟩])
 (.cond (.t 30) (.seq (.region [⟨some 35, none, .mv (.t 0)⟩, ⟨some 36, none, .mv (.t 1)⟩, ⟨some 37, none, .mv (.t 11)⟩, ⟨some 38, none, .build [(.int .u8 0), (.int .i64 0), (.int .i64 0)] [(0, 1, (.t 35)), (1, 1, (.t 36)), (2, 1, (.t 37))]⟩, ⟨some 39, none, .build [(.int .u8 0), (.int .i64 0), (.int .i64 0), (.int .i64 0)] [(0, 3, (.t 38)), (3, 1, (.k (.int .i64 2)))]⟩, ⟨some 40, none, .box tf (.t 39)⟩, ⟨some 10, none, .mv (.t 40)⟩])
 .ret)
 .skip)))))))
 (.region [⟨some 41,none,.bin .add (.t 15) (.k (.int .i64 1))⟩,⟨some 15,none,.mv (.t 41)⟩])))))))
 (.seq (.region [⟨some 10, none, .mv (.k (.pointer none))⟩])
 .ret)))
structure Jz where
 part:Int
 year:Int
 at_:Int
 e:Int
def PC (tf:Nat) (z:dE) (c:C):Option Jz→Prop
 | none=>c=.v (.pointer none)
 | some f=>∃ b,c=.ptr b 0∧z b (.cells tf [.v (.int .u8 f.part),.v (.int .i64 f.year),.v (.int .i64 f.at_),.v (.int .i64 f.e)])
theorem PC.mono {tf:Nat} {z z':dE} {c:C} {r:Option Jz} (h:PC tf z c r) (hz:zle z z'):PC tf z' c r:=by
 cases r with
 | none=>exact h
 | some f =>
  obtain ⟨b,h1,h2⟩:=h
  exact ⟨b,h1,hz _ _ h2⟩
def lR {α:Type} (most:Nat) (pr:α→Bool):Nat→List α→Option (Nat×Int)
 | _,[]=>none
 | i,a::r=>if i=most then some (i,3) else if pr a=true then lR most pr (i+1) r else some (i,2)
def oI {α:Type} (part year:Int) (most:Nat) (pr:α→Bool) (l:List α):Option Jz:=(lR most pr 0 l).map fun q=>⟨part,year,q.1,q.2⟩
section
variable {α:Type} {most:Nat} {pr:α→Bool} {l:List α} {i:Nat}
theorem aH4 (h:i<l.length) (h1:¬ i=most) (h2:pr l[i]=true):lR most pr i (l.drop i)=lR most pr (i+1) (l.drop (i+1)):=by
 rw [List.drop_eq_getElem_cons h,lR,if_neg h1,if_pos h2]
theorem aH5 (h:i<l.length) (h1:i=most):lR most pr i (l.drop i)=some (i,3):=by
 rw [List.drop_eq_getElem_cons h,lR,if_pos h1]
theorem aSx (h:i<l.length) (h1:¬ i=most) (h2:pr l[i]=false):lR most pr i (l.drop i)=some (i,2):=by
 rw [List.drop_eq_getElem_cons h,lR,if_neg h1,if_neg (by rw [h2];decide)]
theorem aOs (h:l.length≤i):lR most pr i (l.drop i)=none:=by
 rw [List.drop_eq_nil_of_le h,lR]
theorem aWH {tf:Nat} {z:dE} {c:C} {part year:Int} (h:lR most pr 0 l=none) (hc:c=.v (.pointer none)):PC tf z c (oI part year most pr l):=by
 rw [oI,h];exact hc
theorem aMp {tf:Nat} {z:dE} {c:C} {part year e:Int} {q:Nat} (h:lR most pr 0 l=some (q,e)) (hc:∃ b,c=.ptr b 0∧z b (.cells tf [.v (.int .u8 part),.v (.int .i64 year),.v (.int .i64 (q:Nat)),.v (.int .i64 e)])):PC tf z c (oI part year most pr l):=by
 rw [oI,h];exact hc
end
section
variable {call:jO} {B:sY} {fs:Sf} {l:List I} {Q:Sf→Prop} {d:Nat}
theorem aVf {size:Nat} {x:Od} {b p:Nat} {cs:List C} (hx:fs.ev x=.c (.ptr b p)) (ha:At fs.z b p cs) (hs:cs.length=size) (hw:FL call B l (fs.put d (.agg cs)) Q):FL call B (⟨some d,none,.load true size x⟩::l) fs Q:=oP (off:=0) (v:=.agg cs) hx ha rfl (by omega) (by rw [List.drop_zero,List.take_of_length_le (by omega)];rfl) hw
theorem Aa {size:Nat} {x:Od} {b ty:Nat} {cs:List C} (hx:fs.ev x=.c (.ptr b 0)) (hm:HA.blk b (.cells ty cs)∈fs.H) (hs:cs.length=size) (hw:FL call B l (fs.put d (.agg cs)) Q):FL call B (⟨some d,none,.load true size x⟩::l) fs Q:=mK (v:=.agg cs) hx hm (by omega) (by rw [List.drop_zero,List.take_of_length_le (by omega)];rfl) hw
theorem pM {size:Nat} {x y:Od} {b ty:Nat} {cs ds:List C} {H':List HA} (hx:fs.ev x=.c (.ptr b 0)) (hy:fs.ev y=.agg ds) (hs:ds.length=size) (hc:cs.length=size) (hr:Hy fs.H (.blk b (.cells ty cs)) (.blk b (.cells ty ds)) H') (hw:FL call B l (fs.heap H') Q):FL call B (⟨none,none,.store size x y⟩::l) fs Q:=by
 have e:oH cs 0 ds=ds:=by rw [V4,List.take_zero,List.nil_append,List.drop_eq_nil_of_le (by omega),List.append_nil]
 exact aVa (ds:=ds) hx hy rfl (by rw [e];exact hr) hs (by omega) hw
end
theorem Po {T:Tr FE} {hand:jO} {k0 k f g size ty tf most:Nat} {zs:List Value} {part year:Int} {α:Type} {R:RT α} [RMono R] {z:dE} {v:AV} {l:List α} {pr:α→Bool} (hT:T.get f=some ⟨42,aDv size ty tf zs,[.t 10]⟩) (hk:1≤k) (hk0:9223372036854775807<k0) (hx:SZ size R z v l) (hzs:(zs.map fun v=>C.v v).length=size) (hcs:∀ {z:dE} {cs:List C} {a:α},R z cs a→cs.length=size) (hg:∀ {j:Nat},k=j+1→∀ z' cs a,zle z z'→a∈l→R z' cs a→FC (evF T hand k0 j) g [.agg cs] z' fun v _=>v=.c (.v (.bool (pr a)))):FC (evF T hand k0 k) f [.c (.v (.int .u8 part)),.c (.v (.int .i64 year)),v,.c (.v (.int .i64 (most:Nat))),.c (.fn g [] [])] z fun v' z'=>∃ c,v'=.c c∧PC tf z' c (oI part year most pr l):=by
 have hxl:=hx.le
 refine cX hT (by omega) (aU rfl) fun B j hj=>?_
 refine xR ?_
 refine lC rfl ?_
 refine lN ?_
 refine aGM ?_
 refine xR ?_
 refine lM rfl ?_
 refine aS rfl hx ?_
 refine lC rfl ?_
 refine lN ?_
 refine aT (aQ ?_)
 refine eA (fun n fs=>∃ (i:Nat),LI z [] [(0,.c (.v (.int .u8 part))),(1,.c (.v (.int .i64 year))),(3,.c (.v (.int .i64 ((most:Nat):Int)))),(4,.c (.fn g [] [])),(13,v),(14,.c (.v (.int .i64 ((l.length:Nat):Int)))),(15,.c (.v (.int .i64 ((i:Nat):Int))))] fs∧n=l.length - i∧(i≤l.length)∧(lR most pr 0 l=lR most pr i (l.drop i))) ?_ _ ⟨0,LI.mk [] (zle.refl _) (jN rfl (jN rfl (jN rfl (jN rfl (jN rfl (jN rfl (jN rfl Et))))))),rfl,Nat.zero_le _,rfl⟩ (by omega)
 intro n fs hI
 obtain ⟨i,hL0,hmz0,hi,hw⟩:=hI
 refine hL0.open fun e zl0 hzl0=>?_
 refine xR ?_
 refine lB rfl rfl (bFA _ _ _) ?_
 refine lN ?_
 refine Uw ?_
 refine xD rfl (fun hc16=>?_) (fun hc16=>?_)
 ·refine dA ?_
  refine aT (aQ ?_)
  refine xR ?_
  refine lC rfl ?_
  refine dH rfl rfl (hx.mono (hzl0)) i rfl _ (List.getElem?_eq_getElem (by omega)) fun b18 p18 cs at18 hR=>?_
  have hsz:=hcs hR
  refine aVf rfl at18 hsz ?_
  refine mR fun b12=>?_
  refine lC rfl ?_
  refine pM rfl rfl hsz hzs iP ?_
  refine lN ?_
  refine aQ ?_
  refine xR ?_
  refine lC rfl ?_
  refine lC rfl ?_
  refine lB rfl rfl (bDx _ _ _) ?_
  refine lC rfl ?_
  refine lN ?_
  refine xD rfl (fun hc20=>?_) (fun hc20=>?_)
  ·refine xR ?_
   refine lC rfl ?_
   refine lC rfl ?_
   refine lC rfl ?_
   refine iU (cs:=[_,_,_]) rfl ?_
   refine iU (cs:=[_,_,_,_]) rfl ?_
   refine iJ rfl fun b29=>?_
   refine uT zl0 (p:=[]) rfl rfl rfl (fun _ h=>h) fun zfg29 hzfg29 g29=>?_
   refine lC rfl ?_
   refine lN ?_
   refine xT ?_
   refine lS ?_
   refine B8 ?_
   refine lS ?_
   refine rQ (.inl rfl) (rt rfl rn) ?_
   exact ⟨_,rfl,aMp (hw.trans (aH5 (by omega) (by omega))) ⟨_,rfl,g29⟩⟩
  refine xR ?_
  refine lC rfl ?_
  refine Aa rfl mem0 hsz ?_
  refine aPe zl0 rfl ((hg hj _ _ _ (hzl0) (List.getElem_mem (show i<l.length by omega)) hR)) rfl rfl fun v33 z33 hz33 hv33=>?_
  subst hv33
  refine aNN rfl (bMg _) ?_
  refine lC rfl ?_
  refine lN ?_
  refine iO rfl (fun hc30=>?_) (fun hc30=>?_)
  ·refine xR ?_
   refine lC rfl ?_
   refine lC rfl ?_
   refine lC rfl ?_
   refine iU (cs:=[_,_,_]) rfl ?_
   refine iU (cs:=[_,_,_,_]) rfl ?_
   refine iJ rfl fun b40=>?_
   refine uT z33 (p:=[]) rfl rfl rfl (fun _ h=>h) fun zfg40 hzfg40 g40=>?_
   refine lC rfl ?_
   refine lN ?_
   refine xT ?_
   refine lS ?_
   refine B8 ?_
   refine lS ?_
   refine rQ (.inl rfl) (rt rfl rn) ?_
   exact ⟨_,rfl,aMp (hw.trans (aSx (by omega) (by omega) (by simpa using hc30))) ⟨_,rfl,g40⟩⟩
  refine iF ?_
  refine dN ?_
  refine xG ?_
  refine lB rfl rfl (eP (n:=i+1) (by omega) (by omega)) ?_
  refine lC rfl ?_
  refine lN ?_
  exact lQ (by omega) ⟨i+1,LI.mk [_] (hzl0.trans hz33) (jN rfl (jN rfl (jN rfl (jN rfl (jN rfl (jN rfl (jN rfl Et))))))),rfl,by omega,hw.trans (aH4 (by omega) (by omega) (by simpa using hc30))⟩
 refine dK ?_
 refine nQ ?_
 refine dN ?_
 refine xR ?_
 refine lC rfl ?_
 refine lN ?_
 refine xT ?_
 refine rQ (.inl rfl) (rt rfl rn) ?_
 exact ⟨_,rfl,aWH (hw.trans (aOs (by omega))) rfl⟩
theorem aU5 {T:Tr FE} {hand:jO} {k0 k f g tf most:Nat} {part year:Int} {α:Type} {R:RT α} [RMono R] {z:dE} {v:AV} {l:List α} {pr:α→Bool} (hT:T.get f=some ⟨42,aYA tf,[.t 10]⟩) (hk:1≤k) (hk0:9223372036854775807<k0) (hx:SZ 1 R z v l) (hcs:∀ {z:dE} {cs:List C} {a:α},R z cs a→∃ c,cs=[c]) (hg:∀ {j:Nat},k=j+1→∀ z' c a,zle z z'→a∈l→R z' [c] a→FC (evF T hand k0 j) g [.c c] z' fun v _=>v=.c (.v (.bool (pr a)))):FC (evF T hand k0 k) f [.c (.v (.int .u8 part)),.c (.v (.int .i64 year)),v,.c (.v (.int .i64 (most:Nat))),.c (.fn g [] [])] z fun v' z'=>∃ c,v'=.c c∧PC tf z' c (oI part year most pr l):=by
 have hxl:=hx.le
 refine cX hT (by omega) (aU rfl) fun B j hj=>?_
 refine xR ?_
 refine lC rfl ?_
 refine lN ?_
 refine aGM ?_
 refine xR ?_
 refine lM rfl ?_
 refine aS rfl hx ?_
 refine lC rfl ?_
 refine lN ?_
 refine aT (aQ ?_)
 refine eA (fun n fs=>∃ (i:Nat),LI z [] [(0,.c (.v (.int .u8 part))),(1,.c (.v (.int .i64 year))),(3,.c (.v (.int .i64 ((most:Nat):Int)))),(4,.c (.fn g [] [])),(13,v),(14,.c (.v (.int .i64 ((l.length:Nat):Int)))),(15,.c (.v (.int .i64 ((i:Nat):Int))))] fs∧n=l.length - i∧(i≤l.length)∧(lR most pr 0 l=lR most pr i (l.drop i))) ?_ _ ⟨0,LI.mk [] (zle.refl _) (jN rfl (jN rfl (jN rfl (jN rfl (jN rfl (jN rfl (jN rfl Et))))))),rfl,Nat.zero_le _,rfl⟩ (by omega)
 intro n fs hI
 obtain ⟨i,hL0,hmz0,hi,hw⟩:=hI
 refine hL0.open fun e zl0 hzl0=>?_
 refine xR ?_
 refine lB rfl rfl (bFA _ _ _) ?_
 refine lN ?_
 refine Uw ?_
 refine xD rfl (fun hc16=>?_) (fun hc16=>?_)
 ·refine dA ?_
  refine aT (aQ ?_)
  refine xR ?_
  refine lC rfl ?_
  refine dH rfl rfl (hx.mono (hzl0)) i rfl _ (List.getElem?_eq_getElem (by omega)) fun b18 p18 cs at18 hR=>?_
  obtain ⟨c,hc⟩:=hcs hR
  subst hc
  refine Z0 rfl at18 ?_
  refine lC rfl ?_
  refine lC rfl ?_
  refine lN ?_
  refine aQ ?_
  refine xR ?_
  refine lC rfl ?_
  refine lC rfl ?_
  refine lB rfl rfl (bDx _ _ _) ?_
  refine lC rfl ?_
  refine lN ?_
  refine xD rfl (fun hc20=>?_) (fun hc20=>?_)
  ·refine xR ?_
   refine lC rfl ?_
   refine lC rfl ?_
   refine lC rfl ?_
   refine iU (cs:=[_,_,_]) rfl ?_
   refine iU (cs:=[_,_,_,_]) rfl ?_
   refine iJ rfl fun b29=>?_
   refine uT zl0 (p:=[]) rfl rfl rfl (fun _ h=>h) fun zfg29 hzfg29 g29=>?_
   refine lC rfl ?_
   refine lN ?_
   refine xT ?_
   refine lS ?_
   refine B8 ?_
   refine lS ?_
   refine rQ (.inl rfl) (rt rfl rn) ?_
   exact ⟨_,rfl,aMp (hw.trans (aH5 (by omega) (by omega))) ⟨_,rfl,g29⟩⟩
  refine xR ?_
  refine lC rfl ?_
  refine lC rfl ?_
  refine aPe zl0 rfl ((hg hj _ _ _ (hzl0) (List.getElem_mem (show i<l.length by omega)) hR)) rfl rfl fun v33 z33 hz33 hv33=>?_
  subst hv33
  refine aNN rfl (bMg _) ?_
  refine lC rfl ?_
  refine lN ?_
  refine iO rfl (fun hc30=>?_) (fun hc30=>?_)
  ·refine xR ?_
   refine lC rfl ?_
   refine lC rfl ?_
   refine lC rfl ?_
   refine iU (cs:=[_,_,_]) rfl ?_
   refine iU (cs:=[_,_,_,_]) rfl ?_
   refine iJ rfl fun b40=>?_
   refine uT z33 (p:=[]) rfl rfl rfl (fun _ h=>h) fun zfg40 hzfg40 g40=>?_
   refine lC rfl ?_
   refine lN ?_
   refine xT ?_
   refine lS ?_
   refine B8 ?_
   refine lS ?_
   refine rQ (.inl rfl) (rt rfl rn) ?_
   exact ⟨_,rfl,aMp (hw.trans (aSx (by omega) (by omega) (by simpa using hc30))) ⟨_,rfl,g40⟩⟩
  refine iF ?_
  refine dN ?_
  refine xG ?_
  refine lB rfl rfl (eP (n:=i+1) (by omega) (by omega)) ?_
  refine lC rfl ?_
  refine lN ?_
  exact lQ (by omega) ⟨i+1,LI.mk [] (hzl0.trans hz33) (jN rfl (jN rfl (jN rfl (jN rfl (jN rfl (jN rfl (jN rfl Et))))))),rfl,by omega,hw.trans (aH4 (by omega) (by omega) (by simpa using hc30))⟩
 refine dK ?_
 refine nQ ?_
 refine dN ?_
 refine xR ?_
 refine lC rfl ?_
 refine lN ?_
 refine xT ?_
 refine rQ (.inl rfl) (rt rfl rn) ?_
 exact ⟨_,rfl,aWH (hw.trans (aOs (by omega))) rfl⟩
open Go.RowKit
open Go.Eng (Od)
def bT6 (op : BinOp) (k k' : IntKind) (a b : Int) : Option AV := if k = k' then (match op with
  | .lss=>some (.c (.v (.bool (decide (a<b)))))
  | .gtr=>some (.c (.v (.bool (decide (b<a)))))
  | .leq=>some (.c (.v (.bool (decide (a≤b)))))
  | .geq=>some (.c (.v (.bool (decide (b≤a)))))
  | .eql=>some (.c (.v (.bool (decide (a=b)))))
  | .neq=>some (.c (.v (.bool (!decide (a=b)))))
  | _=>none) else none
def aVD:Bool→AV→Option AV
 | true,v=>some v
 | false,v=>match v with
  | .c c=>some (.c c)
  | .agg l=>some (.agg l)
  | .tup l=>some (.tup l)
  | .any=>some .any
theorem aRo {lz:Bool} {u v:AV} (h:aVD lz u=some v):u=v:=by
 cases lz<;>cases u<;>(injection h)
def aGU (lz:Bool) (fs:Sf):jM→Option AV
 | .mv x=>aVD lz (fs.ev x)
 | .pick c a b=>match fs.ev c with
  | .c (.v (.bool true))=>aVD lz (fs.ev a)
  | .c (.v (.bool false))=>aVD lz (fs.ev b)
  | _=>none
 | .fad off x=>match fs.ev x with
  | .c (.ptr b o)=>some (.c (.ptr b (o+off)))
  | _=>none
 | .ext x i=>match fs.ev x with
  | .tup vs=>vs[i]?
  | _=>none
 | .un .not x=>match fs.ev x with
  | .c (.v (.bool b))=>some (.c (.v (.bool (!b))))
  | _=>none
 | .bin op x y=>match fs.ev x,fs.ev y with
  | .c (.v (.int k a)),.c (.v (.int k' b))=>bT6 op k k' a b
  | _,_=>none
 | _=>none
theorem bQO {lz:Bool} {fs:Sf} {o:jM} {v:AV} (h:aGU lz fs o=some v):aTF o=true:=by cases o<;>first | rfl | cases h
theorem aY0 {fs:Sf} {st:AS} (r:∀ x,st.ev x=fs.ev x) {lz:Bool} {o:jM} {v:AV} (h:aGU lz fs o=some v):callee st o=none∧cP o st=some v:=by
 unfold aGU at h
 split at h
 ·exact ⟨rfl,by simp only [cP,r,aRo h]⟩
 ·rename_i c a b
  split at h
  ·rename_i hc;exact ⟨rfl,by simp [cP,r,hc,AV.bool?,aRo h]⟩
  ·rename_i hc;exact ⟨rfl,by simp [cP,r,hc,AV.bool?,aRo h]⟩
  cases h
 ·split at h
  ·rename_i hc;injection h with h;subst h;exact ⟨rfl,by simp only [cP,r,hc]⟩
  cases h
 ·split at h
  ·rename_i hc;exact ⟨rfl,by simp only [cP,r,hc,h]⟩
  cases h
 ·split at h
  ·rename_i hc;injection h with h;subst h;exact ⟨rfl,by simp only [cP,r,hc,AV.val?];rfl⟩
  cases h
 ·rename_i op x y
  split at h
  ·rename_i k a k' b h1 h2
   refine ⟨rfl,?_⟩
   unfold bT6 at h
   split at h
   ·rename_i hk
    subst hk
    split at h<;>first | (injection h with h;subst h;simp only [cP,r,h1,h2,AV.val?,bFA,bSF,bSu,bSs,bDx,bLV];rfl) | cases h
   cases h
  cases h
 cases h
def aUG (lz:Bool) (fs:Sf) (i:I):Option Sf:=match i.d with
 | none=>none
 | some d=>match i.g with
  | none=>match aGU lz fs i.o with
   | some v=>some (fs.put d v)
   | none=>none
  | some (s,w)=>match fs.e s,w with
   | .tup [],_=>some (fs.put d (.tup []))
   | .c (.v (.bool true)),false=>some (fs.put d (.tup []))
   | .c (.v (.bool false)),true=>some (fs.put d (.tup []))
   | .c (.v (.bool true)),true=>match aGU lz fs i.o with
    | some v=>some (fs.put d v)
    | none=>none
   | .c (.v (.bool false)),false=>match aGU lz fs i.o with
    | some v=>some (fs.put d v)
    | none=>none
   | _,_=>none
inductive PS (fs:Sf):I→Sf→Prop where
 | on (d:Nat) (g:Option (Nat×Bool)) (o:jM) (v:AV) (lz:Bool) (hg:GK fs ⟨some d,g,o⟩) (h:aGU lz fs o=some v):PS fs ⟨some d,g,o⟩ (fs.put d v)
 | off (d s:Nat) (w:Bool) (o:jM) (hs:fs.e s=.c (.v (.bool (!w)))∨fs.e s=.tup []):PS fs ⟨some d,some (s,w),o⟩ (fs.put d (.tup []))
theorem aTC {lz:Bool} {fs fs':Sf} {i:I} (h:aUG lz fs i=some fs'):PS fs i fs':=by
 obtain ⟨d,g,o⟩:=i
 cases d with
 | none=>cases h
 | some d =>
  cases g with
  | none =>
   simp only [aUG] at h
   cases hv:aGU lz fs o with
   | none=>rw [hv] at h;cases h
   | some v=>rw [hv] at h;injection h with h;subst h;exact .on _ _ _ _ lz trivial hv
  | some p =>
   obtain ⟨s,w⟩:=p
   simp only [aUG] at h
   split at h
   ·rename_i hs;injection h with h;subst h;exact .off _ _ _ _ (.inr hs)
   ·rename_i hs;injection h with h;subst h;exact .off _ _ _ _ (.inl hs)
   ·rename_i hs;injection h with h;subst h;exact .off _ _ _ _ (.inl hs)
   ·rename_i hs
    cases hv:aGU lz fs o with
    | none=>rw [hv] at h;cases h
    | some v=>rw [hv] at h;injection h with h;subst h;exact .on _ _ _ _ lz hs hv
   ·rename_i hs
    cases hv:aGU lz fs o with
    | none=>rw [hv] at h;cases h
    | some v=>rw [hv] at h;injection h with h;subst h;exact .on _ _ _ _ lz hs hv
   cases h
def lzb (k:Nat):Bool:=Nat.beq (k % 2) 1
def bH7:Nat→Nat→List I→Sf→Option (List I×Sf)
 | 0,_,_,_=>none
 | n+1,k,l,fs=>match Nat.beq k 1 with
  | true=>some (l,fs)
  | false=>match l with
   | []=>none
   | i::l=>match aUG (lzb k) fs i with
    | some fs'=>bH7 n (k / 2) l fs'
    | none=>none
def aOE:Nat→Nat→List I→XC→Sf→Option (List I×XC×Sf)
 | 0,_,_,_,_=>none
 | n+1,k,l,c,fs=>match Nat.beq k 1 with
  | true=>some (l,c,fs)
  | false=>match l with
   | i::l=>match aUG (lzb k) fs i with
    | some fs'=>aOE n (k / 2) l c fs'
    | none=>none
   | []=>match c with
    | .seq (.region l) b=>aOE n (k / 2) l b fs
    | .seq (.seq a b) c=>aOE n (k / 2) [] (.seq a (.seq b c)) fs
    | .seq .skip b=>aOE n (k / 2) [] b fs
    | .seq (.cond x a b) r=>aOE n (k / 2) [] (.cond x (.seq a r) (.seq b r)) fs
    | .cond x a b=>match fs.ev x with
     | .c (.v (.bool true))=>aOE n (k / 2) [] a fs
     | .c (.v (.bool false))=>aOE n (k / 2) [] b fs
     | _=>none
    | _=>none
def bFL:Nat→Nat→Nat→List D→Sf→Option (List D×Nat×Sf)
 | 0,_,_,_,_=>none
 | n+1,k,j,l,fs=>match Nat.beq k 1 with
  | true=>some (l,j,fs)
  | false=>match l with
   | []=>none
   | d::l=>match aUG (lzb k) fs d.i with
    | some fs'=>bFL n (k / 2) (j+1) l fs'
    | none=>none
section
variable {call:jO} {B:sY} {fs fs':Sf} {l l':List I} {k:Nat} {c c':XC}
theorem bHu {Q:Sf→Prop} {d:Nat} {o:jM} {v:AV} (h:∀ st,Rf B fs st→callee st o=none∧cP o st=some v) (hw:FL call B l (fs.put d v) Q):FL call B (⟨some d,none,o⟩::l) fs Q:=fun st r=>aAV (i_q (h st r).1 (h st r).2) (hw _ (r.put d v))
theorem bL7 {i:I} {Q:Sf→Prop} (h:PS fs i fs') (hw:FL call B l fs' Q):FL call B (i::l) fs Q:=by
 cases h with
 | on d g o v lz hg h =>
  cases g with
  | none=>exact bHu (fun st r=>aY0 r.ev h) hw
  | some p=>exact lD (want:=p.2) (s:=p.1) hg (bHu (fun st r=>aY0 r.ev h) hw)
 | off d s w o hs =>
  rcases hs with hs | hs
  ·exact lX hs hw
  exact bR6 hs hw
theorem bJE {Q:Sf→Prop}:∀ {n k:Nat} {l:List I} {fs:Sf},bH7 n k l fs=some (l',fs')→FL call B l' fs' Q→FL call B l fs Q:=by
 intro n
 induction n with
 | zero=>intro k l fs h;cases h
 | succ n ih =>
  intro k l fs h hw
  unfold bH7 at h
  split at h
  ·injection h with h
   have h1:=(Prod.mk.inj h).1
   have h2:=(Prod.mk.inj h).2
   subst h1 h2
   exact hw
  split at h
  ·cases h
  rename_i i l
  split at h
  ·rename_i fs1 hs;exact bL7 (aTC hs) (ih h hw)
  cases h
theorem R1 (k:Nat) {Q:Sf→Prop} (h:bH7 500 k l fs=some (l',fs')) (hw:FL call B l' fs' Q):FL call B l fs Q:=bJE h hw
theorem R0 (k:Nat) {Q:Sf→Prop} (h:bH7 500 k l fs=some ([],fs')) (hw:Q fs'):FL call B l fs Q:=R1 k h (lN hw)
theorem aI4 {Q:Exit→Sf→Prop} (h:FL call B [] fs fun fs=>FX call k B c fs Q):FX call k B c fs Q:=fun st r=>by
 obtain ⟨fs',r',q⟩:=h st r
 exact q st r'
theorem bKm {Q:Exit→Sf→Prop}:∀ {n m:Nat} {l:List I} {c:XC} {fs:Sf},aOE n m l c fs=some (l',c',fs')→(FL call B l' fs' fun fs=>FX call k B c' fs Q)→FL call B l fs fun fs=>FX call k B c fs Q:=by
 intro n
 induction n with
 | zero=>intro m l c fs h;cases h
 | succ n ih =>
  intro m l c fs h hw
  unfold aOE at h
  split at h
  ·injection h with h
   have h1:=(Prod.mk.inj h).1
   have h2:=(Prod.mk.inj (Prod.mk.inj h).2).1
   have h3:=(Prod.mk.inj (Prod.mk.inj h).2).2
   subst h1 h2 h3
   exact hw
  split at h
  ·split at h
   ·rename_i fs1 hs;exact bL7 (aTC hs) (ih h hw)
   cases h
  refine lN ?_
  split at h
  ·exact xR (ih h hw)
  ·exact aGM (aI4 (ih h hw))
  ·exact dA (aI4 (ih h hw))
  ·exact Uw (aI4 (ih h hw))
  ·split at h
   ·rename_i hc;exact aWv hc (aI4 (ih h hw))
   ·rename_i hc;exact O3 hc (aI4 (ih h hw))
   cases h
  cases h
theorem R2 (m:Nat) {Q:Exit→Sf→Prop} (h:aOE 500 m l c fs=some (l',c',fs')) (hw:FL call B l' fs' fun fs=>FX call k B c' fs Q):FL call B l fs fun fs=>FX call k B c fs Q:=bKm h hw
theorem R3 (m:Nat) {Q:Exit→Sf→Prop} (h:aOE 500 m l c fs=some ([],c',fs')) (hw:FX call k B c' fs' Q):FL call B l fs fun fs=>FX call k B c fs Q:=R2 m h (lN hw)
theorem R4 (m:Nat) {Q:Exit→Sf→Prop} (h:aOE 500 m [] c fs=some (l',c',fs')) (hw:FL call B l' fs' fun fs=>FX call k B c' fs Q):FX call k B c fs Q:=aI4 (R2 m h hw)
theorem R5 (m:Nat) {Q:Exit→Sf→Prop} (h:aOE 500 m [] c fs=some ([],c',fs')) (hw:FX call k B c' fs' Q):FX call k B c fs Q:=aI4 (R3 m h hw)
end
section
variable {call:jO} {B:sY} {an:List Nat} {j:Nat} {l l':List CE.D} {fs fs':Sf} {T:dE} {tag last:Nat} {pj lj:List Nat} {Q:Sf→Prop}
theorem bRl {i:I} {af:List Nat} (h:PS fs i fs') (hw:FG call B an (j+1) l fs' T tag last pj lj Q):FG call B an j (⟨i,af⟩::l) fs T tag last pj lj Q:=by
 cases h with
 | on d g o v lz hg h=>exact gP rfl (bQO h) hg (bHu (fun st r=>aY0 r.ev h) (lN hw))
 | off d s w o hs=>exact bPn rfl rfl hs hw
theorem bKw:∀ {n k j j':Nat} {l:List CE.D} {fs:Sf},bFL n k j l fs=some (l',j',fs')→FG call B an j' l' fs' T tag last pj lj Q→FG call B an j l fs T tag last pj lj Q:=by
 intro n
 induction n with
 | zero=>intro k j j' l fs h;cases h
 | succ n ih =>
  intro k j j' l fs h hw
  unfold bFL at h
  split at h
  ·injection h with h
   have h1:=(Prod.mk.inj h).1
   have h2:=(Prod.mk.inj (Prod.mk.inj h).2).1
   have h3:=(Prod.mk.inj (Prod.mk.inj h).2).2
   subst h1 h2 h3
   exact hw
  split at h
  ·cases h
  split at h
  ·rename_i fs1 hs;exact bRl (aTC hs) (ih h hw)
  cases h
theorem G1 (k:Nat) {j':Nat} (h:bFL 500 k j l fs=some (l',j',fs')) (hw:FG call B an j' l' fs' T tag last pj lj Q):FG call B an j l fs T tag last pj lj Q:=bKw h hw
theorem G0 (k:Nat) {j':Nat} (h:bFL 500 k j l fs=some ([],j',fs')) (hw:Q fs'):FG call B an j l fs T tag last pj lj Q:=G1 k h (mQ hw)
end
abbrev Cb (b:Bool):C:=.v (.bool b)
abbrev Cs (s:ByteArray):C:=.v (.string s)
abbrev Ci (n:Int):C:=.v (.int .i64 n)
abbrev Cu (n:Int):C:=.v (.int .u8 n)
abbrev Cz:C:=.v (.slice none 0 0)
abbrev Ab (b:Bool):AV:=.c (.v (.bool b))
abbrev Ai (n:Int):AV:=.c (.v (.int .i64 n))
abbrev Az (n:Nat):AV:=.c (.v (.int .i64 (n:Int)))
abbrev Ad (n:Int):AV:=.c (.v (.int .u32 n))
abbrev Ap (b:Nat):AV:=.c (.ptr b 0)
abbrev Aw (b n:Nat):AV:=.c (.sl b 0 n 1)
def gkb (e:Zv):Option (Nat×Bool)→Bool
 | none=>true
 | some (s,w)=>match e s with
  | .c (.v (.bool b))=>match b,w with
   | true,true=>true
   | false,false=>true
   | _,_=>false
  | _=>false
theorem gk {fs:Sf} {d:Option Nat} {g:Option (Nat×Bool)} {o:jM} (h:gkb fs.e g=true):GK fs ⟨d,g,o⟩:=by
 cases g with
 | none=>trivial
 | some p =>
  obtain ⟨s,w⟩:=p
  show fs.e s=.c (.v (.bool w))
  unfold gkb at h
  simp only at h
  split at h
  ·rename_i b hb
   rw [hb]
   cases b<;>cases w<;>first | rfl | cases h
  cases h
theorem ti {z z':dE} {H:List HA} [h:Zl z z']:∀ b k,z b k→tz z' H b k:=fun b k g=>.inl (h.h b k g)
theorem Ht {z:dE} {b:Nat} {k:pA} {H:List HA}:tz z (.blk b k::H) b k:=.inr mem0
theorem Y1 {a x:HA} {l:List HA}:a∈x::a::l:=uD mem0
theorem Y2 {a x y:HA} {l:List HA}:a∈x::y::a::l:=uD Y1
theorem Y3 {a x y w:HA} {l:List HA}:a∈x::y::w::a::l:=uD Y2
theorem Y4 {a x y w v:HA} {l:List HA}:a∈x::y::w::v::a::l:=uD Y3
theorem P1 {x a a':HA} {l:List HA}:Hy (x::a::l) a a' (x::a'::l):=D5 iP
theorem P2 {x y a a':HA} {l:List HA}:Hy (x::y::a::l) a a' (x::y::a'::l):=D5 P1
theorem P3 {x y w a a':HA} {l:List HA}:Hy (x::y::w::a::l) a a' (x::y::w::a'::l):=D5 P2
theorem SZ.m {α:Type} {size:Nat} {R:RT α} [RMono R] {z z':dE} [w:Zl z z'] {v:AV} {l:List α} (h:SZ size R z v l):SZ size R z' v l:=h.mono w.h
theorem CZ.m {α:Type} {size:Nat} {R:RT α} [RMono R] {z z':dE} [w:Zl z z'] {v:C} {l:List α} (h:CZ size R z v l):CZ size R z' v l:=h.mono w.h
theorem bH1 {e:Zv}:∀ {l:List (Nat×AV)},l.map (fun p=>e p.1)=l.map (·.2)→AtL e l
 | [],_=>.nil
 | (_,_)::_,h=>.cons _ _ _ (List.cons.inj h).1 (bH1 (List.cons.inj h).2)
theorem LI.m {z0 z:dE} {H:List HA} {ls:List (Nat×AV)} {e:Zv} [w:Zl z0 z] (Hx:List HA) (h:ls.map (fun p=>e p.1)=ls.map (·.2)):LI z0 H ls ⟨e,z,Hx++H⟩:=.mk Hx w.h (bH1 h)
theorem LZ.m {z0 z:dE} {H:List HA} {ls:List (Nat×AV)} {e:Zv} [w:Zl z0 z] (Hx:List HA) (h:ls.map (fun p=>e p.1)=ls.map (·.2)):LZ z0 z H ls ⟨e,z,Hx++H⟩:=.mk Hx w.h (bH1 h)
theorem kK {n:Nat} (h:n<18446744073709551616):n<18446744073709551616:=h
theorem cQ {a b:Bool} (h:a=b):AV.c (.v (.bool a))=.c (.v (.bool b)):=by rw [h]
theorem rI {fs:Sf} {i:Nat} {v:AV} {Post:AV→dE→Prop} (h:fs.e i=v) (hp:Post v fs.z):bC8 [.t i] (fun v z' H'=>H'=[]∧Post v z') .ret fs:=rQ (.inl rfl) (rt h rn) hp
section
variable {call:jO} {B:sY} {fs:Sf} {l:List I} {Q:Sf→Prop} {d:Nat}
theorem lE (z0:dE) {f:Nat} {args:List Od} {vs:List AV} {x:AV} (hc:FC call f vs z0 fun v _=>v=x) (ha:args.map fs.ev=vs) (hz0:fs.z=z0)
  (hw:∀ z',zle z0 z'→FL call B l (fs.res d x z' fs.H) Q):FL call B (⟨some d,none,.call f args⟩::l) fs Q:=lZ z0 hc ha hz0 fun v z' hz hv=>by subst hv;exact hw z' hz
end
section
variable {call:jO} {B:sY} {an:List Nat} {j:Nat} {l:List CE.D} {fs:Sf} {T:dE} {tag last:Nat} {pj lj:List Nat} {Q:Sf→Prop} {d:Nat} {x:Od} {af:List Nat} {g:Option (Nat×Bool)}
theorem wH {b o ty:Nat} {cs:List C} {c:C} (hg:gkb fs.e g=true) (hx:fs.ev x=.c (.ptr b o)) (hT:T b (.cells ty cs)) (h:cs[o]? = some c) (hw:FG call B an (j+1) l (fs.put d (.c c)) T tag last pj (j::lj) Q):FG call B an j (⟨⟨some d,g,.load false 1 x⟩,af⟩::l) fs T tag last pj lj Q:=bEW (i:=⟨_,_,.load _ _ _⟩) rfl rfl (gk hg) hx hT h sR hw
theorem J3 {b o ty:Nat} {cs:List C} {c0 c1:C} (hg:gkb fs.e g=true) (hx:fs.ev x=.c (.ptr b o)) (hT:T b (.cells ty cs)) (h:(cs.drop o).take 2=[c0,c1]) (hw:FG call B an (j+1) l (fs.put d (.agg [c0,c1])) T tag last pj (j::lj) Q):FG call B an j (⟨⟨some d,g,.load true 2 x⟩,af⟩::l) fs T tag last pj lj Q:=bQX (i:=⟨_,_,.load _ _ _⟩) rfl rfl (gk hg) hx hT h sR hw
theorem Qr {b o ty:Nat} {cs:List C} {c0 c1 c2 c3:C} (hg:gkb fs.e g=true) (hx:fs.ev x=.c (.ptr b o)) (hT:T b (.cells ty cs)) (h:(cs.drop o).take 4=[c0,c1,c2,c3]) (hw:FG call B an (j+1) l (fs.put d (.agg [c0,c1,c2,c3])) T tag last pj (j::lj) Q):FG call B an j (⟨⟨some d,g,.load true 4 x⟩,af⟩::l) fs T tag last pj lj Q:=bM9 (i:=⟨_,_,.load _ _ _⟩) rfl rfl (gk hg) hx hT h sR hw
theorem glP {p:AV} {zz:dE} {k:IntKind} {n:Int} (hg:gkb fs.e g=true) (hx:fs.ev x=p) (hp:PE zz p (.int k n)) (hz:∀ b k,zz b k→T b k) (hw:FG call B an (j+1) l (fs.put d (.c (.v (.int k n)))) T tag last pj (j::lj) Q):FG call B an j (⟨⟨some d,g,.load false 1 x⟩,af⟩::l) fs T tag last pj lj Q:=bNH (i:=⟨_,_,.load _ _ _⟩) rfl rfl (gk hg) hx hp hz hw
theorem glA {agg:Bool} {size b q p:Nat} {cs:List C} {z:dE} {v:AV} {off:Nat} (hg:gkb fs.e g=true) (hx:fs.ev x=.c (.ptr b q)) (ha:At z b p cs) (hz:∀ b k,z b k→T b k) (hq:q=p+off) (hl:off+size≤cs.length) (hv:Xs agg ((cs.drop off).take size)=v)
  (hw:FG call B an (j+1) l (fs.put d v) T tag last pj (j::lj) Q):FG call B an j (⟨⟨some d,g,.load agg size x⟩,af⟩::l) fs T tag last pj lj Q:=rC (i:=⟨_,_,.load _ _ _⟩) rfl rfl (gk hg) hx ha hz hq hl hv sR hw
theorem Vf {agg:Bool} {size:Nat} {b o:Nat} {k:pA} {full:List C} {v:AV} (hg:gkb fs.e g=true) (hx:fs.ev x=.c (.ptr b o)) (hT:T b k) (hk:k.cs=some full) (hl:o+size≤full.length) (hv:Xs agg ((full.drop o).take size)=v)
  (hw:FG call B an (j+1) l (fs.put d v) T tag last pj (j::lj) Q):FG call B an j (⟨⟨some d,g,.load agg size x⟩,af⟩::l) fs T tag last pj lj Q:=aDQ (i:=⟨_,_,.load _ _ _⟩) rfl rfl (gk hg) hx hT hk hl hv sR hw
def gck (an:List Nat) (j last:Nat) (pj:List Nat):Bool:=Nat.beq (an.getD j 0 ||| last) (an.getD j 0) && pj.all fun q=>(an.getD j 0).testBit q
theorem gC (z0:dE) {f:Nat} {args:List Od} {vs:List AV} {Post:AV→dE→Prop} (hc:FC call f vs z0 Post) (hg:gkb fs.e g=true) (hb:gck an j last pj=true) (ha:args.map fs.ev=vs) (hz0:fs.z=z0)
  (hw:∀ v z',zle z0 z'→Post v z'→FG call B an (j+1) l (fs.res d v z' fs.H) T (j+1) (an.getD j 0 ||| (1 <<< j)) [] lj Q):FG call B an j (⟨⟨some d,g,.call f args⟩,af⟩::l) fs T tag last pj lj Q:=by
 obtain ⟨h1,h2⟩:=Bool.and_eq_true_iff.1 hb
 exact gZ z0 (i:=⟨_,_,.call _ _⟩) hc rfl rfl (gk hg) h1 h2 ha hz0 hw
theorem gE (z0:dE) {f:Nat} {args:List Od} {vs:List AV} {x:AV} (hc:FC call f vs z0 fun v _=>v=x) (hg:gkb fs.e g=true) (hb:gck an j last pj=true) (ha:args.map fs.ev=vs) (hz0:fs.z=z0)
  (hw:∀ z',zle z0 z'→FG call B an (j+1) l (fs.res d x z' fs.H) T (j+1) (an.getD j 0 ||| (1 <<< j)) [] lj Q):FG call B an j (⟨⟨some d,g,.call f args⟩,af⟩::l) fs T tag last pj lj Q:=gC z0 hc hg hb ha hz0 fun v z' hz hv=>by subst hv;exact hw z' hz
theorem gA {ty:Nat} {zero:List Value} {cs:List C} (hg:gkb fs.e g=true) (hc:zero.map (fun v=>C.v v)=cs) (hw:∀ b,(∀ k,¬ T b k)→FG call B an (j+1) l (fs.own d (.c (.ptr b 0)) (.blk b (.cells ty cs))) T tag last (j::pj) lj Q):FG call B an j (⟨⟨some d,g,.alloc ty zero⟩,af⟩::l) fs T tag last pj lj Q:=by
 subst hc
 exact qT (k:=.cells ty (zero.map fun v=>.v v)) (w:=fun b=>.c (.ptr b 0)) rfl (gk hg) rfl (fun _=>rfl) (fun st hst=>rfl) hw
def gcl (an:List Nat) (j last:Nat) (pj lj:List Nat):Bool:=gck an j last pj && lj.all fun q=>(an.getD j 0).testBit q
theorem gS {s:Nat} {y:Od} {b o:Nat} (hg:gkb fs.e g=true) (hb:gcl an j last pj lj=true) (hx:fs.ev x=.c (.ptr b o))
  (h:FL call B [⟨none,none,.store s x y⟩] fs fun fs'=>FG call B an (j+1) l fs' (fun _ _=>False) (j+1) (an.getD j 0 ||| (1 <<< j)) [] [] Q):FG call B an j (⟨⟨none,g,.store s x y⟩,af⟩::l) fs T tag last pj lj Q:=by
 obtain ⟨h1,h2⟩:=Bool.and_eq_true_iff.1 hb
 obtain ⟨h3,h4⟩:=Bool.and_eq_true_iff.1 h1
 exact bHt (i:=⟨_,_,.store _ _ _⟩) rfl (gk hg) h3 h4 h2 hx h
theorem gT {s:Nat} {y:Od} {b o:Nat} (hg:gkb fs.e g=true) (hb:gck an j last pj=true) (hx:fs.ev x=.c (.ptr b o)) (hT:∀ k,¬ T b k)
  (h:FL call B [⟨none,none,.store s x y⟩] fs fun fs'=>FG call B an (j+1) l fs' T (j+1) (an.getD j 0 ||| (1 <<< j)) [] lj Q):FG call B an j (⟨⟨none,g,.store s x y⟩,af⟩::l) fs T tag last pj lj Q:=by
 obtain ⟨h3,h4⟩:=Bool.and_eq_true_iff.1 hb
 exact bAx (i:=⟨_,_,.store _ _ _⟩) rfl (gk hg) h3 h4 hx hT h
end
end Go.CE
