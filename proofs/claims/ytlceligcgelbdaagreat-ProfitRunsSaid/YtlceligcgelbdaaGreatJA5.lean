/- Calls of function values; texts as rows of bytes; code out of the program's own text. -/
import Derived.WalkKit
import Derived.Orders
import Derived.KernelRfl
import Derived.Test.YtlceligcgelbdaaGreatJA4
set_option linter.unusedVariables false
set_option linter.unusedSimpArgs false
set_option maxRecDepth 100000
namespace Go.CE
open Go.RowKit
open Go.Eng (callable Od)
theorem fd_callv {call:Call'} {B:Base} {an:List Nat} {j:Nat} {l:List CE.D} {D:DS} {Q:Sf→Prop} {i:I} {d f:Nat} {t:Od} {us cs:List (Bool×List C)} {args:List Od} {vs:List AV} {af:List Nat} {Post:AV→Mem→Prop} (hi:i.o=.callv t args) (hd:i.d=some d) (hg:GK D.fs i) (hbits:Nat.beq (an.getD j 0 ||| D.last) (an.getD j 0)=true) (hpj:(D.pj.all fun q=>(an.getD j 0).testBit q)=true)
    (ht:D.fs.ev t=.c (.fn f us cs)) (ha:AV.cs us++(args.map D.fs.ev++AV.cs cs)=vs) (hc:FC call f vs D.fs.z Post) (hw:∀ v z',zle D.fs.z z'→Post v z'→FD call B an (j+1) l ⟨⟨eput D.fs.e d v,z',D.fs.H⟩,D.T,j+1,an.getD j 0 ||| (1 <<< j),[],D.lj⟩ Q):FD call B an j (⟨i,af⟩::l) D Q:=fun a r=>by
  have hgo:=gk_ok (d:=⟨i,af⟩) r.rf hg
  obtain ⟨m,ml,hm⟩:=r.hd
  have hhd:=r.seqget hm
  obtain ⟨v, mem', nx', z', H', h1, h2, h3, h4, h5, h6, h7, h8, h9⟩ := hc (ovl m a.pend) a.nx (by
    have:=r.rf.hold
    simp only [Acc.seq,hhd] at this
    exact Hold.left (Hs:=[]) (Hr:=D.fs.H) this)
  subst h8
  have hev:∀ m n,AV.cs us++(args.map (⟨restr a.env (CE.D.sl ⟨i,af⟩),m,n⟩:AS).ev++AV.cs cs)=vs:=fun m n=>by
    rw [← ha]
    congr 2
    refine List.map_congr_left fun x hx=>?_
    rw [ev_sub (m':=a.seq.mem) (n':=a.seq.nx) fun q hq=>sl_sub (d:=⟨i,af⟩) (by rw [hi];simp only [Ins.sl,Od.sls,List.mem_append,List.mem_flatMap];exact .inr ⟨x,hx,hq⟩)]
    exact r.rf.ev x
  have htv:∀ m n,(⟨restr a.env (CE.D.sl ⟨i,af⟩),m,n⟩:AS).ev t=.c (.fn f us cs):=fun m n=>by
    rw [← ht,ev_sub (m':=a.seq.mem) (n':=a.seq.nx) fun q hq=>sl_sub (d:=⟨i,af⟩) (by rw [hi];simp only [Ins.sl,Od.sls,List.mem_append];exact .inl hq)]
    exact r.rf.ev t
  have hp:=pend_all (bits:=an.getD j 0) (l:=a.pend) (by rw [r.pj];exact hpj)
  have hT:∀ b k,D.T b k→mem'.get b=some k:=fun b k hb=>by
    rw [h3 b (r.tlt b k hb) (by simp [fps])]
    exact ovl_keep (fun p hp' e=>r.np p hp' k (e ▸ hb)) (r.t0 (D.tag,m) (by rw [hm];exact List.mem_cons_self ..) b k hb)
  obtain ⟨fl',hf1,hf2⟩:=flOk_some (bits:=an.getD j 0) (m:=mem') (l:=a.fl) fun p hp=>(r.fl p hp).2 mem' hT
  refine wd_go (a':=⟨putE a.env i.d v,nx',(j+1,mem')::a.mems,a.pend.filter (fun p=>!(an.getD j 0).testBit p.1),fl',(an.getD j 0) ||| (1 <<< j)⟩) ?_ ?_
  · simp only [dStep]
    rw [show gOk i ⟨restr a.env (CE.D.sl ⟨i,af⟩),.nil,a.nx⟩=some true from hgo]
    simp only [hi,stepQ,isLoad,stepE,hm,hp.1,evV,callee,htv,hev,h1,r.last,hbits,hf1]
  · rw [hd,hp.2]
    refine hw v z' h5 h9 _ ⟨?_,⟨mem',a.mems,rfl⟩,fun p hp' b k hb=>?_,fun b k hb=>Nat.lt_of_lt_of_le (r.tlt b k hb) h2,fun p hp=>by simp at hp,fun p hp=>r.fl p (hf2 p hp),rfl,rfl,fun p hp=>by simp at hp⟩
    · have := r.rf.callR (Hs := []) (Hr := D.fs.H) rfl (mem' := mem') (nx' := nx') (z' := z') (H' := []) h2 (fun b hb hb2 => by
        rw [h3 b hb hb2];simp only [Acc.seq,hhd]) h4 h5 h6 h7
      exact this.put d v
    · rcases List.mem_cons.1 hp' with rfl | hp'
      · exact hT b k hb
      · exact r.t0 p hp' b k hb
theorem fg_callvZ {call:Call'} {B:Base} {an:List Nat} {j:Nat} {l:List CE.D} {fs:Sf} {T:Mem} {tag last:Nat} {pj lj:List Nat} {Q:Sf→Prop} (z0:Mem) {i:I} {d f:Nat} {t:Od} {us cs:List (Bool×List C)} {args:List Od} {vs:List AV} {af:List Nat} {Post:AV→Mem→Prop} (ht:fs.ev t=.c (.fn f us cs)) (hc:FC call f vs z0 Post) (hi:i.o=.callv t args) (hd:i.d=some d) (hg:GK fs i) (hbits:Nat.beq (an.getD j 0 ||| last) (an.getD j 0)=true) (hpj:(pj.all fun q=>(an.getD j 0).testBit q)=true)
  (ha:AV.cs us++(args.map fs.ev++AV.cs cs)=vs) (hz0:fs.z=z0) (hw:∀ v z',zle z0 z'→Post v z'→FG call B an (j+1) l (fs.res d v z' fs.H) T (j+1) (an.getD j 0 ||| (1 <<< j)) [] lj Q):FG call B an j (⟨i,af⟩::l) fs T tag last pj lj Q:=by
 subst hz0
 exact fd_callv (D:=⟨fs,T,tag,last,pj,lj⟩) hi hd hg hbits hpj ht ha hc hw
theorem fl_callvZ {call:Call'} {B:Base} {fs:Sf} {l:List I} {Q:Sf→Prop} {d:Nat} (z0:Mem) {t:Od} {f:Nat} {us cs:List (Bool×List C)} {args:List Od} {vs:List AV} {Post:AV→Mem→Prop} (ht:fs.ev t=.c (.fn f us cs)) (hc:FC call f vs z0 Post) (ha:AV.cs us++(args.map fs.ev++AV.cs cs)=vs) (hz0:fs.z=z0)
  (hw:∀ v z',zle z0 z'→Post v z'→FL call B l (fs.res d v z' fs.H) Q):FL call B (⟨some d,none,.callv t args⟩::l) fs Q:=by
 subst hz0
 exact fl_callv ht ha hc hw
open Go.RowKit
open Go.Eng (callable Od need need_pos need_some setL setL_length setL_def bget)
abbrev bs (l:List UInt8):ByteArray:=⟨l.toArray⟩
abbrev sV (l:List UInt8):AV:=.c (.v (.string (bs l)))
theorem bs_size (l:List UInt8):(bs l).size=l.length:=by simp [bs,ByteArray.size]
section
variable {call:Call'} {B:Base} {fs:Sf} {l:List I} {Q:Sf→Prop} {d:Nat}
theorem fl_lenT {x:Od} {s:List UInt8} (hx:fs.ev x=sV s) (hw:FL call B l (fs.put d (.c (.v (.int .i64 (s.length:Nat))))) Q):FL call B (⟨some d,none,.len true x⟩::l) fs Q:=fl_lens hx (by rw [bs_size];exact hw)
end
open Go.RowKit
open Go.Eng (Od setL setL_def)
section
variable {call:Call'} {B:Base} {fs:Sf} {l:List I} {Q:Sf→Prop} {d:Nat}
theorem fl_ldAll {size:Nat} {x:Od} {b ty:Nat} {cs:List C} (hx:fs.ev x=.c (.ptr b 0)) (hm:HA.blk b (.cells ty cs)∈fs.H) (hs:cs.length=size) (hw:FL call B l (fs.put d (.agg cs)) Q):FL call B (⟨some d,none,.load true size x⟩::l) fs Q:=fl_ld (v:=.agg cs) hx hm (by omega) (by rw [List.drop_zero,List.take_of_length_le (by omega)];rfl) hw
theorem fl_stAll {size:Nat} {x y:Od} {b ty:Nat} {cs ds:List C} {H':List HA} (hx:fs.ev x=.c (.ptr b 0)) (hy:fs.ev y=.agg ds) (hs:ds.length=size) (hc:cs.length=size) (hr:Rep1 fs.H (.blk b (.cells ty cs)) (.blk b (.cells ty ds)) H') (hw:FL call B l (fs.heap H') Q):FL call B (⟨none,none,.store size x y⟩::l) fs Q:=by
 have e:setL cs 0 ds=ds:=by rw [setL_def,List.take_zero,List.nil_append,List.drop_eq_nil_of_le (by omega),List.append_nil]
 exact fl_st (ds:=ds) hx hy rfl (by rw [e];exact hr) hs (by omega) hw
end
open Go.RowKit
open Go.Eng (Od)
def cmpP (op : BinOp) (k k' : IntKind) (a b : Int) : Option AV := if k = k' then (match op with
  | .lss=>some (.c (.v (.bool (decide (a<b)))))
  | .gtr=>some (.c (.v (.bool (decide (b<a)))))
  | .leq=>some (.c (.v (.bool (decide (a≤b)))))
  | .geq=>some (.c (.v (.bool (decide (b≤a)))))
  | .eql=>some (.c (.v (.bool (decide (a=b)))))
  | .neq=>some (.c (.v (.bool (!decide (a=b)))))
  | _=>none) else none
def forceV:Bool→AV→Option AV
 | true,v=>some v
 | false,v=>match v with
  | .c c=>some (.c c)
  | .agg l=>some (.agg l)
  | .tup l=>some (.tup l)
  | .any=>some .any
theorem forceV_eq {lz:Bool} {u v:AV} (h:forceV lz u=some v):u=v:=by
 cases lz<;>cases u<;>(injection h)
def pureV (lz:Bool) (fs:Sf):Ins→Option AV
 | .mv x=>forceV lz (fs.ev x)
 | .pick c a b=>match fs.ev c with
  | .c (.v (.bool true))=>forceV lz (fs.ev a)
  | .c (.v (.bool false))=>forceV lz (fs.ev b)
  | _=>none
 | .fad off x=>match fs.ev x with
  | .c (.ptr b o)=>some (.c (.ptr b (o+off)))
  | _=>none
 | .ext x i=>match fs.ev x with
  | .tup vs=>vs[i]?
  | _=>none
 | .un .not x=>match fs.ev x with
  | .c (.v (.bool b))=>some (.c (.v (.bool (!b))))
  | _=>none
 | .bin op x y=>match fs.ev x,fs.ev y with
  | .c (.v (.int k a)),.c (.v (.int k' b))=>cmpP op k k' a b
  | _,_=>none
 | _=>none
theorem pure_o {lz:Bool} {fs:Sf} {o:Ins} {v:AV} (h:pureV lz fs o=some v):pureO o=true:=by cases o<;>first | rfl | cases h
theorem pure_q {fs:Sf} {st:AS} (r:∀ x,st.ev x=fs.ev x) {lz:Bool} {o:Ins} {v:AV} (h:pureV lz fs o=some v):callee st o=none∧stepQ o st=some v:=by
 unfold pureV at h
 split at h
 ·exact ⟨rfl,by simp only [stepQ,r,forceV_eq h]⟩
 ·rename_i c a b
  split at h
  ·rename_i hc;exact ⟨rfl,by simp [stepQ,r,hc,AV.bool?,forceV_eq h]⟩
  ·rename_i hc;exact ⟨rfl,by simp [stepQ,r,hc,AV.bool?,forceV_eq h]⟩
  cases h
 ·split at h
  ·rename_i hc;injection h with h;subst h;exact ⟨rfl,by simp only [stepQ,r,hc]⟩
  cases h
 ·split at h
  ·rename_i hc;exact ⟨rfl,by simp only [stepQ,r,hc,h]⟩
  cases h
 ·split at h
  ·rename_i hc;injection h with h;subst h;exact ⟨rfl,by simp only [stepQ,r,hc,AV.val?];rfl⟩
  cases h
 ·rename_i op x y
  split at h
  ·rename_i k a k' b h1 h2
   refine ⟨rfl,?_⟩
   unfold cmpP at h
   split at h
   ·rename_i hk
    subst hk
    split at h<;>first | (injection h with h;subst h;simp only [stepQ,r,h1,h2,AV.val?,b_lss,b_gtr,b_leq,b_geq,b_eql,b_neq];rfl) | cases h
   cases h
  cases h
 cases h
def stepP (lz:Bool) (fs:Sf) (i:I):Option Sf:=match i.d with
 | none=>none
 | some d=>match i.g with
  | none=>match pureV lz fs i.o with
   | some v=>some (fs.put d v)
   | none=>none
  | some (s,w)=>match fs.e s,w with
   | .tup [],_=>some (fs.put d (.tup []))
   | .c (.v (.bool true)),false=>some (fs.put d (.tup []))
   | .c (.v (.bool false)),true=>some (fs.put d (.tup []))
   | .c (.v (.bool true)),true=>match pureV lz fs i.o with
    | some v=>some (fs.put d v)
    | none=>none
   | .c (.v (.bool false)),false=>match pureV lz fs i.o with
    | some v=>some (fs.put d v)
    | none=>none
   | _,_=>none
inductive PS (fs:Sf):I→Sf→Prop where
 | on (d:Nat) (g:Option (Nat×Bool)) (o:Ins) (v:AV) (lz:Bool) (hg:GK fs ⟨some d,g,o⟩) (h:pureV lz fs o=some v):PS fs ⟨some d,g,o⟩ (fs.put d v)
 | off (d s:Nat) (w:Bool) (o:Ins) (hs:fs.e s=.c (.v (.bool (!w)))∨fs.e s=.tup []):PS fs ⟨some d,some (s,w),o⟩ (fs.put d (.tup []))
theorem stepP_ps {lz:Bool} {fs fs':Sf} {i:I} (h:stepP lz fs i=some fs'):PS fs i fs':=by
 obtain ⟨d,g,o⟩:=i
 cases d with
 | none=>cases h
 | some d =>
  cases g with
  | none =>
   simp only [stepP] at h
   cases hv:pureV lz fs o with
   | none=>rw [hv] at h;cases h
   | some v=>rw [hv] at h;injection h with h;subst h;exact .on _ _ _ _ lz trivial hv
  | some p =>
   obtain ⟨s,w⟩:=p
   simp only [stepP] at h
   split at h
   ·rename_i hs;injection h with h;subst h;exact .off _ _ _ _ (.inr hs)
   ·rename_i hs;injection h with h;subst h;exact .off _ _ _ _ (.inl hs)
   ·rename_i hs;injection h with h;subst h;exact .off _ _ _ _ (.inl hs)
   ·rename_i hs
    cases hv:pureV lz fs o with
    | none=>rw [hv] at h;cases h
    | some v=>rw [hv] at h;injection h with h;subst h;exact .on _ _ _ _ lz hs hv
   ·rename_i hs
    cases hv:pureV lz fs o with
    | none=>rw [hv] at h;cases h
    | some v=>rw [hv] at h;injection h with h;subst h;exact .on _ _ _ _ lz hs hv
   cases h
def lzb (k:Nat):Bool:=Nat.beq (k % 2) 1
def runL:Nat→Nat→List I→Sf→Option (List I×Sf)
 | 0,_,_,_=>none
 | n+1,k,l,fs=>match Nat.beq k 1 with
  | true=>some (l,fs)
  | false=>match l with
   | []=>none
   | i::l=>match stepP (lzb k) fs i with
    | some fs'=>runL n (k / 2) l fs'
    | none=>none
def runX:Nat→Nat→List I→XC→Sf→Option (List I×XC×Sf)
 | 0,_,_,_,_=>none
 | n+1,k,l,c,fs=>match Nat.beq k 1 with
  | true=>some (l,c,fs)
  | false=>match l with
   | i::l=>match stepP (lzb k) fs i with
    | some fs'=>runX n (k / 2) l c fs'
    | none=>none
   | []=>match c with
    | .seq (.region l) b=>runX n (k / 2) l b fs
    | .seq (.seq a b) c=>runX n (k / 2) [] (.seq a (.seq b c)) fs
    | .seq .skip b=>runX n (k / 2) [] b fs
    | .seq (.cond x a b) r=>runX n (k / 2) [] (.cond x (.seq a r) (.seq b r)) fs
    | .cond x a b=>match fs.ev x with
     | .c (.v (.bool true))=>runX n (k / 2) [] a fs
     | .c (.v (.bool false))=>runX n (k / 2) [] b fs
     | _=>none
    | _=>none
def runG:Nat→Nat→Nat→List D→Sf→Option (List D×Nat×Sf)
 | 0,_,_,_,_=>none
 | n+1,k,j,l,fs=>match Nat.beq k 1 with
  | true=>some (l,j,fs)
  | false=>match l with
   | []=>none
   | d::l=>match stepP (lzb k) fs d.i with
    | some fs'=>runG n (k / 2) (j+1) l fs'
    | none=>none
section
variable {call:Call'} {B:Base} {fs fs':Sf} {l l':List I} {k:Nat} {c c':XC}
theorem fl_qq {Q:Sf→Prop} {d:Nat} {o:Ins} {v:AV} (h:∀ st,Rf B fs st→callee st o=none∧stepQ o st=some v) (hw:FL call B l (fs.put d v) Q):FL call B (⟨some d,none,o⟩::l) fs Q:=fun st r=>w_of (i_q (h st r).1 (h st r).2) (hw _ (r.put d v))
theorem fl_ps {i:I} {Q:Sf→Prop} (h:PS fs i fs') (hw:FL call B l fs' Q):FL call B (i::l) fs Q:=by
 cases h with
 | on d g o v lz hg h =>
  cases g with
  | none=>exact fl_qq (fun st r=>pure_q r.ev h) hw
  | some p=>exact lD (want:=p.2) (s:=p.1) hg (fl_qq (fun st r=>pure_q r.ev h) hw)
 | off d s w o hs =>
  rcases hs with hs | hs
  ·exact lX hs hw
  exact fl_gt hs hw
theorem runL_ok {Q:Sf→Prop}:∀ {n k:Nat} {l:List I} {fs:Sf},runL n k l fs=some (l',fs')→FL call B l' fs' Q→FL call B l fs Q:=by
 intro n
 induction n with
 | zero=>intro k l fs h;cases h
 | succ n ih =>
  intro k l fs h hw
  unfold runL at h
  split at h
  ·injection h with h
   have h1:=(Prod.mk.inj h).1
   have h2:=(Prod.mk.inj h).2
   subst h1 h2
   exact hw
  split at h
  ·cases h
  rename_i i l
  split at h
  ·rename_i fs1 hs;exact fl_ps (stepP_ps hs) (ih h hw)
  cases h
theorem R1 (k:Nat) {Q:Sf→Prop} (h:runL 500 k l fs=some (l',fs')) (hw:FL call B l' fs' Q):FL call B l fs Q:=runL_ok h hw
theorem R0 (k:Nat) {Q:Sf→Prop} (h:runL 500 k l fs=some ([],fs')) (hw:Q fs'):FL call B l fs Q:=R1 k h (lN hw)
theorem nil_fx {Q:Exit→Sf→Prop} (h:FL call B [] fs fun fs=>FX call k B c fs Q):FX call k B c fs Q:=fun st r=>by
 obtain ⟨fs',r',q⟩:=h st r
 exact q st r'
theorem runX_ok {Q:Exit→Sf→Prop}:∀ {n m:Nat} {l:List I} {c:XC} {fs:Sf},runX n m l c fs=some (l',c',fs')→(FL call B l' fs' fun fs=>FX call k B c' fs Q)→FL call B l fs fun fs=>FX call k B c fs Q:=by
 intro n
 induction n with
 | zero=>intro m l c fs h;cases h
 | succ n ih =>
  intro m l c fs h hw
  unfold runX at h
  split at h
  ·injection h with h
   have h1:=(Prod.mk.inj h).1
   have h2:=(Prod.mk.inj (Prod.mk.inj h).2).1
   have h3:=(Prod.mk.inj (Prod.mk.inj h).2).2
   subst h1 h2 h3
   exact hw
  split at h
  ·split at h
   ·rename_i fs1 hs;exact fl_ps (stepP_ps hs) (ih h hw)
   cases h
  refine lN ?_
  split at h
  ·exact xR (ih h hw)
  ·exact fx_ss (nil_fx (ih h hw))
  ·exact fx_kseq (nil_fx (ih h hw))
  ·exact fx_cseq (nil_fx (ih h hw))
  ·split at h
   ·rename_i hc;exact fx_condT hc (nil_fx (ih h hw))
   ·rename_i hc;exact fx_condF hc (nil_fx (ih h hw))
   cases h
  cases h
theorem R2 (m:Nat) {Q:Exit→Sf→Prop} (h:runX 500 m l c fs=some (l',c',fs')) (hw:FL call B l' fs' fun fs=>FX call k B c' fs Q):FL call B l fs fun fs=>FX call k B c fs Q:=runX_ok h hw
theorem R3 (m:Nat) {Q:Exit→Sf→Prop} (h:runX 500 m l c fs=some ([],c',fs')) (hw:FX call k B c' fs' Q):FL call B l fs fun fs=>FX call k B c fs Q:=R2 m h (lN hw)
theorem R4 (m:Nat) {Q:Exit→Sf→Prop} (h:runX 500 m [] c fs=some (l',c',fs')) (hw:FL call B l' fs' fun fs=>FX call k B c' fs Q):FX call k B c fs Q:=nil_fx (R2 m h hw)
theorem R5 (m:Nat) {Q:Exit→Sf→Prop} (h:runX 500 m [] c fs=some ([],c',fs')) (hw:FX call k B c' fs' Q):FX call k B c fs Q:=nil_fx (R3 m h hw)
end
section
variable {call:Call'} {B:Base} {an:List Nat} {j:Nat} {l l':List CE.D} {fs fs':Sf} {T:Mem} {tag last:Nat} {pj lj:List Nat} {Q:Sf→Prop}
theorem fg_ps {i:I} {af:List Nat} (h:PS fs i fs') (hw:FG call B an (j+1) l fs' T tag last pj lj Q):FG call B an j (⟨i,af⟩::l) fs T tag last pj lj Q:=by
 cases h with
 | on d g o v lz hg h=>exact gP rfl (pure_o h) hg (fl_qq (fun st r=>pure_q r.ev h) (lN hw))
 | off d s w o hs=>exact fg_off rfl rfl hs hw
theorem runG_ok:∀ {n k j j':Nat} {l:List CE.D} {fs:Sf},runG n k j l fs=some (l',j',fs')→FG call B an j' l' fs' T tag last pj lj Q→FG call B an j l fs T tag last pj lj Q:=by
 intro n
 induction n with
 | zero=>intro k j j' l fs h;cases h
 | succ n ih =>
  intro k j j' l fs h hw
  unfold runG at h
  split at h
  ·injection h with h
   have h1:=(Prod.mk.inj h).1
   have h2:=(Prod.mk.inj (Prod.mk.inj h).2).1
   have h3:=(Prod.mk.inj (Prod.mk.inj h).2).2
   subst h1 h2 h3
   exact hw
  split at h
  ·cases h
  split at h
  ·rename_i fs1 hs;exact fg_ps (stepP_ps hs) (ih h hw)
  cases h
theorem G1 (k:Nat) {j':Nat} (h:runG 500 k j l fs=some (l',j',fs')) (hw:FG call B an j' l' fs' T tag last pj lj Q):FG call B an j l fs T tag last pj lj Q:=runG_ok h hw
theorem G0 (k:Nat) {j':Nat} (h:runG 500 k j l fs=some ([],j',fs')) (hw:Q fs'):FG call B an j l fs T tag last pj lj Q:=G1 k h (fg_nil hw)
end
abbrev Cb (b:Bool):C:=.v (.bool b)
abbrev Cs (s:ByteArray):C:=.v (.string s)
abbrev Ci (n:Int):C:=.v (.int .i64 n)
abbrev Cz:C:=.v (.slice none 0 0)
abbrev Ab (b:Bool):AV:=.c (.v (.bool b))
abbrev Ai (n:Int):AV:=.c (.v (.int .i64 n))
abbrev Az (n:Nat):AV:=.c (.v (.int .i64 (n:Int)))
abbrev Ad (n:Int):AV:=.c (.v (.int .u32 n))
abbrev Ap (b:Nat):AV:=.c (.ptr b 0)
abbrev Aw (b n:Nat):AV:=.c (.sl b 0 n 1)
def gkb (e:Env):Option (Nat×Bool)→Bool
 | none=>true
 | some (s,w)=>match e s with
  | .c (.v (.bool b))=>match b,w with
   | true,true=>true
   | false,false=>true
   | _,_=>false
  | _=>false
theorem gk {fs:Sf} {d:Option Nat} {g:Option (Nat×Bool)} {o:Ins} (h:gkb fs.e g=true):GK fs ⟨d,g,o⟩:=by
 cases g with
 | none=>trivial
 | some p =>
  obtain ⟨s,w⟩:=p
  show fs.e s=.c (.v (.bool w))
  unfold gkb at h
  simp only at h
  split at h
  ·rename_i b hb
   rw [hb]
   cases b<;>cases w<;>first | rfl | cases h
  cases h
theorem ti {z z':Mem} {H:List HA} [h:Zl z z']:∀ b k,z b k→tz z' H b k:=fun b k g=>.inl (h.h b k g)
theorem Ht {z:Mem} {b:Nat} {k:Blk} {H:List HA}:tz z (.blk b k::H) b k:=.inr mem0
theorem Y1 {a x:HA} {l:List HA}:a∈x::a::l:=memS mem0
theorem Y2 {a x y:HA} {l:List HA}:a∈x::y::a::l:=memS Y1
theorem Y3 {a x y w:HA} {l:List HA}:a∈x::y::w::a::l:=memS Y2
theorem Y4 {a x y w v:HA} {l:List HA}:a∈x::y::w::v::a::l:=memS Y3
theorem P1 {x a a':HA} {l:List HA}:Rep1 (x::a::l) a a' (x::a'::l):=repS rep0
theorem P2 {x y a a':HA} {l:List HA}:Rep1 (x::y::a::l) a a' (x::y::a'::l):=repS P1
theorem P3 {x y w a a':HA} {l:List HA}:Rep1 (x::y::w::a::l) a a' (x::y::w::a'::l):=repS P2
theorem At.m {z z':Mem} [w:Zl z z'] {b p:Nat} {cs:List C} (h:At z b p cs):At z' b p cs:=h.mono w.h
theorem SZ.m {α:Type} {size:Nat} {R:RT α} [RMono R] {z z':Mem} [w:Zl z z'] {v:AV} {l:List α} (h:SZ size R z v l):SZ size R z' v l:=h.mono w.h
theorem CZ.m {α:Type} {size:Nat} {R:RT α} [RMono R] {z z':Mem} [w:Zl z z'] {v:C} {l:List α} (h:CZ size R z v l):CZ size R z' v l:=h.mono w.h
theorem at_of {e:Env}:∀ {l:List (Nat×AV)},l.map (fun p=>e p.1)=l.map (·.2)→AtL e l
 | [],_=>.nil
 | (_,_)::_,h=>.cons _ _ _ (List.cons.inj h).1 (at_of (List.cons.inj h).2)
theorem LI.m {z0 z:Mem} {H:List HA} {ls:List (Nat×AV)} {e:Env} [w:Zl z0 z] (Hx:List HA) (h:ls.map (fun p=>e p.1)=ls.map (·.2)):LI z0 H ls ⟨e,z,Hx++H⟩:=.mk Hx w.h (at_of h)
theorem LZ.m {z0 z:Mem} {H:List HA} {ls:List (Nat×AV)} {e:Env} [w:Zl z0 z] (Hx:List HA) (h:ls.map (fun p=>e p.1)=ls.map (·.2)):LZ z0 z H ls ⟨e,z,Hx++H⟩:=.mk Hx w.h (at_of h)
theorem kK {n:Nat} (h:n<18446744073709551616):n<18446744073709551616:=h
theorem cQ {a b:Bool} (h:a=b):AV.c (.v (.bool a))=.c (.v (.bool b)):=by rw [h]
theorem rI {fs:Sf} {i:Nat} {v:AV} {Post:AV→Mem→Prop} (h:fs.e i=v) (hp:Post v fs.z):RetQ [.t i] (fun v z' H'=>H'=[]∧Post v z') .ret fs:=rQ (.inl rfl) (rt h rn) hp
section
variable {call:Call'} {B:Base} {fs:Sf} {l:List I} {Q:Sf→Prop} {d:Nat}
theorem lE (z0:Mem) {f:Nat} {args:List Od} {vs:List AV} {x:AV} (hc:FC call f vs z0 fun v _=>v=x) (ha:args.map fs.ev=vs) (hz0:fs.z=z0)
  (hw:∀ z',zle z0 z'→FL call B l (fs.res d x z' fs.H) Q):FL call B (⟨some d,none,.call f args⟩::l) fs Q:=lZ z0 hc ha hz0 fun v z' hz hv=>by subst hv;exact hw z' hz
end
section
variable {call:Call'} {B:Base} {an:List Nat} {j:Nat} {l:List CE.D} {fs:Sf} {T:Mem} {tag last:Nat} {pj lj:List Nat} {Q:Sf→Prop} {d:Nat} {x:Od} {af:List Nat} {g:Option (Nat×Bool)}
theorem gl1 {b o ty:Nat} {cs:List C} {c:C} (hg:gkb fs.e g=true) (hx:fs.ev x=.c (.ptr b o)) (hT:T b (.cells ty cs)) (h:cs[o]? = some c) (hw:FG call B an (j+1) l (fs.put d (.c c)) T tag last pj (j::lj) Q):FG call B an j (⟨⟨some d,g,.load false 1 x⟩,af⟩::l) fs T tag last pj lj Q:=fg_ld1 (i:=⟨_,_,.load _ _ _⟩) rfl rfl (gk hg) hx hT h sR hw
theorem gl2 {b o ty:Nat} {cs:List C} {c0 c1:C} (hg:gkb fs.e g=true) (hx:fs.ev x=.c (.ptr b o)) (hT:T b (.cells ty cs)) (h:(cs.drop o).take 2=[c0,c1]) (hw:FG call B an (j+1) l (fs.put d (.agg [c0,c1])) T tag last pj (j::lj) Q):FG call B an j (⟨⟨some d,g,.load true 2 x⟩,af⟩::l) fs T tag last pj lj Q:=fg_ld2 (i:=⟨_,_,.load _ _ _⟩) rfl rfl (gk hg) hx hT h sR hw
theorem gl4 {b o ty:Nat} {cs:List C} {c0 c1 c2 c3:C} (hg:gkb fs.e g=true) (hx:fs.ev x=.c (.ptr b o)) (hT:T b (.cells ty cs)) (h:(cs.drop o).take 4=[c0,c1,c2,c3]) (hw:FG call B an (j+1) l (fs.put d (.agg [c0,c1,c2,c3])) T tag last pj (j::lj) Q):FG call B an j (⟨⟨some d,g,.load true 4 x⟩,af⟩::l) fs T tag last pj lj Q:=fg_ld4 (i:=⟨_,_,.load _ _ _⟩) rfl rfl (gk hg) hx hT h sR hw
theorem glP {p:AV} {zz:Mem} {k:IntKind} {n:Int} (hg:gkb fs.e g=true) (hx:fs.ev x=p) (hp:PE zz p (.int k n)) (hz:∀ b k,zz b k→T b k) (hw:FG call B an (j+1) l (fs.put d (.c (.v (.int k n)))) T tag last pj (j::lj) Q):FG call B an j (⟨⟨some d,g,.load false 1 x⟩,af⟩::l) fs T tag last pj lj Q:=fg_ldP (i:=⟨_,_,.load _ _ _⟩) rfl rfl (gk hg) hx hp hz hw
def gck (an:List Nat) (j last:Nat) (pj:List Nat):Bool:=Nat.beq (an.getD j 0 ||| last) (an.getD j 0) && pj.all fun q=>(an.getD j 0).testBit q
theorem gC (z0:Mem) {f:Nat} {args:List Od} {vs:List AV} {Post:AV→Mem→Prop} (hc:FC call f vs z0 Post) (hg:gkb fs.e g=true) (hb:gck an j last pj=true) (ha:args.map fs.ev=vs) (hz0:fs.z=z0)
  (hw:∀ v z',zle z0 z'→Post v z'→FG call B an (j+1) l (fs.res d v z' fs.H) T (j+1) (an.getD j 0 ||| (1 <<< j)) [] lj Q):FG call B an j (⟨⟨some d,g,.call f args⟩,af⟩::l) fs T tag last pj lj Q:=by
 obtain ⟨h1,h2⟩:=Bool.and_eq_true_iff.1 hb
 exact gZ z0 (i:=⟨_,_,.call _ _⟩) hc rfl rfl (gk hg) h1 h2 ha hz0 hw
theorem gE (z0:Mem) {f:Nat} {args:List Od} {vs:List AV} {x:AV} (hc:FC call f vs z0 fun v _=>v=x) (hg:gkb fs.e g=true) (hb:gck an j last pj=true) (ha:args.map fs.ev=vs) (hz0:fs.z=z0)
  (hw:∀ z',zle z0 z'→FG call B an (j+1) l (fs.res d x z' fs.H) T (j+1) (an.getD j 0 ||| (1 <<< j)) [] lj Q):FG call B an j (⟨⟨some d,g,.call f args⟩,af⟩::l) fs T tag last pj lj Q:=gC z0 hc hg hb ha hz0 fun v z' hz hv=>by subst hv;exact hw z' hz
theorem gA {ty:Nat} {zero:List Value} {cs:List C} (hg:gkb fs.e g=true) (hc:zero.map (fun v=>C.v v)=cs) (hw:∀ b,(∀ k,¬ T b k)→FG call B an (j+1) l (fs.own d (.c (.ptr b 0)) (.blk b (.cells ty cs))) T tag last (j::pj) lj Q):FG call B an j (⟨⟨some d,g,.alloc ty zero⟩,af⟩::l) fs T tag last pj lj Q:=by
 subst hc
 exact fg_own (k:=.cells ty (zero.map fun v=>.v v)) (w:=fun b=>.c (.ptr b 0)) rfl (gk hg) rfl (fun _=>rfl) (fun st hst=>rfl) hw
def gcl (an:List Nat) (j last:Nat) (pj lj:List Nat):Bool:=gck an j last pj && lj.all fun q=>(an.getD j 0).testBit q
theorem gS {s:Nat} {y:Od} {b o:Nat} (hg:gkb fs.e g=true) (hb:gcl an j last pj lj=true) (hx:fs.ev x=.c (.ptr b o))
  (h:FL call B [⟨none,none,.store s x y⟩] fs fun fs'=>FG call B an (j+1) l fs' (fun _ _=>False) (j+1) (an.getD j 0 ||| (1 <<< j)) [] [] Q):FG call B an j (⟨⟨none,g,.store s x y⟩,af⟩::l) fs T tag last pj lj Q:=by
 obtain ⟨h1,h2⟩:=Bool.and_eq_true_iff.1 hb
 obtain ⟨h3,h4⟩:=Bool.and_eq_true_iff.1 h1
 exact fg_store (i:=⟨_,_,.store _ _ _⟩) rfl (gk hg) h3 h4 h2 hx h
theorem gT {s:Nat} {y:Od} {b o:Nat} (hg:gkb fs.e g=true) (hb:gck an j last pj=true) (hx:fs.ev x=.c (.ptr b o)) (hT:∀ k,¬ T b k)
  (h:FL call B [⟨none,none,.store s x y⟩] fs fun fs'=>FG call B an (j+1) l fs' T (j+1) (an.getD j 0 ||| (1 <<< j)) [] lj Q):FG call B an j (⟨⟨none,g,.store s x y⟩,af⟩::l) fs T tag last pj lj Q:=by
 obtain ⟨h3,h4⟩:=Bool.and_eq_true_iff.1 hb
 exact fg_storeT (i:=⟨_,_,.store _ _ _⟩) rfl (gk hg) h3 h4 hx hT h
end
open Go.RowKit
open Go.Eng (Od)
abbrev Rg:=Nat×Nat×XC
def IC.rgN:IC→Nat
 | .seq a b=>a.rgN+b.rgN
 | .cond _ a b=>a.rgN+b.rgN
 | .block _ b=>b.rgN
 | .loop b=>b.rgN
 | .range _ _ _ a b=>1+(a.rgN+b.rgN)
 | _=>0
def XC.noGo (g:Od) (ps:List Nat):XC:=.range g ps (.range g ps .bad .bad 0 0 .bad) .bad 0 0 .bad
def XC.lp:XC→XC
 | .seq (.region [⟨some nx,none,.nxtM (.t it)⟩,⟨some m1,none,.ext (.t n1) 0⟩]) (.seq (.cond (.t m2) .skip (.exit out)) b)=>match Nat.beq nx n1 && Nat.beq m1 m2 with
  | true=>.mrange nx m1 it out b
  | false=>.loop (.seq (.region [⟨some nx,none,.nxtM (.t it)⟩,⟨some m1,none,.ext (.t n1) 0⟩]) (.seq (.cond (.t m2) .skip (.exit out)) b))
 | b=>.loop b
theorem XC.lp_ic (b:XC):b.lp.ic=.loop b.ic:=by
 unfold XC.lp
 split
 ·split
  ·rename_i h
   simp only [Bool.and_eq_true] at h
   cases Nat.eq_of_beq_eq_true h.1
   cases Nat.eq_of_beq_eq_true h.2
   rfl
  rfl
 rfl
theorem XC.lp_ok (b:XC):b.lp.ok=b.ok:=by
 unfold XC.lp
 split
 ·split<;>simp [XC.ok]
 rfl
theorem XC.lp_rgs (b:XC):b.lp.rgs=b.rgs:=by
 unfold XC.lp
 split
 ·split<;>simp [XC.rgs]
 rfl
def XC.of:List Rg→IC→XC
 | _,.skip=>.skip
 | _,.region l=>.region l
 | _,.draw l=>.draw l (ancs l)
 | r,.seq a b=>.seq (XC.of r a) (XC.of (r.drop a.rgN) b)
 | r,.cond c a b=>.cond c (XC.of r a) (XC.of (r.drop a.rgN) b)
 | r,.block id b=>.block id (XC.of r b)
 | r,.loop b=>(XC.of r b).lp
 | _,.exit id=>.exit id
 | _,.ret=>.ret
 | _,.bad=>.bad
 | [],.range g ps _ a b=>XC.noGo g ps
 | (h,n,c)::r,.range g ps ok a b=>match ok with
  | true=>.range g ps (XC.of r a) (XC.of (r.drop a.rgN) b) h n c
  | false=>XC.noGo g ps
theorem XC.of_ic (c:IC):∀ r:List Rg,(XC.of r c).ok=true→(XC.of r c).ic=c:=by
 induction c with
 | seq a b ha hb =>
  intro r h
  simp only [XC.of,XC.ok,Bool.and_eq_true] at h
  simp only [XC.of,XC.ic,ha _ h.1,hb _ h.2]
 | cond c a b ha hb =>
  intro r h
  simp only [XC.of,XC.ok,Bool.and_eq_true] at h
  simp only [XC.of,XC.ic,ha _ h.1,hb _ h.2]
 | block id b hb=>intro r h;simp only [XC.of,XC.ok] at h;simp only [XC.of,XC.ic,hb _ h]
 | loop b hb=>intro r h;simp only [XC.of,XC.lp_ok] at h;simp only [XC.of,XC.lp_ic,hb _ h]
 | range g ps ok a b ha hb =>
  intro r h
  match r with
  | []=>simp [XC.of,XC.noGo,XC.ok,XC.noR] at h
  | (h',n,c)::r =>
   cases ok with
   | false=>simp [XC.of,XC.noGo,XC.ok,XC.noR] at h
   | true =>
    simp only [XC.of,XC.ok,Bool.and_eq_true] at h
    simp only [XC.of,XC.ic,ha _ h.1.1.1.1,hb _ h.1.1.1.2]
 | _=>intro r h;rfl
theorem XC.of_rgs (P:Program) (c:IC):∀ r:List Rg,(∀ q∈r,FOk P q.1 ⟨q.2.1,q.2.2,[]⟩∧∀ p∈q.2.2.rgs,FOk P p.1 p.2)→(XC.of r c).ok=true→∀ p∈(XC.of r c).rgs,FOk P p.1 p.2:=by
 have hd:∀ (r:List Rg) n,(∀ q∈r,FOk P q.1 ⟨q.2.1,q.2.2,[]⟩∧∀ p∈q.2.2.rgs,FOk P p.1 p.2)→∀ q∈r.drop n,FOk P q.1 ⟨q.2.1,q.2.2,[]⟩∧∀ p∈q.2.2.rgs,FOk P p.1 p.2:=fun r n h q hq=>h q (List.mem_of_mem_drop hq)
 induction c with
 | seq a b ha hb =>
  intro r hr h p hp
  simp only [XC.of,XC.ok,Bool.and_eq_true] at h
  simp only [XC.of,XC.rgs,List.mem_append] at hp
  rcases hp with hp | hp
  ·exact ha _ hr h.1 p hp
  exact hb _ (hd _ _ hr) h.2 p hp
 | cond c a b ha hb =>
  intro r hr h p hp
  simp only [XC.of,XC.ok,Bool.and_eq_true] at h
  simp only [XC.of,XC.rgs,List.mem_append] at hp
  rcases hp with hp | hp
  ·exact ha _ hr h.1 p hp
  exact hb _ (hd _ _ hr) h.2 p hp
 | block id b hb=>intro r hr h;simp only [XC.of,XC.ok] at h;exact hb _ hr h
 | loop b hb=>intro r hr h p hp;simp only [XC.of,XC.lp_ok] at h;simp only [XC.of,XC.lp_rgs] at hp;exact hb _ hr h p hp
 | range g ps ok a b ha hb =>
  intro r hr h p hp
  match r with
  | []=>simp [XC.of,XC.noGo,XC.ok,XC.noR] at h
  | (h',n,c)::r =>
   cases ok with
   | false=>simp [XC.of,XC.noGo,XC.ok,XC.noR] at h
   | true =>
    simp only [XC.of,XC.ok,Bool.and_eq_true] at h
    simp only [XC.of,XC.rgs,List.mem_cons,List.mem_append] at hp
    have h0:=hr (h',n,c) (List.mem_cons_self ..)
    have hr':∀ q∈r,FOk P q.1 ⟨q.2.1,q.2.2,[]⟩∧∀ p∈q.2.2.rgs,FOk P p.1 p.2:=fun q hq=>hr q (List.mem_cons_of_mem _ hq)
    rcases hp with rfl | (hp | hp) | hp
    ·exact h0.1
    ·exact ha _ hr' h.1.1.1.1 p hp
    ·exact hb _ (hd _ _ hr') h.1.1.1.2 p hp
    exact h0.2 p hp
 | _=>intro r hr h p hp;simp [XC.of,XC.rgs] at hp
def FE.of (P:Program) (fn:Func) (r:List Rg:=[]):FE:=⟨fn.ntmps,XC.of r (IC.ofS P fn.ntmps (fn.body.getD .skip)),fn.results.toList.filterMap (RR.of P)⟩
structure Fc (P:Program) (fn:Func) (r:List Rg:=[]) where
 e:FE
 h:FE.of P fn r=e
def Fc.m {P:Program} {fn:Func} {r:List Rg} (e:FE) (h:FE.of P fn r=e:=by conv=>lhs;reduce;simp only [Int.ofNat_eq_natCast,Int.cast_ofNat_Int]):Fc P fn r:=⟨e,h⟩
def Fc.chk {P : Program} {fn : Func} {r : List Rg} (g : Fc P fn r) : Bool := fn.body.isSome && (fn.name != "runtime.NumGoroutine") && (fn.results.toList.all fun r => (RR.of P r).isSome) && g.e.x.ok
theorem Fc.ok {P:Program} {f:Nat} {fn:Func} {r:List Rg} (g:Fc P fn r) (hf:P.funcs[f]? = some fn) (hc:g.chk=true:=by kernel_rfl):FOk P f g.e:=by
 obtain ⟨e,rfl⟩:=g
 simp only [Fc.chk,Bool.and_eq_true] at hc
 obtain ⟨⟨⟨h1,h2⟩,h3⟩,h4⟩:=hc
 obtain ⟨c,hc⟩:=Option.isSome_iff_exists.1 h1
 refine ⟨fn,c,hf,rfl,hc,h2,?_,?_,h4⟩
 ·show IC.ofS P fn.ntmps c=(XC.of _ _).ic
  refine Eq.trans ?_ (XC.of_ic _ _ h4).symm
  rw [hc]
  rfl
 show fn.results.toList.map (RR.of P)=(fn.results.toList.filterMap (RR.of P)).map some
 rw [List.all_eq_true] at h3
 generalize fn.results.toList=l at h3
 induction l with
 | nil=>rfl
 | cons a l ih =>
  obtain ⟨b,hb⟩:=Option.isSome_iff_exists.1 (h3 a (List.mem_cons_self ..))
  rw [List.map_cons,List.filterMap_cons_some hb,List.map_cons,hb,ih fun r hr=>h3 r (List.mem_cons_of_mem _ hr)]
theorem Fc.rg {P:Program} {fn:Func} {r:List Rg} (g:Fc P fn r) (hr:∀ q∈r,FOk P q.1 ⟨q.2.1,q.2.2,[]⟩∧∀ p∈q.2.2.rgs,FOk P p.1 p.2) (hc:g.chk=true:=by kernel_rfl):∀ p∈g.e.x.rgs,FOk P p.1 p.2:=by
 obtain ⟨e,rfl⟩:=g
 simp only [Fc.chk,Bool.and_eq_true] at hc
 exact XC.of_rgs P _ r hr hc.2
theorem Fc.rg0 {P:Program} {fn:Func} (g:Fc P fn) (hc:g.chk=true:=by kernel_rfl):∀ p∈g.e.x.rgs,FOk P p.1 p.2:=g.rg (fun q hq=>absurd hq List.not_mem_nil) hc
theorem rg_one {P:Program} {h n:Nat} {c:XC} {r:List Rg} (h0:FOk P h ⟨n,c,[]⟩) (h1:∀ p∈c.rgs,FOk P p.1 p.2) (hr:∀ q∈r,FOk P q.1 ⟨q.2.1,q.2.2,[]⟩∧∀ p∈q.2.2.rgs,FOk P p.1 p.2):∀ q∈(h,n,c)::r,FOk P q.1 ⟨q.2.1,q.2.2,[]⟩∧∀ p∈q.2.2.rgs,FOk P p.1 p.2:=by
 intro q hq
 rcases List.mem_cons.1 hq with rfl | hq
 ·exact ⟨h0,h1⟩
 exact hr q hq
theorem rg_nil {P:Program}:∀ q∈([]:List Rg),FOk P q.1 ⟨q.2.1,q.2.2,[]⟩∧∀ p∈q.2.2.rgs,FOk P p.1 p.2:=fun q hq=>absurd hq List.not_mem_nil
theorem mkT_rg {P:Program}:∀ {l:List (Nat×FE)},(∀ p∈l,∀ q∈p.2.x.rgs,FOk P q.1 q.2)→RgOk P (mkT l):=by
 intro l
 induction l with
 | nil=>intro _ f e he;simp [mkT,Tr.get_nil] at he
 | cons a l ih =>
  intro h f e he
  obtain ⟨g,x⟩:=a
  simp only [mkT] at he
  rw [Tr.get_put _ _ _ _ _ (by omega)] at he
  split at he
  ·cases he;exact h (g,_) (List.mem_cons_self ..)
  exact ih (fun p hp=>h p (List.mem_cons_of_mem _ hp)) f e he
end Go.CE
