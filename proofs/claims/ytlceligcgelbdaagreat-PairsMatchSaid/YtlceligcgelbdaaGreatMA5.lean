/- Calls of function values; texts as rows of bytes; code out of the program's own text. -/
import Derived.WalkKit
import Derived.Orders
import Derived.KernelRfl
import Derived.Test.YtlceligcgelbdaaGreatMA4
set_option linter.unusedVariables false
set_option linter.unusedSimpArgs false
set_option maxRecDepth 100000
namespace Go.CE
open Go.RowKit
open Go.Eng (callable Od)
theorem bCz {call:iJ} {B:rR} {fs:Sf} {l:List I} {Q:Sf→Prop} {d:Nat} (z0:fR) {t:Od} {f:Nat} {us cs:List (Bool×List C)} {args:List Od} {vs:List AV} {Post:AV→fR→Prop} (ht:fs.ev t=.c (.fn f us cs)) (hc:FC call f vs z0 Post) (ha:AV.cs us++(args.map fs.ev++AV.cs cs)=vs) (hz0:fs.z=z0)
  (hw:∀ v z',zle z0 z'→Post v z'→FL call B l (fs.res d v z' fs.H) Q):FL call B (⟨some d,none,.callv t args⟩::l) fs Q:=by
 subst hz0
 exact bFK ht ha hc hw
open Go.RowKit
open Go.Eng (callable Od need need_pos iU mR setL_length aAI bget)
abbrev bs (l:List UInt8):ByteArray:=⟨l.toArray⟩
theorem bOB (a b:List UInt8):pC .eql (.string (bs a)) (.string (bs b))=some (.bool (decide (a=b))):=by
 show bHj .eql (bs a) (bs b)=_
 simp only [bHj,Bd]
 by_cases h:a=b<;>simp [bs,h]
open Go.RowKit
open Go.Eng (Od mR aAI)
section
variable {call:iJ} {B:rR} {fs:Sf} {l:List I} {Q:Sf→Prop} {d:Nat}
theorem J3 {size:Nat} {x:Od} {b ty:Nat} {cs:List C} (hx:fs.ev x=.c (.ptr b 0)) (hm:HA.blk b (.cells ty cs)∈fs.H) (hs:cs.length=size) (hw:FL call B l (fs.put d (.agg cs)) Q):FL call B (⟨some d,none,.load true size x⟩::l) fs Q:=mL (v:=.agg cs) hx hm (by omega) (by rw [List.drop_zero,List.take_of_length_le (by omega)];rfl) hw
theorem Aa {size:Nat} {x y:Od} {b ty:Nat} {cs ds:List C} {H':List HA} (hx:fs.ev x=.c (.ptr b 0)) (hy:fs.ev y=.agg ds) (hs:ds.length=size) (hc:cs.length=size) (hr:By fs.H (.blk b (.cells ty cs)) (.blk b (.cells ty ds)) H') (hw:FL call B l (fs.heap H') Q):FL call B (⟨none,none,.store size x y⟩::l) fs Q:=by
 have e:mR cs 0 ds=ds:=by rw [aAI,List.take_zero,List.nil_append,List.drop_eq_nil_of_le (by omega),List.append_nil]
 exact aSy (ds:=ds) hx hy rfl (by rw [e];exact hr) hs (by omega) hw
end
open Go.RowKit
open Go.Eng (Od)
def bUc (op : BinOp) (k k' : IntKind) (a b : Int) : Option AV := if k = k' then (match op with
  | .lss=>some (.c (.v (.bool (decide (a<b)))))
  | .gtr=>some (.c (.v (.bool (decide (b<a)))))
  | .leq=>some (.c (.v (.bool (decide (a≤b)))))
  | .geq=>some (.c (.v (.bool (decide (b≤a)))))
  | .eql=>some (.c (.v (.bool (decide (a=b)))))
  | .neq=>some (.c (.v (.bool (!decide (a=b)))))
  | _=>none) else none
def aUt:Bool→AV→Option AV
 | true,v=>some v
 | false,v=>match v with
  | .c c=>some (.c c)
  | .agg l=>some (.agg l)
  | .tup l=>some (.tup l)
  | .any=>some .any
theorem aKK {lz:Bool} {u v:AV} (h:aUt lz u=some v):u=v:=by
 cases lz<;>cases u<;>(injection h)
def aDQ (lz:Bool) (fs:Sf):mK→Option AV
 | .mv x=>aUt lz (fs.ev x)
 | .pick c a b=>match fs.ev c with
  | .c (.v (.bool true))=>aUt lz (fs.ev a)
  | .c (.v (.bool false))=>aUt lz (fs.ev b)
  | _=>none
 | .fad off x=>match fs.ev x with
  | .c (.ptr b o)=>some (.c (.ptr b (o+off)))
  | _=>none
 | .ext x i=>match fs.ev x with
  | .tup vs=>vs[i]?
  | _=>none
 | .un .not x=>match fs.ev x with
  | .c (.v (.bool b))=>some (.c (.v (.bool (!b))))
  | _=>none
 | .bin op x y=>match fs.ev x,fs.ev y with
  | .c (.v (.int k a)),.c (.v (.int k' b))=>bUc op k k' a b
  | _,_=>none
 | _=>none
theorem bN7 {lz:Bool} {fs:Sf} {o:mK} {v:AV} (h:aDQ lz fs o=some v):aSC o=true:=by cases o<;>first | rfl | cases h
theorem aW5 {fs:Sf} {st:AS} (r:∀ x,st.ev x=fs.ev x) {lz:Bool} {o:mK} {v:AV} (h:aDQ lz fs o=some v):callee st o=none∧dK o st=some v:=by
 unfold aDQ at h
 split at h
 ·exact ⟨rfl,by simp only [dK,r,aKK h]⟩
 ·rename_i c a b
  split at h
  ·rename_i hc;exact ⟨rfl,by simp [dK,r,hc,AV.bool?,aKK h]⟩
  ·rename_i hc;exact ⟨rfl,by simp [dK,r,hc,AV.bool?,aKK h]⟩
  cases h
 ·split at h
  ·rename_i hc;injection h with h;subst h;exact ⟨rfl,by simp only [dK,r,hc]⟩
  cases h
 ·split at h
  ·rename_i hc;exact ⟨rfl,by simp only [dK,r,hc,h]⟩
  cases h
 ·split at h
  ·rename_i hc;injection h with h;subst h;exact ⟨rfl,by simp only [dK,r,hc,AV.val?];rfl⟩
  cases h
 ·rename_i op x y
  split at h
  ·rename_i k a k' b h1 h2
   refine ⟨rfl,?_⟩
   unfold bUc at h
   split at h
   ·rename_i hk
    subst hk
    split at h<;>first | (injection h with h;subst h;simp only [dK,r,h1,h2,AV.val?,bQ9,bTr,bT5,bRK,bSY,bMJ];rfl) | cases h
   cases h
  cases h
 cases h
def aTo (lz:Bool) (fs:Sf) (i:I):Option Sf:=match i.d with
 | none=>none
 | some d=>match i.g with
  | none=>match aDQ lz fs i.o with
   | some v=>some (fs.put d v)
   | none=>none
  | some (s,w)=>match fs.e s,w with
   | .tup [],_=>some (fs.put d (.tup []))
   | .c (.v (.bool true)),false=>some (fs.put d (.tup []))
   | .c (.v (.bool false)),true=>some (fs.put d (.tup []))
   | .c (.v (.bool true)),true=>match aDQ lz fs i.o with
    | some v=>some (fs.put d v)
    | none=>none
   | .c (.v (.bool false)),false=>match aDQ lz fs i.o with
    | some v=>some (fs.put d v)
    | none=>none
   | _,_=>none
inductive PS (fs:Sf):I→Sf→Prop where
 | on (d:Nat) (g:Option (Nat×Bool)) (o:mK) (v:AV) (lz:Bool) (hg:GK fs ⟨some d,g,o⟩) (h:aDQ lz fs o=some v):PS fs ⟨some d,g,o⟩ (fs.put d v)
 | off (d s:Nat) (w:Bool) (o:mK) (hs:fs.e s=.c (.v (.bool (!w)))∨fs.e s=.tup []):PS fs ⟨some d,some (s,w),o⟩ (fs.put d (.tup []))
theorem aOC {lz:Bool} {fs fs':Sf} {i:I} (h:aTo lz fs i=some fs'):PS fs i fs':=by
 obtain ⟨d,g,o⟩:=i
 cases d with
 | none=>cases h
 | some d =>
  cases g with
  | none =>
   simp only [aTo] at h
   cases hv:aDQ lz fs o with
   | none=>rw [hv] at h;cases h
   | some v=>rw [hv] at h;injection h with h;subst h;exact .on _ _ _ _ lz trivial hv
  | some p =>
   obtain ⟨s,w⟩:=p
   simp only [aTo] at h
   split at h
   ·rename_i hs;injection h with h;subst h;exact .off _ _ _ _ (.inr hs)
   ·rename_i hs;injection h with h;subst h;exact .off _ _ _ _ (.inl hs)
   ·rename_i hs;injection h with h;subst h;exact .off _ _ _ _ (.inl hs)
   ·rename_i hs
    cases hv:aDQ lz fs o with
    | none=>rw [hv] at h;cases h
    | some v=>rw [hv] at h;injection h with h;subst h;exact .on _ _ _ _ lz hs hv
   ·rename_i hs
    cases hv:aDQ lz fs o with
    | none=>rw [hv] at h;cases h
    | some v=>rw [hv] at h;injection h with h;subst h;exact .on _ _ _ _ lz hs hv
   cases h
def lzb (k:Nat):Bool:=Nat.beq (k % 2) 1
def bFL:Nat→Nat→List I→Sf→Option (List I×Sf)
 | 0,_,_,_=>none
 | n+1,k,l,fs=>match Nat.beq k 1 with
  | true=>some (l,fs)
  | false=>match l with
   | []=>none
   | i::l=>match aTo (lzb k) fs i with
    | some fs'=>bFL n (k / 2) l fs'
    | none=>none
def aIZ:Nat→Nat→List I→XC→Sf→Option (List I×XC×Sf)
 | 0,_,_,_,_=>none
 | n+1,k,l,c,fs=>match Nat.beq k 1 with
  | true=>some (l,c,fs)
  | false=>match l with
   | i::l=>match aTo (lzb k) fs i with
    | some fs'=>aIZ n (k / 2) l c fs'
    | none=>none
   | []=>match c with
    | .seq (.region l) b=>aIZ n (k / 2) l b fs
    | .seq (.seq a b) c=>aIZ n (k / 2) [] (.seq a (.seq b c)) fs
    | .seq .skip b=>aIZ n (k / 2) [] b fs
    | .seq (.cond x a b) r=>aIZ n (k / 2) [] (.cond x (.seq a r) (.seq b r)) fs
    | .cond x a b=>match fs.ev x with
     | .c (.v (.bool true))=>aIZ n (k / 2) [] a fs
     | .c (.v (.bool false))=>aIZ n (k / 2) [] b fs
     | _=>none
    | _=>none
def bGS:Nat→Nat→Nat→List D→Sf→Option (List D×Nat×Sf)
 | 0,_,_,_,_=>none
 | n+1,k,j,l,fs=>match Nat.beq k 1 with
  | true=>some (l,j,fs)
  | false=>match l with
   | []=>none
   | d::l=>match aTo (lzb k) fs d.i with
    | some fs'=>bGS n (k / 2) (j+1) l fs'
    | none=>none
section
variable {call:iJ} {B:rR} {fs fs':Sf} {l l':List I} {k:Nat} {c c':XC}
theorem bHo {Q:Sf→Prop} {d:Nat} {o:mK} {v:AV} (h:∀ st,Rf B fs st→callee st o=none∧dK o st=some v) (hw:FL call B l (fs.put d v) Q):FL call B (⟨some d,none,o⟩::l) fs Q:=fun st r=>Oo (i_q (h st r).1 (h st r).2) (hw _ (r.put d v))
theorem bMt {i:I} {Q:Sf→Prop} (h:PS fs i fs') (hw:FL call B l fs' Q):FL call B (i::l) fs Q:=by
 cases h with
 | on d g o v lz hg h =>
  cases g with
  | none=>exact bHo (fun st r=>aW5 r.ev h) hw
  | some p=>exact lD (want:=p.2) (s:=p.1) hg (bHo (fun st r=>aW5 r.ev h) hw)
 | off d s w o hs =>
  rcases hs with hs | hs
  ·exact lX hs hw
  exact bQ2 hs hw
theorem bKT {Q:Sf→Prop}:∀ {n k:Nat} {l:List I} {fs:Sf},bFL n k l fs=some (l',fs')→FL call B l' fs' Q→FL call B l fs Q:=by
 intro n
 induction n with
 | zero=>intro k l fs h;cases h
 | succ n ih =>
  intro k l fs h hw
  unfold bFL at h
  split at h
  ·injection h with h
   have h1:=(Prod.mk.inj h).1
   have h2:=(Prod.mk.inj h).2
   subst h1 h2
   exact hw
  split at h
  ·cases h
  rename_i i l
  split at h
  ·rename_i fs1 hs;exact bMt (aOC hs) (ih h hw)
  cases h
theorem R1 (k:Nat) {Q:Sf→Prop} (h:bFL 500 k l fs=some (l',fs')) (hw:FL call B l' fs' Q):FL call B l fs Q:=bKT h hw
theorem R0 (k:Nat) {Q:Sf→Prop} (h:bFL 500 k l fs=some ([],fs')) (hw:Q fs'):FL call B l fs Q:=R1 k h (lN hw)
theorem aEI {Q:Exit→Sf→Prop} (h:FL call B [] fs fun fs=>FX call k B c fs Q):FX call k B c fs Q:=fun st r=>by
 obtain ⟨fs',r',q⟩:=h st r
 exact q st r'
theorem bLE {Q:Exit→Sf→Prop}:∀ {n m:Nat} {l:List I} {c:XC} {fs:Sf},aIZ n m l c fs=some (l',c',fs')→(FL call B l' fs' fun fs=>FX call k B c' fs Q)→FL call B l fs fun fs=>FX call k B c fs Q:=by
 intro n
 induction n with
 | zero=>intro m l c fs h;cases h
 | succ n ih =>
  intro m l c fs h hw
  unfold aIZ at h
  split at h
  ·injection h with h
   have h1:=(Prod.mk.inj h).1
   have h2:=(Prod.mk.inj (Prod.mk.inj h).2).1
   have h3:=(Prod.mk.inj (Prod.mk.inj h).2).2
   subst h1 h2 h3
   exact hw
  split at h
  ·split at h
   ·rename_i fs1 hs;exact bMt (aOC hs) (ih h hw)
   cases h
  refine lN ?_
  split at h
  ·exact xR (ih h hw)
  ·exact Z6 (aEI (ih h hw))
  ·exact dX (aEI (ih h hw))
  ·exact Ez (aEI (ih h hw))
  ·split at h
   ·rename_i hc;exact aWD hc (aEI (ih h hw))
   ·rename_i hc;exact Et hc (aEI (ih h hw))
   cases h
  cases h
theorem R2 (m:Nat) {Q:Exit→Sf→Prop} (h:aIZ 500 m l c fs=some (l',c',fs')) (hw:FL call B l' fs' fun fs=>FX call k B c' fs Q):FL call B l fs fun fs=>FX call k B c fs Q:=bLE h hw
theorem R3 (m:Nat) {Q:Exit→Sf→Prop} (h:aIZ 500 m l c fs=some ([],c',fs')) (hw:FX call k B c' fs' Q):FL call B l fs fun fs=>FX call k B c fs Q:=R2 m h (lN hw)
theorem R4 (m:Nat) {Q:Exit→Sf→Prop} (h:aIZ 500 m [] c fs=some (l',c',fs')) (hw:FL call B l' fs' fun fs=>FX call k B c' fs Q):FX call k B c fs Q:=aEI (R2 m h hw)
theorem R5 (m:Nat) {Q:Exit→Sf→Prop} (h:aIZ 500 m [] c fs=some ([],c',fs')) (hw:FX call k B c' fs' Q):FX call k B c fs Q:=aEI (R3 m h hw)
end
section
variable {call:iJ} {B:rR} {an:List Nat} {j:Nat} {l l':List CE.D} {fs fs':Sf} {T:fR} {tag last:Nat} {pj lj:List Nat} {Q:Sf→Prop}
theorem bQP {i:I} {af:List Nat} (h:PS fs i fs') (hw:FG call B an (j+1) l fs' T tag last pj lj Q):FG call B an j (⟨i,af⟩::l) fs T tag last pj lj Q:=by
 cases h with
 | on d g o v lz hg h=>exact gP rfl (bN7 h) hg (bHo (fun st r=>aW5 r.ev h) (lN hw))
 | off d s w o hs=>exact bPa rfl rfl hs hw
theorem bJv:∀ {n k j j':Nat} {l:List CE.D} {fs:Sf},bGS n k j l fs=some (l',j',fs')→FG call B an j' l' fs' T tag last pj lj Q→FG call B an j l fs T tag last pj lj Q:=by
 intro n
 induction n with
 | zero=>intro k j j' l fs h;cases h
 | succ n ih =>
  intro k j j' l fs h hw
  unfold bGS at h
  split at h
  ·injection h with h
   have h1:=(Prod.mk.inj h).1
   have h2:=(Prod.mk.inj (Prod.mk.inj h).2).1
   have h3:=(Prod.mk.inj (Prod.mk.inj h).2).2
   subst h1 h2 h3
   exact hw
  split at h
  ·cases h
  split at h
  ·rename_i fs1 hs;exact bQP (aOC hs) (ih h hw)
  cases h
theorem G1 (k:Nat) {j':Nat} (h:bGS 500 k j l fs=some (l',j',fs')) (hw:FG call B an j' l' fs' T tag last pj lj Q):FG call B an j l fs T tag last pj lj Q:=bJv h hw
theorem G0 (k:Nat) {j':Nat} (h:bGS 500 k j l fs=some ([],j',fs')) (hw:Q fs'):FG call B an j l fs T tag last pj lj Q:=G1 k h (nQ hw)
end
abbrev Cb (b:Bool):C:=.v (.bool b)
abbrev Cs (s:ByteArray):C:=.v (.string s)
abbrev Ci (n:Int):C:=.v (.int .i64 n)
abbrev Cu (n:Int):C:=.v (.int .u8 n)
abbrev Cz:C:=.v (.slice none 0 0)
abbrev Ab (b:Bool):AV:=.c (.v (.bool b))
abbrev Ai (n:Int):AV:=.c (.v (.int .i64 n))
abbrev Az (n:Nat):AV:=.c (.v (.int .i64 (n:Int)))
abbrev Ad (n:Int):AV:=.c (.v (.int .u32 n))
abbrev Ap (b:Nat):AV:=.c (.ptr b 0)
abbrev Aw (b n:Nat):AV:=.c (.sl b 0 n 1)
def gkb (e:O6):Option (Nat×Bool)→Bool
 | none=>true
 | some (s,w)=>match e s with
  | .c (.v (.bool b))=>match b,w with
   | true,true=>true
   | false,false=>true
   | _,_=>false
  | _=>false
theorem gk {fs:Sf} {d:Option Nat} {g:Option (Nat×Bool)} {o:mK} (h:gkb fs.e g=true):GK fs ⟨d,g,o⟩:=by
 cases g with
 | none=>trivial
 | some p =>
  obtain ⟨s,w⟩:=p
  show fs.e s=.c (.v (.bool w))
  unfold gkb at h
  simp only at h
  split at h
  ·rename_i b hb
   rw [hb]
   cases b<;>cases w<;>first | rfl | cases h
  cases h
theorem ti {z z':fR} {H:List HA} [h:Zl z z']:∀ b k,z b k→tz z' H b k:=fun b k g=>.inl (h.h b k g)
theorem Ht {z:fR} {b:Nat} {k:jX} {H:List HA}:tz z (.blk b k::H) b k:=.inr mem0
theorem Y1 {a x:HA} {l:List HA}:a∈x::a::l:=mX mem0
theorem Y2 {a x y:HA} {l:List HA}:a∈x::y::a::l:=mX Y1
theorem Y3 {a x y w:HA} {l:List HA}:a∈x::y::w::a::l:=mX Y2
theorem Y4 {a x y w v:HA} {l:List HA}:a∈x::y::w::v::a::l:=mX Y3
theorem P1 {x a a':HA} {l:List HA}:By (x::a::l) a a' (x::a'::l):=oH lR
theorem P2 {x y a a':HA} {l:List HA}:By (x::y::a::l) a a' (x::y::a'::l):=oH P1
theorem P3 {x y w a a':HA} {l:List HA}:By (x::y::w::a::l) a a' (x::y::w::a'::l):=oH P2
theorem At.m {z z':fR} [w:Zl z z'] {b p:Nat} {cs:List C} (h:At z b p cs):At z' b p cs:=h.mono w.h
theorem SZ.m {α:Type} {size:Nat} {R:RT α} [RMono R] {z z':fR} [w:Zl z z'] {v:AV} {l:List α} (h:SZ size R z v l):SZ size R z' v l:=h.mono w.h
theorem CZ.m {α:Type} {size:Nat} {R:RT α} [RMono R] {z z':fR} [w:Zl z z'] {v:C} {l:List α} (h:CZ size R z v l):CZ size R z' v l:=h.mono w.h
theorem bH3 {e:O6}:∀ {l:List (Nat×AV)},l.map (fun p=>e p.1)=l.map (·.2)→Sr e l
 | [],_=>.nil
 | (_,_)::_,h=>.cons _ _ _ (List.cons.inj h).1 (bH3 (List.cons.inj h).2)
theorem LI.m {z0 z:fR} {H:List HA} {ls:List (Nat×AV)} {e:O6} [w:Zl z0 z] (Hx:List HA) (h:ls.map (fun p=>e p.1)=ls.map (·.2)):LI z0 H ls ⟨e,z,Hx++H⟩:=.mk Hx w.h (bH3 h)
theorem LZ.m {z0 z:fR} {H:List HA} {ls:List (Nat×AV)} {e:O6} [w:Zl z0 z] (Hx:List HA) (h:ls.map (fun p=>e p.1)=ls.map (·.2)):LZ z0 z H ls ⟨e,z,Hx++H⟩:=.mk Hx w.h (bH3 h)
theorem kK {n:Nat} (h:n<18446744073709551616):n<18446744073709551616:=h
theorem cQ {a b:Bool} (h:a=b):AV.c (.v (.bool a))=.c (.v (.bool b)):=by rw [h]
theorem rI {fs:Sf} {i:Nat} {v:AV} {Post:AV→fR→Prop} (h:fs.e i=v) (hp:Post v fs.z):bCQ [.t i] (fun v z' H'=>H'=[]∧Post v z') .ret fs:=rQ (.inl rfl) (rt h rn) hp
section
variable {call:iJ} {B:rR} {fs:Sf} {l:List I} {Q:Sf→Prop} {d:Nat}
theorem lE (z0:fR) {f:Nat} {args:List Od} {vs:List AV} {x:AV} (hc:FC call f vs z0 fun v _=>v=x) (ha:args.map fs.ev=vs) (hz0:fs.z=z0)
  (hw:∀ z',zle z0 z'→FL call B l (fs.res d x z' fs.H) Q):FL call B (⟨some d,none,.call f args⟩::l) fs Q:=lZ z0 hc ha hz0 fun v z' hz hv=>by subst hv;exact hw z' hz
end
section
variable {call:iJ} {B:rR} {an:List Nat} {j:Nat} {l:List CE.D} {fs:Sf} {T:fR} {tag last:Nat} {pj lj:List Nat} {Q:Sf→Prop} {d:Nat} {x:Od} {af:List Nat} {g:Option (Nat×Bool)}
theorem wM {b o ty:Nat} {cs:List C} {c:C} (hg:gkb fs.e g=true) (hx:fs.ev x=.c (.ptr b o)) (hT:T b (.cells ty cs)) (h:cs[o]? = some c) (hw:FG call B an (j+1) l (fs.put d (.c c)) T tag last pj (j::lj) Q):FG call B an j (⟨⟨some d,g,.load false 1 x⟩,af⟩::l) fs T tag last pj lj Q:=bEM (i:=⟨_,_,.load _ _ _⟩) rfl rfl (gk hg) hx hT h sR hw
theorem O8 {b o ty:Nat} {cs:List C} {c0 c1:C} (hg:gkb fs.e g=true) (hx:fs.ev x=.c (.ptr b o)) (hT:T b (.cells ty cs)) (h:(cs.drop o).take 2=[c0,c1]) (hw:FG call B an (j+1) l (fs.put d (.agg [c0,c1])) T tag last pj (j::lj) Q):FG call B an j (⟨⟨some d,g,.load true 2 x⟩,af⟩::l) fs T tag last pj lj Q:=bOw (i:=⟨_,_,.load _ _ _⟩) rfl rfl (gk hg) hx hT h sR hw
theorem gl4 {b o ty:Nat} {cs:List C} {c0 c1 c2 c3:C} (hg:gkb fs.e g=true) (hx:fs.ev x=.c (.ptr b o)) (hT:T b (.cells ty cs)) (h:(cs.drop o).take 4=[c0,c1,c2,c3]) (hw:FG call B an (j+1) l (fs.put d (.agg [c0,c1,c2,c3])) T tag last pj (j::lj) Q):FG call B an j (⟨⟨some d,g,.load true 4 x⟩,af⟩::l) fs T tag last pj lj Q:=bPX (i:=⟨_,_,.load _ _ _⟩) rfl rfl (gk hg) hx hT h sR hw
theorem glP {p:AV} {zz:fR} {k:IntKind} {n:Int} (hg:gkb fs.e g=true) (hx:fs.ev x=p) (hp:PE zz p (.int k n)) (hz:∀ b k,zz b k→T b k) (hw:FG call B an (j+1) l (fs.put d (.c (.v (.int k n)))) T tag last pj (j::lj) Q):FG call B an j (⟨⟨some d,g,.load false 1 x⟩,af⟩::l) fs T tag last pj lj Q:=bNO (i:=⟨_,_,.load _ _ _⟩) rfl rfl (gk hg) hx hp hz hw
theorem glA {agg:Bool} {size b q p:Nat} {cs:List C} {z:fR} {v:AV} {off:Nat} (hg:gkb fs.e g=true) (hx:fs.ev x=.c (.ptr b q)) (ha:At z b p cs) (hz:∀ b k,z b k→T b k) (hq:q=p+off) (hl:off+size≤cs.length) (hv:Ek agg ((cs.drop off).take size)=v)
  (hw:FG call B an (j+1) l (fs.put d v) T tag last pj (j::lj) Q):FG call B an j (⟨⟨some d,g,.load agg size x⟩,af⟩::l) fs T tag last pj lj Q:=mU (i:=⟨_,_,.load _ _ _⟩) rfl rfl (gk hg) hx ha hz hq hl hv sR hw
theorem Lr {agg:Bool} {size:Nat} {b o:Nat} {k:jX} {full:List C} {v:AV} (hg:gkb fs.e g=true) (hx:fs.ev x=.c (.ptr b o)) (hT:T b k) (hk:k.cs=some full) (hl:o+size≤full.length) (hv:Ek agg ((full.drop o).take size)=v)
  (hw:FG call B an (j+1) l (fs.put d v) T tag last pj (j::lj) Q):FG call B an j (⟨⟨some d,g,.load agg size x⟩,af⟩::l) fs T tag last pj lj Q:=aC4 (i:=⟨_,_,.load _ _ _⟩) rfl rfl (gk hg) hx hT hk hl hv sR hw
def gck (an:List Nat) (j last:Nat) (pj:List Nat):Bool:=Nat.beq (an.getD j 0 ||| last) (an.getD j 0) && pj.all fun q=>(an.getD j 0).testBit q
theorem gC (z0:fR) {f:Nat} {args:List Od} {vs:List AV} {Post:AV→fR→Prop} (hc:FC call f vs z0 Post) (hg:gkb fs.e g=true) (hb:gck an j last pj=true) (ha:args.map fs.ev=vs) (hz0:fs.z=z0)
  (hw:∀ v z',zle z0 z'→Post v z'→FG call B an (j+1) l (fs.res d v z' fs.H) T (j+1) (an.getD j 0 ||| (1 <<< j)) [] lj Q):FG call B an j (⟨⟨some d,g,.call f args⟩,af⟩::l) fs T tag last pj lj Q:=by
 obtain ⟨h1,h2⟩:=Bool.and_eq_true_iff.1 hb
 exact gZ z0 (i:=⟨_,_,.call _ _⟩) hc rfl rfl (gk hg) h1 h2 ha hz0 hw
theorem gE (z0:fR) {f:Nat} {args:List Od} {vs:List AV} {x:AV} (hc:FC call f vs z0 fun v _=>v=x) (hg:gkb fs.e g=true) (hb:gck an j last pj=true) (ha:args.map fs.ev=vs) (hz0:fs.z=z0)
  (hw:∀ z',zle z0 z'→FG call B an (j+1) l (fs.res d x z' fs.H) T (j+1) (an.getD j 0 ||| (1 <<< j)) [] lj Q):FG call B an j (⟨⟨some d,g,.call f args⟩,af⟩::l) fs T tag last pj lj Q:=gC z0 hc hg hb ha hz0 fun v z' hz hv=>by subst hv;exact hw z' hz
theorem gA {ty:Nat} {zero:List Value} {cs:List C} (hg:gkb fs.e g=true) (hc:zero.map (fun v=>C.v v)=cs) (hw:∀ b,(∀ k,¬ T b k)→FG call B an (j+1) l (fs.own d (.c (.ptr b 0)) (.blk b (.cells ty cs))) T tag last (j::pj) lj Q):FG call B an j (⟨⟨some d,g,.alloc ty zero⟩,af⟩::l) fs T tag last pj lj Q:=by
 subst hc
 exact xM (k:=.cells ty (zero.map fun v=>.v v)) (w:=fun b=>.c (.ptr b 0)) rfl (gk hg) rfl (fun _=>rfl) (fun st hst=>rfl) hw
def gcl (an:List Nat) (j last:Nat) (pj lj:List Nat):Bool:=gck an j last pj && lj.all fun q=>(an.getD j 0).testBit q
theorem gS {s:Nat} {y:Od} {b o:Nat} (hg:gkb fs.e g=true) (hb:gcl an j last pj lj=true) (hx:fs.ev x=.c (.ptr b o))
  (h:FL call B [⟨none,none,.store s x y⟩] fs fun fs'=>FG call B an (j+1) l fs' (fun _ _=>False) (j+1) (an.getD j 0 ||| (1 <<< j)) [] [] Q):FG call B an j (⟨⟨none,g,.store s x y⟩,af⟩::l) fs T tag last pj lj Q:=by
 obtain ⟨h1,h2⟩:=Bool.and_eq_true_iff.1 hb
 obtain ⟨h3,h4⟩:=Bool.and_eq_true_iff.1 h1
 exact bD1 (i:=⟨_,_,.store _ _ _⟩) rfl (gk hg) h3 h4 h2 hx h
theorem gT {s:Nat} {y:Od} {b o:Nat} (hg:gkb fs.e g=true) (hb:gck an j last pj=true) (hx:fs.ev x=.c (.ptr b o)) (hT:∀ k,¬ T b k)
  (h:FL call B [⟨none,none,.store s x y⟩] fs fun fs'=>FG call B an (j+1) l fs' T (j+1) (an.getD j 0 ||| (1 <<< j)) [] lj Q):FG call B an j (⟨⟨none,g,.store s x y⟩,af⟩::l) fs T tag last pj lj Q:=by
 obtain ⟨h3,h4⟩:=Bool.and_eq_true_iff.1 hb
 exact bC0 (i:=⟨_,_,.store _ _ _⟩) rfl (gk hg) h3 h4 hx hT h
end
open Go.RowKit
def XC.of:IC→XC
 | .skip=>.skip
 | .region l=>.region l
 | .draw l=>.draw l (cBT l)
 | .seq a b=>.seq (XC.of a) (XC.of b)
 | .cond c a b=>.cond c (XC.of a) (XC.of b)
 | .block id b=>.block id (XC.of b)
 | .loop b=>.loop (XC.of b)
 | .exit id=>.exit id
 | .ret=>.ret
 | .bad=>.bad
theorem XC.of_ic (c:IC):(XC.of c).ic=c:=by
 induction c with
 | seq a b ha hb=>simp only [XC.of,XC.ic,ha,hb]
 | cond c a b ha hb=>simp only [XC.of,XC.ic,ha,hb]
 | block id b hb=>simp only [XC.of,XC.ic,hb]
 | loop b hb=>simp only [XC.of,XC.ic,hb]
 | _=>rfl
def FE.of (P:Program) (fn:Func):FE:=⟨fn.ntmps,XC.of (IC.ofS P fn.ntmps (fn.body.getD .skip)),fn.results.toList.filterMap (RR.of P)⟩
structure Fc (P:Program) (fn:Func) where
 e:FE
 h:FE.of P fn=e
def Fc.m {P:Program} {fn:Func} (e:FE) (h:FE.of P fn=e:=by conv=>lhs;reduce;simp only [Int.ofNat_eq_natCast,Int.cast_ofNat_Int]):Fc P fn:=⟨e,h⟩
def Fc.chk {P : Program} {fn : Func} (g : Fc P fn) : Bool := fn.body.isSome && (fn.name != "runtime.NumGoroutine") && (fn.results.toList.all fun r => (RR.of P r).isSome) && g.e.x.ok
theorem Fc.ok {P:Program} {f:Nat} {fn:Func} (g:Fc P fn) (hf:P.funcs[f]? = some fn) (hc:g.chk=true:=by kernel_rfl):lQ P f g.e:=by
 obtain ⟨e,rfl⟩:=g
 simp only [Fc.chk,Bool.and_eq_true] at hc
 obtain ⟨⟨⟨h1,h2⟩,h3⟩,h4⟩:=hc
 obtain ⟨c,hc⟩:=Option.isSome_iff_exists.1 h1
 refine ⟨fn,c,hf,rfl,hc,h2,?_,?_,h4⟩
 ·show IC.ofS P fn.ntmps c=(XC.of _).ic
  rw [XC.of_ic,hc]
  rfl
 show fn.results.toList.map (RR.of P)=(fn.results.toList.filterMap (RR.of P)).map some
 rw [List.all_eq_true] at h3
 generalize fn.results.toList=l at h3
 induction l with
 | nil=>rfl
 | cons a l ih =>
  obtain ⟨b,hb⟩:=Option.isSome_iff_exists.1 (h3 a (List.mem_cons_self ..))
  rw [List.map_cons,List.filterMap_cons_some hb,List.map_cons,hb,ih fun r hr=>h3 r (List.mem_cons_of_mem _ hr)]
open Go.RowKit
open Go.Eng (Od)
def Pa.ofA:Nat→Nat→Pa
 | 0,_=>.h
 | f+1,k=>match k with
  | 0=>.h
  | k+1=>match Nat.beq (k % 2) 0 with
   | true=>.a (Pa.ofA f (k / 2))
   | false=>.b (Pa.ofA f (k / 2))
theorem Pa.ofA_n:∀ (f k:Nat),k≤f→(Pa.ofA f k).n=k:=by
 intro f
 induction f with
 | zero=>intro k h;rw [show k=0 by omega];rfl
 | succ f ih =>
  intro k h
  cases k with
  | zero=>rfl
  | succ k =>
   simp only [Pa.ofA]
   have h2:=ih (k / 2) (by omega)
   split
   ·rename_i hb
    have hb:=Nat.eq_of_beq_eq_true hb
    simp only [Pa.n,h2];omega
   rename_i hb
   have hb:¬ k % 2=0:=fun e=>by rw [e] at hb;cases hb
   simp only [Pa.n,h2];omega
def Pa.of (k:Nat):Pa:=Pa.ofA k k
theorem Pa.of_n (k:Nat):(Pa.of k).n=k:=Pa.ofA_n k k (Nat.le_refl _)
def O2.of:Od→O2
 | .t q=>.t (Pa.of q)
 | .k v=>match v with
  | .int kd z=>match z with
   | .ofNat n=>.i kd n
   | _=>.o (.k v)
  | _=>.o (.k v)
 | x=>.o x
theorem O2.of_od (x:Od):(O2.of x).od=x:=by
 cases x with
 | t q=>simp [O2.of,O2.od,Pa.of_n]
 | k v =>
  cases v with
  | int kd z=>cases z<;>rfl
  | _=>rfl
 | _=>rfl
def J.of:mK→J
 | .mv x=>.mv (.of x)
 | .bin op x y=>.bin op (.of x) (.of y)
 | .load a s x=>.load a s (.of x)
 | .store s x y=>.store s (.of x) (.of y)
 | .iad s x i=>.iad s (.of x) (.of i)
 | .len b x=>match b with
  | false=>.len (.of x)
  | true=>.gen (.len true x)
 | .fad o x=>.fad o (.of x)
 | .ext x i=>.ext (.of x) i
 | .cvi k x=>.cvi k (.of x)
 | .pick c a b=>.pick (.of c) (.of a) (.of b)
 | .call f l=>.call f (l.map O2.of)
 | o=>.gen o
theorem O2.of_map (l:List Od):(l.map O2.of).map O2.od=l:=by
 rw [List.map_map]
 exact (List.map_congr_left fun x _=>O2.of_od x).trans (List.map_id _)
theorem J.of_ins (o:mK):(J.of o).ins=o:=by
 cases o with
 | call f l=>simp only [J.of,J.ins,O2.of_map]
 | len b x=>cases b<;>simp only [J.of,J.ins,O2.of_od]
 | mv x=>simp only [J.of,J.ins,O2.of_od]
 | bin op x y=>simp only [J.of,J.ins,O2.of_od]
 | load a s x=>simp only [J.of,J.ins,O2.of_od]
 | store s x y=>simp only [J.of,J.ins,O2.of_od]
 | iad s x i=>simp only [J.of,J.ins,O2.of_od]
 | fad o x=>simp only [J.of,J.ins,O2.of_od]
 | ext x i=>simp only [J.of,J.ins,O2.of_od]
 | cvi k x=>simp only [J.of,J.ins,O2.of_od]
 | pick c a b=>simp only [J.of,J.ins,O2.of_od]
 | _=>rfl
def I2.of (i:I):I2:=⟨i.d.map Pa.of,i.g.map fun p=>(Pa.of p.1,p.2),J.of i.o⟩
theorem I2.of_i (i:I):(I2.of i).i=i:=by
 obtain ⟨d,g,o⟩:=i
 simp only [I2.of,I2.i,J.of_ins,Option.map_map]
 have h1:d.map (Pa.n ∘ Pa.of)=d:=by cases d<;>simp [Pa.of_n]
 have h2:(g.map ((fun p:Pa×Bool=>(p.1.n,p.2)) ∘ fun p:Nat×Bool=>(Pa.of p.1,p.2)))=g:=by cases g<;>simp [Pa.of_n]
 rw [h1,h2]
def X2.of:XC→X2
 | .skip=>.skip
 | .region l=>.region (l.map I2.of)
 | .draw l an=>.draw l an
 | .seq a b=>.seq (X2.of a) (X2.of b)
 | .cond c a b=>.cond (O2.of c) (X2.of a) (X2.of b)
 | .block id b=>.block id (X2.of b)
 | .loop b=>.loop (X2.of b)
 | .exit id=>.exit id
 | .ret=>.ret
 | .bad=>.bad
theorem X2.of_xc (c:XC):(X2.of c).xc=c:=by
 induction c with
 | region l =>
  simp only [X2.of,X2.xc,List.map_map]
  exact congrArg XC.region ((List.map_congr_left fun x _=>I2.of_i x).trans (List.map_id _))
 | seq a b ha hb=>simp only [X2.of,X2.xc,ha,hb]
 | cond c a b ha hb=>simp only [X2.of,X2.xc,ha,hb,O2.of_od]
 | block id b hb=>simp only [X2.of,X2.xc,hb]
 | loop b hb=>simp only [X2.of,X2.xc,hb]
 | _=>rfl
def F2.of (e:FE):F2:=⟨e.n,X2.of e.x,e.ts⟩
theorem F2.of_fe (e:FE):(F2.of e).fe=e:=by simp only [F2.of,F2.fe,X2.of_xc]
structure Gc (P:Program) (fn:Func) where
 e:F2
 h:F2.of (FE.of P fn)=e
def Gc.m {P:Program} {fn:Func} (e:F2) (h:F2.of (FE.of P fn)=e:=by conv=>lhs;reduce):Gc P fn:=⟨e,h⟩
def Gc.chk {P : Program} {fn : Func} (g : Gc P fn) : Bool := fn.body.isSome && (fn.name != "runtime.NumGoroutine") && (fn.results.toList.all fun r => (RR.of P r).isSome) && g.e.fe.x.ok
theorem Gc.ok {P:Program} {f:Nat} {fn:Func} (g:Gc P fn) (hf:P.funcs[f]? = some fn) (hc:g.chk=true:=by kernel_rfl):lQ P f g.e.fe:=by
 obtain ⟨e,rfl⟩:=g
 have h:=F2.of_fe (FE.of P fn)
 exact (congrArg (lQ P f) h).mpr (Fc.ok (⟨_,rfl⟩:Fc P fn) hf (by rw [← hc];unfold Fc.chk Gc.chk;simp only [h]))
end Go.CE
