/- Calls of function values; texts as rows of bytes; code out of the program's own text. -/
import Derived.WalkKit
import Derived.Orders
import Derived.KernelRfl
import Derived.Test.YtlceligcgelbdaaGreatKA4
set_option linter.unusedVariables false
set_option linter.unusedSimpArgs false
set_option maxRecDepth 100000
namespace Go.CE
open Go.RowKit
open Go.Eng (callable Od)
theorem aJ6 {call:eE} {B:pK} {fs:Sf} {l:List I} {Q:Sf→Prop} {d:Nat} (z0:dA) {t:Od} {f:Nat} {us cs:List (Bool×List C)} {args:List Od} {vs:List AV} {Post:AV→dA→Prop} (ht:fs.ev t=.c (.fn f us cs)) (hc:FC call f vs z0 Post) (ha:AV.cs us++(args.map fs.ev++AV.cs cs)=vs) (hz0:fs.z=z0)
  (hw:∀ v z',zle z0 z'→Post v z'→FL call B l (fs.res d v z' fs.H) Q):FL call B (⟨some d,none,.callv t args⟩::l) fs Q:=by
 subst hz0
 exact bH3 ht ha hc hw
open Go.RowKit
open Go.Eng (callable Od need need_pos iE kN setL_length aCf bget)
abbrev bs (l:List UInt8):ByteArray:=⟨l.toArray⟩
open Go.RowKit
open Go.Eng (Od kN aCf)
section
variable {call:eE} {B:pK} {fs:Sf} {l:List I} {Q:Sf→Prop} {d:Nat}
theorem lR {size:Nat} {x:Od} {b ty:Nat} {cs:List C} (hx:fs.ev x=.c (.ptr b 0)) (hm:HA.blk b (.cells ty cs)∈fs.H) (hs:cs.length=size) (hw:FL call B l (fs.put d (.agg cs)) Q):FL call B (⟨some d,none,.load true size x⟩::l) fs Q:=mQ (v:=.agg cs) hx hm (by omega) (by rw [List.drop_zero,List.take_of_length_le (by omega)];rfl) hw
theorem oI {size:Nat} {x y:Od} {b ty:Nat} {cs ds:List C} {H':List HA} (hx:fs.ev x=.c (.ptr b 0)) (hy:fs.ev y=.agg ds) (hs:ds.length=size) (hc:cs.length=size) (hr:By fs.H (.blk b (.cells ty cs)) (.blk b (.cells ty ds)) H') (hw:FL call B l (fs.heap H') Q):FL call B (⟨none,none,.store size x y⟩::l) fs Q:=by
 have e:kN cs 0 ds=ds:=by rw [aCf,List.take_zero,List.nil_append,List.drop_eq_nil_of_le (by omega),List.append_nil]
 exact aGQ (ds:=ds) hx hy rfl (by rw [e];exact hr) hs (by omega) hw
end
open Go.RowKit
open Go.Eng (Od)
def bTZ (op : BinOp) (k k' : IntKind) (a b : Int) : Option AV := if k = k' then (match op with
  | .lss=>some (.c (.v (.bool (decide (a<b)))))
  | .gtr=>some (.c (.v (.bool (decide (b<a)))))
  | .leq=>some (.c (.v (.bool (decide (a≤b)))))
  | .geq=>some (.c (.v (.bool (decide (b≤a)))))
  | .eql=>some (.c (.v (.bool (decide (a=b)))))
  | .neq=>some (.c (.v (.bool (!decide (a=b)))))
  | _=>none) else none
def aXb:Bool→AV→Option AV
 | true,v=>some v
 | false,v=>match v with
  | .c c=>some (.c c)
  | .agg l=>some (.agg l)
  | .tup l=>some (.tup l)
  | .any=>some .any
theorem aJc {lz:Bool} {u v:AV} (h:aXb lz u=some v):u=v:=by
 cases lz<;>cases u<;>(injection h)
def aEy (lz:Bool) (fs:Sf):lS→Option AV
 | .mv x=>aXb lz (fs.ev x)
 | .pick c a b=>match fs.ev c with
  | .c (.v (.bool true))=>aXb lz (fs.ev a)
  | .c (.v (.bool false))=>aXb lz (fs.ev b)
  | _=>none
 | .fad off x=>match fs.ev x with
  | .c (.ptr b o)=>some (.c (.ptr b (o+off)))
  | _=>none
 | .ext x i=>match fs.ev x with
  | .tup vs=>vs[i]?
  | _=>none
 | .un .not x=>match fs.ev x with
  | .c (.v (.bool b))=>some (.c (.v (.bool (!b))))
  | _=>none
 | .bin op x y=>match fs.ev x,fs.ev y with
  | .c (.v (.int k a)),.c (.v (.int k' b))=>bTZ op k k' a b
  | _,_=>none
 | _=>none
theorem bMn {lz:Bool} {fs:Sf} {o:lS} {v:AV} (h:aEy lz fs o=some v):aS5 o=true:=by cases o<;>first | rfl | cases h
theorem aZw {fs:Sf} {st:AS} (r:∀ x,st.ev x=fs.ev x) {lz:Bool} {o:lS} {v:AV} (h:aEy lz fs o=some v):callee st o=none∧bQ o st=some v:=by
 unfold aEy at h
 split at h
 ·exact ⟨rfl,by simp only [bQ,r,aJc h]⟩
 ·rename_i c a b
  split at h
  ·rename_i hc;exact ⟨rfl,by simp [bQ,r,hc,AV.bool?,aJc h]⟩
  ·rename_i hc;exact ⟨rfl,by simp [bQ,r,hc,AV.bool?,aJc h]⟩
  cases h
 ·split at h
  ·rename_i hc;injection h with h;subst h;exact ⟨rfl,by simp only [bQ,r,hc]⟩
  cases h
 ·split at h
  ·rename_i hc;exact ⟨rfl,by simp only [bQ,r,hc,h]⟩
  cases h
 ·split at h
  ·rename_i hc;injection h with h;subst h;exact ⟨rfl,by simp only [bQ,r,hc,AV.val?];rfl⟩
  cases h
 ·rename_i op x y
  split at h
  ·rename_i k a k' b h1 h2
   refine ⟨rfl,?_⟩
   unfold bTZ at h
   split at h
   ·rename_i hk
    subst hk
    split at h<;>first | (injection h with h;subst h;simp only [bQ,r,h1,h2,AV.val?,bSn,bT5,bSe,bSC,bSi,bLS];rfl) | cases h
   cases h
  cases h
 cases h
def aVl (lz:Bool) (fs:Sf) (i:I):Option Sf:=match i.d with
 | none=>none
 | some d=>match i.g with
  | none=>match aEy lz fs i.o with
   | some v=>some (fs.put d v)
   | none=>none
  | some (s,w)=>match fs.e s,w with
   | .tup [],_=>some (fs.put d (.tup []))
   | .c (.v (.bool true)),false=>some (fs.put d (.tup []))
   | .c (.v (.bool false)),true=>some (fs.put d (.tup []))
   | .c (.v (.bool true)),true=>match aEy lz fs i.o with
    | some v=>some (fs.put d v)
    | none=>none
   | .c (.v (.bool false)),false=>match aEy lz fs i.o with
    | some v=>some (fs.put d v)
    | none=>none
   | _,_=>none
inductive PS (fs:Sf):I→Sf→Prop where
 | on (d:Nat) (g:Option (Nat×Bool)) (o:lS) (v:AV) (lz:Bool) (hg:GK fs ⟨some d,g,o⟩) (h:aEy lz fs o=some v):PS fs ⟨some d,g,o⟩ (fs.put d v)
 | off (d s:Nat) (w:Bool) (o:lS) (hs:fs.e s=.c (.v (.bool (!w)))∨fs.e s=.tup []):PS fs ⟨some d,some (s,w),o⟩ (fs.put d (.tup []))
theorem aQo {lz:Bool} {fs fs':Sf} {i:I} (h:aVl lz fs i=some fs'):PS fs i fs':=by
 obtain ⟨d,g,o⟩:=i
 cases d with
 | none=>cases h
 | some d =>
  cases g with
  | none =>
   simp only [aVl] at h
   cases hv:aEy lz fs o with
   | none=>rw [hv] at h;cases h
   | some v=>rw [hv] at h;injection h with h;subst h;exact .on _ _ _ _ lz trivial hv
  | some p =>
   obtain ⟨s,w⟩:=p
   simp only [aVl] at h
   split at h
   ·rename_i hs;injection h with h;subst h;exact .off _ _ _ _ (.inr hs)
   ·rename_i hs;injection h with h;subst h;exact .off _ _ _ _ (.inl hs)
   ·rename_i hs;injection h with h;subst h;exact .off _ _ _ _ (.inl hs)
   ·rename_i hs
    cases hv:aEy lz fs o with
    | none=>rw [hv] at h;cases h
    | some v=>rw [hv] at h;injection h with h;subst h;exact .on _ _ _ _ lz hs hv
   ·rename_i hs
    cases hv:aEy lz fs o with
    | none=>rw [hv] at h;cases h
    | some v=>rw [hv] at h;injection h with h;subst h;exact .on _ _ _ _ lz hs hv
   cases h
def lzb (k:Nat):Bool:=Nat.beq (k % 2) 1
def bFJ:Nat→Nat→List I→Sf→Option (List I×Sf)
 | 0,_,_,_=>none
 | n+1,k,l,fs=>match Nat.beq k 1 with
  | true=>some (l,fs)
  | false=>match l with
   | []=>none
   | i::l=>match aVl (lzb k) fs i with
    | some fs'=>bFJ n (k / 2) l fs'
    | none=>none
def aLd:Nat→Nat→List I→XC→Sf→Option (List I×XC×Sf)
 | 0,_,_,_,_=>none
 | n+1,k,l,c,fs=>match Nat.beq k 1 with
  | true=>some (l,c,fs)
  | false=>match l with
   | i::l=>match aVl (lzb k) fs i with
    | some fs'=>aLd n (k / 2) l c fs'
    | none=>none
   | []=>match c with
    | .seq (.region l) b=>aLd n (k / 2) l b fs
    | .seq (.seq a b) c=>aLd n (k / 2) [] (.seq a (.seq b c)) fs
    | .seq .skip b=>aLd n (k / 2) [] b fs
    | .seq (.cond x a b) r=>aLd n (k / 2) [] (.cond x (.seq a r) (.seq b r)) fs
    | .cond x a b=>match fs.ev x with
     | .c (.v (.bool true))=>aLd n (k / 2) [] a fs
     | .c (.v (.bool false))=>aLd n (k / 2) [] b fs
     | _=>none
    | _=>none
def bIC:Nat→Nat→Nat→List D→Sf→Option (List D×Nat×Sf)
 | 0,_,_,_,_=>none
 | n+1,k,j,l,fs=>match Nat.beq k 1 with
  | true=>some (l,j,fs)
  | false=>match l with
   | []=>none
   | d::l=>match aVl (lzb k) fs d.i with
    | some fs'=>bIC n (k / 2) (j+1) l fs'
    | none=>none
section
variable {call:eE} {B:pK} {fs fs':Sf} {l l':List I} {k:Nat} {c c':XC}
theorem bGy {Q:Sf→Prop} {d:Nat} {o:lS} {v:AV} (h:∀ st,Rf B fs st→callee st o=none∧bQ o st=some v) (hw:FL call B l (fs.put d v) Q):FL call B (⟨some d,none,o⟩::l) fs Q:=fun st r=>O0 (i_q (h st r).1 (h st r).2) (hw _ (r.put d v))
theorem bLr {i:I} {Q:Sf→Prop} (h:PS fs i fs') (hw:FL call B l fs' Q):FL call B (i::l) fs Q:=by
 cases h with
 | on d g o v lz hg h =>
  cases g with
  | none=>exact bGy (fun st r=>aZw r.ev h) hw
  | some p=>exact lD (want:=p.2) (s:=p.1) hg (bGy (fun st r=>aZw r.ev h) hw)
 | off d s w o hs =>
  rcases hs with hs | hs
  ·exact lX hs hw
  exact bRO hs hw
theorem bJG {Q:Sf→Prop}:∀ {n k:Nat} {l:List I} {fs:Sf},bFJ n k l fs=some (l',fs')→FL call B l' fs' Q→FL call B l fs Q:=by
 intro n
 induction n with
 | zero=>intro k l fs h;cases h
 | succ n ih =>
  intro k l fs h hw
  unfold bFJ at h
  split at h
  ·injection h with h
   have h1:=(Prod.mk.inj h).1
   have h2:=(Prod.mk.inj h).2
   subst h1 h2
   exact hw
  split at h
  ·cases h
  rename_i i l
  split at h
  ·rename_i fs1 hs;exact bLr (aQo hs) (ih h hw)
  cases h
theorem R1 (k:Nat) {Q:Sf→Prop} (h:bFJ 500 k l fs=some (l',fs')) (hw:FL call B l' fs' Q):FL call B l fs Q:=bJG h hw
theorem R0 (k:Nat) {Q:Sf→Prop} (h:bFJ 500 k l fs=some ([],fs')) (hw:Q fs'):FL call B l fs Q:=R1 k h (lN hw)
theorem aFN {Q:Exit→Sf→Prop} (h:FL call B [] fs fun fs=>FX call k B c fs Q):FX call k B c fs Q:=fun st r=>by
 obtain ⟨fs',r',q⟩:=h st r
 exact q st r'
theorem bKV {Q:Exit→Sf→Prop}:∀ {n m:Nat} {l:List I} {c:XC} {fs:Sf},aLd n m l c fs=some (l',c',fs')→(FL call B l' fs' fun fs=>FX call k B c' fs Q)→FL call B l fs fun fs=>FX call k B c fs Q:=by
 intro n
 induction n with
 | zero=>intro m l c fs h;cases h
 | succ n ih =>
  intro m l c fs h hw
  unfold aLd at h
  split at h
  ·injection h with h
   have h1:=(Prod.mk.inj h).1
   have h2:=(Prod.mk.inj (Prod.mk.inj h).2).1
   have h3:=(Prod.mk.inj (Prod.mk.inj h).2).2
   subst h1 h2 h3
   exact hw
  split at h
  ·split at h
   ·rename_i fs1 hs;exact bLr (aQo hs) (ih h hw)
   cases h
  refine lN ?_
  split at h
  ·exact xR (ih h hw)
  ·exact Xb (aFN (ih h hw))
  ·exact cP (aFN (ih h hw))
  ·exact Ew (aFN (ih h hw))
  ·split at h
   ·rename_i hc;exact aRo hc (aFN (ih h hw))
   ·rename_i hc;exact aDJ hc (aFN (ih h hw))
   cases h
  cases h
theorem R2 (m:Nat) {Q:Exit→Sf→Prop} (h:aLd 500 m l c fs=some (l',c',fs')) (hw:FL call B l' fs' fun fs=>FX call k B c' fs Q):FL call B l fs fun fs=>FX call k B c fs Q:=bKV h hw
theorem R3 (m:Nat) {Q:Exit→Sf→Prop} (h:aLd 500 m l c fs=some ([],c',fs')) (hw:FX call k B c' fs' Q):FL call B l fs fun fs=>FX call k B c fs Q:=R2 m h (lN hw)
theorem R4 (m:Nat) {Q:Exit→Sf→Prop} (h:aLd 500 m [] c fs=some (l',c',fs')) (hw:FL call B l' fs' fun fs=>FX call k B c' fs Q):FX call k B c fs Q:=aFN (R2 m h hw)
theorem R5 (m:Nat) {Q:Exit→Sf→Prop} (h:aLd 500 m [] c fs=some ([],c',fs')) (hw:FX call k B c' fs' Q):FX call k B c fs Q:=aFN (R3 m h hw)
end
section
variable {call:eE} {B:pK} {an:List Nat} {j:Nat} {l l':List CE.D} {fs fs':Sf} {T:dA} {tag last:Nat} {pj lj:List Nat} {Q:Sf→Prop}
theorem bUq {i:I} {af:List Nat} (h:PS fs i fs') (hw:FG call B an (j+1) l fs' T tag last pj lj Q):FG call B an j (⟨i,af⟩::l) fs T tag last pj lj Q:=by
 cases h with
 | on d g o v lz hg h=>exact gP rfl (bMn h) hg (bGy (fun st r=>aZw r.ev h) (lN hw))
 | off d s w o hs=>exact bOl rfl rfl hs hw
theorem bJ8:∀ {n k j j':Nat} {l:List CE.D} {fs:Sf},bIC n k j l fs=some (l',j',fs')→FG call B an j' l' fs' T tag last pj lj Q→FG call B an j l fs T tag last pj lj Q:=by
 intro n
 induction n with
 | zero=>intro k j j' l fs h;cases h
 | succ n ih =>
  intro k j j' l fs h hw
  unfold bIC at h
  split at h
  ·injection h with h
   have h1:=(Prod.mk.inj h).1
   have h2:=(Prod.mk.inj (Prod.mk.inj h).2).1
   have h3:=(Prod.mk.inj (Prod.mk.inj h).2).2
   subst h1 h2 h3
   exact hw
  split at h
  ·cases h
  split at h
  ·rename_i fs1 hs;exact bUq (aQo hs) (ih h hw)
  cases h
theorem G1 (k:Nat) {j':Nat} (h:bIC 500 k j l fs=some (l',j',fs')) (hw:FG call B an j' l' fs' T tag last pj lj Q):FG call B an j l fs T tag last pj lj Q:=bJ8 h hw
theorem G0 (k:Nat) {j':Nat} (h:bIC 500 k j l fs=some ([],j',fs')) (hw:Q fs'):FG call B an j l fs T tag last pj lj Q:=G1 k h (mL hw)
end
abbrev Cb (b:Bool):C:=.v (.bool b)
abbrev Cs (s:ByteArray):C:=.v (.string s)
abbrev Ci (n:Int):C:=.v (.int .i64 n)
abbrev Cu (n:Int):C:=.v (.int .u8 n)
abbrev Cz:C:=.v (.slice none 0 0)
abbrev Ab (b:Bool):AV:=.c (.v (.bool b))
abbrev Ai (n:Int):AV:=.c (.v (.int .i64 n))
abbrev Az (n:Nat):AV:=.c (.v (.int .i64 (n:Int)))
abbrev Ad (n:Int):AV:=.c (.v (.int .u32 n))
abbrev Ap (b:Nat):AV:=.c (.ptr b 0)
abbrev Aw (b n:Nat):AV:=.c (.sl b 0 n 1)
def gkb (e:Lq):Option (Nat×Bool)→Bool
 | none=>true
 | some (s,w)=>match e s with
  | .c (.v (.bool b))=>match b,w with
   | true,true=>true
   | false,false=>true
   | _,_=>false
  | _=>false
theorem gk {fs:Sf} {d:Option Nat} {g:Option (Nat×Bool)} {o:lS} (h:gkb fs.e g=true):GK fs ⟨d,g,o⟩:=by
 cases g with
 | none=>trivial
 | some p =>
  obtain ⟨s,w⟩:=p
  show fs.e s=.c (.v (.bool w))
  unfold gkb at h
  simp only at h
  split at h
  ·rename_i b hb
   rw [hb]
   cases b<;>cases w<;>first | rfl | cases h
  cases h
theorem ti {z z':dA} {H:List HA} [h:Zl z z']:∀ b k,z b k→tz z' H b k:=fun b k g=>.inl (h.h b k g)
theorem Ht {z:dA} {b:Nat} {k:mU} {H:List HA}:tz z (.blk b k::H) b k:=.inr mem0
theorem Y1 {a x:HA} {l:List HA}:a∈x::a::l:=mC mem0
theorem Y2 {a x y:HA} {l:List HA}:a∈x::y::a::l:=mC Y1
theorem Y3 {a x y w:HA} {l:List HA}:a∈x::y::w::a::l:=mC Y2
theorem Y4 {a x y w v:HA} {l:List HA}:a∈x::y::w::v::a::l:=mC Y3
theorem P1 {x a a':HA} {l:List HA}:By (x::a::l) a a' (x::a'::l):=mR iW
theorem P2 {x y a a':HA} {l:List HA}:By (x::y::a::l) a a' (x::y::a'::l):=mR P1
theorem P3 {x y w a a':HA} {l:List HA}:By (x::y::w::a::l) a a' (x::y::w::a'::l):=mR P2
theorem At.m {z z':dA} [w:Zl z z'] {b p:Nat} {cs:List C} (h:At z b p cs):At z' b p cs:=h.mono w.h
theorem SZ.m {α:Type} {size:Nat} {R:RT α} [RMono R] {z z':dA} [w:Zl z z'] {v:AV} {l:List α} (h:SZ size R z v l):SZ size R z' v l:=h.mono w.h
theorem CZ.m {α:Type} {size:Nat} {R:RT α} [RMono R] {z z':dA} [w:Zl z z'] {v:C} {l:List α} (h:CZ size R z v l):CZ size R z' v l:=h.mono w.h
theorem bGv {e:Lq}:∀ {l:List (Nat×AV)},l.map (fun p=>e p.1)=l.map (·.2)→Vx e l
 | [],_=>.nil
 | (_,_)::_,h=>.cons _ _ _ (List.cons.inj h).1 (bGv (List.cons.inj h).2)
theorem LI.m {z0 z:dA} {H:List HA} {ls:List (Nat×AV)} {e:Lq} [w:Zl z0 z] (Hx:List HA) (h:ls.map (fun p=>e p.1)=ls.map (·.2)):LI z0 H ls ⟨e,z,Hx++H⟩:=.mk Hx w.h (bGv h)
theorem LZ.m {z0 z:dA} {H:List HA} {ls:List (Nat×AV)} {e:Lq} [w:Zl z0 z] (Hx:List HA) (h:ls.map (fun p=>e p.1)=ls.map (·.2)):LZ z0 z H ls ⟨e,z,Hx++H⟩:=.mk Hx w.h (bGv h)
theorem kK {n:Nat} (h:n<18446744073709551616):n<18446744073709551616:=h
theorem cQ {a b:Bool} (h:a=b):AV.c (.v (.bool a))=.c (.v (.bool b)):=by rw [h]
theorem rI {fs:Sf} {i:Nat} {v:AV} {Post:AV→dA→Prop} (h:fs.e i=v) (hp:Post v fs.z):aZq [.t i] (fun v z' H'=>H'=[]∧Post v z') .ret fs:=rQ (.inl rfl) (rt h rn) hp
section
variable {call:eE} {B:pK} {fs:Sf} {l:List I} {Q:Sf→Prop} {d:Nat}
theorem lE (z0:dA) {f:Nat} {args:List Od} {vs:List AV} {x:AV} (hc:FC call f vs z0 fun v _=>v=x) (ha:args.map fs.ev=vs) (hz0:fs.z=z0)
  (hw:∀ z',zle z0 z'→FL call B l (fs.res d x z' fs.H) Q):FL call B (⟨some d,none,.call f args⟩::l) fs Q:=lZ z0 hc ha hz0 fun v z' hz hv=>by subst hv;exact hw z' hz
end
section
variable {call:eE} {B:pK} {an:List Nat} {j:Nat} {l:List CE.D} {fs:Sf} {T:dA} {tag last:Nat} {pj lj:List Nat} {Q:Sf→Prop} {d:Nat} {x:Od} {af:List Nat} {g:Option (Nat×Bool)}
theorem zG {b o ty:Nat} {cs:List C} {c:C} (hg:gkb fs.e g=true) (hx:fs.ev x=.c (.ptr b o)) (hT:T b (.cells ty cs)) (h:cs[o]? = some c) (hw:FG call B an (j+1) l (fs.put d (.c c)) T tag last pj (j::lj) Q):FG call B an j (⟨⟨some d,g,.load false 1 x⟩,af⟩::l) fs T tag last pj lj Q:=aXk (i:=⟨_,_,.load _ _ _⟩) rfl rfl (gk hg) hx hT h sR hw
theorem Ou {b o ty:Nat} {cs:List C} {c0 c1:C} (hg:gkb fs.e g=true) (hx:fs.ev x=.c (.ptr b o)) (hT:T b (.cells ty cs)) (h:(cs.drop o).take 2=[c0,c1]) (hw:FG call B an (j+1) l (fs.put d (.agg [c0,c1])) T tag last pj (j::lj) Q):FG call B an j (⟨⟨some d,g,.load true 2 x⟩,af⟩::l) fs T tag last pj lj Q:=bQ3 (i:=⟨_,_,.load _ _ _⟩) rfl rfl (gk hg) hx hT h sR hw
theorem gl4 {b o ty:Nat} {cs:List C} {c0 c1 c2 c3:C} (hg:gkb fs.e g=true) (hx:fs.ev x=.c (.ptr b o)) (hT:T b (.cells ty cs)) (h:(cs.drop o).take 4=[c0,c1,c2,c3]) (hw:FG call B an (j+1) l (fs.put d (.agg [c0,c1,c2,c3])) T tag last pj (j::lj) Q):FG call B an j (⟨⟨some d,g,.load true 4 x⟩,af⟩::l) fs T tag last pj lj Q:=bHm (i:=⟨_,_,.load _ _ _⟩) rfl rfl (gk hg) hx hT h sR hw
theorem glP {p:AV} {zz:dA} {k:IntKind} {n:Int} (hg:gkb fs.e g=true) (hx:fs.ev x=p) (hp:PE zz p (.int k n)) (hz:∀ b k,zz b k→T b k) (hw:FG call B an (j+1) l (fs.put d (.c (.v (.int k n)))) T tag last pj (j::lj) Q):FG call B an j (⟨⟨some d,g,.load false 1 x⟩,af⟩::l) fs T tag last pj lj Q:=bNo (i:=⟨_,_,.load _ _ _⟩) rfl rfl (gk hg) hx hp hz hw
theorem glA {agg:Bool} {size b q p:Nat} {cs:List C} {z:dA} {v:AV} {off:Nat} (hg:gkb fs.e g=true) (hx:fs.ev x=.c (.ptr b q)) (ha:At z b p cs) (hz:∀ b k,z b k→T b k) (hq:q=p+off) (hl:off+size≤cs.length) (hv:I0 agg ((cs.drop off).take size)=v)
  (hw:FG call B an (j+1) l (fs.put d v) T tag last pj (j::lj) Q):FG call B an j (⟨⟨some d,g,.load agg size x⟩,af⟩::l) fs T tag last pj lj Q:=oD (i:=⟨_,_,.load _ _ _⟩) rfl rfl (gk hg) hx ha hz hq hl hv sR hw
theorem Me {agg:Bool} {size:Nat} {b o:Nat} {k:mU} {full:List C} {v:AV} (hg:gkb fs.e g=true) (hx:fs.ev x=.c (.ptr b o)) (hT:T b k) (hk:k.cs=some full) (hl:o+size≤full.length) (hv:I0 agg ((full.drop o).take size)=v)
  (hw:FG call B an (j+1) l (fs.put d v) T tag last pj (j::lj) Q):FG call B an j (⟨⟨some d,g,.load agg size x⟩,af⟩::l) fs T tag last pj lj Q:=Hi (i:=⟨_,_,.load _ _ _⟩) rfl rfl (gk hg) hx hT hk hl hv sR hw
def gck (an:List Nat) (j last:Nat) (pj:List Nat):Bool:=Nat.beq (an.getD j 0 ||| last) (an.getD j 0) && pj.all fun q=>(an.getD j 0).testBit q
theorem gC (z0:dA) {f:Nat} {args:List Od} {vs:List AV} {Post:AV→dA→Prop} (hc:FC call f vs z0 Post) (hg:gkb fs.e g=true) (hb:gck an j last pj=true) (ha:args.map fs.ev=vs) (hz0:fs.z=z0)
  (hw:∀ v z',zle z0 z'→Post v z'→FG call B an (j+1) l (fs.res d v z' fs.H) T (j+1) (an.getD j 0 ||| (1 <<< j)) [] lj Q):FG call B an j (⟨⟨some d,g,.call f args⟩,af⟩::l) fs T tag last pj lj Q:=by
 obtain ⟨h1,h2⟩:=Bool.and_eq_true_iff.1 hb
 exact gZ z0 (i:=⟨_,_,.call _ _⟩) hc rfl rfl (gk hg) h1 h2 ha hz0 hw
theorem gE (z0:dA) {f:Nat} {args:List Od} {vs:List AV} {x:AV} (hc:FC call f vs z0 fun v _=>v=x) (hg:gkb fs.e g=true) (hb:gck an j last pj=true) (ha:args.map fs.ev=vs) (hz0:fs.z=z0)
  (hw:∀ z',zle z0 z'→FG call B an (j+1) l (fs.res d x z' fs.H) T (j+1) (an.getD j 0 ||| (1 <<< j)) [] lj Q):FG call B an j (⟨⟨some d,g,.call f args⟩,af⟩::l) fs T tag last pj lj Q:=gC z0 hc hg hb ha hz0 fun v z' hz hv=>by subst hv;exact hw z' hz
theorem gA {ty:Nat} {zero:List Value} {cs:List C} (hg:gkb fs.e g=true) (hc:zero.map (fun v=>C.v v)=cs) (hw:∀ b,(∀ k,¬ T b k)→FG call B an (j+1) l (fs.own d (.c (.ptr b 0)) (.blk b (.cells ty cs))) T tag last (j::pj) lj Q):FG call B an j (⟨⟨some d,g,.alloc ty zero⟩,af⟩::l) fs T tag last pj lj Q:=by
 subst hc
 exact wE (k:=.cells ty (zero.map fun v=>.v v)) (w:=fun b=>.c (.ptr b 0)) rfl (gk hg) rfl (fun _=>rfl) (fun st hst=>rfl) hw
def gcl (an:List Nat) (j last:Nat) (pj lj:List Nat):Bool:=gck an j last pj && lj.all fun q=>(an.getD j 0).testBit q
theorem gS {s:Nat} {y:Od} {b o:Nat} (hg:gkb fs.e g=true) (hb:gcl an j last pj lj=true) (hx:fs.ev x=.c (.ptr b o))
  (h:FL call B [⟨none,none,.store s x y⟩] fs fun fs'=>FG call B an (j+1) l fs' (fun _ _=>False) (j+1) (an.getD j 0 ||| (1 <<< j)) [] [] Q):FG call B an j (⟨⟨none,g,.store s x y⟩,af⟩::l) fs T tag last pj lj Q:=by
 obtain ⟨h1,h2⟩:=Bool.and_eq_true_iff.1 hb
 obtain ⟨h3,h4⟩:=Bool.and_eq_true_iff.1 h1
 exact bIJ (i:=⟨_,_,.store _ _ _⟩) rfl (gk hg) h3 h4 h2 hx h
theorem gT {s:Nat} {y:Od} {b o:Nat} (hg:gkb fs.e g=true) (hb:gck an j last pj=true) (hx:fs.ev x=.c (.ptr b o)) (hT:∀ k,¬ T b k)
  (h:FL call B [⟨none,none,.store s x y⟩] fs fun fs'=>FG call B an (j+1) l fs' T (j+1) (an.getD j 0 ||| (1 <<< j)) [] lj Q):FG call B an j (⟨⟨none,g,.store s x y⟩,af⟩::l) fs T tag last pj lj Q:=by
 obtain ⟨h3,h4⟩:=Bool.and_eq_true_iff.1 hb
 exact bCR (i:=⟨_,_,.store _ _ _⟩) rfl (gk hg) h3 h4 hx hT h
end
open Go.RowKit
open Go.Eng (Od)
abbrev Rg:=Nat×Nat×XC
def IC.rgN:IC→Nat
 | .seq a b=>a.rgN+b.rgN
 | .cond _ a b=>a.rgN+b.rgN
 | .block _ b=>b.rgN
 | .loop b=>b.rgN
 | .range _ _ _ a b=>1+(a.rgN+b.rgN)
 | _=>0
def XC.noGo (g:Od) (ps:List Nat):XC:=.range g ps (.range g ps .bad .bad 0 0 .bad) .bad 0 0 .bad
def XC.lp:XC→XC
 | .seq (.region [⟨some nx,none,.nxtM (.t it)⟩,⟨some m1,none,.ext (.t n1) 0⟩]) (.seq (.cond (.t m2) .skip (.exit out)) b)=>match Nat.beq nx n1 && Nat.beq m1 m2 with
  | true=>.mrange nx m1 it out b
  | false=>.loop (.seq (.region [⟨some nx,none,.nxtM (.t it)⟩,⟨some m1,none,.ext (.t n1) 0⟩]) (.seq (.cond (.t m2) .skip (.exit out)) b))
 | b=>.loop b
theorem XC.lp_ic (b:XC):b.lp.ic=.loop b.ic:=by
 unfold XC.lp
 split
 ·split
  ·rename_i h
   simp only [Bool.and_eq_true] at h
   cases Nat.eq_of_beq_eq_true h.1
   cases Nat.eq_of_beq_eq_true h.2
   rfl
  rfl
 rfl
theorem XC.lp_ok (b:XC):b.lp.ok=b.ok:=by
 unfold XC.lp
 split
 ·split<;>simp [XC.ok]
 rfl
theorem XC.lp_rgs (b:XC):b.lp.rgs=b.rgs:=by
 unfold XC.lp
 split
 ·split<;>simp [XC.rgs]
 rfl
def XC.of:List Rg→IC→XC
 | _,.skip=>.skip
 | _,.region l=>.region l
 | _,.draw l=>.draw l (bVB l)
 | r,.seq a b=>.seq (XC.of r a) (XC.of (r.drop a.rgN) b)
 | r,.cond c a b=>.cond c (XC.of r a) (XC.of (r.drop a.rgN) b)
 | r,.block id b=>.block id (XC.of r b)
 | r,.loop b=>(XC.of r b).lp
 | _,.exit id=>.exit id
 | _,.ret=>.ret
 | _,.bad=>.bad
 | [],.range g ps _ a b=>XC.noGo g ps
 | (h,n,c)::r,.range g ps ok a b=>match ok with
  | true=>.range g ps (XC.of r a) (XC.of (r.drop a.rgN) b) h n c
  | false=>XC.noGo g ps
theorem XC.of_ic (c:IC):∀ r:List Rg,(XC.of r c).ok=true→(XC.of r c).ic=c:=by
 induction c with
 | seq a b ha hb =>
  intro r h
  simp only [XC.of,XC.ok,Bool.and_eq_true] at h
  simp only [XC.of,XC.ic,ha _ h.1,hb _ h.2]
 | cond c a b ha hb =>
  intro r h
  simp only [XC.of,XC.ok,Bool.and_eq_true] at h
  simp only [XC.of,XC.ic,ha _ h.1,hb _ h.2]
 | block id b hb=>intro r h;simp only [XC.of,XC.ok] at h;simp only [XC.of,XC.ic,hb _ h]
 | loop b hb=>intro r h;simp only [XC.of,XC.lp_ok] at h;simp only [XC.of,XC.lp_ic,hb _ h]
 | range g ps ok a b ha hb =>
  intro r h
  match r with
  | []=>simp [XC.of,XC.noGo,XC.ok,XC.noR] at h
  | (h',n,c)::r =>
   cases ok with
   | false=>simp [XC.of,XC.noGo,XC.ok,XC.noR] at h
   | true =>
    simp only [XC.of,XC.ok,Bool.and_eq_true] at h
    simp only [XC.of,XC.ic,ha _ h.1.1.1.1,hb _ h.1.1.1.2]
 | _=>intro r h;rfl
theorem XC.of_rgs (P:Program) (c:IC):∀ r:List Rg,(∀ q∈r,gU P q.1 ⟨q.2.1,q.2.2,[]⟩∧∀ p∈q.2.2.rgs,gU P p.1 p.2)→(XC.of r c).ok=true→∀ p∈(XC.of r c).rgs,gU P p.1 p.2:=by
 have hd:∀ (r:List Rg) n,(∀ q∈r,gU P q.1 ⟨q.2.1,q.2.2,[]⟩∧∀ p∈q.2.2.rgs,gU P p.1 p.2)→∀ q∈r.drop n,gU P q.1 ⟨q.2.1,q.2.2,[]⟩∧∀ p∈q.2.2.rgs,gU P p.1 p.2:=fun r n h q hq=>h q (List.mem_of_mem_drop hq)
 induction c with
 | seq a b ha hb =>
  intro r hr h p hp
  simp only [XC.of,XC.ok,Bool.and_eq_true] at h
  simp only [XC.of,XC.rgs,List.mem_append] at hp
  rcases hp with hp | hp
  ·exact ha _ hr h.1 p hp
  exact hb _ (hd _ _ hr) h.2 p hp
 | cond c a b ha hb =>
  intro r hr h p hp
  simp only [XC.of,XC.ok,Bool.and_eq_true] at h
  simp only [XC.of,XC.rgs,List.mem_append] at hp
  rcases hp with hp | hp
  ·exact ha _ hr h.1 p hp
  exact hb _ (hd _ _ hr) h.2 p hp
 | block id b hb=>intro r hr h;simp only [XC.of,XC.ok] at h;exact hb _ hr h
 | loop b hb=>intro r hr h p hp;simp only [XC.of,XC.lp_ok] at h;simp only [XC.of,XC.lp_rgs] at hp;exact hb _ hr h p hp
 | range g ps ok a b ha hb =>
  intro r hr h p hp
  match r with
  | []=>simp [XC.of,XC.noGo,XC.ok,XC.noR] at h
  | (h',n,c)::r =>
   cases ok with
   | false=>simp [XC.of,XC.noGo,XC.ok,XC.noR] at h
   | true =>
    simp only [XC.of,XC.ok,Bool.and_eq_true] at h
    simp only [XC.of,XC.rgs,List.mem_cons,List.mem_append] at hp
    have h0:=hr (h',n,c) (List.mem_cons_self ..)
    have hr':∀ q∈r,gU P q.1 ⟨q.2.1,q.2.2,[]⟩∧∀ p∈q.2.2.rgs,gU P p.1 p.2:=fun q hq=>hr q (List.mem_cons_of_mem _ hq)
    rcases hp with rfl | (hp | hp) | hp
    ·exact h0.1
    ·exact ha _ hr' h.1.1.1.1 p hp
    ·exact hb _ (hd _ _ hr') h.1.1.1.2 p hp
    exact h0.2 p hp
 | _=>intro r hr h p hp;simp [XC.of,XC.rgs] at hp
def FE.of (P:Program) (fn:Func) (r:List Rg:=[]):FE:=⟨fn.ntmps,XC.of r (IC.ofS P fn.ntmps (fn.body.getD .skip)),fn.results.toList.filterMap (RR.of P)⟩
structure Fc (P:Program) (fn:Func) (r:List Rg:=[]) where
 e:FE
 h:FE.of P fn r=e
def Fc.m {P:Program} {fn:Func} {r:List Rg} (e:FE) (h:FE.of P fn r=e:=by conv=>lhs;reduce;simp only [Int.ofNat_eq_natCast,Int.cast_ofNat_Int]):Fc P fn r:=⟨e,h⟩
def Fc.chk {P : Program} {fn : Func} {r : List Rg} (g : Fc P fn r) : Bool := fn.body.isSome && (fn.name != "runtime.NumGoroutine") && (fn.results.toList.all fun r => (RR.of P r).isSome) && g.e.x.ok
theorem Fc.ok {P:Program} {f:Nat} {fn:Func} {r:List Rg} (g:Fc P fn r) (hf:P.funcs[f]? = some fn) (hc:g.chk=true:=by kernel_rfl):gU P f g.e:=by
 obtain ⟨e,rfl⟩:=g
 simp only [Fc.chk,Bool.and_eq_true] at hc
 obtain ⟨⟨⟨h1,h2⟩,h3⟩,h4⟩:=hc
 obtain ⟨c,hc⟩:=Option.isSome_iff_exists.1 h1
 refine ⟨fn,c,hf,rfl,hc,h2,?_,?_,h4⟩
 ·show IC.ofS P fn.ntmps c=(XC.of _ _).ic
  refine Eq.trans ?_ (XC.of_ic _ _ h4).symm
  rw [hc]
  rfl
 show fn.results.toList.map (RR.of P)=(fn.results.toList.filterMap (RR.of P)).map some
 rw [List.all_eq_true] at h3
 generalize fn.results.toList=l at h3
 induction l with
 | nil=>rfl
 | cons a l ih =>
  obtain ⟨b,hb⟩:=Option.isSome_iff_exists.1 (h3 a (List.mem_cons_self ..))
  rw [List.map_cons,List.filterMap_cons_some hb,List.map_cons,hb,ih fun r hr=>h3 r (List.mem_cons_of_mem _ hr)]
theorem Fc.rg {P:Program} {fn:Func} {r:List Rg} (g:Fc P fn r) (hr:∀ q∈r,gU P q.1 ⟨q.2.1,q.2.2,[]⟩∧∀ p∈q.2.2.rgs,gU P p.1 p.2) (hc:g.chk=true:=by kernel_rfl):∀ p∈g.e.x.rgs,gU P p.1 p.2:=by
 obtain ⟨e,rfl⟩:=g
 simp only [Fc.chk,Bool.and_eq_true] at hc
 exact XC.of_rgs P _ r hr hc.2
theorem Fc.rg0 {P:Program} {fn:Func} (g:Fc P fn) (hc:g.chk=true:=by kernel_rfl):∀ p∈g.e.x.rgs,gU P p.1 p.2:=g.rg (fun q hq=>absurd hq List.not_mem_nil) hc
theorem bO5 {P:Program} {h n:Nat} {c:XC} {r:List Rg} (h0:gU P h ⟨n,c,[]⟩) (h1:∀ p∈c.rgs,gU P p.1 p.2) (hr:∀ q∈r,gU P q.1 ⟨q.2.1,q.2.2,[]⟩∧∀ p∈q.2.2.rgs,gU P p.1 p.2):∀ q∈(h,n,c)::r,gU P q.1 ⟨q.2.1,q.2.2,[]⟩∧∀ p∈q.2.2.rgs,gU P p.1 p.2:=by
 intro q hq
 rcases List.mem_cons.1 hq with rfl | hq
 ·exact ⟨h0,h1⟩
 exact hr q hq
theorem bRt {P:Program}:∀ q∈([]:List Rg),gU P q.1 ⟨q.2.1,q.2.2,[]⟩∧∀ p∈q.2.2.rgs,gU P p.1 p.2:=fun q hq=>absurd hq List.not_mem_nil
theorem bG4 {P:Program}:∀ {l:List (Nat×FE)},(∀ p∈l,∀ q∈p.2.x.rgs,gU P q.1 q.2)→bBq P (pC l):=by
 intro l
 induction l with
 | nil=>intro _ f e he;simp [pC,Tr.get_nil] at he
 | cons a l ih =>
  intro h f e he
  obtain ⟨g,x⟩:=a
  simp only [pC] at he
  rw [Tr.get_put _ _ _ _ _ (by omega)] at he
  split at he
  ·cases he;exact h (g,_) (List.mem_cons_self ..)
  exact ih (fun p hp=>h p (List.mem_cons_of_mem _ hp)) f e he
end Go.CE
