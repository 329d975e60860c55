/- Rows of limbs: what is read, carried, borrowed. -/
import Init

set_option linter.unusedVariables false
set_option linter.unusedSimpArgs false
namespace Go.Num
abbrev W:Nat:=4294967296
def val:List UInt32→Nat
 | []=>0
 | x::r=>x.toNat+W * val r
def toL (n:Nat):List UInt32:=if h:n=0 then [] else UInt32.ofNat (n % W)::toL (n / W)
decreasing_by exact Nat.div_lt_self (Nat.pos_of_ne_zero h) (by decide)
theorem sY:toL 0=[]:=by rw [toL];rfl
theorem aGU {n:Nat} (h:0<n):toL n=UInt32.ofNat (n % W)::toL (n / W):=by
 rw [toL,dif_neg (by omega)]
theorem bLa (x:UInt32):x.toNat<W:=x.toNat_lt
theorem ofNat_toNat {n:Nat} (h:n<W):(UInt32.ofNat n).toNat=n:=by simp;omega
theorem gX (n:Nat):val (toL n)=n:=by
  induction n using Nat.strongRecOn with
  | _ n ih =>
    rcases Nat.eq_zero_or_pos n with rfl | h
    · rw [sY];rfl
    · rw [aGU h, val, ih (n / W) (Nat.div_lt_self h (by decide)), ofNat_toNat (Nat.mod_lt _ (by decide))]
      exact Nat.mod_add_div n W
theorem Ji (a b:List UInt32):val (a++b)=val a+W ^ a.length * val b:=by
 induction a with
 | nil=>simp [val]
 | cons x a ih =>
  rw [List.cons_append,val,ih,val,List.length_cons,Nat.pow_succ,Nat.mul_add,← Nat.mul_assoc,Nat.mul_comm W (W ^ a.length)]
  omega
theorem aE1 (l:List UInt32):val l<W ^ l.length:=by
 induction l with
 | nil=>simp [val]
 | cons x l ih =>
  have h:=bLa x
  rw [val,List.length_cons,Nat.pow_succ,Nat.mul_comm (W ^ l.length) W]
  have:W * val l+W≤W * W ^ l.length:=by rw [← Nat.mul_succ];exact Nat.mul_le_mul_left W ih
  omega
def aDL (l:List UInt32):Prop:=l=[]∨∃ r x,l=r++[x]∧x≠0
theorem aZt {x:UInt32} {l:List UInt32} (h:aDL (x::l)):aDL l:=by
 rcases h with h | ⟨r,y,h,hy⟩
 ·cases h
 cases r with
 | nil=>simp at h;exact .inl h.2
 | cons z r=>simp at h;exact .inr ⟨r,y,h.2,hy⟩
theorem aVH {l:List UInt32} (h:aDL l) (hl:l≠[]):0<val l:=by
 rcases h with h | ⟨r,x,rfl,hx⟩
 ·exact absurd h hl
 rw [Ji]
 have:0<x.toNat:=by
  rcases Nat.eq_zero_or_pos x.toNat with h | h
  ·exact absurd (UInt32.toNat_inj.1 h) hx
  exact h
 have h2:0<W ^ r.length * val [x]:=Nat.mul_pos (Nat.pow_pos (by decide)) (by simp [val];exact this)
 omega
theorem aWW {l:List UInt32} (h:aDL l):toL (val l)=l:=by
 induction l with
 | nil=>exact sY
 | cons x l ih =>
  have hp:=aVH h (by simp)
  have h1:=bLa x
  rw [aGU hp]
  have e1:val (x::l) % W=x.toNat:=by rw [val,Nat.add_mul_mod_self_left,Nat.mod_eq_of_lt h1]
  have e2:val (x::l) / W=val l:=by rw [val,Nat.add_mul_div_left _ _ (by decide),Nat.div_eq_of_lt h1,Nat.zero_add]
  rw [e1,e2,ih (aZt h)]
  simp
theorem aIb (n:Nat):aDL (toL n):=by
 induction n using Nat.strongRecOn with
 | _ n ih =>
  rcases Nat.eq_zero_or_pos n with rfl | h
  ·exact .inl sY
  rw [aGU h]
  rcases ih (n / W) (Nat.div_lt_self h (by decide)) with h2 | ⟨r,x,h2,hx⟩
  ·right
   refine ⟨[],UInt32.ofNat (n % W),by simp [h2],fun e=>?_⟩
   have h3:n / W=0:=by have:=gX (n / W);rw [h2] at this;exact this.symm
   have h4:(UInt32.ofNat (n % W)).toNat=0:=by rw [e];rfl
   rw [ofNat_toNat (Nat.mod_lt _ (by decide))] at h4
   have:=Nat.mod_add_div n W
   rw [h3,h4] at this
   omega
  exact .inr ⟨UInt32.ofNat (n % W)::r,x,by rw [h2];rfl,hx⟩
theorem pG {n k:Nat}:(toL n).length≤k↔n<W ^ k:=by
 constructor
 ·intro h
  have:=aE1 (toL n)
  rw [gX] at this
  exact Nat.lt_of_lt_of_le this (Nat.pow_le_pow_right (by decide) h)
 intro h
 rcases aIb n with h2 | ⟨r,x,h2,hx⟩
 ·rw [h2];simp
 have hv:=gX n
 rw [h2,Ji] at hv
 have hx0:0<x.toNat:=by
  rcases Nat.eq_zero_or_pos x.toNat with h | h
  ·exact absurd (UInt32.toNat_inj.1 h) hx
  exact h
 have h3:W ^ r.length≤n:=by
  have:W ^ r.length * 1≤W ^ r.length * val [x]:=Nat.mul_le_mul_left _ (by simp [val];omega)
  omega
 have h4:W ^ r.length<W ^ k:=Nat.lt_of_le_of_lt h3 h
 have:=(Nat.pow_lt_pow_iff_right (a:=W) (by decide)).1 h4
 rw [h2];simp;omega
theorem bD9 {l:List UInt32}:aDL l↔l=[]∨∃ h:l≠[],l.getLast h≠0:=by
 constructor
 ·rintro (h | ⟨r,x,rfl,hx⟩)
  ·exact .inl h
  exact .inr ⟨by simp,by simpa using hx⟩
 rintro (h | ⟨h,hx⟩)
 ·exact .inl h
 exact .inr ⟨l.dropLast,l.getLast h,(List.dropLast_concat_getLast h).symm,hx⟩
def nJ (l:List UInt32) (i:Nat):Nat:=(l.getD i 0).toNat
theorem kD (l:List UInt32) (i:Nat):val (l.take (i+1))=val (l.take i)+W ^ i * nJ l i:=by
  rcases Nat.lt_or_ge i l.length with h | h
  · rw [List.take_add_one,List.getElem?_eq_getElem h,Ji]
    simp [val,nJ,List.getD_eq_getElem?_getD,List.getElem?_eq_getElem h,Nat.min_eq_left (Nat.le_of_lt h)]
  · rw [List.take_of_length_le (by omega), List.take_of_length_le h]
    simp [nJ,List.getD_eq_getElem?_getD,List.getElem?_eq_none h]
theorem aDB (o:List UInt32) (x:UInt32):val (o++[x])=val o+W ^ o.length * x.toNat:=by
 rw [Ji];simp [val]
theorem aFF {o:List UInt32} {lo:UInt32} {c' z:Nat} (h:lo.toNat+W * c'=z):val (o++[lo])+W ^ (o.length+1) * c'=val o+W ^ o.length * z:=by
 rw [aDB,← h,Nat.mul_add,Nat.pow_succ,Nat.mul_assoc]
 omega
theorem aXR {a b o:List UInt32} {i c c':Nat} {lo:UInt32} (hl:o.length=i) (h:val o+W ^ i * c=val (a.take i)+val (b.take i)) (hs:lo.toNat+W * c'=nJ a i+nJ b i+c) :
  val (o++[lo])+W ^ (i+1) * c'=val (a.take (i+1))+val (b.take (i+1)):=by
 subst hl
 rw [aFF hs,kD,kD,Nat.mul_add,Nat.mul_add]
 omega
theorem bGS {a b o:List UInt32} {i c c':Nat} {lo:UInt32} (hl:o.length=i) (h:val o+val (b.take i)=val (a.take i)+W ^ i * c) (hs:lo.toNat+nJ b i+c=nJ a i+W * c') :
  val (o++[lo])+val (b.take (i+1))=val (a.take (i+1))+W ^ (i+1) * c':=by
 subst hl
 rw [aDB,kD,kD,Nat.pow_succ,Nat.mul_assoc]
 have e:W ^ o.length * lo.toNat+W ^ o.length * nJ b o.length+W ^ o.length * c=W ^ o.length * nJ a o.length+W ^ o.length * (W * c'):=by
  rw [← Nat.mul_add,← Nat.mul_add,← Nat.mul_add,hs]
 omega
theorem bGN {a o:List UInt32} {i c c' m:Nat} {lo:UInt32} (hl:o.length=i) (h:val o+W ^ i * c=val (a.take i) * m) (hs:lo.toNat+W * c'=nJ a i * m+c) :
  val (o++[lo])+W ^ (i+1) * c'=val (a.take (i+1)) * m:=by
 subst hl
 rw [aFF hs,kD,Nat.add_mul,Nat.mul_add,Nat.mul_assoc]
 omega
theorem bIg {p o:List UInt32} {b:List UInt32} {i k c c' x:Nat} {lo:UInt32} (hl:o.length=i+k) (h:val o+W ^ (i+k) * c=val (p.take (i+k))+W ^ i * (x * val (b.take k)))
  (hs:lo.toNat+W * c'=nJ p (i+k)+x * nJ b k+c):val (o++[lo])+W ^ (i+k+1) * c'=val (p.take (i+k+1))+W ^ i * (x * val (b.take (k+1))):=by
 have e:val (o++[lo])+W ^ (i+k+1) * c'=val o+W ^ (i+k) * (nJ p (i+k)+x * nJ b k+c):=by rw [← hl];rw [← hl] at hs;exact aFF hs
 rw [e,kD,kD,Nat.mul_add (W ^ (i+k)),Nat.mul_add (W ^ (i+k)),Nat.mul_add x,Nat.mul_add (W ^ i)]
 have e2:W ^ (i+k) * (x * nJ b k)=W ^ i * (x * (W ^ k * nJ b k)):=by
  rw [Nat.pow_add,Nat.mul_assoc,Nat.mul_left_comm (W ^ k) x]
 omega
theorem aZd {M two first second low q:Nat} (hM:2≤M) (hf:0<first) (hfW:first<M) (hs:second<M) (ht:two<M * first+M) (hq:q * first≤two)
    (hd:(q<M∧q * second≤(two - q * first) * M+low)∨M≤two - q * first)
    (hmax:∀ q',q<q'→q'<M→two * M+low<q' * (first * M+second)):q=min (M - 1) ((two * M+low) / (first * M+second)):=by
  have hv0:0<first * M+second:=by have:=Nat.mul_pos hf (show 0<M by omega);omega
  have hq1:q<M:=by
    rcases hd with h | h
    · exact h.1
    · rcases Nat.lt_or_ge q M with h2 | h2
      · exact h2
      · have:M * first≤q * first:=Nat.mul_le_mul_right first h2
        omega
  have h1:q * (first * M+second)≤two * M+low:=by
    have e1:q * (first * M+second)=q * first * M+q * second:=by rw [Nat.mul_add,Nat.mul_assoc]
    have e2:(two - q * first) * M+q * first * M=two * M:=by rw [← Nat.add_mul];congr 1;omega
    rcases hd with ⟨_,h⟩ | h
    · omega
    · have h3 : q * second ≤ M * M := Nat.mul_le_mul (by omega) (by omega)
      have h4:M * M≤(two - q * first) * M:=Nat.mul_le_mul_right M h
      omega
  have h2:q≤(two * M+low) / (first * M+second):=(Nat.le_div_iff_mul_le hv0).2 h1
  rcases Nat.lt_or_ge (q+1) M with h3 | h3
  · have h4 := hmax (q + 1) (by omega) h3
    have h5:(two * M+low) / (first * M+second)<q+1:=(Nat.div_lt_iff_lt_mul hv0).2 h4
    omega
  · omega
abbrev aRk:Type:=Bool×List UInt32
def aWF (l:List UInt32):Bool:=match l.getLast? with
 | some x=>x != 0
 | none=>true
theorem aQX {l:List UInt32}:aWF l=true↔aDL l:=by
 unfold aWF
 rw [bD9]
 cases h:l.getLast? with
 | none=>simp at h;simp [h]
 | some x =>
  have hne:l≠[]:=by intro e;simp [e] at h
  rw [List.getLast?_eq_some_getLast hne] at h
  injection h with h
  simp only [bne_iff_ne,ne_eq]
  constructor
  ·intro hx;exact .inr ⟨hne,by rw [h];exact hx⟩
  rintro (e | ⟨_,hx⟩)
  ·exact absurd e hne
  rw [h] at hx;exact hx
def xB (x:aRk):Bool:=aWF x.2 && !(x.1 && x.2.isEmpty)
def Qo (neg:Bool) (n:Nat):Int:=if neg then -(n:Int) else n
def lQ (x:aRk):Int:=if xB x=true then Qo x.1 (val x.2) else 0
def cI (z:Int):aRk:=(decide (z<0),toL z.natAbs)
theorem aWp {x:aRk} (h:xB x=true):aDL x.2:=by
 unfold xB at h
 simp only [Bool.and_eq_true] at h
 exact aQX.1 h.1
theorem aXX (z:Int):xB (cI z)=true:=by
 unfold xB cI
 simp only [Bool.and_eq_true,aQX,Bool.not_eq_true',Bool.and_eq_false_iff,decide_eq_false_iff_not]
 refine ⟨aIb _,?_⟩
 rcases Int.lt_or_le z 0 with h | h
 ·right
  rw [aGU (by omega)];rfl
 left;omega
theorem aZE (z:Int):lQ (cI z)=z:=by
 unfold lQ
 rw [if_pos (aXX z)]
 unfold cI Qo
 simp only [gX]
 rcases Int.lt_or_le z 0 with h | h
 ·rw [if_pos (by simpa using h)];omega
 rw [if_neg (by simpa using h)];omega
theorem bNi {x:aRk} (h:xB x=true):cI (lQ x)=x:=by
 unfold lQ
 rw [if_pos h]
 have hc:=aWp h
 obtain ⟨neg,l⟩:=x
 unfold xB at h
 simp only [Bool.and_eq_true,Bool.not_eq_true',Bool.and_eq_false_iff] at h
 unfold cI Qo
 cases neg with
 | false =>
  simp only [Bool.false_eq_true,if_false]
  rw [Prod.mk.injEq]
  exact ⟨decide_eq_false (by omega),by simpa using aWW hc⟩
 | true =>
  have hne:l≠[]:=by
   rcases h.2 with h | h
   ·cases h
   intro e;simp [e] at h
  have hp:=aVH hc hne
  simp only at hp
  simp only [if_true]
  rw [Prod.mk.injEq]
  exact ⟨decide_eq_true (by omega),by simpa using aWW hc⟩
abbrev aWw:Type:=aRk×aRk
def zK (x:aWw):Bool:=xB x.1 && xB x.2 && decide (0<lQ x.2) && decide (Int.gcd (lQ x.1) (lQ x.2)=1)
def valR (x:aWw):Rat:=if zK x=true then Rat.divInt (lQ x.1) (lQ x.2) else 0
def cR (q:Rat):aWw:=(cI q.num,cI q.den)
theorem bGc (q:Rat):zK (cR q)=true:=by
 unfold zK cR
 simp only [aXX,aZE,Bool.and_eq_true,decide_eq_true_eq,true_and]
 refine ⟨by have:=q.den_pos;omega,?_⟩
 have:=q.reduced
 rw [Int.gcd]
 simpa using this
theorem bRi (q:Rat):valR (cR q)=q:=by
 unfold valR
 rw [if_pos (bGc q)]
 unfold cR
 simp only [aZE]
 exact Rat.num_divInt_den q
theorem aHh {x:aWw} (h:zK x=true):xB x.1=true∧xB x.2=true∧0<lQ x.2∧Int.gcd (lQ x.1) (lQ x.2)=1:=by
 unfold zK at h
 simpa [Bool.and_eq_true,decide_eq_true_eq,and_assoc] using h
theorem aAB {x:aWw} (h:zK x=true):(valR x).num=lQ x.1∧((valR x).den:Int)=lQ x.2:=by
 obtain ⟨h1,h2,h3,h4⟩:=aHh h
 unfold valR
 rw [if_pos h,Rat.num_divInt,Rat.den_divInt]
 have e:Int.gcd (lQ x.2) (lQ x.1)=1:=by rw [Int.gcd_comm];exact h4
 rw [if_neg (by omega),e,Int.sign_eq_one_of_pos h3]
 simp
 omega
theorem aZs {n d g:Int} (hd:d≠0) (hg:g=if d<0 then -(Int.gcd n d:Int) else Int.gcd n d):(n / g,d / g)=((Rat.divInt n d).num,((Rat.divInt n d).den:Int)):=by
  have hgp:(0:Int)<Int.gcd n d:=by
    have:=Int.gcd_pos_of_ne_zero_right n hd
    omega
  rw [Rat.num_divInt,Rat.den_divInt,if_neg hd,Int.gcd_comm d n]
  rcases Int.lt_or_le d 0 with h | h
  · rw [if_pos h] at hg
    subst hg
    rw [Int.sign_eq_neg_one_of_neg h]
    congr 1
    · rw [Int.ediv_neg,Int.neg_mul,Int.one_mul,Int.neg_ediv_of_dvd (Int.gcd_dvd_left n d)]
    · rw [Int.ediv_neg,Int.natCast_ediv,← Int.neg_ediv_of_dvd (Int.gcd_dvd_right n d)]
      congr 1
      omega
  · rw [if_neg (by omega)] at hg
    subst hg
    rw [Int.sign_eq_one_of_pos (by omega)]
    congr 1
    · rw [Int.one_mul]
    · rw [Int.natCast_ediv]
      congr 1
      omega
abbrev H:Nat:=65536
def hv:List Nat→Nat
 | []=>0
 | x::r=>x+H * hv r
def Ni (l:List Nat):Prop:=∀ x,x∈l→x<H
def qB (n:Nat):List Nat:=if h:n=0 then [] else (n % H)::qB (n / H)
decreasing_by exact Nat.div_lt_self (Nat.pos_of_ne_zero h) (by decide)
theorem Yf:qB 0=[]:=by rw [qB];rfl
theorem aHG {n:Nat} (h:0<n):qB n=(n % H)::qB (n / H):=by rw [qB,dif_neg (by omega)]
theorem wM (n:Nat):hv (qB n)=n:=by
  induction n using Nat.strongRecOn with
  | _ n ih =>
    rcases Nat.eq_zero_or_pos n with rfl | h
    · rw [Yf];rfl
    · rw [aHG h, hv, ih (n / H) (Nat.div_lt_self h (by decide))]
      exact Nat.mod_add_div n H
theorem wR (n:Nat):Ni (qB n):=by
 induction n using Nat.strongRecOn with
 | _ n ih =>
  intro x hx
  rcases Nat.eq_zero_or_pos n with rfl | h
  ·rw [Yf] at hx;cases hx
  rw [aHG h] at hx
  rcases List.mem_cons.1 hx with rfl | hx
  ·exact Nat.mod_lt _ (by decide)
  exact ih (n / H) (Nat.div_lt_self h (by decide)) x hx
theorem V9 (a b:List Nat):hv (a++b)=hv a+H ^ a.length * hv b:=by
 induction a with
 | nil=>simp [hv]
 | cons x a ih =>
  rw [List.cons_append,hv,ih,hv,List.length_cons,Nat.pow_succ,Nat.mul_add,← Nat.mul_assoc,Nat.mul_comm H (H ^ a.length)]
  omega
theorem aSB {l:List Nat} (ok:Ni l):hv l<H ^ l.length:=by
 induction l with
 | nil=>simp [hv]
 | cons x l ih =>
  have h:=ok x (by simp)
  have ih:=ih fun y hy=>ok y (by simp [hy])
  rw [hv,List.length_cons,Nat.pow_succ,Nat.mul_comm (H ^ l.length) H]
  have:H * hv l+H≤H * H ^ l.length:=by rw [← Nat.mul_succ];exact Nat.mul_le_mul_left H ih
  omega
def aFy (l:List Nat):Prop:=l=[]∨∃ r x,l=r++[x]∧x≠0
theorem aYo {x:Nat} {l:List Nat} (h:aFy (x::l)):aFy l:=by
 rcases h with h | ⟨r,y,h,hy⟩
 ·cases h
 cases r with
 | nil=>simp at h;exact .inl h.2
 | cons z r=>simp at h;exact .inr ⟨r,y,h.2,hy⟩
theorem aZJ {l:List Nat} (h:aFy l) (hl:l≠[]):0<hv l:=by
 rcases h with h | ⟨r,x,rfl,hx⟩
 ·exact absurd h hl
 rw [V9]
 have h2:0<H ^ r.length * hv [x]:=Nat.mul_pos (Nat.pow_pos (by decide)) (by simp [hv];omega)
 omega
theorem bNI {l:List Nat} (ok:Ni l) (h:aFy l):qB (hv l)=l:=by
 induction l with
 | nil=>exact Yf
 | cons x l ih =>
  have hp:=aZJ h (by simp)
  have h1:=ok x (by simp)
  rw [aHG hp]
  have e1:hv (x::l) % H=x:=by rw [hv,Nat.add_mul_mod_self_left,Nat.mod_eq_of_lt h1]
  have e2:hv (x::l) / H=hv l:=by rw [hv,Nat.add_mul_div_left _ _ (by decide),Nat.div_eq_of_lt h1,Nat.zero_add]
  rw [e1,e2,ih (fun y hy=>ok y (by simp [hy])) (aYo h)]
theorem aUF (n:Nat):aFy (qB n):=by
 induction n using Nat.strongRecOn with
 | _ n ih =>
  rcases Nat.eq_zero_or_pos n with rfl | h
  ·exact .inl Yf
  rw [aHG h]
  rcases ih (n / H) (Nat.div_lt_self h (by decide)) with h2 | ⟨r,x,h2,hx⟩
  ·right
   refine ⟨[],n % H,by simp [h2],fun e=>?_⟩
   have h3:n / H=0:=by have:=wM (n / H);rw [h2] at this;exact this.symm
   have:=Nat.mod_add_div n H
   rw [h3,e] at this
   omega
  exact .inr ⟨n % H::r,x,by rw [h2];rfl,hx⟩
theorem Ib {n k:Nat}:(qB n).length≤k↔n<H ^ k:=by
 constructor
 ·intro h
  have:=aSB (wR n)
  rw [wM] at this
  exact Nat.lt_of_lt_of_le this (Nat.pow_le_pow_right (by decide) h)
 intro h
 rcases aUF n with h2 | ⟨r,x,h2,hx⟩
 ·rw [h2];simp
 have hv:=wM n
 rw [h2,V9] at hv
 have h3:H ^ r.length≤n:=by
  have:H ^ r.length * 1≤H ^ r.length * Num.hv [x]:=Nat.mul_le_mul_left _ (by simp [Num.hv];omega)
  omega
 have h4:H ^ r.length<H ^ k:=Nat.lt_of_le_of_lt h3 h
 have:=(Nat.pow_lt_pow_iff_right (a:=H) (by decide)).1 h4
 rw [h2];simp;omega
def fV (l:List Nat) (i:Nat):Nat:=l.getD i 0
theorem aWY {l:List Nat} (ok:Ni l) (i:Nat):fV l i<H:=by
 unfold fV
 rw [List.getD_eq_getElem?_getD]
 cases h:l[i]? with
 | none=>simp
 | some x=>exact ok x (List.mem_of_getElem? h)
theorem rS (l:List Nat) (i:Nat):hv (l.take (i+1))=hv (l.take i)+H ^ i * fV l i:=by
  rcases Nat.lt_or_ge i l.length with h | h
  · rw [List.take_add_one,List.getElem?_eq_getElem h,V9]
    simp [hv,fV,List.getD_eq_getElem?_getD,List.getElem?_eq_getElem h,Nat.min_eq_left (Nat.le_of_lt h)]
  · rw [List.take_of_length_le (by omega), List.take_of_length_le h]
    simp [fV,List.getD_eq_getElem?_getD,List.getElem?_eq_none h]
theorem aOC (o:List Nat) (x:Nat):hv (o++[x])=hv o+H ^ o.length * x:=by rw [V9];simp [hv]
def aBm:List UInt32→List Nat
 | []=>[]
 | x::r=>x.toNat % H::x.toNat / H::aBm r
theorem aWZ (l:List UInt32):hv (aBm l)=val l:=by
 induction l with
 | nil=>rfl
 | cons x l ih =>
  simp only [aBm,hv,val,ih]
  have:=Nat.mod_add_div x.toNat H
  have e:H * (H * val l)=W * val l:=by rw [← Nat.mul_assoc];congr 1
  rw [Nat.mul_add,e]
  omega
theorem aWU (l:List UInt32):Ni (aBm l):=by
 induction l with
 | nil=>intro x hx;cases hx
 | cons x l ih =>
  intro y hy
  simp only [aBm,List.mem_cons] at hy
  rcases hy with rfl | rfl | hy
  ·exact Nat.mod_lt _ (by decide)
  ·have:=bLa x
   exact Nat.div_lt_of_lt_mul this
  exact ih y hy
end Go.Num
