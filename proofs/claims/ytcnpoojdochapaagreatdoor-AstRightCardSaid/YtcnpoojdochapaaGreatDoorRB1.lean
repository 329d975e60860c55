/- Rows of limbs: what is read, carried, borrowed. -/
import Init

set_option linter.unusedVariables false
set_option linter.unusedSimpArgs false
namespace Go.Num
abbrev W:Nat:=4294967296
def val:List UInt32→Nat
 | []=>0
 | x::r=>x.toNat+W * val r
def toL (n:Nat):List UInt32:=if h:n=0 then [] else UInt32.ofNat (n % W)::toL (n / W)
decreasing_by exact Nat.div_lt_self (Nat.pos_of_ne_zero h) (by decide)
theorem uO:toL 0=[]:=by rw [toL];rfl
theorem aLH {n:Nat} (h:0<n):toL n=UInt32.ofNat (n % W)::toL (n / W):=by
 rw [toL,dif_neg (by omega)]
theorem bLJ (x:UInt32):x.toNat<W:=x.toNat_lt
theorem ofNat_toNat {n:Nat} (h:n<W):(UInt32.ofNat n).toNat=n:=by simp;omega
theorem gI (n:Nat):val (toL n)=n:=by
  induction n using Nat.strongRecOn with
  | _ n ih =>
    rcases Nat.eq_zero_or_pos n with rfl | h
    · rw [uO];rfl
    · rw [aLH h, val, ih (n / W) (Nat.div_lt_self h (by decide)), ofNat_toNat (Nat.mod_lt _ (by decide))]
      exact Nat.mod_add_div n W
theorem Me (a b:List UInt32):val (a++b)=val a+W ^ a.length * val b:=by
 induction a with
 | nil=>simp [val]
 | cons x a ih =>
  rw [List.cons_append,val,ih,val,List.length_cons,Nat.pow_succ,Nat.mul_add,← Nat.mul_assoc,Nat.mul_comm W (W ^ a.length)]
  omega
theorem aJo (l:List UInt32):val l<W ^ l.length:=by
 induction l with
 | nil=>simp [val]
 | cons x l ih =>
  have h:=bLJ x
  rw [val,List.length_cons,Nat.pow_succ,Nat.mul_comm (W ^ l.length) W]
  have:W * val l+W≤W * W ^ l.length:=by rw [← Nat.mul_succ];exact Nat.mul_le_mul_left W ih
  omega
def aEI (l:List UInt32):Prop:=l=[]∨∃ r x,l=r++[x]∧x≠0
theorem aZk {x:UInt32} {l:List UInt32} (h:aEI (x::l)):aEI l:=by
 rcases h with h | ⟨r,y,h,hy⟩
 ·cases h
 cases r with
 | nil=>simp at h;exact .inl h.2
 | cons z r=>simp at h;exact .inr ⟨r,y,h.2,hy⟩
theorem aUR {l:List UInt32} (h:aEI l) (hl:l≠[]):0<val l:=by
 rcases h with h | ⟨r,x,rfl,hx⟩
 ·exact absurd h hl
 rw [Me]
 have:0<x.toNat:=by
  rcases Nat.eq_zero_or_pos x.toNat with h | h
  ·exact absurd (UInt32.toNat_inj.1 h) hx
  exact h
 have h2:0<W ^ r.length * val [x]:=Nat.mul_pos (Nat.pow_pos (by decide)) (by simp [val];exact this)
 omega
theorem aVn {l:List UInt32} (h:aEI l):toL (val l)=l:=by
 induction l with
 | nil=>exact uO
 | cons x l ih =>
  have hp:=aUR h (by simp)
  have h1:=bLJ x
  rw [aLH hp]
  have e1:val (x::l) % W=x.toNat:=by rw [val,Nat.add_mul_mod_self_left,Nat.mod_eq_of_lt h1]
  have e2:val (x::l) / W=val l:=by rw [val,Nat.add_mul_div_left _ _ (by decide),Nat.div_eq_of_lt h1,Nat.zero_add]
  rw [e1,e2,ih (aZk h)]
  simp
theorem aOt (n:Nat):aEI (toL n):=by
 induction n using Nat.strongRecOn with
 | _ n ih =>
  rcases Nat.eq_zero_or_pos n with rfl | h
  ·exact .inl uO
  rw [aLH h]
  rcases ih (n / W) (Nat.div_lt_self h (by decide)) with h2 | ⟨r,x,h2,hx⟩
  ·right
   refine ⟨[],UInt32.ofNat (n % W),by simp [h2],fun e=>?_⟩
   have h3:n / W=0:=by have:=gI (n / W);rw [h2] at this;exact this.symm
   have h4:(UInt32.ofNat (n % W)).toNat=0:=by rw [e];rfl
   rw [ofNat_toNat (Nat.mod_lt _ (by decide))] at h4
   have:=Nat.mod_add_div n W
   rw [h3,h4] at this
   omega
  exact .inr ⟨UInt32.ofNat (n % W)::r,x,by rw [h2];rfl,hx⟩
theorem mV {n k:Nat}:(toL n).length≤k↔n<W ^ k:=by
 constructor
 ·intro h
  have:=aJo (toL n)
  rw [gI] at this
  exact Nat.lt_of_lt_of_le this (Nat.pow_le_pow_right (by decide) h)
 intro h
 rcases aOt n with h2 | ⟨r,x,h2,hx⟩
 ·rw [h2];simp
 have hv:=gI n
 rw [h2,Me] at hv
 have hx0:0<x.toNat:=by
  rcases Nat.eq_zero_or_pos x.toNat with h | h
  ·exact absurd (UInt32.toNat_inj.1 h) hx
  exact h
 have h3:W ^ r.length≤n:=by
  have:W ^ r.length * 1≤W ^ r.length * val [x]:=Nat.mul_le_mul_left _ (by simp [val];omega)
  omega
 have h4:W ^ r.length<W ^ k:=Nat.lt_of_le_of_lt h3 h
 have:=(Nat.pow_lt_pow_iff_right (a:=W) (by decide)).1 h4
 rw [h2];simp;omega
theorem bAz {l:List UInt32}:aEI l↔l=[]∨∃ h:l≠[],l.getLast h≠0:=by
 constructor
 ·rintro (h | ⟨r,x,rfl,hx⟩)
  ·exact .inl h
  exact .inr ⟨by simp,by simpa using hx⟩
 rintro (h | ⟨h,hx⟩)
 ·exact .inl h
 exact .inr ⟨l.dropLast,l.getLast h,(List.dropLast_concat_getLast h).symm,hx⟩
def mU (l:List UInt32) (i:Nat):Nat:=(l.getD i 0).toNat
theorem kC (l:List UInt32) (i:Nat):val (l.take (i+1))=val (l.take i)+W ^ i * mU l i:=by
  rcases Nat.lt_or_ge i l.length with h | h
  · rw [List.take_add_one,List.getElem?_eq_getElem h,Me]
    simp [val,mU,List.getD_eq_getElem?_getD,List.getElem?_eq_getElem h,Nat.min_eq_left (Nat.le_of_lt h)]
  · rw [List.take_of_length_le (by omega), List.take_of_length_le h]
    simp [mU,List.getD_eq_getElem?_getD,List.getElem?_eq_none h]
theorem aES (o:List UInt32) (x:UInt32):val (o++[x])=val o+W ^ o.length * x.toNat:=by
 rw [Me];simp [val]
theorem aHG {o:List UInt32} {lo:UInt32} {c' z:Nat} (h:lo.toNat+W * c'=z):val (o++[lo])+W ^ (o.length+1) * c'=val o+W ^ o.length * z:=by
 rw [aES,← h,Nat.mul_add,Nat.pow_succ,Nat.mul_assoc]
 omega
theorem aYm {a b o:List UInt32} {i c c':Nat} {lo:UInt32} (hl:o.length=i) (h:val o+W ^ i * c=val (a.take i)+val (b.take i)) (hs:lo.toNat+W * c'=mU a i+mU b i+c) :
  val (o++[lo])+W ^ (i+1) * c'=val (a.take (i+1))+val (b.take (i+1)):=by
 subst hl
 rw [aHG hs,kC,kC,Nat.mul_add,Nat.mul_add]
 omega
theorem bIe {a b o:List UInt32} {i c c':Nat} {lo:UInt32} (hl:o.length=i) (h:val o+val (b.take i)=val (a.take i)+W ^ i * c) (hs:lo.toNat+mU b i+c=mU a i+W * c') :
  val (o++[lo])+val (b.take (i+1))=val (a.take (i+1))+W ^ (i+1) * c':=by
 subst hl
 rw [aES,kC,kC,Nat.pow_succ,Nat.mul_assoc]
 have e:W ^ o.length * lo.toNat+W ^ o.length * mU b o.length+W ^ o.length * c=W ^ o.length * mU a o.length+W ^ o.length * (W * c'):=by
  rw [← Nat.mul_add,← Nat.mul_add,← Nat.mul_add,hs]
 omega
theorem bDH {a o:List UInt32} {i c c' m:Nat} {lo:UInt32} (hl:o.length=i) (h:val o+W ^ i * c=val (a.take i) * m) (hs:lo.toNat+W * c'=mU a i * m+c) :
  val (o++[lo])+W ^ (i+1) * c'=val (a.take (i+1)) * m:=by
 subst hl
 rw [aHG hs,kC,Nat.add_mul,Nat.mul_add,Nat.mul_assoc]
 omega
theorem bDL {p o:List UInt32} {b:List UInt32} {i k c c' x:Nat} {lo:UInt32} (hl:o.length=i+k) (h:val o+W ^ (i+k) * c=val (p.take (i+k))+W ^ i * (x * val (b.take k)))
  (hs:lo.toNat+W * c'=mU p (i+k)+x * mU b k+c):val (o++[lo])+W ^ (i+k+1) * c'=val (p.take (i+k+1))+W ^ i * (x * val (b.take (k+1))):=by
 have e:val (o++[lo])+W ^ (i+k+1) * c'=val o+W ^ (i+k) * (mU p (i+k)+x * mU b k+c):=by rw [← hl];rw [← hl] at hs;exact aHG hs
 rw [e,kC,kC,Nat.mul_add (W ^ (i+k)),Nat.mul_add (W ^ (i+k)),Nat.mul_add x,Nat.mul_add (W ^ i)]
 have e2:W ^ (i+k) * (x * mU b k)=W ^ i * (x * (W ^ k * mU b k)):=by
  rw [Nat.pow_add,Nat.mul_assoc,Nat.mul_left_comm (W ^ k) x]
 omega
theorem aY4 {M two first second low q:Nat} (hM:2≤M) (hf:0<first) (hfW:first<M) (hs:second<M) (ht:two<M * first+M) (hq:q * first≤two)
    (hd:(q<M∧q * second≤(two - q * first) * M+low)∨M≤two - q * first)
    (hmax:∀ q',q<q'→q'<M→two * M+low<q' * (first * M+second)):q=min (M - 1) ((two * M+low) / (first * M+second)):=by
  have hv0:0<first * M+second:=by have:=Nat.mul_pos hf (show 0<M by omega);omega
  have hq1:q<M:=by
    rcases hd with h | h
    · exact h.1
    · rcases Nat.lt_or_ge q M with h2 | h2
      · exact h2
      · have:M * first≤q * first:=Nat.mul_le_mul_right first h2
        omega
  have h1:q * (first * M+second)≤two * M+low:=by
    have e1:q * (first * M+second)=q * first * M+q * second:=by rw [Nat.mul_add,Nat.mul_assoc]
    have e2:(two - q * first) * M+q * first * M=two * M:=by rw [← Nat.add_mul];congr 1;omega
    rcases hd with ⟨_,h⟩ | h
    · omega
    · have h3 : q * second ≤ M * M := Nat.mul_le_mul (by omega) (by omega)
      have h4:M * M≤(two - q * first) * M:=Nat.mul_le_mul_right M h
      omega
  have h2:q≤(two * M+low) / (first * M+second):=(Nat.le_div_iff_mul_le hv0).2 h1
  rcases Nat.lt_or_ge (q+1) M with h3 | h3
  · have h4 := hmax (q + 1) (by omega) h3
    have h5:(two * M+low) / (first * M+second)<q+1:=(Nat.div_lt_iff_lt_mul hv0).2 h4
    omega
  · omega
abbrev aRS:Type:=Bool×List UInt32
def aV0 (l:List UInt32):Bool:=match l.getLast? with
 | some x=>x != 0
 | none=>true
theorem aTu {l:List UInt32}:aV0 l=true↔aEI l:=by
 unfold aV0
 rw [bAz]
 cases h:l.getLast? with
 | none=>simp at h;simp [h]
 | some x =>
  have hne:l≠[]:=by intro e;simp [e] at h
  rw [List.getLast?_eq_some_getLast hne] at h
  injection h with h
  simp only [bne_iff_ne,ne_eq]
  constructor
  ·intro hx;exact .inr ⟨hne,by rw [h];exact hx⟩
  rintro (e | ⟨_,hx⟩)
  ·exact absurd e hne
  rw [h] at hx;exact hx
def yN (x:aRS):Bool:=aV0 x.2 && !(x.1 && x.2.isEmpty)
def sgn (neg:Bool) (n:Nat):Int:=if neg then -(n:Int) else n
def kN (x:aRS):Int:=if yN x=true then sgn x.1 (val x.2) else 0
def cI (z:Int):aRS:=(decide (z<0),toL z.natAbs)
theorem aVM {x:aRS} (h:yN x=true):aEI x.2:=by
 unfold yN at h
 simp only [Bool.and_eq_true] at h
 exact aTu.1 h.1
theorem aXt (z:Int):yN (cI z)=true:=by
 unfold yN cI
 simp only [Bool.and_eq_true,aTu,Bool.not_eq_true',Bool.and_eq_false_iff,decide_eq_false_iff_not]
 refine ⟨aOt _,?_⟩
 rcases Int.lt_or_le z 0 with h | h
 ·right
  rw [aLH (by omega)];rfl
 left;omega
theorem aYK (z:Int):kN (cI z)=z:=by
 unfold kN
 rw [if_pos (aXt z)]
 unfold cI sgn
 simp only [gI]
 rcases Int.lt_or_le z 0 with h | h
 ·rw [if_pos (by simpa using h)];omega
 rw [if_neg (by simpa using h)];omega
theorem bOM {x:aRS} (h:yN x=true):cI (kN x)=x:=by
 unfold kN
 rw [if_pos h]
 have hc:=aVM h
 obtain ⟨neg,l⟩:=x
 unfold yN at h
 simp only [Bool.and_eq_true,Bool.not_eq_true',Bool.and_eq_false_iff] at h
 unfold cI sgn
 cases neg with
 | false =>
  simp only [Bool.false_eq_true,if_false]
  rw [Prod.mk.injEq]
  exact ⟨decide_eq_false (by omega),by simpa using aVn hc⟩
 | true =>
  have hne:l≠[]:=by
   rcases h.2 with h | h
   ·cases h
   intro e;simp [e] at h
  have hp:=aUR hc hne
  simp only at hp
  simp only [if_true]
  rw [Prod.mk.injEq]
  exact ⟨decide_eq_true (by omega),by simpa using aVn hc⟩
abbrev Ni:Type:=aRS×aRS
def vP (x:Ni):Bool:=yN x.1 && yN x.2 && decide (0<kN x.2) && decide (Int.gcd (kN x.1) (kN x.2)=1)
def valR (x:Ni):Rat:=if vP x=true then Rat.divInt (kN x.1) (kN x.2) else 0
def cR (q:Rat):Ni:=(cI q.num,cI q.den)
theorem aWY (q:Rat):vP (cR q)=true:=by
 unfold vP cR
 simp only [aXt,aYK,Bool.and_eq_true,decide_eq_true_eq,true_and]
 refine ⟨by have:=q.den_pos;omega,?_⟩
 have:=q.reduced
 rw [Int.gcd]
 simpa using this
theorem bEM (q:Rat):valR (cR q)=q:=by
 unfold valR
 rw [if_pos (aWY q)]
 unfold cR
 simp only [aYK]
 exact Rat.num_divInt_den q
theorem aC3 {x:Ni} (h:vP x=true):yN x.1=true∧yN x.2=true∧0<kN x.2∧Int.gcd (kN x.1) (kN x.2)=1:=by
 unfold vP at h
 simpa [Bool.and_eq_true,decide_eq_true_eq,and_assoc] using h
theorem S5 {x:Ni} (h:vP x=true):(valR x).num=kN x.1∧((valR x).den:Int)=kN x.2:=by
 obtain ⟨h1,h2,h3,h4⟩:=aC3 h
 unfold valR
 rw [if_pos h,Rat.num_divInt,Rat.den_divInt]
 have e:Int.gcd (kN x.2) (kN x.1)=1:=by rw [Int.gcd_comm];exact h4
 rw [if_neg (by omega),e,Int.sign_eq_one_of_pos h3]
 simp
 omega
theorem aYQ {n d g:Int} (hd:d≠0) (hg:g=if d<0 then -(Int.gcd n d:Int) else Int.gcd n d):(n / g,d / g)=((Rat.divInt n d).num,((Rat.divInt n d).den:Int)):=by
  have hgp:(0:Int)<Int.gcd n d:=by
    have:=Int.gcd_pos_of_ne_zero_right n hd
    omega
  rw [Rat.num_divInt,Rat.den_divInt,if_neg hd,Int.gcd_comm d n]
  rcases Int.lt_or_le d 0 with h | h
  · rw [if_pos h] at hg
    subst hg
    rw [Int.sign_eq_neg_one_of_neg h]
    congr 1
    · rw [Int.ediv_neg,Int.neg_mul,Int.one_mul,Int.neg_ediv_of_dvd (Int.gcd_dvd_left n d)]
    · rw [Int.ediv_neg,Int.natCast_ediv,← Int.neg_ediv_of_dvd (Int.gcd_dvd_right n d)]
      congr 1
      omega
  · rw [if_neg (by omega)] at hg
    subst hg
    rw [Int.sign_eq_one_of_pos (by omega)]
    congr 1
    · rw [Int.one_mul]
    · rw [Int.natCast_ediv]
      congr 1
      omega
abbrev H:Nat:=65536
def hv:List Nat→Nat
 | []=>0
 | x::r=>x+H * hv r
def Vz (l:List Nat):Prop:=∀ x,x∈l→x<H
def qB (n:Nat):List Nat:=if h:n=0 then [] else (n % H)::qB (n / H)
decreasing_by exact Nat.div_lt_self (Nat.pos_of_ne_zero h) (by decide)
theorem aBx:qB 0=[]:=by rw [qB];rfl
theorem aLM {n:Nat} (h:0<n):qB n=(n % H)::qB (n / H):=by rw [qB,dif_neg (by omega)]
theorem yP (n:Nat):hv (qB n)=n:=by
  induction n using Nat.strongRecOn with
  | _ n ih =>
    rcases Nat.eq_zero_or_pos n with rfl | h
    · rw [aBx];rfl
    · rw [aLM h, hv, ih (n / H) (Nat.div_lt_self h (by decide))]
      exact Nat.mod_add_div n H
theorem yU (n:Nat):Vz (qB n):=by
 induction n using Nat.strongRecOn with
 | _ n ih =>
  intro x hx
  rcases Nat.eq_zero_or_pos n with rfl | h
  ·rw [aBx] at hx;cases hx
  rw [aLM h] at hx
  rcases List.mem_cons.1 hx with rfl | hx
  ·exact Nat.mod_lt _ (by decide)
  exact ih (n / H) (Nat.div_lt_self h (by decide)) x hx
theorem aBY (a b:List Nat):hv (a++b)=hv a+H ^ a.length * hv b:=by
 induction a with
 | nil=>simp [hv]
 | cons x a ih =>
  rw [List.cons_append,hv,ih,hv,List.length_cons,Nat.pow_succ,Nat.mul_add,← Nat.mul_assoc,Nat.mul_comm H (H ^ a.length)]
  omega
theorem aT2 {l:List Nat} (ok:Vz l):hv l<H ^ l.length:=by
 induction l with
 | nil=>simp [hv]
 | cons x l ih =>
  have h:=ok x (by simp)
  have ih:=ih fun y hy=>ok y (by simp [hy])
  rw [hv,List.length_cons,Nat.pow_succ,Nat.mul_comm (H ^ l.length) H]
  have:H * hv l+H≤H * H ^ l.length:=by rw [← Nat.mul_succ];exact Nat.mul_le_mul_left H ih
  omega
def aJ1 (l:List Nat):Prop:=l=[]∨∃ r x,l=r++[x]∧x≠0
theorem aWT {x:Nat} {l:List Nat} (h:aJ1 (x::l)):aJ1 l:=by
 rcases h with h | ⟨r,y,h,hy⟩
 ·cases h
 cases r with
 | nil=>simp at h;exact .inl h.2
 | cons z r=>simp at h;exact .inr ⟨r,y,h.2,hy⟩
theorem aYx {l:List Nat} (h:aJ1 l) (hl:l≠[]):0<hv l:=by
 rcases h with h | ⟨r,x,rfl,hx⟩
 ·exact absurd h hl
 rw [aBY]
 have h2:0<H ^ r.length * hv [x]:=Nat.mul_pos (Nat.pow_pos (by decide)) (by simp [hv];omega)
 omega
theorem bO3 {l:List Nat} (ok:Vz l) (h:aJ1 l):qB (hv l)=l:=by
 induction l with
 | nil=>exact aBx
 | cons x l ih =>
  have hp:=aYx h (by simp)
  have h1:=ok x (by simp)
  rw [aLM hp]
  have e1:hv (x::l) % H=x:=by rw [hv,Nat.add_mul_mod_self_left,Nat.mod_eq_of_lt h1]
  have e2:hv (x::l) / H=hv l:=by rw [hv,Nat.add_mul_div_left _ _ (by decide),Nat.div_eq_of_lt h1,Nat.zero_add]
  rw [e1,e2,ih (fun y hy=>ok y (by simp [hy])) (aWT h)]
theorem aUr (n:Nat):aJ1 (qB n):=by
 induction n using Nat.strongRecOn with
 | _ n ih =>
  rcases Nat.eq_zero_or_pos n with rfl | h
  ·exact .inl aBx
  rw [aLM h]
  rcases ih (n / H) (Nat.div_lt_self h (by decide)) with h2 | ⟨r,x,h2,hx⟩
  ·right
   refine ⟨[],n % H,by simp [h2],fun e=>?_⟩
   have h3:n / H=0:=by have:=yP (n / H);rw [h2] at this;exact this.symm
   have:=Nat.mod_add_div n H
   rw [h3,e] at this
   omega
  exact .inr ⟨n % H::r,x,by rw [h2];rfl,hx⟩
theorem Le {n k:Nat}:(qB n).length≤k↔n<H ^ k:=by
 constructor
 ·intro h
  have:=aT2 (yU n)
  rw [yP] at this
  exact Nat.lt_of_lt_of_le this (Nat.pow_le_pow_right (by decide) h)
 intro h
 rcases aUr n with h2 | ⟨r,x,h2,hx⟩
 ·rw [h2];simp
 have hv:=yP n
 rw [h2,aBY] at hv
 have h3:H ^ r.length≤n:=by
  have:H ^ r.length * 1≤H ^ r.length * Num.hv [x]:=Nat.mul_le_mul_left _ (by simp [Num.hv];omega)
  omega
 have h4:H ^ r.length<H ^ k:=Nat.lt_of_le_of_lt h3 h
 have:=(Nat.pow_lt_pow_iff_right (a:=H) (by decide)).1 h4
 rw [h2];simp;omega
def dX (l:List Nat) (i:Nat):Nat:=l.getD i 0
theorem aVk {l:List Nat} (ok:Vz l) (i:Nat):dX l i<H:=by
 unfold dX
 rw [List.getD_eq_getElem?_getD]
 cases h:l[i]? with
 | none=>simp
 | some x=>exact ok x (List.mem_of_getElem? h)
theorem rU (l:List Nat) (i:Nat):hv (l.take (i+1))=hv (l.take i)+H ^ i * dX l i:=by
  rcases Nat.lt_or_ge i l.length with h | h
  · rw [List.take_add_one,List.getElem?_eq_getElem h,aBY]
    simp [hv,dX,List.getD_eq_getElem?_getD,List.getElem?_eq_getElem h,Nat.min_eq_left (Nat.le_of_lt h)]
  · rw [List.take_of_length_le (by omega), List.take_of_length_le h]
    simp [dX,List.getD_eq_getElem?_getD,List.getElem?_eq_none h]
theorem aS5 (o:List Nat) (x:Nat):hv (o++[x])=hv o+H ^ o.length * x:=by rw [aBY];simp [hv]
def aEs:List UInt32→List Nat
 | []=>[]
 | x::r=>x.toNat % H::x.toNat / H::aEs r
theorem aVh (l:List UInt32):hv (aEs l)=val l:=by
 induction l with
 | nil=>rfl
 | cons x l ih =>
  simp only [aEs,hv,val,ih]
  have:=Nat.mod_add_div x.toNat H
  have e:H * (H * val l)=W * val l:=by rw [← Nat.mul_assoc];congr 1
  rw [Nat.mul_add,e]
  omega
theorem aV9 (l:List UInt32):Vz (aEs l):=by
 induction l with
 | nil=>intro x hx;cases hx
 | cons x l ih =>
  intro y hy
  simp only [aEs,List.mem_cons] at hy
  rcases hy with rfl | rfl | hy
  ·exact Nat.mod_lt _ (by decide)
  ·have:=bLJ x
   exact Nat.div_lt_of_lt_mul this
  exact ih y hy
end Go.Num
