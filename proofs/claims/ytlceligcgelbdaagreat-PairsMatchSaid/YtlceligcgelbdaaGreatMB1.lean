/- Rows of limbs: what is read, carried, borrowed. -/
import Init

set_option linter.unusedVariables false
set_option linter.unusedSimpArgs false
namespace Go.Num
abbrev W:Nat:=4294967296
def val:List UInt32→Nat
 | []=>0
 | x::r=>x.toNat+W * val r
def toL (n:Nat):List UInt32:=if h:n=0 then [] else UInt32.ofNat (n % W)::toL (n / W)
decreasing_by exact Nat.div_lt_self (Nat.pos_of_ne_zero h) (by decide)
theorem uW:toL 0=[]:=by rw [toL];rfl
theorem aGw {n:Nat} (h:0<n):toL n=UInt32.ofNat (n % W)::toL (n / W):=by
 rw [toL,dif_neg (by omega)]
theorem bJW (x:UInt32):x.toNat<W:=x.toNat_lt
theorem ofNat_toNat {n:Nat} (h:n<W):(UInt32.ofNat n).toNat=n:=by simp;omega
theorem iN (n:Nat):val (toL n)=n:=by
  induction n using Nat.strongRecOn with
  | _ n ih =>
    rcases Nat.eq_zero_or_pos n with rfl | h
    · rw [uW];rfl
    · rw [aGw h, val, ih (n / W) (Nat.div_lt_self h (by decide)), ofNat_toNat (Nat.mod_lt _ (by decide))]
      exact Nat.mod_add_div n W
theorem I7 (a b:List UInt32):val (a++b)=val a+W ^ a.length * val b:=by
 induction a with
 | nil=>simp [val]
 | cons x a ih =>
  rw [List.cons_append,val,ih,val,List.length_cons,Nat.pow_succ,Nat.mul_add,← Nat.mul_assoc,Nat.mul_comm W (W ^ a.length)]
  omega
theorem aEN (l:List UInt32):val l<W ^ l.length:=by
 induction l with
 | nil=>simp [val]
 | cons x l ih =>
  have h:=bJW x
  rw [val,List.length_cons,Nat.pow_succ,Nat.mul_comm (W ^ l.length) W]
  have:W * val l+W≤W * W ^ l.length:=by rw [← Nat.mul_succ];exact Nat.mul_le_mul_left W ih
  omega
def aAV (l:List UInt32):Prop:=l=[]∨∃ r x,l=r++[x]∧x≠0
theorem aXL {x:UInt32} {l:List UInt32} (h:aAV (x::l)):aAV l:=by
 rcases h with h | ⟨r,y,h,hy⟩
 ·cases h
 cases r with
 | nil=>simp at h;exact .inl h.2
 | cons z r=>simp at h;exact .inr ⟨r,y,h.2,hy⟩
theorem aTh {l:List UInt32} (h:aAV l) (hl:l≠[]):0<val l:=by
 rcases h with h | ⟨r,x,rfl,hx⟩
 ·exact absurd h hl
 rw [I7]
 have:0<x.toNat:=by
  rcases Nat.eq_zero_or_pos x.toNat with h | h
  ·exact absurd (UInt32.toNat_inj.1 h) hx
  exact h
 have h2:0<W ^ r.length * val [x]:=Nat.mul_pos (Nat.pow_pos (by decide)) (by simp [val];exact this)
 omega
theorem aT3 {l:List UInt32} (h:aAV l):toL (val l)=l:=by
 induction l with
 | nil=>exact uW
 | cons x l ih =>
  have hp:=aTh h (by simp)
  have h1:=bJW x
  rw [aGw hp]
  have e1:val (x::l) % W=x.toNat:=by rw [val,Nat.add_mul_mod_self_left,Nat.mod_eq_of_lt h1]
  have e2:val (x::l) / W=val l:=by rw [val,Nat.add_mul_div_left _ _ (by decide),Nat.div_eq_of_lt h1,Nat.zero_add]
  rw [e1,e2,ih (aXL h)]
  simp
theorem aHc (n:Nat):aAV (toL n):=by
 induction n using Nat.strongRecOn with
 | _ n ih =>
  rcases Nat.eq_zero_or_pos n with rfl | h
  ·exact .inl uW
  rw [aGw h]
  rcases ih (n / W) (Nat.div_lt_self h (by decide)) with h2 | ⟨r,x,h2,hx⟩
  ·right
   refine ⟨[],UInt32.ofNat (n % W),by simp [h2],fun e=>?_⟩
   have h3:n / W=0:=by have:=iN (n / W);rw [h2] at this;exact this.symm
   have h4:(UInt32.ofNat (n % W)).toNat=0:=by rw [e];rfl
   rw [ofNat_toNat (Nat.mod_lt _ (by decide))] at h4
   have:=Nat.mod_add_div n W
   rw [h3,h4] at this
   omega
  exact .inr ⟨UInt32.ofNat (n % W)::r,x,by rw [h2];rfl,hx⟩
theorem qS {n k:Nat}:(toL n).length≤k↔n<W ^ k:=by
 constructor
 ·intro h
  have:=aEN (toL n)
  rw [iN] at this
  exact Nat.lt_of_lt_of_le this (Nat.pow_le_pow_right (by decide) h)
 intro h
 rcases aHc n with h2 | ⟨r,x,h2,hx⟩
 ·rw [h2];simp
 have hv:=iN n
 rw [h2,I7] at hv
 have hx0:0<x.toNat:=by
  rcases Nat.eq_zero_or_pos x.toNat with h | h
  ·exact absurd (UInt32.toNat_inj.1 h) hx
  exact h
 have h3:W ^ r.length≤n:=by
  have:W ^ r.length * 1≤W ^ r.length * val [x]:=Nat.mul_le_mul_left _ (by simp [val];omega)
  omega
 have h4:W ^ r.length<W ^ k:=Nat.lt_of_le_of_lt h3 h
 have:=(Nat.pow_lt_pow_iff_right (a:=W) (by decide)).1 h4
 rw [h2];simp;omega
theorem bB3 {l:List UInt32}:aAV l↔l=[]∨∃ h:l≠[],l.getLast h≠0:=by
 constructor
 ·rintro (h | ⟨r,x,rfl,hx⟩)
  ·exact .inl h
  exact .inr ⟨by simp,by simpa using hx⟩
 rintro (h | ⟨h,hx⟩)
 ·exact .inl h
 exact .inr ⟨l.dropLast,l.getLast h,(List.dropLast_concat_getLast h).symm,hx⟩
def nF (l:List UInt32) (i:Nat):Nat:=(l.getD i 0).toNat
theorem kO (l:List UInt32) (i:Nat):val (l.take (i+1))=val (l.take i)+W ^ i * nF l i:=by
  rcases Nat.lt_or_ge i l.length with h | h
  · rw [List.take_add_one,List.getElem?_eq_getElem h,I7]
    simp [val,nF,List.getD_eq_getElem?_getD,List.getElem?_eq_getElem h,Nat.min_eq_left (Nat.le_of_lt h)]
  · rw [List.take_of_length_le (by omega), List.take_of_length_le h]
    simp [nF,List.getD_eq_getElem?_getD,List.getElem?_eq_none h]
theorem aBB (o:List UInt32) (x:UInt32):val (o++[x])=val o+W ^ o.length * x.toNat:=by
 rw [I7];simp [val]
theorem aEP {o:List UInt32} {lo:UInt32} {c' z:Nat} (h:lo.toNat+W * c'=z):val (o++[lo])+W ^ (o.length+1) * c'=val o+W ^ o.length * z:=by
 rw [aBB,← h,Nat.mul_add,Nat.pow_succ,Nat.mul_assoc]
 omega
theorem aWt {a b o:List UInt32} {i c c':Nat} {lo:UInt32} (hl:o.length=i) (h:val o+W ^ i * c=val (a.take i)+val (b.take i)) (hs:lo.toNat+W * c'=nF a i+nF b i+c) :
  val (o++[lo])+W ^ (i+1) * c'=val (a.take (i+1))+val (b.take (i+1)):=by
 subst hl
 rw [aEP hs,kO,kO,Nat.mul_add,Nat.mul_add]
 omega
theorem bGJ {a b o:List UInt32} {i c c':Nat} {lo:UInt32} (hl:o.length=i) (h:val o+val (b.take i)=val (a.take i)+W ^ i * c) (hs:lo.toNat+nF b i+c=nF a i+W * c') :
  val (o++[lo])+val (b.take (i+1))=val (a.take (i+1))+W ^ (i+1) * c':=by
 subst hl
 rw [aBB,kO,kO,Nat.pow_succ,Nat.mul_assoc]
 have e:W ^ o.length * lo.toNat+W ^ o.length * nF b o.length+W ^ o.length * c=W ^ o.length * nF a o.length+W ^ o.length * (W * c'):=by
  rw [← Nat.mul_add,← Nat.mul_add,← Nat.mul_add,hs]
 omega
theorem bEb {a o:List UInt32} {i c c' m:Nat} {lo:UInt32} (hl:o.length=i) (h:val o+W ^ i * c=val (a.take i) * m) (hs:lo.toNat+W * c'=nF a i * m+c) :
  val (o++[lo])+W ^ (i+1) * c'=val (a.take (i+1)) * m:=by
 subst hl
 rw [aEP hs,kO,Nat.add_mul,Nat.mul_add,Nat.mul_assoc]
 omega
theorem bGX {p o:List UInt32} {b:List UInt32} {i k c c' x:Nat} {lo:UInt32} (hl:o.length=i+k) (h:val o+W ^ (i+k) * c=val (p.take (i+k))+W ^ i * (x * val (b.take k)))
  (hs:lo.toNat+W * c'=nF p (i+k)+x * nF b k+c):val (o++[lo])+W ^ (i+k+1) * c'=val (p.take (i+k+1))+W ^ i * (x * val (b.take (k+1))):=by
 have e:val (o++[lo])+W ^ (i+k+1) * c'=val o+W ^ (i+k) * (nF p (i+k)+x * nF b k+c):=by rw [← hl];rw [← hl] at hs;exact aEP hs
 rw [e,kO,kO,Nat.mul_add (W ^ (i+k)),Nat.mul_add (W ^ (i+k)),Nat.mul_add x,Nat.mul_add (W ^ i)]
 have e2:W ^ (i+k) * (x * nF b k)=W ^ i * (x * (W ^ k * nF b k)):=by
  rw [Nat.pow_add,Nat.mul_assoc,Nat.mul_left_comm (W ^ k) x]
 omega
theorem aW1 {M two first second low q:Nat} (hM:2≤M) (hf:0<first) (hfW:first<M) (hs:second<M) (ht:two<M * first+M) (hq:q * first≤two)
    (hd:(q<M∧q * second≤(two - q * first) * M+low)∨M≤two - q * first)
    (hmax:∀ q',q<q'→q'<M→two * M+low<q' * (first * M+second)):q=min (M - 1) ((two * M+low) / (first * M+second)):=by
  have hv0:0<first * M+second:=by have:=Nat.mul_pos hf (show 0<M by omega);omega
  have hq1:q<M:=by
    rcases hd with h | h
    · exact h.1
    · rcases Nat.lt_or_ge q M with h2 | h2
      · exact h2
      · have:M * first≤q * first:=Nat.mul_le_mul_right first h2
        omega
  have h1:q * (first * M+second)≤two * M+low:=by
    have e1:q * (first * M+second)=q * first * M+q * second:=by rw [Nat.mul_add,Nat.mul_assoc]
    have e2:(two - q * first) * M+q * first * M=two * M:=by rw [← Nat.add_mul];congr 1;omega
    rcases hd with ⟨_,h⟩ | h
    · omega
    · have h3 : q * second ≤ M * M := Nat.mul_le_mul (by omega) (by omega)
      have h4:M * M≤(two - q * first) * M:=Nat.mul_le_mul_right M h
      omega
  have h2:q≤(two * M+low) / (first * M+second):=(Nat.le_div_iff_mul_le hv0).2 h1
  rcases Nat.lt_or_ge (q+1) M with h3 | h3
  · have h4 := hmax (q + 1) (by omega) h3
    have h5:(two * M+low) / (first * M+second)<q+1:=(Nat.div_lt_iff_lt_mul hv0).2 h4
    omega
  · omega
abbrev aNh:Type:=Bool×List UInt32
def aUX (l:List UInt32):Bool:=match l.getLast? with
 | some x=>x != 0
 | none=>true
theorem aPa {l:List UInt32}:aUX l=true↔aAV l:=by
 unfold aUX
 rw [bB3]
 cases h:l.getLast? with
 | none=>simp at h;simp [h]
 | some x =>
  have hne:l≠[]:=by intro e;simp [e] at h
  rw [List.getLast?_eq_some_getLast hne] at h
  injection h with h
  simp only [bne_iff_ne,ne_eq]
  constructor
  ·intro hx;exact .inr ⟨hne,by rw [h];exact hx⟩
  rintro (e | ⟨_,hx⟩)
  ·exact absurd e hne
  rw [h] at hx;exact hx
def xJ (x:aNh):Bool:=aUX x.2 && !(x.1 && x.2.isEmpty)
def Pi (neg:Bool) (n:Nat):Int:=if neg then -(n:Int) else n
def mB (x:aNh):Int:=if xJ x=true then Pi x.1 (val x.2) else 0
def cI (z:Int):aNh:=(decide (z<0),toL z.natAbs)
theorem aTW {x:aNh} (h:xJ x=true):aAV x.2:=by
 unfold xJ at h
 simp only [Bool.and_eq_true] at h
 exact aPa.1 h.1
theorem aWg (z:Int):xJ (cI z)=true:=by
 unfold xJ cI
 simp only [Bool.and_eq_true,aPa,Bool.not_eq_true',Bool.and_eq_false_iff,decide_eq_false_iff_not]
 refine ⟨aHc _,?_⟩
 rcases Int.lt_or_le z 0 with h | h
 ·right
  rw [aGw (by omega)];rfl
 left;omega
theorem aW7 (z:Int):mB (cI z)=z:=by
 unfold mB
 rw [if_pos (aWg z)]
 unfold cI Pi
 simp only [iN]
 rcases Int.lt_or_le z 0 with h | h
 ·rw [if_pos (by simpa using h)];omega
 rw [if_neg (by simpa using h)];omega
theorem bOa {x:aNh} (h:xJ x=true):cI (mB x)=x:=by
 unfold mB
 rw [if_pos h]
 have hc:=aTW h
 obtain ⟨neg,l⟩:=x
 unfold xJ at h
 simp only [Bool.and_eq_true,Bool.not_eq_true',Bool.and_eq_false_iff] at h
 unfold cI Pi
 cases neg with
 | false =>
  simp only [Bool.false_eq_true,if_false]
  rw [Prod.mk.injEq]
  exact ⟨decide_eq_false (by omega),by simpa using aT3 hc⟩
 | true =>
  have hne:l≠[]:=by
   rcases h.2 with h | h
   ·cases h
   intro e;simp [e] at h
  have hp:=aTh hc hne
  simp only at hp
  simp only [if_true]
  rw [Prod.mk.injEq]
  exact ⟨decide_eq_true (by omega),by simpa using aT3 hc⟩
abbrev aUq:Type:=aNh×aNh
def yU (x:aUq):Bool:=xJ x.1 && xJ x.2 && decide (0<mB x.2) && decide (Int.gcd (mB x.1) (mB x.2)=1)
def valR (x:aUq):Rat:=if yU x=true then Rat.divInt (mB x.1) (mB x.2) else 0
def cR (q:Rat):aUq:=(cI q.num,cI q.den)
theorem bF9 (q:Rat):yU (cR q)=true:=by
 unfold yU cR
 simp only [aWg,aW7,Bool.and_eq_true,decide_eq_true_eq,true_and]
 refine ⟨by have:=q.den_pos;omega,?_⟩
 have:=q.reduced
 rw [Int.gcd]
 simpa using this
theorem bQx (q:Rat):valR (cR q)=q:=by
 unfold valR
 rw [if_pos (bF9 q)]
 unfold cR
 simp only [aW7]
 exact Rat.num_divInt_den q
theorem aGt {x:aUq} (h:yU x=true):xJ x.1=true∧xJ x.2=true∧0<mB x.2∧Int.gcd (mB x.1) (mB x.2)=1:=by
 unfold yU at h
 simpa [Bool.and_eq_true,decide_eq_true_eq,and_assoc] using h
theorem Za {x:aUq} (h:yU x=true):(valR x).num=mB x.1∧((valR x).den:Int)=mB x.2:=by
 obtain ⟨h1,h2,h3,h4⟩:=aGt h
 unfold valR
 rw [if_pos h,Rat.num_divInt,Rat.den_divInt]
 have e:Int.gcd (mB x.2) (mB x.1)=1:=by rw [Int.gcd_comm];exact h4
 rw [if_neg (by omega),e,Int.sign_eq_one_of_pos h3]
 simp
 omega
theorem aXH {n d g:Int} (hd:d≠0) (hg:g=if d<0 then -(Int.gcd n d:Int) else Int.gcd n d):(n / g,d / g)=((Rat.divInt n d).num,((Rat.divInt n d).den:Int)):=by
  have hgp:(0:Int)<Int.gcd n d:=by
    have:=Int.gcd_pos_of_ne_zero_right n hd
    omega
  rw [Rat.num_divInt,Rat.den_divInt,if_neg hd,Int.gcd_comm d n]
  rcases Int.lt_or_le d 0 with h | h
  · rw [if_pos h] at hg
    subst hg
    rw [Int.sign_eq_neg_one_of_neg h]
    congr 1
    · rw [Int.ediv_neg,Int.neg_mul,Int.one_mul,Int.neg_ediv_of_dvd (Int.gcd_dvd_left n d)]
    · rw [Int.ediv_neg,Int.natCast_ediv,← Int.neg_ediv_of_dvd (Int.gcd_dvd_right n d)]
      congr 1
      omega
  · rw [if_neg (by omega)] at hg
    subst hg
    rw [Int.sign_eq_one_of_pos (by omega)]
    congr 1
    · rw [Int.one_mul]
    · rw [Int.natCast_ediv]
      congr 1
      omega
abbrev H:Nat:=65536
def hv:List Nat→Nat
 | []=>0
 | x::r=>x+H * hv r
def L8 (l:List Nat):Prop:=∀ x,x∈l→x<H
def pS (n:Nat):List Nat:=if h:n=0 then [] else (n % H)::pS (n / H)
decreasing_by exact Nat.div_lt_self (Nat.pos_of_ne_zero h) (by decide)
theorem S5:pS 0=[]:=by rw [pS];rfl
theorem aFm {n:Nat} (h:0<n):pS n=(n % H)::pS (n / H):=by rw [pS,dif_neg (by omega)]
theorem xP (n:Nat):hv (pS n)=n:=by
  induction n using Nat.strongRecOn with
  | _ n ih =>
    rcases Nat.eq_zero_or_pos n with rfl | h
    · rw [S5];rfl
    · rw [aFm h, hv, ih (n / H) (Nat.div_lt_self h (by decide))]
      exact Nat.mod_add_div n H
theorem yJ (n:Nat):L8 (pS n):=by
 induction n using Nat.strongRecOn with
 | _ n ih =>
  intro x hx
  rcases Nat.eq_zero_or_pos n with rfl | h
  ·rw [S5] at hx;cases hx
  rw [aFm h] at hx
  rcases List.mem_cons.1 hx with rfl | hx
  ·exact Nat.mod_lt _ (by decide)
  exact ih (n / H) (Nat.div_lt_self h (by decide)) x hx
theorem V9 (a b:List Nat):hv (a++b)=hv a+H ^ a.length * hv b:=by
 induction a with
 | nil=>simp [hv]
 | cons x a ih =>
  rw [List.cons_append,hv,ih,hv,List.length_cons,Nat.pow_succ,Nat.mul_add,← Nat.mul_assoc,Nat.mul_comm H (H ^ a.length)]
  omega
theorem aSP {l:List Nat} (ok:L8 l):hv l<H ^ l.length:=by
 induction l with
 | nil=>simp [hv]
 | cons x l ih =>
  have h:=ok x (by simp)
  have ih:=ih fun y hy=>ok y (by simp [hy])
  rw [hv,List.length_cons,Nat.pow_succ,Nat.mul_comm (H ^ l.length) H]
  have:H * hv l+H≤H * H ^ l.length:=by rw [← Nat.mul_succ];exact Nat.mul_le_mul_left H ih
  omega
def aE2 (l:List Nat):Prop:=l=[]∨∃ r x,l=r++[x]∧x≠0
theorem aVY {x:Nat} {l:List Nat} (h:aE2 (x::l)):aE2 l:=by
 rcases h with h | ⟨r,y,h,hy⟩
 ·cases h
 cases r with
 | nil=>simp at h;exact .inl h.2
 | cons z r=>simp at h;exact .inr ⟨r,y,h.2,hy⟩
theorem aXf {l:List Nat} (h:aE2 l) (hl:l≠[]):0<hv l:=by
 rcases h with h | ⟨r,x,rfl,hx⟩
 ·exact absurd h hl
 rw [V9]
 have h2:0<H ^ r.length * hv [x]:=Nat.mul_pos (Nat.pow_pos (by decide)) (by simp [hv];omega)
 omega
theorem bNS {l:List Nat} (ok:L8 l) (h:aE2 l):pS (hv l)=l:=by
 induction l with
 | nil=>exact S5
 | cons x l ih =>
  have hp:=aXf h (by simp)
  have h1:=ok x (by simp)
  rw [aFm hp]
  have e1:hv (x::l) % H=x:=by rw [hv,Nat.add_mul_mod_self_left,Nat.mod_eq_of_lt h1]
  have e2:hv (x::l) / H=hv l:=by rw [hv,Nat.add_mul_div_left _ _ (by decide),Nat.div_eq_of_lt h1,Nat.zero_add]
  rw [e1,e2,ih (fun y hy=>ok y (by simp [hy])) (aVY h)]
theorem aTw (n:Nat):aE2 (pS n):=by
 induction n using Nat.strongRecOn with
 | _ n ih =>
  rcases Nat.eq_zero_or_pos n with rfl | h
  ·exact .inl S5
  rw [aFm h]
  rcases ih (n / H) (Nat.div_lt_self h (by decide)) with h2 | ⟨r,x,h2,hx⟩
  ·right
   refine ⟨[],n % H,by simp [h2],fun e=>?_⟩
   have h3:n / H=0:=by have:=xP (n / H);rw [h2] at this;exact this.symm
   have:=Nat.mod_add_div n H
   rw [h3,e] at this
   omega
  exact .inr ⟨n % H::r,x,by rw [h2];rfl,hx⟩
theorem Gp {n k:Nat}:(pS n).length≤k↔n<H ^ k:=by
 constructor
 ·intro h
  have:=aSP (yJ n)
  rw [xP] at this
  exact Nat.lt_of_lt_of_le this (Nat.pow_le_pow_right (by decide) h)
 intro h
 rcases aTw n with h2 | ⟨r,x,h2,hx⟩
 ·rw [h2];simp
 have hv:=xP n
 rw [h2,V9] at hv
 have h3:H ^ r.length≤n:=by
  have:H ^ r.length * 1≤H ^ r.length * Num.hv [x]:=Nat.mul_le_mul_left _ (by simp [Num.hv];omega)
  omega
 have h4:H ^ r.length<H ^ k:=Nat.lt_of_le_of_lt h3 h
 have:=(Nat.pow_lt_pow_iff_right (a:=H) (by decide)).1 h4
 rw [h2];simp;omega
def gI (l:List Nat) (i:Nat):Nat:=l.getD i 0
theorem aUm {l:List Nat} (ok:L8 l) (i:Nat):gI l i<H:=by
 unfold gI
 rw [List.getD_eq_getElem?_getD]
 cases h:l[i]? with
 | none=>simp
 | some x=>exact ok x (List.mem_of_getElem? h)
theorem sH (l:List Nat) (i:Nat):hv (l.take (i+1))=hv (l.take i)+H ^ i * gI l i:=by
  rcases Nat.lt_or_ge i l.length with h | h
  · rw [List.take_add_one,List.getElem?_eq_getElem h,V9]
    simp [hv,gI,List.getD_eq_getElem?_getD,List.getElem?_eq_getElem h,Nat.min_eq_left (Nat.le_of_lt h)]
  · rw [List.take_of_length_le (by omega), List.take_of_length_le h]
    simp [gI,List.getD_eq_getElem?_getD,List.getElem?_eq_none h]
theorem aMA (o:List Nat) (x:Nat):hv (o++[x])=hv o+H ^ o.length * x:=by rw [V9];simp [hv]
def aAB:List UInt32→List Nat
 | []=>[]
 | x::r=>x.toNat % H::x.toNat / H::aAB r
theorem aUd (l:List UInt32):hv (aAB l)=val l:=by
 induction l with
 | nil=>rfl
 | cons x l ih =>
  simp only [aAB,hv,val,ih]
  have:=Nat.mod_add_div x.toNat H
  have e:H * (H * val l)=W * val l:=by rw [← Nat.mul_assoc];congr 1
  rw [Nat.mul_add,e]
  omega
theorem aUp (l:List UInt32):L8 (aAB l):=by
 induction l with
 | nil=>intro x hx;cases hx
 | cons x l ih =>
  intro y hy
  simp only [aAB,List.mem_cons] at hy
  rcases hy with rfl | rfl | hy
  ·exact Nat.mod_lt _ (by decide)
  ·have:=bJW x
   exact Nat.div_lt_of_lt_mul this
  exact ih y hy
end Go.Num
