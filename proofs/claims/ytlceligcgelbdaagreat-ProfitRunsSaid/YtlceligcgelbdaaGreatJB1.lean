/- Rows of limbs: what is read, carried, borrowed. -/
import Init

set_option linter.unusedVariables false
set_option linter.unusedSimpArgs false
namespace Go.Num
abbrev W:Nat:=4294967296
def val:List UInt32→Nat
 | []=>0
 | x::r=>x.toNat+W * val r
def toL (n:Nat):List UInt32:=if h:n=0 then [] else UInt32.ofNat (n % W)::toL (n / W)
decreasing_by exact Nat.div_lt_self (Nat.pos_of_ne_zero h) (by decide)
theorem toL_zero:toL 0=[]:=by rw [toL];rfl
theorem toL_pos {n:Nat} (h:0<n):toL n=UInt32.ofNat (n % W)::toL (n / W):=by
 rw [toL,dif_neg (by omega)]
theorem lt32 (x:UInt32):x.toNat<W:=x.toNat_lt
theorem ofNat_toNat {n:Nat} (h:n<W):(UInt32.ofNat n).toNat=n:=by simp;omega
theorem val_toL (n:Nat):val (toL n)=n:=by
  induction n using Nat.strongRecOn with
  | _ n ih =>
    rcases Nat.eq_zero_or_pos n with rfl | h
    · rw [toL_zero];rfl
    · rw [toL_pos h, val, ih (n / W) (Nat.div_lt_self h (by decide)), ofNat_toNat (Nat.mod_lt _ (by decide))]
      exact Nat.mod_add_div n W
theorem val_append (a b:List UInt32):val (a++b)=val a+W ^ a.length * val b:=by
 induction a with
 | nil=>simp [val]
 | cons x a ih =>
  rw [List.cons_append,val,ih,val,List.length_cons,Nat.pow_succ,Nat.mul_add,← Nat.mul_assoc,Nat.mul_comm W (W ^ a.length)]
  omega
theorem val_lt (l:List UInt32):val l<W ^ l.length:=by
 induction l with
 | nil=>simp [val]
 | cons x l ih =>
  have h:=lt32 x
  rw [val,List.length_cons,Nat.pow_succ,Nat.mul_comm (W ^ l.length) W]
  have:W * val l+W≤W * W ^ l.length:=by rw [← Nat.mul_succ];exact Nat.mul_le_mul_left W ih
  omega
def canon (l:List UInt32):Prop:=l=[]∨∃ r x,l=r++[x]∧x≠0
theorem canon_cons {x:UInt32} {l:List UInt32} (h:canon (x::l)):canon l:=by
 rcases h with h | ⟨r,y,h,hy⟩
 ·cases h
 cases r with
 | nil=>simp at h;exact .inl h.2
 | cons z r=>simp at h;exact .inr ⟨r,y,h.2,hy⟩
theorem canon_pos {l:List UInt32} (h:canon l) (hl:l≠[]):0<val l:=by
 rcases h with h | ⟨r,x,rfl,hx⟩
 ·exact absurd h hl
 rw [val_append]
 have:0<x.toNat:=by
  rcases Nat.eq_zero_or_pos x.toNat with h | h
  ·exact absurd (UInt32.toNat_inj.1 h) hx
  exact h
 have h2:0<W ^ r.length * val [x]:=Nat.mul_pos (Nat.pow_pos (by decide)) (by simp [val];exact this)
 omega
theorem toL_val {l:List UInt32} (h:canon l):toL (val l)=l:=by
 induction l with
 | nil=>exact toL_zero
 | cons x l ih =>
  have hp:=canon_pos h (by simp)
  have h1:=lt32 x
  rw [toL_pos hp]
  have e1:val (x::l) % W=x.toNat:=by rw [val,Nat.add_mul_mod_self_left,Nat.mod_eq_of_lt h1]
  have e2:val (x::l) / W=val l:=by rw [val,Nat.add_mul_div_left _ _ (by decide),Nat.div_eq_of_lt h1,Nat.zero_add]
  rw [e1,e2,ih (canon_cons h)]
  simp
theorem canon_toL (n:Nat):canon (toL n):=by
 induction n using Nat.strongRecOn with
 | _ n ih =>
  rcases Nat.eq_zero_or_pos n with rfl | h
  ·exact .inl toL_zero
  rw [toL_pos h]
  rcases ih (n / W) (Nat.div_lt_self h (by decide)) with h2 | ⟨r,x,h2,hx⟩
  ·right
   refine ⟨[],UInt32.ofNat (n % W),by simp [h2],fun e=>?_⟩
   have h3:n / W=0:=by have:=val_toL (n / W);rw [h2] at this;exact this.symm
   have h4:(UInt32.ofNat (n % W)).toNat=0:=by rw [e];rfl
   rw [ofNat_toNat (Nat.mod_lt _ (by decide))] at h4
   have:=Nat.mod_add_div n W
   rw [h3,h4] at this
   omega
  exact .inr ⟨UInt32.ofNat (n % W)::r,x,by rw [h2];rfl,hx⟩
theorem toL_len {n k:Nat}:(toL n).length≤k↔n<W ^ k:=by
 constructor
 ·intro h
  have:=val_lt (toL n)
  rw [val_toL] at this
  exact Nat.lt_of_lt_of_le this (Nat.pow_le_pow_right (by decide) h)
 intro h
 rcases canon_toL n with h2 | ⟨r,x,h2,hx⟩
 ·rw [h2];simp
 have hv:=val_toL n
 rw [h2,val_append] at hv
 have hx0:0<x.toNat:=by
  rcases Nat.eq_zero_or_pos x.toNat with h | h
  ·exact absurd (UInt32.toNat_inj.1 h) hx
  exact h
 have h3:W ^ r.length≤n:=by
  have:W ^ r.length * 1≤W ^ r.length * val [x]:=Nat.mul_le_mul_left _ (by simp [val];omega)
  omega
 have h4:W ^ r.length<W ^ k:=Nat.lt_of_le_of_lt h3 h
 have:=(Nat.pow_lt_pow_iff_right (a:=W) (by decide)).1 h4
 rw [h2];simp;omega
theorem canon_iff {l:List UInt32}:canon l↔l=[]∨∃ h:l≠[],l.getLast h≠0:=by
 constructor
 ·rintro (h | ⟨r,x,rfl,hx⟩)
  ·exact .inl h
  exact .inr ⟨by simp,by simpa using hx⟩
 rintro (h | ⟨h,hx⟩)
 ·exact .inl h
 exact .inr ⟨l.dropLast,l.getLast h,(List.dropLast_concat_getLast h).symm,hx⟩
def dig (l:List UInt32) (i:Nat):Nat:=(l.getD i 0).toNat
theorem val_take_succ (l:List UInt32) (i:Nat):val (l.take (i+1))=val (l.take i)+W ^ i * dig l i:=by
  rcases Nat.lt_or_ge i l.length with h | h
  · rw [List.take_add_one,List.getElem?_eq_getElem h,val_append]
    simp [val,dig,List.getD_eq_getElem?_getD,List.getElem?_eq_getElem h,Nat.min_eq_left (Nat.le_of_lt h)]
  · rw [List.take_of_length_le (by omega), List.take_of_length_le h]
    simp [dig,List.getD_eq_getElem?_getD,List.getElem?_eq_none h]
theorem val_snoc (o:List UInt32) (x:UInt32):val (o++[x])=val o+W ^ o.length * x.toNat:=by
 rw [val_append];simp [val]
theorem carry_step {o:List UInt32} {lo:UInt32} {c' z:Nat} (h:lo.toNat+W * c'=z):val (o++[lo])+W ^ (o.length+1) * c'=val o+W ^ o.length * z:=by
 rw [val_snoc,← h,Nat.mul_add,Nat.pow_succ,Nat.mul_assoc]
 omega
theorem add_step {a b o:List UInt32} {i c c':Nat} {lo:UInt32} (hl:o.length=i) (h:val o+W ^ i * c=val (a.take i)+val (b.take i)) (hs:lo.toNat+W * c'=dig a i+dig b i+c) :
  val (o++[lo])+W ^ (i+1) * c'=val (a.take (i+1))+val (b.take (i+1)):=by
 subst hl
 rw [carry_step hs,val_take_succ,val_take_succ,Nat.mul_add,Nat.mul_add]
 omega
theorem sub_step {a b o:List UInt32} {i c c':Nat} {lo:UInt32} (hl:o.length=i) (h:val o+val (b.take i)=val (a.take i)+W ^ i * c) (hs:lo.toNat+dig b i+c=dig a i+W * c') :
  val (o++[lo])+val (b.take (i+1))=val (a.take (i+1))+W ^ (i+1) * c':=by
 subst hl
 rw [val_snoc,val_take_succ,val_take_succ,Nat.pow_succ,Nat.mul_assoc]
 have e:W ^ o.length * lo.toNat+W ^ o.length * dig b o.length+W ^ o.length * c=W ^ o.length * dig a o.length+W ^ o.length * (W * c'):=by
  rw [← Nat.mul_add,← Nat.mul_add,← Nat.mul_add,hs]
 omega
theorem mul_step {a o:List UInt32} {i c c' m:Nat} {lo:UInt32} (hl:o.length=i) (h:val o+W ^ i * c=val (a.take i) * m) (hs:lo.toNat+W * c'=dig a i * m+c) :
  val (o++[lo])+W ^ (i+1) * c'=val (a.take (i+1)) * m:=by
 subst hl
 rw [carry_step hs,val_take_succ,Nat.add_mul,Nat.mul_add,Nat.mul_assoc]
 omega
theorem row_step {p o:List UInt32} {b:List UInt32} {i k c c' x:Nat} {lo:UInt32} (hl:o.length=i+k) (h:val o+W ^ (i+k) * c=val (p.take (i+k))+W ^ i * (x * val (b.take k)))
  (hs:lo.toNat+W * c'=dig p (i+k)+x * dig b k+c):val (o++[lo])+W ^ (i+k+1) * c'=val (p.take (i+k+1))+W ^ i * (x * val (b.take (k+1))):=by
 have e:val (o++[lo])+W ^ (i+k+1) * c'=val o+W ^ (i+k) * (dig p (i+k)+x * dig b k+c):=by rw [← hl];rw [← hl] at hs;exact carry_step hs
 rw [e,val_take_succ,val_take_succ,Nat.mul_add (W ^ (i+k)),Nat.mul_add (W ^ (i+k)),Nat.mul_add x,Nat.mul_add (W ^ i)]
 have e2:W ^ (i+k) * (x * dig b k)=W ^ i * (x * (W ^ k * dig b k)):=by
  rw [Nat.pow_add,Nat.mul_assoc,Nat.mul_left_comm (W ^ k) x]
 omega
theorem guess_exit {M two first second low q:Nat} (hM:2≤M) (hf:0<first) (hfW:first<M) (hs:second<M) (ht:two<M * first+M) (hq:q * first≤two)
    (hd:(q<M∧q * second≤(two - q * first) * M+low)∨M≤two - q * first)
    (hmax:∀ q',q<q'→q'<M→two * M+low<q' * (first * M+second)):q=min (M - 1) ((two * M+low) / (first * M+second)):=by
  have hv0:0<first * M+second:=by have:=Nat.mul_pos hf (show 0<M by omega);omega
  have hq1:q<M:=by
    rcases hd with h | h
    · exact h.1
    · rcases Nat.lt_or_ge q M with h2 | h2
      · exact h2
      · have:M * first≤q * first:=Nat.mul_le_mul_right first h2
        omega
  have h1:q * (first * M+second)≤two * M+low:=by
    have e1:q * (first * M+second)=q * first * M+q * second:=by rw [Nat.mul_add,Nat.mul_assoc]
    have e2:(two - q * first) * M+q * first * M=two * M:=by rw [← Nat.add_mul];congr 1;omega
    rcases hd with ⟨_,h⟩ | h
    · omega
    · have h3 : q * second ≤ M * M := Nat.mul_le_mul (by omega) (by omega)
      have h4:M * M≤(two - q * first) * M:=Nat.mul_le_mul_right M h
      omega
  have h2:q≤(two * M+low) / (first * M+second):=(Nat.le_div_iff_mul_le hv0).2 h1
  rcases Nat.lt_or_ge (q+1) M with h3 | h3
  · have h4 := hmax (q + 1) (by omega) h3
    have h5:(two * M+low) / (first * M+second)<q+1:=(Nat.div_lt_iff_lt_mul hv0).2 h4
    omega
  · omega
abbrev RawI:Type:=Bool×List UInt32
def lastOk (l:List UInt32):Bool:=match l.getLast? with
 | some x=>x != 0
 | none=>true
theorem lastOk_iff {l:List UInt32}:lastOk l=true↔canon l:=by
 unfold lastOk
 rw [canon_iff]
 cases h:l.getLast? with
 | none=>simp at h;simp [h]
 | some x =>
  have hne:l≠[]:=by intro e;simp [e] at h
  rw [List.getLast?_eq_some_getLast hne] at h
  injection h with h
  simp only [bne_iff_ne,ne_eq]
  constructor
  ·intro hx;exact .inr ⟨hne,by rw [h];exact hx⟩
  rintro (e | ⟨_,hx⟩)
  ·exact absurd e hne
  rw [h] at hx;exact hx
def rightI (x:RawI):Bool:=lastOk x.2 && !(x.1 && x.2.isEmpty)
def sgn (neg:Bool) (n:Nat):Int:=if neg then -(n:Int) else n
def valI (x:RawI):Int:=if rightI x=true then sgn x.1 (val x.2) else 0
def cI (z:Int):RawI:=(decide (z<0),toL z.natAbs)
theorem rightI_canon {x:RawI} (h:rightI x=true):canon x.2:=by
 unfold rightI at h
 simp only [Bool.and_eq_true] at h
 exact lastOk_iff.1 h.1
theorem right_cI (z:Int):rightI (cI z)=true:=by
 unfold rightI cI
 simp only [Bool.and_eq_true,lastOk_iff,Bool.not_eq_true',Bool.and_eq_false_iff,decide_eq_false_iff_not]
 refine ⟨canon_toL _,?_⟩
 rcases Int.lt_or_le z 0 with h | h
 ·right
  rw [toL_pos (by omega)];rfl
 left;omega
theorem val_cI (z:Int):valI (cI z)=z:=by
 unfold valI
 rw [if_pos (right_cI z)]
 unfold cI sgn
 simp only [val_toL]
 rcases Int.lt_or_le z 0 with h | h
 ·rw [if_pos (by simpa using h)];omega
 rw [if_neg (by simpa using h)];omega
theorem cI_val {x:RawI} (h:rightI x=true):cI (valI x)=x:=by
 unfold valI
 rw [if_pos h]
 have hc:=rightI_canon h
 obtain ⟨neg,l⟩:=x
 unfold rightI at h
 simp only [Bool.and_eq_true,Bool.not_eq_true',Bool.and_eq_false_iff] at h
 unfold cI sgn
 cases neg with
 | false =>
  simp only [Bool.false_eq_true,if_false]
  rw [Prod.mk.injEq]
  exact ⟨decide_eq_false (by omega),by simpa using toL_val hc⟩
 | true =>
  have hne:l≠[]:=by
   rcases h.2 with h | h
   ·cases h
   intro e;simp [e] at h
  have hp:=canon_pos hc hne
  simp only at hp
  simp only [if_true]
  rw [Prod.mk.injEq]
  exact ⟨decide_eq_true (by omega),by simpa using toL_val hc⟩
abbrev RawR:Type:=RawI×RawI
def rightR (x:RawR):Bool:=rightI x.1 && rightI x.2 && decide (0<valI x.2) && decide (Int.gcd (valI x.1) (valI x.2)=1)
def valR (x:RawR):Rat:=if rightR x=true then Rat.divInt (valI x.1) (valI x.2) else 0
def cR (q:Rat):RawR:=(cI q.num,cI q.den)
theorem right_cR (q:Rat):rightR (cR q)=true:=by
 unfold rightR cR
 simp only [right_cI,val_cI,Bool.and_eq_true,decide_eq_true_eq,true_and]
 refine ⟨by have:=q.den_pos;omega,?_⟩
 have:=q.reduced
 rw [Int.gcd]
 simpa using this
theorem val_cR (q:Rat):valR (cR q)=q:=by
 unfold valR
 rw [if_pos (right_cR q)]
 unfold cR
 simp only [val_cI]
 exact Rat.num_divInt_den q
theorem rightR_parts {x:RawR} (h:rightR x=true):rightI x.1=true∧rightI x.2=true∧0<valI x.2∧Int.gcd (valI x.1) (valI x.2)=1:=by
 unfold rightR at h
 simpa [Bool.and_eq_true,decide_eq_true_eq,and_assoc] using h
theorem num_of_right {x:RawR} (h:rightR x=true):(valR x).num=valI x.1∧((valR x).den:Int)=valI x.2:=by
 obtain ⟨h1,h2,h3,h4⟩:=rightR_parts h
 unfold valR
 rw [if_pos h,Rat.num_divInt,Rat.den_divInt]
 have e:Int.gcd (valI x.2) (valI x.1)=1:=by rw [Int.gcd_comm];exact h4
 rw [if_neg (by omega),e,Int.sign_eq_one_of_pos h3]
 simp
 omega
theorem reduced_ok {n d g:Int} (hd:d≠0) (hg:g=if d<0 then -(Int.gcd n d:Int) else Int.gcd n d):(n / g,d / g)=((Rat.divInt n d).num,((Rat.divInt n d).den:Int)):=by
  have hgp:(0:Int)<Int.gcd n d:=by
    have:=Int.gcd_pos_of_ne_zero_right n hd
    omega
  rw [Rat.num_divInt,Rat.den_divInt,if_neg hd,Int.gcd_comm d n]
  rcases Int.lt_or_le d 0 with h | h
  · rw [if_pos h] at hg
    subst hg
    rw [Int.sign_eq_neg_one_of_neg h]
    congr 1
    · rw [Int.ediv_neg,Int.neg_mul,Int.one_mul,Int.neg_ediv_of_dvd (Int.gcd_dvd_left n d)]
    · rw [Int.ediv_neg,Int.natCast_ediv,← Int.neg_ediv_of_dvd (Int.gcd_dvd_right n d)]
      congr 1
      omega
  · rw [if_neg (by omega)] at hg
    subst hg
    rw [Int.sign_eq_one_of_pos (by omega)]
    congr 1
    · rw [Int.one_mul]
    · rw [Int.natCast_ediv]
      congr 1
      omega
abbrev H:Nat:=65536
def hv:List Nat→Nat
 | []=>0
 | x::r=>x+H * hv r
def okH (l:List Nat):Prop:=∀ x,x∈l→x<H
def toH (n:Nat):List Nat:=if h:n=0 then [] else (n % H)::toH (n / H)
decreasing_by exact Nat.div_lt_self (Nat.pos_of_ne_zero h) (by decide)
theorem toH_zero:toH 0=[]:=by rw [toH];rfl
theorem toH_pos {n:Nat} (h:0<n):toH n=(n % H)::toH (n / H):=by rw [toH,dif_neg (by omega)]
theorem hv_toH (n:Nat):hv (toH n)=n:=by
  induction n using Nat.strongRecOn with
  | _ n ih =>
    rcases Nat.eq_zero_or_pos n with rfl | h
    · rw [toH_zero];rfl
    · rw [toH_pos h, hv, ih (n / H) (Nat.div_lt_self h (by decide))]
      exact Nat.mod_add_div n H
theorem ok_toH (n:Nat):okH (toH n):=by
 induction n using Nat.strongRecOn with
 | _ n ih =>
  intro x hx
  rcases Nat.eq_zero_or_pos n with rfl | h
  ·rw [toH_zero] at hx;cases hx
  rw [toH_pos h] at hx
  rcases List.mem_cons.1 hx with rfl | hx
  ·exact Nat.mod_lt _ (by decide)
  exact ih (n / H) (Nat.div_lt_self h (by decide)) x hx
theorem hv_append (a b:List Nat):hv (a++b)=hv a+H ^ a.length * hv b:=by
 induction a with
 | nil=>simp [hv]
 | cons x a ih =>
  rw [List.cons_append,hv,ih,hv,List.length_cons,Nat.pow_succ,Nat.mul_add,← Nat.mul_assoc,Nat.mul_comm H (H ^ a.length)]
  omega
theorem hv_lt {l:List Nat} (ok:okH l):hv l<H ^ l.length:=by
 induction l with
 | nil=>simp [hv]
 | cons x l ih =>
  have h:=ok x (by simp)
  have ih:=ih fun y hy=>ok y (by simp [hy])
  rw [hv,List.length_cons,Nat.pow_succ,Nat.mul_comm (H ^ l.length) H]
  have:H * hv l+H≤H * H ^ l.length:=by rw [← Nat.mul_succ];exact Nat.mul_le_mul_left H ih
  omega
def canonH (l:List Nat):Prop:=l=[]∨∃ r x,l=r++[x]∧x≠0
theorem canonH_cons {x:Nat} {l:List Nat} (h:canonH (x::l)):canonH l:=by
 rcases h with h | ⟨r,y,h,hy⟩
 ·cases h
 cases r with
 | nil=>simp at h;exact .inl h.2
 | cons z r=>simp at h;exact .inr ⟨r,y,h.2,hy⟩
theorem canonH_pos {l:List Nat} (h:canonH l) (hl:l≠[]):0<hv l:=by
 rcases h with h | ⟨r,x,rfl,hx⟩
 ·exact absurd h hl
 rw [hv_append]
 have h2:0<H ^ r.length * hv [x]:=Nat.mul_pos (Nat.pow_pos (by decide)) (by simp [hv];omega)
 omega
theorem toH_hv {l:List Nat} (ok:okH l) (h:canonH l):toH (hv l)=l:=by
 induction l with
 | nil=>exact toH_zero
 | cons x l ih =>
  have hp:=canonH_pos h (by simp)
  have h1:=ok x (by simp)
  rw [toH_pos hp]
  have e1:hv (x::l) % H=x:=by rw [hv,Nat.add_mul_mod_self_left,Nat.mod_eq_of_lt h1]
  have e2:hv (x::l) / H=hv l:=by rw [hv,Nat.add_mul_div_left _ _ (by decide),Nat.div_eq_of_lt h1,Nat.zero_add]
  rw [e1,e2,ih (fun y hy=>ok y (by simp [hy])) (canonH_cons h)]
theorem canon_toH (n:Nat):canonH (toH n):=by
 induction n using Nat.strongRecOn with
 | _ n ih =>
  rcases Nat.eq_zero_or_pos n with rfl | h
  ·exact .inl toH_zero
  rw [toH_pos h]
  rcases ih (n / H) (Nat.div_lt_self h (by decide)) with h2 | ⟨r,x,h2,hx⟩
  ·right
   refine ⟨[],n % H,by simp [h2],fun e=>?_⟩
   have h3:n / H=0:=by have:=hv_toH (n / H);rw [h2] at this;exact this.symm
   have:=Nat.mod_add_div n H
   rw [h3,e] at this
   omega
  exact .inr ⟨n % H::r,x,by rw [h2];rfl,hx⟩
theorem toH_len {n k:Nat}:(toH n).length≤k↔n<H ^ k:=by
 constructor
 ·intro h
  have:=hv_lt (ok_toH n)
  rw [hv_toH] at this
  exact Nat.lt_of_lt_of_le this (Nat.pow_le_pow_right (by decide) h)
 intro h
 rcases canon_toH n with h2 | ⟨r,x,h2,hx⟩
 ·rw [h2];simp
 have hv:=hv_toH n
 rw [h2,hv_append] at hv
 have h3:H ^ r.length≤n:=by
  have:H ^ r.length * 1≤H ^ r.length * Num.hv [x]:=Nat.mul_le_mul_left _ (by simp [Num.hv];omega)
  omega
 have h4:H ^ r.length<H ^ k:=Nat.lt_of_le_of_lt h3 h
 have:=(Nat.pow_lt_pow_iff_right (a:=H) (by decide)).1 h4
 rw [h2];simp;omega
def hdig (l:List Nat) (i:Nat):Nat:=l.getD i 0
theorem hdig_lt {l:List Nat} (ok:okH l) (i:Nat):hdig l i<H:=by
 unfold hdig
 rw [List.getD_eq_getElem?_getD]
 cases h:l[i]? with
 | none=>simp
 | some x=>exact ok x (List.mem_of_getElem? h)
theorem hv_take_succ (l:List Nat) (i:Nat):hv (l.take (i+1))=hv (l.take i)+H ^ i * hdig l i:=by
  rcases Nat.lt_or_ge i l.length with h | h
  · rw [List.take_add_one,List.getElem?_eq_getElem h,hv_append]
    simp [hv,hdig,List.getD_eq_getElem?_getD,List.getElem?_eq_getElem h,Nat.min_eq_left (Nat.le_of_lt h)]
  · rw [List.take_of_length_le (by omega), List.take_of_length_le h]
    simp [hdig,List.getD_eq_getElem?_getD,List.getElem?_eq_none h]
theorem hv_snoc (o:List Nat) (x:Nat):hv (o++[x])=hv o+H ^ o.length * x:=by rw [hv_append];simp [hv]
def halv:List UInt32→List Nat
 | []=>[]
 | x::r=>x.toNat % H::x.toNat / H::halv r
theorem hv_halv (l:List UInt32):hv (halv l)=val l:=by
 induction l with
 | nil=>rfl
 | cons x l ih =>
  simp only [halv,hv,val,ih]
  have:=Nat.mod_add_div x.toNat H
  have e:H * (H * val l)=W * val l:=by rw [← Nat.mul_assoc];congr 1
  rw [Nat.mul_add,e]
  omega
theorem ok_halv (l:List UInt32):okH (halv l):=by
 induction l with
 | nil=>intro x hx;cases hx
 | cons x l ih =>
  intro y hy
  simp only [halv,List.mem_cons] at hy
  rcases hy with rfl | rfl | hy
  ·exact Nat.mod_lt _ (by decide)
  ·have:=lt32 x
   exact Nat.div_lt_of_lt_mul this
  exact ih y hy
end Go.Num
