/- Rows of limbs: products, long division, signs, common divisors. -/
import Derived.KernelRfl
import Derived.WalkKit
import Derived.Orders
import Derived.Test.YtlceligcgelbdaaGreatKA4
set_option linter.unusedVariables false
set_option linter.unusedSimpArgs false
set_option maxRecDepth 100000
namespace Go.Num
theorem nP {α:Type} {l:List α} {m:Nat} (h:m≤l.length):(l.take m).length=m:=by simp;omega
theorem aET {l:List UInt32} {i:Nat} (h:l.length≤i):nJ l i=0:=by
 simp [nJ,List.getD_eq_getElem?_getD,List.getElem?_eq_none h]
theorem qO (l:List UInt32) (i:Nat):nJ l i<W:=bLa _
theorem aSP {l:List UInt32} {m i:Nat} (h:i<m):nJ (l.take m) i=nJ l i:=by
 simp [nJ,List.getD_eq_getElem?_getD,List.getElem?_take,h]
theorem aOU {l:List UInt32} {i j n:Nat} (hn:n<W) (hj:j<l.length):nJ (l.set j (UInt32.ofNat n)) i=if i=j then n else nJ l i:=by
 simp only [nJ,List.getD_eq_getElem?_getD,List.getElem?_set]
 by_cases h:j=i
 ·subst h
  simp only [hj,if_true,Option.getD_some]
  exact ofNat_toNat hn
 rw [if_neg h,if_neg (fun e=>h e.symm)]
theorem zO {l:List UInt32} {i:Nat} {x:UInt32} (h:i<l.length):(l.set i x).take (i+1)=l.take i++[x]:=by
 rw [List.take_add_one,List.getElem?_set_self h,List.take_set_of_le (Nat.le_refl _)]
 rfl
theorem oP {l:List UInt32} {m:Nat} (h:l.length≤m):val (l.take m)=val l:=by rw [List.take_of_length_le h]
theorem yN {l:List UInt32}:(toL (val l)).length≤l.length:=pG.2 (aE1 l)
theorem bH7 {l:List UInt32} (h:aDL l):l=toL (val l):=(aWW h).symm
theorem aUr {l:List UInt32} (h:l=[]∨nJ l (l.length - 1)≠0):aDL l:=by
 rcases h with rfl | h
 ·exact .inl rfl
 by_cases hl:l=[]
 ·exact .inl hl
 refine .inr ⟨l.dropLast,l.getLast hl,(List.dropLast_concat_getLast hl).symm,fun e=>h ?_⟩
 have:0<l.length:=List.length_pos_iff.2 hl
 rw [nJ,List.getD_eq_getElem?_getD,List.getElem?_eq_getElem (by omega),Option.getD_some,← List.getLast_eq_getElem hl,e]
 rfl
theorem bBi {l:List UInt32} (h:aDL l) (hl:0<l.length):nJ l (l.length - 1)≠0:=by
 rcases h with rfl | ⟨r,x,rfl,hx⟩
 ·simp at hl
 intro e
 apply hx
 rw [nJ,List.getD_eq_getElem?_getD] at e
 simp at e
 exact UInt32.toNat_inj.1 e
theorem bDH {l:List UInt32} {m:Nat} (h0:0<m) (hm:m≤l.length) (h:nJ (l.take m) (m - 1)=0):val (l.take (m - 1))=val (l.take m):=by
 obtain ⟨k,rfl⟩:∃ k,m=k+1:=⟨m - 1,by omega⟩
 rw [Nat.add_sub_cancel] at h ⊢
 rw [aSP (by omega)] at h
 rw [kD,h]
 simp
theorem aVZ {l:List UInt32} {m:Nat} (hm:m≤l.length) (hv:val (l.take m)=val l) (h:m=0∨nJ (l.take m) (m - 1)≠0):l.take m=toL (val l):=by
 rw [← hv]
 apply bH7
 apply aUr
 rcases h with rfl | h
 ·exact .inl (by simp)
 rw [nP hm];exact .inr h
def Jg (a b:Nat):Int:=if a<b then -1 else if b<a then 1 else 0
theorem Pv {a b:Nat}:Jg a b<0↔a<b:=by
 unfold Jg
 split
 ·omega
 split<;>omega
theorem aPc {a b c d:Nat} (h1:a<b↔c<d) (h2:b<a↔d<c):Jg a b=Jg c d:=by
 unfold Jg
 simp only [h1,h2]
theorem aSG {a b:Nat} (h:(toL a).length<(toL b).length):a<b:=by
 have h1:a<W ^ (toL a).length:=pG.1 (Nat.le_refl _)
 rcases Nat.lt_or_ge a b with h2 | h2
 ·exact h2
 exfalso
 have h3:(toL b).length≤(toL a).length:=pG.2 (by omega)
 omega
theorem bJn {a b:Nat} (h:(toL a).length≠(toL b).length):Jg (toL a).length (toL b).length=Jg a b:=by
 rcases Nat.lt_or_gt_of_ne h with h | h
 ·have:=aSG h
  exact aPc ⟨fun _=>this,fun _=>h⟩ ⟨fun q=>by omega,fun q=>by omega⟩
 have:=aSG h
 exact aPc ⟨fun q=>by omega,fun q=>by omega⟩ ⟨fun _=>this,fun _=>h⟩
theorem Oo {l:List UInt32} (i:Nat) (h:i≤l.length):val l=val (l.take i)+W ^ i * val (l.drop i):=by
 conv=>lhs;rw [← List.take_append_drop i l]
 rw [Ji,nP h]
theorem Jm (l:List UInt32) (i:Nat):val (l.take i)<W ^ i:=by
  rcases Nat.lt_or_ge l.length i with h | h
  · refine Nat.lt_of_lt_of_le (aE1 _) (Nat.pow_le_pow_right (by decide) ?_)
    simp;omega
  · have:=aE1 (l.take i)
    rwa [nP h] at this
theorem bJm {a b:List UInt32} {i:Nat} (hl:a.length=b.length) (hi:i<a.length) (he:∀ j,i<j→nJ a j=nJ b j) (hd:nJ a i≠nJ b i):Jg (nJ a i) (nJ b i)=Jg (val a) (val b):=by
  have hdr:val (a.drop (i+1))=val (b.drop (i+1)):=by
    have:a.drop (i+1)=b.drop (i+1):=by
      apply List.ext_getElem?
      intro q
      rw [List.getElem?_drop,List.getElem?_drop]
      have:=he (i+1+q) (by omega)
      rcases Nat.lt_or_ge (i+1+q) a.length with h | h
      · rw [List.getElem?_eq_getElem h, List.getElem?_eq_getElem (by omega)]
        simp only [nJ,List.getD_eq_getElem?_getD,List.getElem?_eq_getElem h,List.getElem?_eq_getElem (show i+1+q<b.length by omega),Option.getD_some] at this
        rw [UInt32.toNat_inj.1 this]
      · rw [List.getElem?_eq_none h,List.getElem?_eq_none (by omega)]
    rw [this]
  have ha:=Oo (l:=a) (i+1) (by omega)
  have hb:=Oo (l:=b) (i+1) (by omega)
  rw [kD] at ha hb
  rw [hdr] at ha
  have h1:=Jm a i
  have h2:=Jm b i
  have key:∀ {x y p q:Nat},p<W ^ i→q<W ^ i→x<y→p+W ^ i * x<q+W ^ i * y:=fun {x y p q} hp hq h=>by
    have:W ^ i * (x+1)≤W ^ i * y:=Nat.mul_le_mul_left _ h
    rw [Nat.mul_add,Nat.mul_one] at this
    omega
  rcases Nat.lt_or_gt_of_ne hd with h | h
  · have:=key h1 h2 h
    exact aPc ⟨fun _=>by omega,fun _=>h⟩ ⟨fun q=>by omega,fun q=>by omega⟩
  · have:=key h2 h1 h
    exact aPc ⟨fun q=>by omega,fun q=>by omega⟩ ⟨fun _=>by omega,fun _=>h⟩
theorem bFy {a b:List UInt32} {i:Nat} (h0:0<i) (he:∀ j,i≤j→nJ a j=nJ b j) (hd:nJ a (i - 1)=nJ b (i - 1)):∀ j,i - 1≤j→nJ a j=nJ b j:=fun j hj=>by
 rcases Nat.lt_or_ge j i with h | h
 ·rw [show j=i - 1 by omega];exact hd
 exact he j h
theorem bAf {a b:List UInt32} (hl:a.length=b.length) (he:∀ j,nJ a j=nJ b j):a=b:=by
  apply List.ext_getElem?
  intro q
  have:=he q
  rcases Nat.lt_or_ge q a.length with h | h
  · rw [List.getElem?_eq_getElem h, List.getElem?_eq_getElem (by omega)]
    simp only [nJ,List.getD_eq_getElem?_getD,List.getElem?_eq_getElem h,List.getElem?_eq_getElem (show q<b.length by omega),Option.getD_some] at this
    rw [UInt32.toNat_inj.1 this]
  · rw [List.getElem?_eq_none h,List.getElem?_eq_none (by omega)]
theorem bLb {a b o:List UInt32} {i c c' lo:Nat} (hi:i<o.length) (hlo:lo<W) (h:val (o.take i)+W ^ i * c=val (a.take i)+val (b.take i)) (hs:lo+W * c'=nJ a i+nJ b i+c) :
  val ((o.set i (UInt32.ofNat lo)).take (i+1))+W ^ (i+1) * c'=val (a.take (i+1))+val (b.take (i+1)):=by
 rw [zO hi]
 exact aXR (nP (Nat.le_of_lt hi)) h (by rw [ofNat_toNat hlo];exact hs)
theorem bKl {a b o:List UInt32} {i c c' lo:Nat} (hi:i<o.length) (hlo:lo<W) (h:val (o.take i)+val (b.take i)=val (a.take i)+W ^ i * c) (hs:lo+nJ b i+c=nJ a i+W * c') :
  val ((o.set i (UInt32.ofNat lo)).take (i+1))+val (b.take (i+1))=val (a.take (i+1))+W ^ (i+1) * c':=by
 rw [zO hi]
 exact bGS (nP (Nat.le_of_lt hi)) h (by rw [ofNat_toNat hlo];exact hs)
theorem bJQ {a o:List UInt32} {i c c' m lo:Nat} (hi:i<o.length) (hlo:lo<W) (h:val (o.take i)+W ^ i * c=val (a.take i) * m) (hs:lo+W * c'=nJ a i * m+c) :
  val ((o.set i (UInt32.ofNat lo)).take (i+1))+W ^ (i+1) * c'=val (a.take (i+1)) * m:=by
 rw [zO hi]
 exact bGN (nP (Nat.le_of_lt hi)) h (by rw [ofNat_toNat hlo];exact hs)
theorem aXw {o:List UInt32} {n c:Nat} (hn:o.length=n+1) (hc:c<W):val (o.set n (UInt32.ofNat c))=val (o.take n)+W ^ n * c:=by
 have e:(o.set n (UInt32.ofNat c))=o.take n++[UInt32.ofNat c]:=by
  have:=zO (l:=o) (i:=n) (x:=UInt32.ofNat c) (by omega)
  rw [← this,List.take_of_length_le (by simp;omega)]
 rw [e,aDB,nP (by omega),ofNat_toNat hc]
theorem aFU {l:List UInt32} {i j:Nat} {x:UInt32} (h:i<j):(l.set i x).drop j=l.drop j:=List.drop_set_of_lt h
theorem bP6 {x m c lo hi s mo:Nat} (hx:x<W) (hm:m<W) (hc:c<W) (h1:lo+W * hi=x * m) (h2:s+W * mo=lo+c):s+W * (hi+mo)=x * m+c∧hi+mo<W:=by
 have h3:s+W * (hi+mo)=x * m+c:=by rw [Nat.mul_add];omega
 refine ⟨h3,?_⟩
 have h4:x * m≤(W - 1) * (W - 1):=Nat.mul_le_mul (by omega) (by omega)
 have h5:W * (hi+mo)<W * W:=by
  have:(W - 1) * (W - 1)+(W - 1)<W * W:=by decide
  omega
 exact Nat.lt_of_mul_lt_mul_left h5
theorem aGJ {a b:List UInt32} {i j:Nat} (h:a.drop i=b.drop i) (hj:i≤j):nJ a j=nJ b j:=by
 have e:a[j]? = b[j]?:=by
  have h1:(a.drop i)[j - i]? = a[j]?:=by rw [List.getElem?_drop];congr 1;omega
  have h2:(b.drop i)[j - i]? = b[j]?:=by rw [List.getElem?_drop];congr 1;omega
  rw [← h1,h,h2]
 simp only [nJ,List.getD_eq_getElem?_getD,e]
theorem aUI {a b:List UInt32} {i:Nat} (h:a.drop i=b.drop i):a.drop (i+1)=b.drop (i+1):=by
 rw [← List.drop_drop,h,List.drop_drop]
theorem bDZ {a b:List UInt32} {i:Nat} (h:a.take i=b.take i):a.take (i - 1)=b.take (i - 1):=by
 have h1:=congrArg (List.take (i - 1)) h
 rwa [List.take_take,List.take_take,Nat.min_eq_left (by omega)] at h1
theorem zH {a b:Nat} (h:a≤b):(toL a).length≤(toL b).length:=pG.2 (Nat.lt_of_le_of_lt h (pG.1 (Nat.le_refl _)))
theorem bFb {o a b n c:Nat} (h:b≤a) (hc:c≤1) (ho:o<W ^ n) (hv:o+b=a+W ^ n * c):o=a - b:=by
 have h1:c=0∨c=1:=by omega
 rcases h1 with rfl | rfl
 ·omega
 rw [Nat.mul_one] at hv;omega
theorem bG6 (x:UInt32) (l:List UInt32):val (x::l)=x.toNat+W * val l:=rfl
theorem aT1 {l:List UInt32} {i:Nat} (h0:0<i) (hi:i≤l.length):val (l.drop (i - 1))=nJ l (i - 1)+W * val (l.drop i):=by
 obtain ⟨k,rfl⟩:∃ k,i=k+1:=⟨i - 1,by omega⟩
 rw [Nat.add_sub_cancel,List.drop_eq_getElem_cons (by omega),bG6]
 simp [nJ,List.getD_eq_getElem?_getD,List.getElem?_eq_getElem (show k<l.length by omega)]
theorem bIR {a o:List UInt32} {i q r r' d:Nat} (h0:0<i) (hi:i≤o.length) (hq:q<W) (h:val (a.drop i)=val (o.drop i) * d+r) (hla:i≤a.length) (hs:q * d+r'=W * r+nJ a (i - 1)) :
  val (a.drop (i - 1))=val ((o.set (i - 1) (UInt32.ofNat q)).drop (i - 1)) * d+r':=by
 rw [aT1 h0 hla,aT1 (l:=o.set _ _) h0 (by rw [List.length_set];exact hi),aOU hq (by omega),if_pos rfl,aFU (by omega),h,Nat.add_mul,Nat.mul_add,Nat.mul_assoc]
 omega
theorem aY4 {n q r d:Nat} (hr:r<d) (h:n=q * d+r):n / d=q∧n % d=r:=by
 subst h
 rw [Nat.mul_comm,Nat.mul_add_div (by omega),Nat.div_eq_of_lt hr,Nat.mul_add_mod,Nat.mod_eq_of_lt hr]
 exact ⟨by omega,rfl⟩
theorem bIi {hi lo y:Nat} (hh:hi<y) (hl:lo<4294967296):(4294967296 * hi+lo) / y<4294967296:=by
 refine (Nat.div_lt_iff_lt_mul (by omega)).2 ?_
 have:4294967296 * (hi+1)≤4294967296 * y:=Nat.mul_le_mul_left _ hh
 omega
theorem aTb {hi lo:Nat} (h:lo<4294967296):4294967296 * hi ||| lo=4294967296 * hi+lo:=(Nat.two_pow_add_eq_or_of_lt (i:=32) h hi).symm
theorem bAM (x y:Nat):(x &&& y) / 2147483648=(x / 2147483648) &&& (y / 2147483648):=Nat.and_div_two_pow (n:=31)
theorem bOV (x y:Nat):(x ||| y) / 2147483648=(x / 2147483648) ||| (y / 2147483648):=Nat.or_div_two_pow (n:=31)
theorem bJr (x y:Nat):(x ^^^ y) / 2147483648=(x / 2147483648) ^^^ (y / 2147483648):=Nat.xor_div_two_pow (n:=31)
theorem aZB {a b c:Nat} (ha:a<4294967296) (hb:b<4294967296) (hc:c≤1) :
  (((4294967295 - a) &&& b) ||| ((4294967295 - (a ^^^ b)) &&& ((a+8589934592 - b - c) % 4294967296))) / 2 ^ 31=if a<b+c then 1 else 0:=by
 have hx:a ^^^ b<4294967296:=Nat.xor_lt_two_pow (n:=32) ha hb
 show (_ ||| _) / 2147483648=_
 rw [bOV,bAM,bAM]
 have h1:(4294967295 - a) / 2147483648=1 - a / 2147483648:=by omega
 have h2:(4294967295 - (a ^^^ b)) / 2147483648=1 - (a ^^^ b) / 2147483648:=by omega
 rw [h1,h2,bJr]
 have ea:a / 2147483648=0∨a / 2147483648=1:=by omega
 have eb:b / 2147483648=0∨b / 2147483648=1:=by omega
 have ed:((a+8589934592 - b - c) % 4294967296) / 2147483648=0∨((a+8589934592 - b - c) % 4294967296) / 2147483648=1:=by omega
 split
 ·rcases ea with ea | ea<;>rcases eb with eb | eb<;>rcases ed with ed | ed<;>rw [ea,eb,ed]<;>first | rfl | (exfalso;omega)
 rcases ea with ea | ea<;>rcases eb with eb | eb<;>rcases ed with ed | ed<;>rw [ea,eb,ed]<;>first | rfl | (exfalso;omega)
def aI8:ByteArray:=⟨#[0,1,2,2,3,3,3,3,4,4,4,4,4,4,4,4,5,5,5,5,5,5,5,5,5,5,5,5,5,5,5,5,6,6,6,6,6,6,6,6,6,6,6,6,6,6,6,6,6,6,6,6,6,6,6,6,6,6,6,6,6,6,6,6,7,7,7,7,7,7,7,7,7,7,7,7,7,7,7,7,7,7,7,7,7,7,7,7,7,7,7,7,7,7,7,7,7,7,7,7,7,7,7,7,7,7,7,7,7,7,7,7,7,7,7,7,7,7,7,7,7,7,7,7,7,7,7,7,8,8,8,8,8,8,8,8,8,8,8,8,8,8,8,8,8,8,8,8,8,8,8,8,8,8,8,8,8,8,8,8,8,8,8,8,8,8,8,8,8,8,8,8,8,8,8,8,8,8,8,8,8,8,8,8,8,8,8,8,8,8,8,8,8,8,8,8,8,8,8,8,8,8,8,8,8,8,8,8,8,8,8,8,8,8,8,8,8,8,8,8,8,8,8,8,8,8,8,8,8,8,8,8,8,8,8,8,8,8,8,8,8,8,8,8,8,8,8,8,8,8,8,8,8,8,8,8]⟩
theorem bHJ:((List.range 256).all fun y=>decide (y<2 ^ (Go.Eng.bget aI8 y).toNat) && (decide (y=0) || (decide (2 ^ ((Go.Eng.bget aI8 y).toNat - 1)≤y) && decide (0<(Go.Eng.bget aI8 y).toNat))) && decide ((Go.Eng.bget aI8 y).toNat≤8))=true:=by kernel_rfl
theorem bJl {y:Nat} (h:y<256):y<2 ^ (Go.Eng.bget aI8 y).toNat∧(0<y→2 ^ ((Go.Eng.bget aI8 y).toNat - 1)≤y∧0<(Go.Eng.bget aI8 y).toNat)∧(Go.Eng.bget aI8 y).toNat≤8:=by
  have:=List.all_eq_true.1 bHJ y (List.mem_range.2 h)
  simp only [Bool.and_eq_true,Bool.or_eq_true,decide_eq_true_eq] at this
  obtain ⟨⟨h1,h2⟩,h3⟩:=this
  exact ⟨h1, fun h0 => by
    rcases h2 with h2 | h2
    · omega
    · exact h2,h3⟩
def Bl (x y n m:Nat):Prop:=n+m≤32∧y<2 ^ m∧y=x / 2 ^ n∧(n≠0→0<y)
theorem bU8 {x:Nat} (hx:x<4294967296) (h:65536≤x):Bl x (x / 65536) 16 16:=⟨by omega,by omega,rfl,fun _=>by omega⟩
theorem bVE {x:Nat} (h:x<65536):Bl x x 0 16:=⟨by omega,by omega,by omega,fun h=>absurd rfl h⟩
theorem bVJ {x y n:Nat} (h:Bl x y n 16) (g:256≤y):Bl x (y / 256) (n+8) 8:=by
 obtain ⟨h1,h2,h3,h4⟩:=h
 refine ⟨by omega,by omega,?_,fun _=>by omega⟩
 rw [h3,Nat.div_div_eq_div_mul,Nat.pow_add]
theorem bV1 {x y n:Nat} (h:Bl x y n 16) (g:y<256):Bl x y n 8:=⟨by have:=h.1;omega,g,h.2.2.1,h.2.2.2⟩
theorem bU5 {x y n:Nat} (h:Bl x y n 8):∃ m:Nat,CE.AV.c (CE.C.v (Value.int .i64 ((n+(Go.Eng.bget aI8 y).toNat:Nat):Int)))=CE.AV.c (CE.C.v (Value.int .i64 (m:Nat)))∧m≤32∧x<2 ^ m∧(0<x→2 ^ (m - 1)≤x∧0<m):=by
 obtain ⟨h1,h2,h3,h4⟩:=h
 obtain ⟨g1,g2,g3⟩:=bJl h2
 have hp:0<2 ^ n:=Nat.pow_pos (by decide)
 refine ⟨_,rfl,by omega,?_,fun hx=>?_⟩
 ·rw [h3] at g1
  rw [Nat.pow_add,Nat.mul_comm]
  exact (Nat.div_lt_iff_lt_mul hp).1 (by rw [← h3] at g1 ⊢;exact g1)
 have hy:0<y:=by
  rcases Nat.eq_zero_or_pos n with h0 | h0
  ·subst h0;rw [h3];simpa using hx
  exact h4 (by omega)
 obtain ⟨q1,q2⟩:=g2 hy
 refine ⟨?_,by omega⟩
 rw [show n+(Go.Eng.bget aI8 y).toNat - 1=n+((Go.Eng.bget aI8 y).toNat - 1) by omega,Nat.pow_add]
 have:2 ^ n * y≤x:=by rw [h3,Nat.mul_comm];exact Nat.div_mul_le_self x _
 exact Nat.le_trans (Nat.mul_le_mul_left _ q1) this
theorem bTP {x m:Nat} (h1:m≤32) (h2:x<2 ^ m) (h3:0<x→2 ^ (m - 1)≤x∧0<m):32 - m≤32∧x * 2 ^ (32 - m)<4294967296∧(0<x→2147483648≤x * 2 ^ (32 - m)∧32 - m≤31):=by
 have e:2 ^ m * 2 ^ (32 - m)=4294967296:=by rw [← Nat.pow_add,show m+(32 - m)=32 by omega]
 have hp:0<2 ^ (32 - m):=Nat.pow_pos (by decide)
 refine ⟨by omega,?_,fun hx=>?_⟩
 ·rw [← e];exact Nat.mul_lt_mul_of_pos_right h2 hp
 obtain ⟨h4,h5⟩:=h3 hx
 refine ⟨?_,by omega⟩
 have e2:2 ^ (m - 1) * 2 ^ (32 - m)=2147483648:=by rw [← Nat.pow_add,show m - 1+(32 - m)=31 by omega]
 rw [← e2];exact Nat.mul_le_mul_right _ h4
theorem aPd {n:Nat} (h:0<n):0<(toL n).length:=by rw [aGU h];simp
theorem aCM {l:List UInt32} (h:(toL (val l)).length=0):val l=0:=by
 rcases Nat.eq_zero_or_pos (val l) with h0 | h0
 ·exact h0
 have:=aPd h0;omega
theorem aE2 {l:List UInt32} (h:0<(toL (val l)).length):0<val l:=by
 rcases Nat.eq_zero_or_pos (val l) with h0 | h0
 ·rw [h0,sY] at h;simp at h
 exact h0
theorem bA0 {m n:Nat} (hn:n≤31):(toL (m * 2 ^ n)).length≤(toL m).length+1:=by
 refine pG.2 ?_
 rw [Nat.pow_succ]
 have h1:m<W ^ (toL m).length:=pG.1 (Nat.le_refl _)
 have h2:2 ^ n≤W:=Nat.le_trans (Nat.pow_le_pow_right (by decide) (show n≤32 by omega)) (by decide)
 exact Nat.lt_of_lt_of_le (Nat.mul_lt_mul_of_pos_right h1 (Nat.pow_pos (by decide))) (Nat.mul_le_mul_left _ h2)
open Go.CE
theorem bLK {l:List UInt32}:aEr [[],l]=l.length:=by simp [aEr]
theorem bWf {z:dA} {b20 b25 ty ty':Nat} {c:C} {l:List UInt32} (h0:z b20 (.cells ty [])) (h1:SZ 1 RW z (.c c) l) (h2:z b25 (.cells ty' [.sl b20 0 0 1,c])):SZ 1 RLs z (.c (.sl b25 0 2 1)) [[],l]:=by
 refine CL.sz (cs:=[.sl b20 0 0 1,c]) ?_ rfl (by simp) h2
 refine CL.append (cs:=[.sl b20 0 0 1]) (l:=[[]]) (cs':=[c]) (l':=[l]) (CL.one rfl ⟨_,rfl,?_⟩) (CL.one rfl ⟨_,rfl,h1⟩)
 exact .sl b20 0 0 (.cells ty []) [] [] rfl (by omega) h0 rfl (by simp) fun i a h=>by simp at h
theorem bJw {x y d c:Nat} (hx:x<4294967296) (hy:y<4294967296) (hd:d<4294967296) (hc:c<4294967296):x * y≤18446744065119617025∧x * y+d+c<18446744073709551616:=by
 have h:x * y≤4294967295 * 4294967295:=Nat.mul_le_mul (by omega) (by omega)
 omega
theorem bLn (n:Nat):val (List.replicate n 0)=0:=by
 induction n with
 | zero=>rfl
 | succ n ih=>rw [List.replicate_succ,val,ih];rfl
theorem bL5 {o0 o b:List UInt32} {i k c x s:Nat} (hi:i+k<o.length) (hd:o.drop (i+k)=o0.drop (i+k)) (h:val (o.take (i+k))+W ^ (i+k) * c=val (o0.take (i+k))+W ^ i * (x * val (b.take k)))
  (hs:s=x * nJ b k+nJ o (i+k)+c):val ((o.set (i+k) (UInt32.ofNat (s % 4294967296))).take (i+k+1))+W ^ (i+k+1) * (s / 4294967296)=val (o0.take (i+k+1))+W ^ i * (x * val (b.take (k+1))):=by
 rw [zO hi]
 refine bIg (nP (Nat.le_of_lt hi)) h ?_
 have e:nJ o (i+k)=nJ o0 (i+k):=aGJ hd (Nat.le_refl _)
 rw [ofNat_toNat (Nat.mod_lt _ (by decide)),← e]
 have:=Nat.mod_add_div s 4294967296
 have hW:W=4294967296:=rfl
 rw [hW]
 omega
theorem bRs {a b o0 o:List UInt32} {i c n m:Nat} (hm:b.length=m) (ho:o.length=n+m) (hi:i<n) (hc:c<W) (h0:val (o0.take (i+m))=val (a.take i) * val b) (h:val (o.take (i+m))+W ^ (i+m) * c=val (o0.take (i+m))+W ^ i * (nJ a i * val (b.take m))) :
  val ((o.set (i+m) (UInt32.ofNat c)).take (i+1+m))=val (a.take (i+1)) * val b:=by
 rw [show i+1+m=i+m+1 by omega,zO (by omega),aDB,nP (by omega),ofNat_toNat hc,h,h0,kD,oP (l:=b) (by omega),Nat.add_mul,Nat.mul_assoc]
def Gs (T first second low q r:Nat):Prop:=T=q * first+r∧∀ q',q<q'→q'<4294967296→T * 4294967296+low<q' * (first * 4294967296+second)
theorem bLc {T first second low:Nat} (hf:0<first) (hl:low<4294967296):Gs T first second low (T / first) (T % first):=by
 refine ⟨by rw [Nat.mul_comm];exact (Nat.div_add_mod T first).symm,fun q' h1 h2=>?_⟩
 have h3:T<q' * first:=(Nat.div_lt_iff_lt_mul hf).1 h1
 have h4:(T+1) * 4294967296≤q' * first * 4294967296:=Nat.mul_le_mul_right _ h3
 rw [Nat.mul_add,← Nat.mul_assoc]
 omega
theorem bAv {T first second low q r:Nat} (h:Gs T first second low q r) (hq:0<q) (hr:4294967296≤q∨4294967296 * r+low<q * second):Gs T first second low (q - 1) (r+first):=by
  obtain ⟨h1,h2⟩:=h
  obtain ⟨p,rfl⟩:∃ p,q=p+1:=⟨q - 1,by omega⟩
  rw [Nat.add_sub_cancel]
  refine ⟨by rw [h1,Nat.add_mul];omega,fun q' h3 h4=>?_⟩
  rcases Nat.lt_or_ge (p+1) q' with h5 | h5
  · exact h2 q' h5 h4
  · have : q' = p + 1 := by omega
    subst this
    rcases hr with hr | hr
    · omega
    · rw [h1,Nat.mul_add,Nat.add_mul,← Nat.mul_assoc]
      omega
theorem aWa {T first second low q r:Nat} (h:Gs T first second low q r) (hf:0<first) (hfW:first<4294967296) (hs:second<4294967296) (ht:T<4294967296 * first+4294967296) (hd:(q<4294967296∧q * second≤4294967296 * r+low)∨4294967296≤r) :
  q=min 4294967295 ((T * 4294967296+low) / (first * 4294967296+second)):=by
 obtain ⟨h1,h2⟩:=h
 have e:T - q * first=r:=by omega
 exact aZd (M:=4294967296) (by decide) hf hfW hs ht (by omega) (by rw [e];rcases hd with hd | hd;exact .inl ⟨hd.1,by omega⟩;exact .inr hd) h2
theorem aEe (l:List UInt32) (off i:Nat):nJ (l.drop off) i=nJ l (off+i):=by
 simp only [nJ,List.getD_eq_getElem?_getD,List.getElem?_drop]
theorem bBd {l:List UInt32} {off i:Nat} {x:UInt32} (h:off+i<l.length):((l.set (off+i) x).drop off).take (i+1)=(l.drop off).take i++[x]:=by
 have e:(l.set (off+i) x).drop off=(l.drop off).set i x:=by
  rw [List.drop_set,if_neg (by omega),show off+i - off=i by omega]
 rw [e,zO (by rw [List.length_drop];omega)]
theorem bA4 {l:List UInt32} {off n:Nat} (h:off+n≤l.length):((l.drop off).take n).length=n:=by rw [List.length_take,List.length_drop];omega
theorem aGK {l:List UInt32} {off i:Nat} {x:UInt32}:(l.set (off+i) x).take off=l.take off:=List.take_set_of_le (by omega)
theorem bSg {a plo bw s:Nat} (ha:a<4294967296) (hp:plo<4294967296) (hb:bw≤1) (hs:s=(a+36893488147419103232 - plo - bw) % 18446744073709551616):s % 4294967296+plo+bw=a+4294967296 * (s / 9223372036854775808)∧s / 9223372036854775808≤1:=by omega
theorem bDs {L0 L b:List UInt32} {off i q cy bw p s:Nat} (hi:off+i<L.length) (hd:L.drop (off+i)=L0.drop (off+i)) (hl:L.length=L0.length) (h:val ((L.drop off).take i)+q * val (b.take i)=val ((L0.drop off).take i)+W ^ i * (cy+bw))
  (hp:p=q * nJ b i+cy) (hb:bw≤1) (hs:s=(nJ L (off+i)+36893488147419103232 - p % 4294967296 - bw) % 18446744073709551616) :
  val (((L.set (off+i) (UInt32.ofNat (s % 4294967296))).drop off).take (i+1))+q * val (b.take (i+1))=val ((L0.drop off).take (i+1))+W ^ (i+1) * (p / 4294967296+s / 9223372036854775808):=by
 obtain ⟨h1,_⟩:=bSg (qO L (off+i)) (Nat.mod_lt p (show 0<4294967296 by decide)) hb hs
 have hpd:=Nat.mod_add_div p 4294967296
 have e:nJ L (off+i)=nJ (L0.drop off) i:=by rw [aEe];exact aGJ hd (Nat.le_refl _)
 have hnew:(UInt32.ofNat (s % 4294967296)).toNat=s % 4294967296:=ofNat_toNat (Nat.mod_lt _ (by decide))
 rw [bBd hi,aDB,bA4 (by omega),hnew,kD,kD,← e,Nat.mul_add,Nat.pow_succ,Nat.mul_assoc]
 have key:W ^ i * (s % 4294967296)+q * (W ^ i * nJ b i)+W ^ i * (cy+bw)=W ^ i * nJ L (off+i)+W ^ i * (W * (p / 4294967296+s / 9223372036854775808)):=by
  rw [Nat.mul_left_comm q,← Nat.mul_add,← Nat.mul_add,← Nat.mul_add]
  congr 1
  have hW:W=4294967296:=rfl
  rw [hW]
  omega
 omega
theorem bCK {L1 L b:List UInt32} {off i c c' lo:Nat} (hi:off+i<L.length) (hd:L.drop (off+i)=L1.drop (off+i)) (hl:L.length=L1.length) (hlo:lo<W) (h:val ((L.drop off).take i)+W ^ i * c=val ((L1.drop off).take i)+val (b.take i))
  (hs:lo+W * c'=nJ L (off+i)+nJ b i+c):val (((L.set (off+i) (UInt32.ofNat lo)).drop off).take (i+1))+W ^ (i+1) * c'=val ((L1.drop off).take (i+1))+val (b.take (i+1)):=by
 have e:nJ L (off+i)=nJ (L1.drop off) i:=by rw [aEe];exact aGJ hd (Nat.le_refl _)
 rw [bBd hi]
 exact aXR (bA4 (by omega)) h (by rw [ofNat_toNat hlo,← e];exact hs)
theorem bKA {A B Q q X N cb:Nat} (hB:0<B) (hQ:Q=A / B) (hN:X<W ^ N) (hv:X+q * B=A+W ^ N * cb) (hA:A<W ^ N) (h1:Q≤q) (h2:q≤Q+1) (hBN:B≤W ^ N):(cb=0→q=Q∧X=A - Q * B)∧(cb≠0→q=Q+1∧X+B=A - Q * B+W ^ N):=by
 have hm:A=Q * B+A % B:=by rw [hQ,Nat.mul_comm];exact (Nat.div_add_mod A B).symm
 have hr:=Nat.mod_lt A hB
 have hq:q=Q∨q=Q+1:=by omega
 constructor
 ·intro h0
  subst h0
  rcases hq with rfl | rfl
  ·exact ⟨rfl,by omega⟩
  rw [Nat.add_mul] at hv;omega
 intro h0
 have hcb:W ^ N * 1≤W ^ N * cb:=Nat.mul_le_mul_left _ (by omega)
 rcases hq with rfl | rfl
 ·omega
 refine ⟨rfl,?_⟩
 rw [Nat.add_mul] at hv
 have:cb=1:=by
  rcases Nat.lt_or_ge cb 2 with h | h
  ·omega
  exfalso
  have:W ^ N * 2≤W ^ N * cb:=Nat.mul_le_mul_left _ h
  omega
 subst this
 omega
theorem bBI {X Y B R N c:Nat} (hX:X+B=R+W ^ N) (hR:R<W ^ N) (hY:Y<W ^ N) (hc:c≤1) (h:Y+W ^ N * c=X+B):Y=R:=by
 have h1:c=0∨c=1:=by omega
 rcases h1 with rfl | rfl<;>omega
theorem Vt {L L0:List UInt32} {j:Nat} {x:UInt32} (h:L.drop j=L0.drop j):(L.set j x).drop (j+1)=L0.drop (j+1):=by rw [aFU (by omega),aUI h]
theorem aMS (l:List UInt32):val (l++[0])=val l:=by rw [Ji];simp [val]
theorem bAY {b n:Nat} (hn:(toL b).length=n) (h:0<n):0<nJ (toL b) (n - 1):=by
 subst hn
 exact Nat.pos_of_ne_zero (bBi (aIb b) h)
theorem bG1 {b n up:Nat} (hn:(toL b).length=n) (h0:0<n) (h:nJ (toL b) (n - 1) * 2 ^ up<4294967296):(toL (b * 2 ^ up)).length=n∧nJ (toL (b * 2 ^ up)) (n - 1) ≥ nJ (toL b) (n - 1) * 2 ^ up:=by
 obtain ⟨k,rfl⟩:∃ k,n=k+1:=⟨n - 1,by omega⟩
 rw [Nat.add_sub_cancel] at h ⊢
 have hb:b=val ((toL b).take k)+W ^ k * nJ (toL b) k:=by
  have:=kD (toL b) k
  rw [oP (by omega),gX] at this
  exact this
 have ht:=Jm (toL b) k
 have aLt:=bAY hn (by omega)
 rw [Nat.add_sub_cancel] at aLt
 have hp:0<2 ^ up:=Nat.pow_pos (by decide)
 have h1:b * 2 ^ up<W ^ k * 4294967296:=by
  have h2:b<W ^ k * (nJ (toL b) k+1):=by rw [Nat.mul_add];omega
  have h3:b * 2 ^ up<W ^ k * (nJ (toL b) k+1) * 2 ^ up:=Nat.mul_lt_mul_of_pos_right h2 hp
  have h5:(nJ (toL b) k+1) * 2 ^ up≤4294967296:=by
   have hd:2 ^ up ∣ 4294967296:=by
    have hup:up≤32:=by
     rcases Nat.lt_or_ge 32 up with h | h
     ·exfalso
      have:2 ^ 33≤2 ^ up:=Nat.pow_le_pow_right (by decide) h
      have h6:1 * 2 ^ up≤nJ (toL b) k * 2 ^ up:=Nat.mul_le_mul_right _ aLt
      have:(2:Nat) ^ 33=8589934592:=by decide
      omega
     exact h
    exact ⟨2 ^ (32 - up),by rw [← Nat.pow_add,show up+(32 - up)=32 by omega]⟩
   obtain ⟨t,ht⟩:=hd
   rw [ht,Nat.mul_comm (2 ^ up)] at h ⊢
   have:=Nat.lt_of_mul_lt_mul_right h
   exact Nat.mul_le_mul_right _ this
  rw [Nat.mul_assoc] at h3
  exact Nat.lt_of_lt_of_le h3 (Nat.mul_le_mul_left _ h5)
 have Ff:(toL (b * 2 ^ up)).length≤k+1:=pG.2 (by rw [Nat.pow_succ];exact h1)
 have hge:k+1≤(toL (b * 2 ^ up)).length:=by
  rw [← hn];exact zH (Nat.le_mul_of_pos_right _ hp)
 have hl:(toL (b * 2 ^ up)).length=k+1:=by omega
 refine ⟨hl,?_⟩
 have hv:=kD (toL (b * 2 ^ up)) k
 rw [oP (by omega),gX] at hv
 have ht2:=Jm (toL (b * 2 ^ up)) k
 have h6:W ^ k * (nJ (toL b) k * 2 ^ up)≤b * 2 ^ up:=by
  rw [← Nat.mul_assoc];exact Nat.mul_le_mul_right _ (by omega)
 have h7:W ^ k * (nJ (toL b) k * 2 ^ up)<W ^ k * (nJ (toL (b * 2 ^ up)) k+1):=by rw [Nat.mul_add (W ^ k) (nJ (toL (b * 2 ^ up)) k)];omega
 have:=Nat.lt_of_mul_lt_mul_left h7
 omega
def Dv (A0 B:Nat) (L qo:List UInt32) (i:Nat):Prop:=A0=val (qo.drop i) * (W ^ i * B)+val L∧val (L.drop i)<B
theorem aVv {l:List UInt32} {j:Nat} (h:j<l.length):l.drop j=UInt32.ofNat (nJ l j)::l.drop (j+1):=by
 rw [List.drop_eq_getElem_cons h]
 congr 1
 simp [nJ,List.getD_eq_getElem?_getD,List.getElem?_eq_getElem h]
theorem bLC {B n:Nat} (hn:(toL B).length=n):B<W ^ n:=by rw [← hn];exact pG.1 (Nat.le_refl _)
theorem aZV {A0 B n j:Nat} {L qo:List UInt32} (h:Dv A0 B L qo (j+1)) (hn:(toL B).length=n) (hj:j+n+1≤L.length) :
  val ((L.drop j).take (n+1))=nJ L j+W * val (L.drop (j+1))∧val (L.drop (j+1+n))=0∧val ((L.drop (j+1)).take n)=val (L.drop (j+1)):=by
 have hB:=bLC hn
 have hd:=Oo (l:=L.drop (j+1)) n (by rw [List.length_drop];omega)
 rw [List.drop_drop] at hd
 have hz:val (L.drop (j+1+n))=0:=by
  rcases Nat.eq_zero_or_pos (val (L.drop (j+1+n))) with h0 | h0
  ·exact h0
  exfalso
  have:W ^ n * 1≤W ^ n * val (L.drop (j+1+n)):=Nat.mul_le_mul_left _ h0
  have:=h.2
  omega
 have hd:val (L.drop (j+1))=val ((L.drop (j+1)).take n):=by rw [hz] at hd;omega
 refine ⟨?_,hz,hd.symm⟩
 rw [aVv (by omega),List.take_succ_cons,val,← hd,ofNat_toNat (qO L j)]
theorem bPw {A0 B n j:Nat} {L qo:List UInt32} (h:Dv A0 B L qo (j+1)) (hn:(toL B).length=n) (h2:2≤n) (hj:j+n+1≤L.length):nJ L (j+n)≤nJ (toL B) (n - 1):=by
 obtain ⟨_,_,hw⟩:=aZV h hn hj
 obtain ⟨k,rfl⟩:∃ k,n=k+1:=⟨n - 1,by omega⟩
 rw [Nat.add_sub_cancel]
 have h3:=kD (L.drop (j+1)) k
 rw [hw,aEe,show j+1+k=j+(k+1) by omega] at h3
 have h4:=kD (toL B) k
 rw [oP (by omega),gX] at h4
 have h5:=Jm (toL B) k
 have h6:=h.2
 have h7:W ^ k * nJ L (j+(k+1))<W ^ k * (nJ (toL B) k+1):=by rw [Nat.mul_add];omega
 have:=Nat.lt_of_mul_lt_mul_left h7
 omega
theorem bVW {M e x0 x1 x2 t:Nat}:t+e * x0+e * M * x1+e * M * M * x2=((M * x2+x1) * M+x0) * e+t:=by
 have e1:e * M * M * x2=M * x2 * M * e:=by ac_rfl
 have e2:e * M * x1=x1 * M * e:=by ac_rfl
 have e3:e * x0=x0 * e:=Nat.mul_comm _ _
 rw [Nat.add_mul,Nat.add_mul,Nat.add_mul,e1,e2,e3]
 omega
theorem bVQ {M e x0 x1 t:Nat}:t+e * x0+e * M * x1=(x1 * M+x0) * e+t:=by
 have e2:e * M * x1=x1 * M * e:=by ac_rfl
 have e3:e * x0=x0 * e:=Nat.mul_comm _ _
 rw [Nat.add_mul,e2,e3]
 omega
theorem aZC {A0 B n j:Nat} {L qo:List UInt32} (h:Dv A0 B L qo (j+1)) (hn:(toL B).length=n) (hj:j+n+1≤L.length):val ((L.drop j).take (n+1)) / B<W:=by
 obtain ⟨hw,hz,hw2⟩:=aZV h hn hj
 have hB0:0<B:=Nat.lt_of_le_of_lt (Nat.zero_le _) h.2
 refine (Nat.div_lt_iff_lt_mul hB0).2 ?_
 rw [hw]
 have h6:=h.2
 have h7:=qO L j
 have h8:W * (val (L.drop (j+1))+1)≤W * B:=Nat.mul_le_mul_left _ h6
 rw [Nat.mul_add] at h8
 omega
theorem bCZ {M A B u v e la lb:Nat} (hM:2≤M) (hv:M * M≤2 * v) (hA:A=u * e+la) (hla:la<e) (hB:B=v * e+lb) (hlb:lb<e) (hQ:A / B<M):A / B≤min (M - 1) (u / v)∧min (M - 1) (u / v)≤A / B+1:=by
 have hMM:M * 2≤M * M:=Nat.mul_le_mul_left M hM
 have hv0:0<v:=by omega
 have he:0<e:=by omega
 have hB0:0<B:=by rw [hB];have:=Nat.mul_pos hv0 he;omega
 generalize hQd:A / B=Q at hQ
 have h1:Q * B≤A:=by rw [← hQd];exact Nat.div_mul_le_self A B
 have h2:A<(Q+1) * B:=by rw [← hQd];have:=Nat.lt_div_mul_add (a:=A) hB0;rw [Nat.add_mul];omega
 have h3:Q * v≤u:=by
  have h4:Q * v * e<(u+1) * e:=by
   have h5:Q * (v * e)≤Q * B:=Nat.mul_le_mul_left Q (by omega)
   rw [Nat.mul_assoc,Nat.add_mul]
   omega
  have:=Nat.lt_of_mul_lt_mul_right h4
  omega
 have h4:Q≤u / v:=(Nat.le_div_iff_mul_le hv0).2 h3
 refine ⟨by omega,?_⟩
 rcases Nat.lt_or_ge (u / v) (Q+2) with h5 | h5
 ·omega
 exfalso
 have h6:(Q+2) * v≤u:=(Nat.le_div_iff_mul_le hv0).1 h5
 have h7:(Q+2) * v * e≤A:=by
  have:(Q+2) * v * e≤u * e:=Nat.mul_le_mul_right e h6
  omega
 have h8:B≤(v+1) * e:=by rw [hB,Nat.add_mul];omega
 have h9:(Q+2) * v * e<(Q+1) * ((v+1) * e):=Nat.lt_of_le_of_lt h7 (Nat.lt_of_lt_of_le h2 (Nat.mul_le_mul_left _ h8))
 rw [← Nat.mul_assoc] at h9
 have h10:=Nat.lt_of_mul_lt_mul_right h9
 have h11:(Q+2) * v=Q * v+2 * v:=by rw [Nat.add_mul]
 have h12:(Q+1) * (v+1)=Q * v+Q+v+1:=by rw [Nat.add_mul,Nat.mul_add];omega
 omega
theorem bU2 {L:List UInt32} {j k:Nat}:val ((L.drop j).take (k+2+1))=((W * nJ L (j+(k+2))+nJ L (j+(k+2) - 1)) * W+nJ L (j+(k+2) - 2)) * W ^ k+val ((L.drop j).take k):=by
 rw [kD,kD,kD,aEe,aEe,aEe,show j+(k+2) - 1=j+(k+1) by omega,show j+(k+2) - 2=j+k by omega,Nat.pow_succ,Nat.pow_succ]
 exact bVW
theorem bU9 {B k:Nat} (hn:(toL B).length=k+2):B=(nJ (toL B) (k+2 - 1) * W+nJ (toL B) (k+2 - 2)) * W ^ k+val ((toL B).take k):=by
 have h4:=kD (toL B) (k+1)
 rw [oP (by omega),gX,kD,Nat.pow_succ] at h4
 rw [show k+2 - 1=k+1 by omega,show k+2 - 2=k by omega]
 exact h4.trans bVQ
theorem bV9 {M p q:Nat} (hM:M=4294967296) (hf:2147483648≤p):M * M≤2 * (p * M+q):=by
 have h5:2147483648 * M≤p * M:=Nat.mul_le_mul_right _ hf
 have h6:M * M=2 * (2147483648 * M):=by rw [← Nat.mul_assoc];congr 1
 omega
theorem bHr {A0 B n j M M1:Nat} {L qo:List UInt32} (hM:M=W) (hM1:M1+1=M) (h:Dv A0 B L qo (j+1)) (hn:(toL B).length=n) (h2:2≤n) (hj:j+n+1≤L.length) (hf:2147483648≤nJ (toL B) (n - 1)) :
  ∃ g,g=min M1 (((M * nJ L (j+n)+nJ L (j+n - 1)) * M+nJ L (j+n - 2)) / (nJ (toL B) (n - 1) * M+nJ (toL B) (n - 2)))∧g<M∧val ((L.drop j).take (n+1)) / B≤g∧g≤val ((L.drop j).take (n+1)) / B+1:=by
 have hQ:=aZC h hn hj
 obtain ⟨k,rfl⟩:∃ k,n=k+2:=⟨n - 2,by omega⟩
 have hA:=bU2 (L:=L) (j:=j) (k:=k)
 have hBB:=bU9 hn
 have hv:=bV9 (q:=nJ (toL B) (k+2 - 2)) hM hf
 have h3:=Jm (L.drop j) k
 have h4:=Jm (toL B) k
 rw [← hM] at hA hBB hQ h3 h4
 have h5:=bCZ (by rw [hM];decide) hv hA h3 hBB h4 hQ
 have e:M - 1=M1:=by omega
 rw [e] at h5
 refine ⟨_,rfl,?_,h5.1,h5.2⟩
 have:=Nat.min_le_left M1 (((M * nJ L (j+(k+2))+nJ L (j+(k+2) - 1)) * M+nJ L (j+(k+2) - 2)) / (nJ (toL B) (k+2 - 1) * M+nJ (toL B) (k+2 - 2)))
 omega
theorem aZG {qo:List UInt32} {j q:Nat} (hj:j<qo.length) (hq:q<W):val ((qo.set j (UInt32.ofNat q)).drop j)=q+W * val (qo.drop (j+1)):=by
 rw [aVv (by rw [List.length_set];exact hj),val,aFU (by omega),aOU hq hj,if_pos rfl,ofNat_toNat hq]
theorem dvs {A0 B M p x vL vM tk w q:Nat} (hA:A0=x * (p * M * B)+vL) (hL:vL=tk+p * w) (hM:vM=tk+p * (w - q * B)) (hq:q * B≤w):A0=(q+M * x) * (p * B)+vM:=by
 subst hA hL hM
 have e1:q * (p * B)=p * (q * B):=by ac_rfl
 have e2:M * x * (p * B)=x * (p * M * B):=by ac_rfl
 have e3:p * (q * B)+p * (w - q * B)=p * w:=by rw [← Nat.mul_add];congr 1;omega
 rw [Nat.add_mul,e1,e2]
 omega
theorem bJ2 {A0 B n j:Nat} {L M qo:List UInt32} (h:Dv A0 B L qo (j+1)) (hn:(toL B).length=n) (hj:j+n+1≤L.length) (hq:j<qo.length) (hM:M.length=L.length) (h1:M.take j=L.take j) (h2:M.drop (j+(n+1))=L.drop (j+(n+1)))
  (h3:val ((M.drop j).take (n+1))=val ((L.drop j).take (n+1)) - val ((L.drop j).take (n+1)) / B * B) (hQ:val ((L.drop j).take (n+1)) / B<W):Dv A0 B M (qo.set j (UInt32.ofNat (val ((L.drop j).take (n+1)) / B))) j:=by
 obtain ⟨hw,hz,_⟩:=aZV h hn hj
 have hB0:0<B:=Nat.lt_of_le_of_lt (Nat.zero_le _) h.2
 rw [show j+1+n=j+(n+1) by omega] at hz
 have dM:val (M.drop j)=val ((M.drop j).take (n+1)):=by
  have:=Oo (l:=M.drop j) (n+1) (by rw [List.length_drop];omega)
  rw [List.drop_drop,h2,hz,Nat.mul_zero] at this
  exact this
 have dL:val (L.drop j)=val ((L.drop j).take (n+1)):=by
  have:=Oo (l:=L.drop j) (n+1) (by rw [List.length_drop];omega)
  rw [List.drop_drop,hz,Nat.mul_zero] at this
  exact this
 have hdm:=Nat.div_add_mod (val ((L.drop j).take (n+1))) B
 rw [Nat.mul_comm] at hdm
 have hr:=Nat.mod_lt (val ((L.drop j).take (n+1))) hB0
 have hA:=h.1
 rw [Nat.pow_succ] at hA
 have vM:=Oo (l:=M) j (by omega)
 have vL:=Oo (l:=L) j (by omega)
 rw [dM,h3,h1] at vM
 rw [dL] at vL
 have hle:=Nat.div_mul_le_self (val ((L.drop j).take (n+1))) B
 refine ⟨?_,?_⟩
 ·rw [aZG hq hQ]
  exact dvs hA vL vM hle
 rw [dM,h3];omega
theorem bIX {A0 B n m:Nat} (hn:(toL B).length=n) (h0:0<n) (hf:0<nJ (toL B) (n - 1)) (hm:m+n=(toL A0++[(0:UInt32)]).length) (qo:List UInt32) (hq:qo.length=m):Dv A0 B (toL A0++[0]) qo m:=by
 have hl:(toL A0++[(0:UInt32)]).length=(toL A0).length+1:=by simp
 refine ⟨by rw [List.drop_of_length_le (by omega),aMS,gX];simp [val],?_⟩
 rw [List.drop_append_of_le_length (by omega),aMS]
 have h1:=aE1 ((toL A0).drop m)
 rw [List.length_drop,show (toL A0).length - m=n - 1 by omega] at h1
 have h4:=kD (toL B) (n - 1)
 rw [show n - 1+1=n by omega,oP (by omega),gX] at h4
 have:W ^ (n - 1) * 1≤W ^ (n - 1) * nJ (toL B) (n - 1):=Nat.mul_le_mul_left _ hf
 omega
theorem bOZ {A0 B:Nat} {L qo:List UInt32} (h:Dv A0 B L qo 0):val qo=A0 / B∧val L=A0 % B:=by
 obtain ⟨h1,h2⟩:=h
 rw [List.drop_zero] at h1 h2
 rw [Nat.pow_zero,Nat.one_mul] at h1
 have hB0:0<B:=Nat.lt_of_le_of_lt (Nat.zero_le _) h2
 obtain ⟨e1,e2⟩:=aY4 h2 h1
 exact ⟨e1.symm,e2.symm⟩
theorem bKo {a b up:Nat}:a * 2 ^ up / (b * 2 ^ up)=a / b∧a * 2 ^ up % (b * 2 ^ up) / 2 ^ up=a % b:=by
 have hp:0<2 ^ up:=Nat.pow_pos (by decide)
 refine ⟨Nat.mul_div_mul_right _ _ hp,?_⟩
 rw [Nat.mul_mod_mul_right,Nat.mul_div_cancel _ hp]
theorem bGX {b:Nat} (h:(toL b).length=1):nJ (toL b) 0=b∧b<4294967296∧0<b:=by
 have h1:=kD (toL b) 0
 rw [oP (by omega),gX] at h1
 simp [val] at h1
 have h2:=bLC h
 have hW:W=4294967296:=rfl
 refine ⟨h1.symm,by rw [Nat.pow_one] at h2;omega,?_⟩
 rcases Nat.eq_zero_or_pos b with rfl | h0
 ·rw [sY] at h;simp at h
 exact h0
theorem bBe {n:Nat} (h:n<W):val [UInt32.ofNat n]=n:=by simp only [val,ofNat_toNat h];omega
def gm (x y:Nat):Nat:=if y=0 then 0 else Nat.log2 (x * y)+(if x<y then 2 else 1)
theorem bLU {x y:Nat} (hy:0<y):gm y (x % y)<gm x y:=by
  have hr:=Nat.mod_lt x hy
  unfold gm
  rw [if_neg (by omega:¬ y=0)]
  rcases Nat.eq_zero_or_pos (x % y) with h0 | h0
  · rw [if_pos h0];split<;>omega
  · rw [if_neg (by omega), if_neg (by omega)]
    rcases Nat.lt_or_ge x y with h | h
    · rw [if_pos h,Nat.mod_eq_of_lt h,Nat.mul_comm y x];omega
    · rw [if_neg (by omega)]
      have h1:2 * (x % y)≤x:=by
        have h2:=Nat.div_add_mod x y
        have h3:0<x / y:=Nat.div_pos h hy
        have h4:y * 1≤y * (x / y):=Nat.mul_le_mul_left _ h3
        omega
      have h2:2 * (y * (x % y))≤x * y:=by rw [Nat.mul_left_comm,Nat.mul_comm x y];exact Nat.mul_le_mul_left _ h1
      have h3:y * (x % y)≠0:=Nat.ne_of_gt (Nat.mul_pos hy h0)
      have h4:Nat.log2 (2 * (y * (x % y)))=Nat.log2 (y * (x % y))+1:=by rw [Nat.log2_two_mul h3]
      have h5:Nat.log2 (2 * (y * (x % y)))≤Nat.log2 (x * y):=by
        refine (Nat.le_log2 (Nat.ne_of_gt (Nat.lt_of_lt_of_le (Nat.pos_of_ne_zero (by omega)) h2))).2 ?_
        exact Nat.le_trans (Nat.log2_self_le (by omega)) h2
      omega
theorem bLN {x y k:Nat} (hx:(toL x).length≤k) (hy:(toL y).length≤k):gm x y≤64 * k+2:=by
 unfold gm
 split
 ·omega
 rename_i h0
 have h:Nat.log2 (x * y)≤64 * k:=by
  rcases Nat.eq_zero_or_pos x with rfl | hx0
  ·rw [Nat.zero_mul];simp
  have h1:x * y<2 ^ (64 * k):=by
   have h2:x<W ^ k:=pG.1 hx
   have h3:y<W ^ k:=pG.1 hy
   have hW:W ^ k * W ^ k=2 ^ (64 * k):=by
    have:W=2 ^ 32:=rfl
    rw [this,← Nat.pow_mul,← Nat.pow_add];congr 1;omega
   rw [← hW]
   exact Nat.mul_lt_mul'' h2 h3
  exact Nat.le_of_lt ((Nat.log2_lt (Nat.ne_of_gt (Nat.mul_pos hx0 (by omega)))).2 h1)
 split<;>omega
theorem aJH {n:Bool}:xB (n,[]) = !n:=by cases n<;>rfl
theorem aQj {n:Bool} {l:List UInt32} (h:0<l.length):xB (n,l) = !decide (((nJ l (l.length - 1):Nat):Int)=0):=by
 have hl:l≠[]:=fun e=>by subst e;simp at h
 have he:l.isEmpty=false:=by cases l with
  | nil=>exact absurd rfl hl
  | cons=>rfl
 have hd:nJ l (l.length - 1)=(l.getLast hl).toNat:=by
  rw [nJ,List.getD_eq_getElem?_getD,List.getElem?_eq_getElem (by omega),Option.getD_some,List.getLast_eq_getElem]
 unfold xB aWF
 rw [List.getLast?_eq_some_getLast hl]
 simp only [he,Bool.and_false,Bool.not_false,Bool.and_true,hd]
 by_cases h0:l.getLast hl=0
 ·rw [h0];rfl
 have:(l.getLast hl).toNat≠0:=fun e=>h0 (UInt32.toNat_inj.1 e)
 rw [decide_eq_false (by omega)]
 simpa using h0
theorem aXJ {n:Bool} {l:List UInt32} (h:xB (n,l)=true):n=decide (lQ (n,l)<0)∧l=toL (lQ (n,l)).natAbs:=by
 have:=bNi h
 unfold cI at this
 rw [Prod.mk.injEq] at this
 exact ⟨this.1.symm,this.2.symm⟩
theorem bFj {n:Bool} {l:List UInt32} (h:xB (n,l)=false):lQ (n,l)=0:=by
 unfold lQ
 rw [if_neg (by rw [h];decide)]
theorem C5 {n:Bool} {l:List UInt32}:(toL (lQ (n,l)).natAbs).length≤l.length:=by
 cases h:xB (n,l) with
 | true=>rw [← (aXJ h).2];exact Nat.le_refl _
 | false=>rw [bFj h];simp [sY]
theorem jI (a:Int):lQ (decide (a<0),toL a.natAbs)=a:=aZE a
theorem Zj {b:Bool} {m:Nat}:(Qo b m).natAbs=m:=by unfold Qo;cases b<;>simp
theorem aWH {b:Bool} {m:Nat}:decide (Qo b m<0)=(b && decide ((0:Int)<((toL m).length:Nat))):=by
 unfold Qo
 rcases Nat.eq_zero_or_pos m with rfl | h
 ·cases b<;>simp [sY]
 have:=aPd h
 cases b with
 | false=>simp
 | true =>
  simp only [if_true,Bool.true_and]
  rw [decide_eq_true (by omega),decide_eq_true (by omega)]
theorem aJq {a b:Int} (h:decide (a<0)=decide (b<0)):Qo (decide (a<0)) (a.natAbs+b.natAbs)=a+b:=by
  unfold Qo
  by_cases ha:a<0
  · have hb : b < 0 := by rw [decide_eq_true ha] at h; exact of_decide_eq_true h.symm
    rw [if_pos (decide_eq_true ha)];omega
  · have hb : ¬ b < 0 := by rw [decide_eq_false ha] at h; exact of_decide_eq_false h.symm
    rw [if_neg (by simpa using ha)];omega
theorem aO4 {a b:Int} (h:¬ decide (a<0)=decide (b<0)) (hc:b.natAbs≤a.natAbs):Qo (decide (a<0)) (a.natAbs - b.natAbs)=a+b:=by
  unfold Qo
  by_cases ha:a<0
  · have hb : ¬ b < 0 := fun hb => h (by rw [decide_eq_true ha, decide_eq_true hb])
    rw [if_pos (decide_eq_true ha)];omega
  · have hb:b<0:=by
      rcases Int.lt_or_le b 0 with hb | hb
      · exact hb
      · exact absurd (by rw [decide_eq_false ha,decide_eq_false (by omega)]) h
    rw [if_neg (by simpa using ha)];omega
theorem aWz {a b:Int} (h:¬ decide (a<0)=decide (b<0)) (hc:a.natAbs<b.natAbs):Qo (decide (b<0)) (b.natAbs - a.natAbs)=a+b:=by
 rw [Int.add_comm];exact aO4 (fun e=>h e.symm) (Nat.le_of_lt hc)
theorem bA6 {a:Int}:Qo (!decide (a<0)) a.natAbs = -a:=by
 unfold Qo
 by_cases ha:a<0
 ·rw [decide_eq_true ha];simp;omega
 rw [decide_eq_false ha];simp;omega
theorem bAU {a b:Int}:Qo (!decide (decide (a<0)=decide (b<0))) (a.natAbs * b.natAbs)=a * b:=by
  unfold Qo
  have e:((a.natAbs:Int) * b.natAbs)=((a * b).natAbs:Int):=by rw [Int.natAbs_mul];simp
  by_cases ha:a<0<;>by_cases hb:b<0
  · have:=Int.mul_pos_of_neg_of_neg ha hb
    simp [ha,hb];rw [e];omega
  · have : a * b ≤ 0 := Int.mul_nonpos_of_nonpos_of_nonneg (by omega) (by omega)
    simp [ha,hb];rw [e];omega
  · have : a * b ≤ 0 := Int.mul_nonpos_of_nonneg_of_nonpos (by omega) (by omega)
    simp [ha,hb];rw [e];omega
  · have := Int.mul_nonneg (show 0 ≤ a by omega) (show 0 ≤ b by omega)
    simp [ha,hb];rw [e];omega
theorem bFn {a:Int}:Qo (decide (a<0)) a.natAbs=a:=by
 unfold Qo
 by_cases ha:a<0
 ·rw [if_pos (decide_eq_true ha)];omega
 rw [if_neg (by simpa using ha)];omega
theorem aZ3 {a:Int}:a.sign=if a<0 then -1 else if 0<a.natAbs then 1 else 0:=by
 rcases Int.lt_trichotomy a 0 with h | h | h
 ·rw [if_pos h,Int.sign_eq_neg_one_of_neg h]
 ·subst h;rfl
 rw [if_neg (by omega),if_pos (by omega),Int.sign_eq_one_of_pos h]
theorem bA1 {z:Nat} (h:z<18446744073709551616):val [UInt32.ofNat (z % 4294967296),UInt32.ofNat (z / 4294967296)]=z:=by
 simp only [val]
 rw [ofNat_toNat (Nat.mod_lt _ (by decide)),ofNat_toNat (show z / 4294967296<W by show _<4294967296;omega)]
 show z % 4294967296+4294967296 * (z / 4294967296+4294967296 * 0)=z
 omega
theorem aG3 {a b q r:Int} (hb:b≠0) (h:r+b * q=a) (hr:(0<b→0≤r∧r<b)∧(b<0→b<r∧r≤0)):q=a.fdiv b∧r=a.fmod b:=by
 rcases Int.lt_or_gt_of_ne hb with h1 | h1
 ·obtain ⟨e1,e2⟩:=(Int.fdiv_fmod_unique' h1).2 ⟨h,hr.2 h1⟩
  exact ⟨e1.symm,e2.symm⟩
 obtain ⟨e1,e2⟩:=(Int.fdiv_fmod_unique h1).2 ⟨h,hr.1 h1⟩
 exact ⟨e1.symm,e2.symm⟩
theorem aXI {a b:Int} (h:decide (a<0)=decide (b<0)∨a.natAbs % b.natAbs=0) (hb:b≠0):Qo (!decide (decide (a<0)=decide (b<0))) (a.natAbs / b.natAbs)=a.fdiv b∧Qo (decide (b<0)) (a.natAbs % b.natAbs)=a.fmod b:=by
  have h1:=Nat.div_add_mod a.natAbs b.natAbs
  have h2:=Nat.mod_lt a.natAbs (show 0<b.natAbs by omega)
  generalize a.natAbs / b.natAbs=Q at *
  generalize a.natAbs % b.natAbs=R at *
  have h3:(b.natAbs:Int) * Q+R=a.natAbs:=by rw [← h1];simp
  refine aG3 hb ?_ ?_
  · unfold Qo
    by_cases ha:a<0<;>by_cases hb:b<0<;>simp only [ha,hb,decide_true,decide_false,Bool.not_true,Bool.not_false,if_true,if_false,Bool.false_eq_true,reduceCtorEq,false_or] at h ⊢
    · have e : b * (Q : Int) = -((b.natAbs : Int) * Q) := by rw [← Int.neg_mul]; congr 1; omega
      rw [e];omega
    · have e : b * -(Q : Int) = -((b.natAbs : Int) * Q) := by rw [Int.mul_neg]; congr 2; omega
      rw [e];omega
    · have e : b * -(Q : Int) = (b.natAbs : Int) * Q := by rw [Int.mul_neg, ← Int.neg_mul]; congr 1; omega
      rw [e];omega
    · have e : b * (Q : Int) = (b.natAbs : Int) * Q := by congr 1; omega
      rw [e];omega
  · unfold Qo
    refine ⟨fun hb=>?_,fun hb=>?_⟩
    · rw [decide_eq_false (show ¬ b<0 by omega),if_neg (by decide)];omega
    · rw [decide_eq_true hb,if_pos rfl];omega
theorem bIc {a b:Int} (h:¬ decide (a<0)=decide (b<0)) (h2:0<a.natAbs % b.natAbs) (hb:b≠0):Qo (!decide (decide (a<0)=decide (b<0))) (a.natAbs / b.natAbs+1)=a.fdiv b∧Qo (decide (b<0)) (b.natAbs - a.natAbs % b.natAbs)=a.fmod b:=by
 have h1:=Nat.div_add_mod a.natAbs b.natAbs
 have h4:=Nat.mod_lt a.natAbs (show 0<b.natAbs by omega)
 generalize a.natAbs / b.natAbs=Q at *
 generalize a.natAbs % b.natAbs=R at *
 have h3:(b.natAbs:Int) * Q+R=a.natAbs:=by rw [← h1];simp
 refine aG3 hb ?_ ?_
 ·unfold Qo
  by_cases ha:a<0<;>by_cases hb:b<0<;>simp only [ha,hb,decide_true,decide_false,Bool.not_true,Bool.not_false,if_true,if_false,Bool.false_eq_true,reduceCtorEq,not_true_eq_false,not_false_eq_true] at h ⊢
  ·have e:b * -((Q+1:Nat):Int) = -((b.natAbs:Int) * Q) - b.natAbs:=by
    rw [Int.mul_neg,Int.natCast_add,Int.mul_add]
    have:b * (Q:Int)=(b.natAbs:Int) * Q:=by congr 1;omega
    rw [this];omega
   rw [e];omega
  have e:b * -((Q+1:Nat):Int)=(b.natAbs:Int) * Q+b.natAbs:=by
   rw [Int.mul_neg,Int.natCast_add,Int.mul_add]
   have:b * (Q:Int) = -((b.natAbs:Int) * Q):=by rw [← Int.neg_mul];congr 1;omega
   rw [this];omega
  rw [e];omega
 unfold Qo
 refine ⟨fun hb=>?_,fun hb=>?_⟩
 ·rw [decide_eq_false (show ¬ b<0 by omega),if_neg (by decide)];omega
 rw [decide_eq_true hb,if_pos rfl];omega
end Go.Num
