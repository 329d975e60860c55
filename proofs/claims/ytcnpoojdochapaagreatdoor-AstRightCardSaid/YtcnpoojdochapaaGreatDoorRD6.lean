/- Names, walked. -/
import Derived.WalkKit
import Derived.Orders
import Derived.Test.YtcnpoojdochapaaGreatDoorRD5
set_option linter.unusedVariables false
set_option linter.unusedSimpArgs false
set_option maxRecDepth 100000
set_option maxHeartbeats 1000000
namespace Go.Proofs.YtcnpoojdochapaaGreatDoor
open Go.CE Go.RowKit Go.Num
open Go.Eng (oH bget)
def nmL:List UInt8:=[97,98,99,100,101,102,103,104,105,106,107,108,109,110,111,112,113,114,115,116,117,118,119,120,121,122,65,66,67,68,69,70,71,72,73,74,75,76,77,78,79,80,81,82,83,84,85,86,87,88,89,90]
def nmK:List UInt8:=[97,98,99,100,101,102,103,104,105,106,107,108,109,110,111,112,113,114,115,116,117,118,119,120,121,122,65,66,67,68,69,70,71,72,73,74,75,76,77,78,79,80,81,82,83,84,85,86,87,88,89,90,48,49,50,51,52,53,54,55,56,57,95,45]
def O9 (l:List UInt8) (c:Nat):Bool:=l.any fun x=>decide (x.toNat=c)
theorem aWz {l:List UInt8} {c:Nat}:O9 l c=true↔∃ x,x∈l∧x.toNat=c:=by simp [O9]
theorem aT3 {l:List UInt8} {c:Nat}:decide (ixb l c 0 ≥ 0)=O9 l c:=by
 rw [Bool.eq_iff_iff,aWz,decide_eq_true_iff]
 exact bLv
theorem aPa {l:List UInt8} {i:Nat} (h:i<l.length):l.getD i 0∈l:=by
 rw [List.getD_eq_getElem?_getD,List.getElem?_eq_getElem h]
 exact List.getElem_mem h
theorem bIi {l:List UInt8} {i:Nat} (ha:∀ x,x∈l→x.toNat<128) (h:i<l.length):(l.getD i 0).toNat<128:=ha _ (aPa h)
theorem aQX {l:List UInt8} {m k:Nat} (h:k<m):(l.take m).getD k 0=l.getD k 0:=by
 simp [List.getD_eq_getElem?_getD,List.getElem?_take,h]
theorem aUS {l:List UInt8} {m k:Nat}:(l.drop m).getD k 0=l.getD (m+k) 0:=by
 simp [List.getD_eq_getElem?_getD]
theorem bK5 {l:List UInt8} {f:Nat→Bool} {m:Nat} (h0:0<m) (hm:m≤l.length) (h:f ((l.take m).getD (m - 1) 0).toNat=false):f (l.getD (m - 1) 0).toNat=false:=by rwa [aQX (by omega)] at h
theorem bLA {l r:List UInt8} {f:Nat→Bool} {m:Nat} (h0:0<m) (hm:m≤l.length) (hk:∀ k,m≤k→k<l.length→f (l.getD k 0).toNat=true) (hr:r=l.take m) (h:f (r.getD (m - 1) 0).toNat=true):∀ k,m - 1≤k→k<l.length→f (l.getD k 0).toNat=true:=fun k h1 h2=>by
 by_cases h3:k=m - 1
 ·subst h3;rw [hr,aQX (by omega)] at h;exact h
 exact hk k (by omega) h2
theorem bJU {l:List UInt8} {f:Nat→Bool} {m:Nat} (h:f ((l.drop m).getD 0 0).toNat=false):f (l.getD m 0).toNat=false:=by rwa [aUS] at h
theorem bJF {l r:List UInt8} {f:Nat→Bool} {m:Nat} (hk:∀ k,k<m→f (l.getD k 0).toNat=true) (hr:r=l.drop m) (h:f (r.getD 0 0).toNat=true):∀ k,k<m+1→f (l.getD k 0).toNat=true:=fun k h1=>by
 by_cases h3:k=m
 ·subst h3;rw [hr,aUS] at h;exact h
 exact hk k (by omega)
theorem bCa {l:List UInt8} {i:Nat} (h:i<l.length):(fun k=>decide (k=(l.getD i 0).toNat) || O9 (l.take i) k)=O9 (l.take (i+1)):=by
 funext k
 rw [List.take_add_one,List.getElem?_eq_getElem h,O9,O9,List.any_append,List.getD_eq_getElem?_getD,List.getElem?_eq_getElem h]
 simp only [Option.toList,List.any_cons,List.any_nil,Bool.or_false,Option.getD_some]
 rw [Bool.or_comm]
 congr 1
 exact decide_eq_decide.2 eq_comm
theorem bHX:∀ x,x∈nmK→x.toNat<128:=by decide
theorem bMf {x:UInt8} (h:O9 nmK x.toNat=true):x.toNat<128:=by
 obtain ⟨y,hy,e⟩:=aWz.1 h
 rw [← e];exact bHX y hy
def Jt (l:List UInt8):Bool:=decide (l≠[]) && (decide (l.length≤32) && (O9 nmL (l.getD 0 0).toNat && l.all fun x=>O9 nmK x.toNat))
theorem bJz {l:List UInt8} (h:l=[]):false=Jt l:=by simp [Jt,h]
theorem bJA {l:List UInt8} (h:¬ l.length≤32):false=Jt l:=by simp [Jt,h]
theorem bJs {l:List UInt8} (h:¬ ixb nmL (l.getD 0 0).toNat 0 ≥ 0):false=Jt l:=by
 have e:=aT3 (l:=nmL) (c:=(l.getD 0 0).toNat)
 rw [decide_eq_false h] at e
 rw [Jt,← e];simp
theorem bKt {l:List UInt8} (h:¬ ∀ x,x∈l→O9 nmK x.toNat=true):false=Jt l:=by
 have e:(l.all fun x=>O9 nmK x.toNat)=false:=by
  cases h2:l.all fun x=>O9 nmK x.toNat with
  | false=>rfl
  | true=>exact absurd (List.all_eq_true.1 h2) h
 rw [Jt,e];simp
theorem bQR {l:List UInt8} (h1:¬ l=[]) (h2:l.length≤32) (h3:ixb nmL (l.getD 0 0).toNat 0 ≥ 0) (h4:∀ x,x∈l→O9 nmK x.toNat=true):true=Jt l:=by
 have e:=aT3 (l:=nmL) (c:=(l.getD 0 0).toNat)
 rw [decide_eq_true h3] at e
 rw [Jt,← e,List.all_eq_true.2 h4,decide_eq_true h2,decide_eq_true h1]
 rfl
def Ya (c k:Nat):Prop:=(97≤c∧c≤122)∨(65≤c∧c≤90)∨(k≠0∧((48≤c∧c≤57)∨c=95∨c=45))
theorem qA {l:List UInt8} {i:Nat} (h:∀ k,k<i→Ya (l.getD k 0).toNat k) (h2:Ya (l.getD i 0).toNat i):∀ k,k<i+1→Ya (l.getD k 0).toNat k:=fun k hk=>by
 by_cases e:k=i
 ·rw [e];exact h2
 exact h k (by omega)
theorem bNz:((List.range 256).all fun c=>(O9 nmL c == (decide (97≤c) && decide (c≤122) || decide (65≤c) && decide (c≤90))) && (O9 nmK c == (decide (97≤c) && decide (c≤122) || decide (65≤c) && decide (c≤90) || decide (48≤c) && decide (c≤57) || decide (c=95) || decide (c=45))))=true:=by kernel_rfl
theorem aVF {c:Nat} (h:c<256):(O9 nmL c=true↔Ya c 0)∧∀ k,k≠0→(O9 nmK c=true↔Ya c k):=by
 have h1:=List.all_eq_true.1 bNz c (List.mem_range.2 h)
 simp only [Bool.and_eq_true,beq_iff_eq] at h1
 rw [h1.1,h1.2]
 constructor
 ·simp only [Bool.or_eq_true,Bool.and_eq_true,decide_eq_true_eq,Ya];omega
 intro k hk
 simp only [Bool.or_eq_true,Bool.and_eq_true,decide_eq_true_eq,Ya];omega
theorem aRm {l:List UInt8}:Jt l=true↔0<l.length∧l.length≤32∧∀ k,k<l.length→Ya (l.getD k 0).toNat k:=by
 simp only [Jt,Bool.and_eq_true,decide_eq_true_eq,List.all_eq_true]
 constructor
 ·rintro ⟨h1,h2,h3,h4⟩
  refine ⟨List.length_pos_iff.2 h1,h2,fun k hk=>?_⟩
  by_cases e:k=0
  ·subst e;exact (aVF (UInt8.toNat_lt _)).1.1 h3
  exact ((aVF (UInt8.toNat_lt _)).2 k e).1 (h4 _ (aPa hk))
 rintro ⟨h1,h2,h3⟩
 refine ⟨List.length_pos_iff.1 h1,h2,(aVF (UInt8.toNat_lt _)).1.2 (h3 0 h1),fun x hx=>?_⟩
 obtain ⟨k,hk,rfl⟩:=List.getElem_of_mem hx
 have h4:=h3 k hk
 rw [List.getD_eq_getElem?_getD,List.getElem?_eq_getElem hk,Option.getD_some] at h4
 refine ((aVF (UInt8.toNat_lt _)).2 1 (by decide)).2 ?_
 unfold Ya at h4 ⊢
 omega
theorem I2 {l:List UInt8} {i:Nat} (hi:i<l.length) (h:¬ Ya (l.getD i 0).toNat i):false=Jt l:=by
 cases e:Jt l with
 | false=>rfl
 | true=>exact absurd ((aRm.1 e).2.2 i hi) h
theorem bJe {l:List UInt8} (h:¬ 0<l.length):false=Jt l:=by
 cases e:Jt l with
 | false=>rfl
 | true=>exact absurd (aRm.1 e).1 h
theorem bKG {l:List UInt8} {i:Nat} (hk:∀ k,k<i→Ya (l.getD k 0).toNat k) (hi:l.length≤i) (h0:0<l.length):decide ((l.length:Int)≤32)=Jt l:=by
 rw [Bool.eq_iff_iff,aRm,decide_eq_true_iff]
 exact ⟨fun h=>⟨h0,by omega,fun k h2=>hk k (by omega)⟩,fun h=>by omega⟩
theorem bEL {l:List UInt8} {f:Nat→Bool} {m1 m2:Nat} (k1:m1≤l.length) (k2:m1=0∨f (l.getD (m1 - 1) 0).toNat=false) (k3:∀ k,m1≤k→k<l.length→f (l.getD k 0).toNat=true)
    (k4:m2≤(l.take m1).length) (k5:m2=(l.take m1).length∨f ((l.take m1).getD m2 0).toNat=false) (k6:∀ k,k<m2→f ((l.take m1).getD k 0).toNat=true):(l.take m1).drop m2=[]↔∀ x,x∈l→f x.toNat=true:=by
  rw [mS k1] at k4 k5
  constructor
  · intro h
    have hl:=congrArg List.length h
    rw [List.length_drop,mS k1,List.length_nil] at hl
    have h1:m1=0:=by
      rcases k2 with h2 | h2
      · exact h2
      · by_cases h3:m1=0
        · exact h3
        · have := k6 (m1 - 1) (by omega)
          rw [aQX (by omega),h2] at this
          cases this
    subst h1
    intro x hx
    obtain ⟨k,hk,rfl⟩:=List.getElem_of_mem hx
    have:=k3 k (Nat.zero_le _) hk
    rwa [List.getD_eq_getElem?_getD,List.getElem?_eq_getElem hk] at this
  · intro h
    have h1:m1=0:=by
      rcases k2 with h2 | h2
      · exact h2
      · by_cases h3:m1=0
        · exact h3
        · rw [h _ (aPa (by omega))] at h2;cases h2
    subst h1
    simp
theorem bRm {k:Nat} (hk:1≤k) {z:dE} {l:List UInt8} {c:Nat} (hc:c<256):FC (E k) 158 [sV l,.c (Cu ((c:Nat):Int))] z fun v _=>v=Ai (ixb l c 0):=(bPp bEr rfl hk).mono fun v z' _ h=>by rw [h];show AV.c (Ci (ixb l (c % 256) 0))=_;rw [Nat.mod_eq_of_lt hc]
theorem Ld {k:Nat} (hk:2≤k) {z:dE} {l:List UInt8} {c:Nat} (hc:c<256):FC (E k) 90 [sV l,.c (Cu ((c:Nat):Int))] z fun v _=>v=Ai (ixb l c 0):=by
 refine cX (bFx) (by omega) (aU O) fun B j hj=>?_
 refine R4 40 O ?_
 refine lE z (bRm (by omega) hc) O O fun z7 _=>?_
 refine R0 3 O (xT (rI O ?_))
 rfl
theorem R9 {k:Nat} (hk:3≤k) {z:dE} {l:List UInt8} {c:Nat} (hc:c<256):FC (E k) 32 [sV l,.c (Cu ((c:Nat):Int))] z fun v _=>v=Ai (ixb l c 0):=by
 refine cX (bIA) (by omega) (aU O) fun B j hj=>?_
 refine R4 40 O ?_
 refine lE z (Ld (by omega) hc) O O fun z7 _=>?_
 refine R0 3 O (xT (rI O ?_))
 rfl
theorem aGJ {k:Nat} (hk:4≤k) {z:dE} {l:List UInt8} {c:Nat} (hc:c<128):FC (E k) 99 [sV l,.c (.v (.int .i32 ((c:Nat):Int)))] z fun v _=>v=Ai (ixb l c 0):=by
 refine cX (bHL) (by omega) (aU O) fun B j hj=>?_
 refine R5 4 O (aQ (R4 16 O ?_))
 refine iW 163 O (fun hg163=>?_) (fun hg163=>?_)
 ·refine R0 24 O ?_
  refine xD O (fun hc160=>?_) (fun hc160=>?_)
  ·refine R4 10 O ?_
   refine mB O ((wu8 ⟨by omega,by omega⟩)) ?_
   refine lE z (R9 (by omega) (by omega)) O O fun z170 _=>?_
   refine R0 3 O (xT (rI O ?_))
   rfl
  omega
 omega
theorem aDJ {k:Nat} (hk:5≤k) {z:dE} {l:List UInt8} {c:Nat} (hc:c<128):FC (E k) 36 [sV l,.c (.v (.int .i32 ((c:Nat):Int)))] z fun v _=>v=Ab (O9 l c):=by
 refine cX (bDp) (by omega) (aU O) fun B j hj=>?_
 refine R4 40 O ?_
 refine lE z (aGJ (by omega) hc) O O fun z7 _=>?_
 refine R0 4 O (xT ?_)
 exact rI O (cQ (aT3))
theorem aTh {k:Nat} (hk:6≤k) {z:dE} {c:Nat} (hc:c<128):FC (E k) 35 [.c (.v (.int .i32 ((c:Nat):Int)))] z fun v _=>v=Ab (!O9 nmK c):=by
 refine cX (bFw) (by omega) (aU O) fun B j hj=>?_
 refine R4 16 O ?_
 refine lE z (aDJ (l:=nmK) (by omega) hc) O O fun z4 _=>?_
 refine R0 4 O (xT (rI O ?_))
 rfl
theorem Ej {k:Nat} (hk:1≤k) {z:dE} {b c ty:Nat} {f:Nat→Bool} (hb:z b (.cells ty (cB f))) (hc:c<256):FC (E k) 159 [Ap b,.c (Cu ((c:Nat):Int))] z fun v _=>v=Ab (f c):=by
 refine cX (bBr) (by omega) (aU O) fun B j hj=>?_
 refine R4 32 O (aFn O (bGn O O (c) O (by omega) (bMm c O hb (by omega) hc (R0 2 O (xT (rI O ?_))))))
 rfl
theorem aAD {k:Nat} (hk:2≤k) {z:dE} {l:List UInt8} {b ty:Nat} {f:Nat→Bool} (hb:z b (.cells ty (cB f))) (hl:l.length≤1000):FC (E k) 95 [sV l,Ap b] z fun v _=>∃ m,v=sV (l.take m)∧m≤l.length∧(m=0∨f (l.getD (m - 1) 0).toNat=false)∧∀ k,m≤k→k<l.length→f (l.getD k 0).toNat=true:=by
 refine cX (bDV) (by omega) (aU O) fun B j hj=>?_
 refine R5 4 O ?_
 refine aT (aQ ?_)
 refine eA (fun n fs=>∃ (m:Nat) (r:List UInt8),LI z [] [(0,sV r),(1,Ap b)] fs∧n=m∧(m≤l.length)∧(r=l.take m)∧(∀ k,m≤k→k<l.length→f (l.getD k 0).toNat=true)) ?_ _ ⟨l.length,l,LI.m [] O,rfl,Nat.le_refl _,List.take_length.symm,fun k h1 h2=>absurd h1 (by omega)⟩ (kK (by omega))
 intro n fs ⟨m,r,hL0,hmz0,hm,hr,hk2⟩
 refine hL0.open fun e zl0 _=>?_
 refine R4 4 O ?_
 have htl:r.length=m:=by rw [hr];exact mS hm
 refine lM O (Oo O (R3 4 O ?_))
 refine xD O (fun hc7=>?_) (fun hc7=>?_)
 ·refine dA (aQ (R4 56 O (Oo O (lB O O (Dx (n:=m - 1) (by omega) (by omega)) (aTS O O (m - 1) (O) (by omega) ?_)))))
  refine lE zl0 (Ej (by omega) (zI _ _ hb) (UInt8.toNat_lt _)) O O fun z14 _=>?_
  refine R3 4 O ?_
  refine iO O (fun hc15=>?_) (fun hc15=>?_)
  ·refine dK (nQ (dN (R5 14 O (xT (rI O ?_)))))
   subst hr
   exact ⟨m,rfl,hm,.inr (bK5 (by omega) hm (by simpa using hc15)),hk2⟩
  refine dA (xG (R1 7 O (Oo O (lB O O (Dx (n:=m - 1) (by omega) (by omega)) ?_))))
  refine aZu (i:=0) (j:=m - 1) O O ⟨_,O⟩ (by omega) (by omega) (O) ?_
  refine R0 3 O ?_
  exact lQ (by omega) ⟨m - 1,_,LI.m [] O,rfl,by omega,by rw [hr,List.drop_zero,List.take_take,Nat.min_eq_left (by omega)],bLA (by omega) hm hk2 hr (by simpa using hc15)⟩
 refine dK (nQ (dN (R5 14 O (xT (rI O ?_)))))
 subst hr
 exact ⟨m,rfl,hm,.inl (by omega),hk2⟩
theorem aBO {k:Nat} (hk:2≤k) {z:dE} {l:List UInt8} {b ty:Nat} {f:Nat→Bool} (hb:z b (.cells ty (cB f))) (hl:l.length≤1000):FC (E k) 94 [sV l,Ap b] z fun v _=>∃ m,v=sV (l.drop m)∧m≤l.length∧(m=l.length∨f (l.getD m 0).toNat=false)∧∀ k,k<m→f (l.getD k 0).toNat=true:=by
 refine cX (bIP) (by omega) (aU O) fun B j hj=>?_
 refine R5 4 O ?_
 refine aT (aQ ?_)
 refine eA (fun n fs=>∃ (m:Nat) (r:List UInt8),LI z [] [(0,sV r),(1,Ap b)] fs∧n=l.length - m∧(m≤l.length)∧(r=l.drop m)∧(∀ k,k<m→f (l.getD k 0).toNat=true)) ?_ _ ⟨0,l,LI.m [] O,rfl,Nat.zero_le _,rfl,fun k h1=>absurd h1 (by omega)⟩ (kK (by omega))
 intro n fs ⟨m,r,hL0,hmz0,hm,hr,hk2⟩
 refine hL0.open fun e zl0 _=>?_
 refine R4 4 O ?_
 have htl:r.length=l.length - m:=by rw [hr];exact List.length_drop ..
 refine lM O (Oo O (R3 4 O ?_))
 refine xD O (fun hc7=>?_) (fun hc7=>?_)
 ·refine dA (aQ (R4 24 O (aTS O O (0) (O) (by omega) ?_)))
  refine lE zl0 (Ej (by omega) (zI _ _ hb) (UInt8.toNat_lt _)) O O fun z11 _=>?_
  refine R3 4 O ?_
  refine iO O (fun hc12=>?_) (fun hc12=>?_)
  ·refine dK (nQ (dN (R5 14 O (xT (rI O ?_)))))
   subst hr
   exact ⟨m,rfl,hm,.inr (bJU (by simpa using hc12)),hk2⟩
  refine dA (xG (lM O ?_))
  refine aZu (i:=1) (j:=r.length) O ⟨_,O⟩ O (by omega) (by omega) (O) ?_
  refine R0 3 O ?_
  exact lQ (by omega) ⟨m+1,_,LI.m [] O,rfl,by omega,by rw [List.take_length,hr,List.drop_drop],bJF hk2 hr (by simpa using hc12)⟩
 refine dK (nQ (dN (R5 14 O (xT (rI O ?_)))))
 subst hr
 exact ⟨m,rfl,hm,.inl (by omega),hk2⟩
theorem aDM {k:Nat} (hk:1≤k) {z:dE} {l:List UInt8} (ha:∀ x,x∈l→x.toNat<128) (hl:l.length≤1000):FC (E k) 93 [sV l] z fun v _=>v=.tup [.agg (cB (O9 l)),Ab true]:=by
 refine cX (bHZ) (by omega) (aU O) fun B j hj=>?_
 refine xR ?_
 refine bGX O fun b2=>?_
 refine R3 16 O ?_
 refine aT (aQ ?_)
 refine eA (fun n fs=>∃ (i:Nat),LI z [.blk b2 (.cells 148 (cB (O9 (l.take i))))] [(0,sV l),(2,Ap b2),(4,Az i)] fs∧n=l.length - i∧(i≤l.length)) ?_ _ ⟨0,LI.m [] O,rfl,Nat.zero_le _⟩ (kK (by omega))
 intro n fs ⟨i,hL0,hmz0,hi⟩
 refine hL0.open fun e zl0 _=>?_
 refine R4 24 O (Oo O (R3 4 O ?_))
 refine xD O (fun hc9=>?_) (fun hc9=>?_)
 ·refine dA ?_
  refine aT (aQ ?_)
  refine R4 10 O (aTS O O (i) (O) (by omega) (R3 64 O ?_))
  refine xD O (fun hc16=>?_) (fun hc16=>?_)
  ·have:=bIi ha (show i<l.length by omega);omega
  refine dA (xG (lC O (bGn O O ((l.getD i 0).toNat) O (by omega) ?_)))
  refine bQy (l.getD i 0).toNat O (bCa (by omega)) iP (by omega) (by have:=bIi ha (show i<l.length by omega);omega) ?_
  refine lN (dN (xG (lC O (lB O O (eP (n:=i+1) (by omega) (by omega)) (R0 2 O ?_)))))
  exact lQ (by omega) ⟨i+1,LI.m [] O,rfl,by omega⟩
 refine dK (nQ (dN (xR (bNp O mem0 (bGQ O O iP (R0 2 O (xT (rQ (.inl O) (bRr O mem0 (rt O rn)) ?_))))))))
 have e:l.take i=l:=List.take_of_length_le (by omega)
 rw [e]
 rfl
theorem aTc {k:Nat} (hk:7≤k) {z:dE} {l:List UInt8} (hl:l.length≤1000):FC (E k) 33 [sV l,sV nmK] z fun v _=>∃ r,v=sV r∧(r=[]↔∀ x,x∈l→O9 nmK x.toNat=true):=by
 refine cX (bFr) (by omega) (aU O) fun B j hj=>?_
 refine R4 48 O (lB O O ((aYW _ _)) (lC O ?_))
 refine iW 9 O (fun hg9=>?_) (fun hg9=>?_)
 ·refine R3 896 O (mN ?_)
  exact rI O ⟨l,rfl,by rw [hg9];simp⟩
 refine lD O (lM O (lD O (lB O O ((aYW _ _)) (R3 4 O ?_))))
 refine xD O (fun hc12=>?_) (fun hc12=>?_)
 ·exact absurd hc12 (by decide)
 refine R4 24 O (Oo O (R1 4 O ?_))
 refine iW 17 O (fun hg17=>?_) (fun hg17=>?_)
 ·exact absurd hg17 (by decide)
 refine R2 1536 O ?_
 refine lE z (aDM (by omega) bHX (by decide)) O O fun z31 _=>?_
 refine R1 9 O ?_
 refine bGX O fun b5=>?_
 refine bGQ O O iP (R3 41 O ?_)
 refine iO O (fun hc34=>?_) (fun hc34=>?_)
 ·refine R4 4 O ?_
  refine uT z31 (p:=[]) O O O (fun _ h=>h) fun zfg5 _ g5=>?_
  refine lM O ?_
  refine lZ zfg5 (aAD (by omega) g5 hl) O O fun v36 z36 _ ⟨m1,hv36,k1,k2,k3⟩=>?_
  subst hv36
  refine lZ z36 (aBO (by omega) (zI _ _ g5) (by rw [List.length_take];omega)) O O fun v37 z37 _ ⟨m2,hv37,k4,k5,k6⟩=>?_
  subst hv37
  refine R0 3 O (mN ?_)
  exact rI O ⟨_,rfl,bEL k1 k2 k3 k4 k5 k6⟩
 cases hc34
theorem aGC {k:Nat} (hk:7≤k) {z:dE} {l:List UInt8} (ha:∀ x,x∈l→O9 nmK x.toNat=true) (hl:l.length≤1000):FC (E k) 162 [sV l,.c (.fn 35 [] []),Ab true] z fun v _=>v=Ai (-1):=by
 refine cX (bBN) (by omega) (aU O) fun B j hj=>?_
 refine R4 48 O ?_
 refine bKM O fun b10=>?_
 refine lN ?_
 refine aT (aQ ?_)
 refine eA (fun n fs=>∃ (i:Nat),LI z [.blk b10 (.sit (bs l) i)] [(1,.c (.fn 35 [] [])),(2,Ab true),(10,Ap b10)] fs∧n=l.length - i∧(i≤l.length)) ?_ _ ⟨0,LI.m [] O,rfl,Nat.zero_le _⟩ (kK (by omega))
 intro n fs ⟨i,hL0,hmz0,hi⟩
 refine hL0.open fun e zl0 _=>?_
 refine xR ?_
 refine bLM O iP (fun h=>bMf (ha _ (aPa h))) (fun hn11=>?_) (fun hn11=>?_)
 ·refine R3 16 O (aQ (R4 408 O ?_))
  refine aPe zl0 O (aTh (by omega) (bMf (ha _ (aPa hn11)))) O O fun v17 z17 _ hv17=>?_
  rw [ha _ (aPa hn11)] at hv17
  subst hv17
  refine lC O (I3 O O (aYz _ _) (lN ?_))
  refine xD O (fun hc19=>?_) (fun hc19=>?_)
  ·cases hc19
  refine iF ?_
  exact lQ (by omega) ⟨i+1,LI.m [] O,rfl,by omega⟩
 refine R3 8 O (dK (nQ (dN (R5 4 O (xT (rI O ?_))))))
 rfl
theorem aGB {k:Nat} (hk:8≤k) {z:dE} {l:List UInt8} (ha:∀ x,x∈l→O9 nmK x.toNat=true) (hl:l.length≤1000):FC (E k) 98 [sV l,.c (.fn 35 [] [])] z fun v _=>v=Ai (-1):=by
 refine cX (bGv) (by omega) (aU O) fun B j hj=>?_
 refine R4 40 O ?_
 refine lE z (aGC (by omega) ha hl) O O fun z7 _=>?_
 refine R0 3 O (xT (rI O ?_))
 rfl
theorem aDp {k:Nat} (hk:9≤k) {z:dE} {l:List UInt8} (ha:∀ x,x∈l→O9 nmK x.toNat=true) (hl:l.length≤1000):FC (E k) 34 [sV l,.c (.fn 35 [] [])] z fun v _=>v=Ab false:=by
 refine cX (bEj) (by omega) (aU O) fun B j hj=>?_
 refine R4 40 O ?_
 refine lE z (aGB (by omega) ha hl) O O fun z7 _=>?_
 refine R0 4 O (xT (rI O ?_))
 rfl
theorem aV7 {k:Nat} (hk:10≤k) {z:dE} {l:List UInt8} (hl:l.length≤1000):FC (E k) 9 [sV l] z fun v _=>v=Ab (Jt l):=by
 refine cX (bLz) (by omega) (aU O) fun B j hj=>?_
 refine R4 24 O (lB O O ((bMo l [])) (lC O ?_))
 refine qZ 5 O (fun hg5=>?_) (fun hg5=>?_)
 ·refine lD O (lM O (lD O (Oo O (R1 12 O ?_))))
  refine iW 10 O (fun hg10=>?_) (fun hg10=>?_)
  ·refine lD O (lM O (lD O (aTS O O (0) (O) (List.length_pos_iff.2 hg5) (lD O ?_))))
   refine lE z (R9 (l:=nmL) (by omega) (UInt8.toNat_lt _)) O O fun z13 _=>?_
   refine R1 12 O ?_
   refine iW 16 O (fun hg16=>?_) (fun hg16=>?_)
   ·refine lD O (lM O (lD O ?_))
    refine lZ z13 (aTc (by omega) hl) O O fun v18 z18 _ ⟨r18,hv18,ht18⟩=>?_
    subst hv18
    refine lD O (lB O O ((aYW r18 [])) (R1 6 O ?_))
    refine iW 21 O (fun hg21=>?_) (fun hg21=>?_)
    ·refine lD O (lM O (lD O ?_))
     refine lE z18 (aDp (by omega) (ht18.1 hg21) hl) O O fun z23 _=>?_
     refine R0 12 O (xT ?_)
     exact rI O (cQ (bQR hg5 (by omega) hg16 (ht18.1 hg21)))
    refine R0 48 O (xT ?_)
    exact rI O (cQ (bKt fun h=>hg21 (ht18.2 h)))
   refine R0 1552 O (xT ?_)
   exact rI O (cQ (bJs hg16))
  refine R0 99360 O (xT ?_)
  exact rI O (cQ (bJA (by omega)))
 refine R0 3179536 O (xT ?_)
 exact rI O (cQ (bJz hg5))
theorem aTj {k:Nat} (hk:1≤k) {z:dE} {l:List UInt8} (hl:l.length≤1000):FC (E k) 10 [sV l] z fun v _=>v=Ab (Jt l):=by
 refine cX (bIL) (by omega) (aU O) fun B j hj=>?_
 refine R5 32 O ?_
 refine aT (aQ ?_)
 refine eA (fun n fs=>∃ (i:Nat),LI z [] [(0,sV l),(3,Az i)] fs∧n=l.length - i∧(i≤l.length)∧(∀ k,k<i→Ya (l.getD k 0).toNat k)) ?_ _ ⟨0,LI.m [] O,rfl,Nat.zero_le _,fun k h=>absurd h (by omega)⟩ (kK (by omega))
 intro n fs ⟨i,hL0,hmz0,hi,hk2⟩
 refine hL0.open fun e zl0 _=>?_
 refine R4 24 O (Oo O (R3 4 O ?_))
 refine xD O (fun hc9=>?_) (fun hc9=>?_)
 ·refine dA ?_
  refine aT (aQ ?_)
  refine R4 10 O (aTS O O (i) (O) (by omega) (R2 32 O ?_))
  refine iW 17 O (fun hg17=>?_) (fun hg17=>?_)
  ·refine R1 24 O ?_
   refine iW 21 O (fun hg21=>?_) (fun hg21=>?_)
   ·refine R3 8589935232 O (iF (dN (xG (lC O (lB O O (eP (n:=i+1) (by omega) (by omega)) (R0 2 O ?_))))))
    exact lQ (by omega) ⟨i+1,LI.m [] O,rfl,by omega,qA hk2 (by unfold Ya;omega)⟩
   refine R1 8 O ?_
   refine iW 24 O (fun hg24=>?_) (fun hg24=>?_)
   ·refine R2 592 O ?_
    refine qZ 31 O (fun hg31=>?_) (fun hg31=>?_)
    ·refine R1 8 O ?_
     refine iW 34 O (fun hg34=>?_) (fun hg34=>?_)
     ·refine R3 1048576 O (xT (lS (B8 (lS ?_))))
      exact rI O (cQ (I2 (i:=i) (by omega) (by unfold Ya;omega)))
     refine R1 8 O ?_
     refine iW 37 O (fun hg37=>?_) (fun hg37=>?_)
     ·refine R1 32 O ?_
      refine qZ 42 O (fun hg42=>?_) (fun hg42=>?_)
      ·refine R1 24 O ?_
       refine qZ 46 O (fun hg46=>?_) (fun hg46=>?_)
       ·refine R0 32 O ?_
        refine uG O (fun hc51=>?_) (fun hc51=>?_)
        ·refine R5 4 O (xT (lS (B8 (lS ?_))))
         exact rI O (cQ (I2 (i:=i) (by omega) (by unfold Ya;omega)))
        refine iF (dN (xG (lC O (lB O O (eP (n:=i+1) (by omega) (by omega)) (R0 2 O ?_)))))
        exact lQ (by omega) ⟨i+1,LI.m [] O,rfl,by omega,qA hk2 (by unfold Ya;omega)⟩
       refine R3 64 O (iF (dN (xG (lC O (lB O O (eP (n:=i+1) (by omega) (by omega)) (R0 2 O ?_))))))
       exact lQ (by omega) ⟨i+1,LI.m [] O,rfl,by omega,qA hk2 (by unfold Ya;omega)⟩
      refine R3 1032 O (iF (dN (xG (lC O (lB O O (eP (n:=i+1) (by omega) (by omega)) (R0 2 O ?_))))))
      exact lQ (by omega) ⟨i+1,LI.m [] O,rfl,by omega,qA hk2 (by unfold Ya;omega)⟩
     refine R1 768 O ?_
     refine qZ 46 O (fun hg46=>?_) (fun hg46=>?_)
     ·refine R0 32 O ?_
      refine uG O (fun hc51=>?_) (fun hc51=>?_)
      ·refine R5 4 O (xT (lS (B8 (lS ?_))))
       exact rI O (cQ (I2 (i:=i) (by omega) (by unfold Ya;omega)))
      refine iF (dN (xG (lC O (lB O O (eP (n:=i+1) (by omega) (by omega)) (R0 2 O ?_)))))
      exact lQ (by omega) ⟨i+1,LI.m [] O,rfl,by omega,qA hk2 (by unfold Ya;omega)⟩
     refine R3 64 O (iF (dN (xG (lC O (lB O O (eP (n:=i+1) (by omega) (by omega)) (R0 2 O ?_))))))
     exact lQ (by omega) ⟨i+1,LI.m [] O,rfl,by omega,qA hk2 (by unfold Ya;omega)⟩
    refine R3 2097152 O (iF (dN (xG (lC O (lB O O (eP (n:=i+1) (by omega) (by omega)) (R0 2 O ?_))))))
    exact lQ (by omega) ⟨i+1,LI.m [] O,rfl,by omega,qA hk2 (by unfold Ya;omega)⟩
   refine R2 4176 O ?_
   refine iW 34 O (fun hg34=>?_) (fun hg34=>?_)
   ·refine R3 1048576 O (xT (lS (B8 (lS ?_))))
    exact rI O (cQ (I2 (i:=i) (by omega) (by unfold Ya;omega)))
   refine R1 8 O ?_
   refine iW 37 O (fun hg37=>?_) (fun hg37=>?_)
   ·refine R1 32 O ?_
    refine qZ 42 O (fun hg42=>?_) (fun hg42=>?_)
    ·refine R1 24 O ?_
     refine qZ 46 O (fun hg46=>?_) (fun hg46=>?_)
     ·refine R0 32 O ?_
      refine uG O (fun hc51=>?_) (fun hc51=>?_)
      ·refine R5 4 O (xT (lS (B8 (lS ?_))))
       exact rI O (cQ (I2 (i:=i) (by omega) (by unfold Ya;omega)))
      refine iF (dN (xG (lC O (lB O O (eP (n:=i+1) (by omega) (by omega)) (R0 2 O ?_)))))
      exact lQ (by omega) ⟨i+1,LI.m [] O,rfl,by omega,qA hk2 (by unfold Ya;omega)⟩
     refine R3 64 O (iF (dN (xG (lC O (lB O O (eP (n:=i+1) (by omega) (by omega)) (R0 2 O ?_))))))
     exact lQ (by omega) ⟨i+1,LI.m [] O,rfl,by omega,qA hk2 (by unfold Ya;omega)⟩
    refine R3 1032 O (iF (dN (xG (lC O (lB O O (eP (n:=i+1) (by omega) (by omega)) (R0 2 O ?_))))))
    exact lQ (by omega) ⟨i+1,LI.m [] O,rfl,by omega,qA hk2 (by unfold Ya;omega)⟩
   refine R1 768 O ?_
   refine qZ 46 O (fun hg46=>?_) (fun hg46=>?_)
   ·refine R0 32 O ?_
    refine uG O (fun hc51=>?_) (fun hc51=>?_)
    ·refine R5 4 O (xT (lS (B8 (lS ?_))))
     exact rI O (cQ (I2 (i:=i) (by omega) (by unfold Ya;omega)))
    refine iF (dN (xG (lC O (lB O O (eP (n:=i+1) (by omega) (by omega)) (R0 2 O ?_)))))
    exact lQ (by omega) ⟨i+1,LI.m [] O,rfl,by omega,qA hk2 (by unfold Ya;omega)⟩
   refine R3 64 O (iF (dN (xG (lC O (lB O O (eP (n:=i+1) (by omega) (by omega)) (R0 2 O ?_))))))
   exact lQ (by omega) ⟨i+1,LI.m [] O,rfl,by omega,qA hk2 (by unfold Ya;omega)⟩
  refine R1 136 O ?_
  refine iW 24 O (fun hg24=>?_) (fun hg24=>?_)
  ·refine R2 592 O ?_
   refine qZ 31 O (fun hg31=>?_) (fun hg31=>?_)
   ·refine R1 8 O ?_
    refine iW 34 O (fun hg34=>?_) (fun hg34=>?_)
    ·refine R3 1048576 O (xT (lS (B8 (lS ?_))))
     exact rI O (cQ (I2 (i:=i) (by omega) (by unfold Ya;omega)))
    refine R1 8 O ?_
    refine iW 37 O (fun hg37=>?_) (fun hg37=>?_)
    ·refine R1 32 O ?_
     refine qZ 42 O (fun hg42=>?_) (fun hg42=>?_)
     ·refine R1 24 O ?_
      refine qZ 46 O (fun hg46=>?_) (fun hg46=>?_)
      ·refine R0 32 O ?_
       refine uG O (fun hc51=>?_) (fun hc51=>?_)
       ·refine R5 4 O (xT (lS (B8 (lS ?_))))
        exact rI O (cQ (I2 (i:=i) (by omega) (by unfold Ya;omega)))
       refine iF (dN (xG (lC O (lB O O (eP (n:=i+1) (by omega) (by omega)) (R0 2 O ?_)))))
       exact lQ (by omega) ⟨i+1,LI.m [] O,rfl,by omega,qA hk2 (by unfold Ya;omega)⟩
      refine R3 64 O (iF (dN (xG (lC O (lB O O (eP (n:=i+1) (by omega) (by omega)) (R0 2 O ?_))))))
      exact lQ (by omega) ⟨i+1,LI.m [] O,rfl,by omega,qA hk2 (by unfold Ya;omega)⟩
     refine R3 1032 O (iF (dN (xG (lC O (lB O O (eP (n:=i+1) (by omega) (by omega)) (R0 2 O ?_))))))
     exact lQ (by omega) ⟨i+1,LI.m [] O,rfl,by omega,qA hk2 (by unfold Ya;omega)⟩
    refine R1 768 O ?_
    refine qZ 46 O (fun hg46=>?_) (fun hg46=>?_)
    ·refine R0 32 O ?_
     refine uG O (fun hc51=>?_) (fun hc51=>?_)
     ·refine R5 4 O (xT (lS (B8 (lS ?_))))
      exact rI O (cQ (I2 (i:=i) (by omega) (by unfold Ya;omega)))
     refine iF (dN (xG (lC O (lB O O (eP (n:=i+1) (by omega) (by omega)) (R0 2 O ?_)))))
     exact lQ (by omega) ⟨i+1,LI.m [] O,rfl,by omega,qA hk2 (by unfold Ya;omega)⟩
    refine R3 64 O (iF (dN (xG (lC O (lB O O (eP (n:=i+1) (by omega) (by omega)) (R0 2 O ?_))))))
    exact lQ (by omega) ⟨i+1,LI.m [] O,rfl,by omega,qA hk2 (by unfold Ya;omega)⟩
   refine R3 2097152 O (iF (dN (xG (lC O (lB O O (eP (n:=i+1) (by omega) (by omega)) (R0 2 O ?_))))))
   exact lQ (by omega) ⟨i+1,LI.m [] O,rfl,by omega,qA hk2 (by unfold Ya;omega)⟩
  refine R2 4176 O ?_
  refine iW 34 O (fun hg34=>?_) (fun hg34=>?_)
  ·refine R3 1048576 O (xT (lS (B8 (lS ?_))))
   exact rI O (cQ (I2 (i:=i) (by omega) (by unfold Ya;omega)))
  refine R1 8 O ?_
  refine iW 37 O (fun hg37=>?_) (fun hg37=>?_)
  ·refine R1 32 O ?_
   refine qZ 42 O (fun hg42=>?_) (fun hg42=>?_)
   ·refine R1 24 O ?_
    refine qZ 46 O (fun hg46=>?_) (fun hg46=>?_)
    ·refine R0 32 O ?_
     refine uG O (fun hc51=>?_) (fun hc51=>?_)
     ·refine R5 4 O (xT (lS (B8 (lS ?_))))
      exact rI O (cQ (I2 (i:=i) (by omega) (by unfold Ya;omega)))
     refine iF (dN (xG (lC O (lB O O (eP (n:=i+1) (by omega) (by omega)) (R0 2 O ?_)))))
     exact lQ (by omega) ⟨i+1,LI.m [] O,rfl,by omega,qA hk2 (by unfold Ya;omega)⟩
    refine R3 64 O (iF (dN (xG (lC O (lB O O (eP (n:=i+1) (by omega) (by omega)) (R0 2 O ?_))))))
    exact lQ (by omega) ⟨i+1,LI.m [] O,rfl,by omega,qA hk2 (by unfold Ya;omega)⟩
   refine R3 1032 O (iF (dN (xG (lC O (lB O O (eP (n:=i+1) (by omega) (by omega)) (R0 2 O ?_))))))
   exact lQ (by omega) ⟨i+1,LI.m [] O,rfl,by omega,qA hk2 (by unfold Ya;omega)⟩
  refine R1 768 O ?_
  refine qZ 46 O (fun hg46=>?_) (fun hg46=>?_)
  ·refine R0 32 O ?_
   refine uG O (fun hc51=>?_) (fun hc51=>?_)
   ·refine R5 4 O (xT (lS (B8 (lS ?_))))
    exact rI O (cQ (I2 (i:=i) (by omega) (by unfold Ya;omega)))
   refine iF (dN (xG (lC O (lB O O (eP (n:=i+1) (by omega) (by omega)) (R0 2 O ?_)))))
   exact lQ (by omega) ⟨i+1,LI.m [] O,rfl,by omega,qA hk2 (by unfold Ya;omega)⟩
  refine R3 64 O (iF (dN (xG (lC O (lB O O (eP (n:=i+1) (by omega) (by omega)) (R0 2 O ?_))))))
  exact lQ (by omega) ⟨i+1,LI.m [] O,rfl,by omega,qA hk2 (by unfold Ya;omega)⟩
 refine dK (nQ (dN (R4 6 O (Oo O (R1 4 O ?_)))))
 refine iW 55 O (fun hg55=>?_) (fun hg55=>?_)
 ·refine lD O (lM O (lD O (Oo O (R0 12 O (xT ?_)))))
  exact rI O (cQ (bKG hk2 (by omega) (by omega)))
 refine R0 48 O (xT ?_)
 exact rI O (cQ (bJe (by omega)))
end Go.Proofs.YtcnpoojdochapaaGreatDoor
