/- The law, walked. -/
import Derived.KernelRfl
import Derived.WalkKit
import Derived.Orders
import Derived.Test.YtcnpoojdochapaaGreatDoorRD8
set_option linter.unusedVariables false
set_option linter.unusedSimpArgs false
set_option maxRecDepth 100000
set_option maxHeartbeats 1000000
namespace Go.Proofs.YtcnpoojdochapaaGreatDoor
open Go.CE Go.RowKit Go.Num
open Go.Eng (oH)
theorem aM6 {α:Type} {most:Nat} {pr:α→Bool}:∀ (l:List α) (i:Nat),i+l.length≤most→l.all pr=true→lR most pr i l=none
 | [],_,_,_=>rfl
 | a::r,i,h,ha=>by
  rw [List.all_cons,Bool.and_eq_true] at ha
  rw [List.length_cons] at h
  rw [lR,if_neg (by omega),if_pos ha.1]
  exact aM6 r (i+1) (by omega) ha.2
theorem oO {α:Type} {most:Nat} {pr:α→Bool} {l:List α} {part year:Int} (h:l.length≤most) (ha:l.all pr=true):oI part year most pr l=none:=by
 rw [oI,aM6 l 0 (by omega) ha];rfl
theorem fs6 {α:Type} {a b c d e f:Option α} (h1:a=none) (h2:b=none) (h3:c=none) (h4:d=none) (h5:e=none) (h6:f=none):eT [a,b,c,d,e,f]=none:=by rw [h1,h2,h3,h4,h5,h6];rfl
theorem fs5 {α:Type} {a b c d e:Option α} (h1:a=none) (h2:b=none) (h3:c=none) (h4:d=none) (h5:e=none):eT [a,b,c,d,e]=none:=by rw [h1,h2,h3,h4,h5];rfl
theorem bGK {l:List ByteArray} (h:(l.all fun s=>decide (s.data.toList.length≤1000))=true):∀ a,a∈l→Sn a:=fun a ha=>show a.data.toList.length≤1000 from of_decide_eq_true (List.all_eq_true.1 h a ha)
abbrev gG:kM:=aYO Rat.divInt
theorem aYj:eT (Bw 0 (aE2 Rat.divInt))=none:=fs5 (oO (Nat.le_of_ble_eq_true rfl) bEJ) (oO (Nat.le_of_ble_eq_true rfl) bFp) (oO (Nat.le_of_ble_eq_true rfl) bG3) (oO (Nat.le_of_ble_eq_true rfl) bEH) (oO (Nat.le_of_ble_eq_true rfl) rfl)
theorem aVN:eT (Bw 1 (Yy Rat.divInt))=none:=fs5 (oO (Nat.le_of_ble_eq_true rfl) bDg) (oO (Nat.le_of_ble_eq_true rfl) bEw) (oO (Nat.le_of_ble_eq_true rfl) bIT) (oO (Nat.le_of_ble_eq_true rfl) rfl) (oO (Nat.le_of_ble_eq_true rfl) bFf)
theorem aXv:eT (Bw 2 (aEX Rat.divInt))=none:=fs5 (oO (Nat.le_of_ble_eq_true rfl) bKF) (oO (Nat.le_of_ble_eq_true rfl) bHa) (oO (Nat.le_of_ble_eq_true rfl) rfl) (oO (Nat.le_of_ble_eq_true rfl) rfl) (oO (Nat.le_of_ble_eq_true rfl) bEn)
theorem bBK:(D3 gG).all id=true:=by
 have e:D3 gG=[fV (kD (PQ (Rat.divInt 7500 10000))),fV (kD (PQ (Rat.divInt 6000 10000))),fV (kD (PQ (Rat.divInt 3000 10000))),true,true,true,nP (kD (PQ (Rat.divInt 5000 100)))]:=rfl
 rw [e,Ja,Ja,Ja,Og]
 have h:([Wl (Rat.divInt 7500 10000),Wl (Rat.divInt 6000 10000),Wl (Rat.divInt 3000 10000),true,true,true,aDF (Rat.divInt 5000 100)].all id)=true:=by kernel_rfl
 exact h
theorem aYn:Bi gG=none:=by
 have h:eT (pE gG)=none:=fs6 (oO (Nat.le_of_ble_eq_true rfl) (by kernel_rfl)) (oO (Nat.le_of_ble_eq_true rfl) bEZ) (oO (Nat.le_of_ble_eq_true rfl) bBK) (oO (Nat.le_of_ble_eq_true rfl) bFN) (oO (Nat.le_of_ble_eq_true rfl) (by kernel_rfl)) (oO (Nat.le_of_ble_eq_true rfl) (by kernel_rfl))
 rw [Bi,h]
 show A7 0 [aE2 Rat.divInt,Yy Rat.divInt,aEX Rat.divInt]=none
 have h1:=aYj
 have h2:=aVN
 have h3:=aXv
 simp only [A7]
 rw [show ((0:Nat):Int)=0 from rfl,h1]
 simp only
 rw [show ((0+1:Nat):Int)=1 from rfl,h2]
 simp only
 rw [show ((0+1+1:Nat):Int)=2 from rfl,h3]
theorem aZN {α:Type} {P:α→Prop}:∀ a,a∈([]:List α)→P a:=fun a h=>absurd h List.not_mem_nil
theorem bD1:SkF gG where
 str2:=bGK (by kernel_rfl)
 brackets:=bID
 threshold:=Qd (q:=Rat.divInt 7500 10000) (by kernel_rfl)
 cap:=Qd (q:=Rat.divInt 6000 10000) (by kernel_rfl)
 interest:=Qd (q:=Rat.divInt 3000 10000) (by kernel_rfl)
 floor:=Qd (q:=Rat.divInt 5000 100) (by kernel_rfl)
 classes:=bDj
 entities:=bGK (by kernel_rfl)
 years:=fun a ha=>by
  have ha:a∈[aE2 Rat.divInt,Yy Rat.divInt,aEX Rat.divInt]:=ha
  rcases List.mem_cons.1 ha with rfl | ha
  ·exact ⟨bEq,bH3,bHV,bIm,aZN⟩
  rcases List.mem_cons.1 ha with rfl | ha
  ·exact ⟨bFt,bHW,bIG,aZN,bFD⟩
  rcases List.mem_cons.1 ha with rfl | ha
  ·exact ⟨bLd,bIV,aZN,aZN,bFn⟩
  cases ha
theorem bF4 {k:Nat} (hk:14≤k) {z:dE}:FC (E k) 30 [] z fun v z'=>∃ cs x,v=.agg cs∧J8 z' cs x∧SkF x∧Bi x=none:=(aXu (dv:=Rat.divInt) (fun _ _=>rfl) hk).mono fun v z' _ ⟨cs,h1,h2⟩=>⟨cs,_,h1,h2,bD1,aYn⟩
theorem bKk {k:Nat} (hk:10≤k) {z:dE} {n d:Int} (h1 : -9223372036854775808≤n) (h2:n<9223372036854775808) (h3 : -9223372036854775808≤d) (h4:d<9223372036854775808) (hd:d≠0):FC (E k) 26 [Ai n,Ai d] z fun v z'=>∃ q,QA z' v q∧q=Rat.divInt n d:=(aND hk h1 h2 h3 h4 hd).mono fun v z' _ h=>⟨_,aZU h,rfl⟩
theorem aG8 {k:Nat} (hk:19≤k) {z:dE}  : FC (E k) 7 [] z fun v _=>v=Ab true:=by
 refine cX (bKn) (by omega) (aU O) fun B j hj=>?_
 refine R4 8 O ?_
 refine lZ z (bF4 (by omega)) O O fun v4 z4 _ ⟨cs,x,hv4,hR,hSk,hrt⟩=>?_
 subst hv4
 obtain ⟨c0,c1,c2,c3,c4,c5,c6,c7,c8,c9,c10,c11,hcs,g0,g1,g2,g3,g4,g5,g6,g7,g8,g9,g10,g11⟩:=hR
 subst hcs
 refine lZ z4 (aSG (x:=x) (by omega) g0 g1 g2 g3 g4 g5 g6 g7 g8 g9 g10 g11 hSk) O O fun v5 z5 _ hv5=>?_
 rw [hrt] at hv5
 subst hv5
 refine R1 9 O ?_
 refine mR fun b1=>?_
 refine pM O O O O iP (R2 5 O ?_)
 refine lZ z5 (J4 (s:=⟨#[97,45,49]⟩) (by omega) (by unfold Sn;decide)) O O fun v8 z8 _ hv8=>?_
 rw [show sP ⟨#[97,45,49]⟩=true by kernel_rfl] at hv8
 subst hv8
 refine lM O (lD O ?_)
 refine lZ z8 (J4 (s:=⟨#[49,97]⟩) (by omega) (by unfold Sn;decide)) O O fun v10 z10 _ hv10=>?_
 rw [show sP ⟨#[49,97]⟩=false by kernel_rfl] at hv10
 subst hv10
 refine R1 12 O (lD O ?_)
 refine lZ z10 (bKk (n:=5) (d:=2) (by omega) (by decide) (by decide) (by decide) (by decide) (by decide)) O O fun v14 z14 _ ⟨q14,hv14,e14⟩=>?_
 obtain ⟨c14,d14,hv,m14,n14⟩:=hv14
 subst hv
 refine lD O ?_
 refine lZ z14 (Zm (a:=PQ q14) (by omega) m14 n14 (Qd (by rw [e14];kernel_rfl))) O O fun v15 z15 _ hv15=>?_
 rw [Og,e14,show aDF (Rat.divInt 5 2)=true by kernel_rfl] at hv15
 subst hv15
 refine R1 6 O (lD O ?_)
 refine lZ z15 (bKk (n:=1) (d:=3) (by omega) (by decide) (by decide) (by decide) (by decide) (by decide)) O O fun v18 z18 _ ⟨q18,hv18,e18⟩=>?_
 obtain ⟨c18,d18,hv,m18,n18⟩:=hv18
 subst hv
 refine lD O ?_
 refine lZ z18 (Zm (a:=PQ q18) (by omega) m18 n18 (Qd (by rw [e18];kernel_rfl))) O O fun v19 z19 _ hv19=>?_
 rw [Og,e18,show aDF (Rat.divInt 1 3)=false by kernel_rfl] at hv19
 subst hv19
 refine R1 12 O (lD O ?_)
 refine lZ z19 (bKk (n:=3) (d:=8) (by omega) (by decide) (by decide) (by decide) (by decide) (by decide)) O O fun v23 z23 _ ⟨q23,hv23,e23⟩=>?_
 obtain ⟨c23,d23,hv,m23,n23⟩:=hv23
 subst hv
 refine lD O ?_
 refine lZ z23 (Oe (a:=PQ q23) (by omega) m23 n23 (Qd (by rw [e23];kernel_rfl))) O O fun v24 z24 _ hv24=>?_
 rw [Ja,e23,show Wl (Rat.divInt 3 8)=true by kernel_rfl] at hv24
 subst hv24
 refine R1 6 O (lD O ?_)
 refine lZ z24 (bKk (n:=1) (d:=3) (by omega) (by decide) (by decide) (by decide) (by decide) (by decide)) O O fun v27 z27 _ ⟨q27,hv27,e27⟩=>?_
 obtain ⟨c27,d27,hv,m27,n27⟩:=hv27
 subst hv
 refine lD O ?_
 refine lZ z27 (Oe (a:=PQ q27) (by omega) m27 n27 (Qd (by rw [e27];kernel_rfl))) O O fun v28 z28 _ hv28=>?_
 rw [Ja,e27,show Wl (Rat.divInt 1 3)=false by kernel_rfl] at hv28
 subst hv28
 refine R0 204 O (xT (rI O ?_))
 rfl
end Go.Proofs.YtcnpoojdochapaaGreatDoor
