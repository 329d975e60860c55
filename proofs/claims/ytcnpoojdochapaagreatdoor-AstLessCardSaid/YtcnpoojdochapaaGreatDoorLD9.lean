/- The law, walked. -/
import Derived.KernelRfl
import Derived.WalkKit
import Derived.Orders
import Derived.Test.YtcnpoojdochapaaGreatDoorLD8
set_option linter.unusedVariables false
set_option linter.unusedSimpArgs false
set_option maxRecDepth 100000
set_option maxHeartbeats 1000000
namespace Go.Proofs.YtcnpoojdochapaaGreatDoor
open Go.CE Go.RowKit Go.Num
open Go.Eng (setL)
theorem wrongAt_none {α:Type} {most:Nat} {pr:α→Bool}:∀ (l:List α) (i:Nat),i+l.length≤most→l.all pr=true→wrongAt most pr i l=none
 | [],_,_,_=>rfl
 | a::r,i,h,ha=>by
  rw [List.all_cons,Bool.and_eq_true] at ha
  rw [List.length_cons] at h
  rw [wrongAt,if_neg (by omega),if_pos ha.1]
  exact wrongAt_none r (i+1) (by omega) ha.2
theorem wrong_none {α:Type} {most:Nat} {pr:α→Bool} {l:List α} {part year:Int} (h:l.length≤most) (ha:l.all pr=true):wrongS part year most pr l=none:=by
 rw [wrongS,wrongAt_none l 0 (by omega) ha];rfl
theorem fs6 {α:Type} {a b c d e f:Option α} (h1:a=none) (h2:b=none) (h3:c=none) (h4:d=none) (h5:e=none) (h6:f=none):firstSome [a,b,c,d,e,f]=none:=by rw [h1,h2,h3,h4,h5,h6];rfl
theorem fs5 {α:Type} {a b c d e:Option α} (h1:a=none) (h2:b=none) (h3:c=none) (h4:d=none) (h5:e=none):firstSome [a,b,c,d,e]=none:=by rw [h1,h2,h3,h4,h5];rfl
theorem sn_all {l:List ByteArray} (h:(l.all fun s=>decide (s.data.toList.length≤1000))=true):∀ a,a∈l→Sn a:=fun a ha=>show a.data.toList.length≤1000 from of_decide_eq_true (List.all_eq_true.1 h a ha)
abbrev gG:PFiling:=gGroup Rat.divInt
theorem first_right:firstSome (yearL 0 (gFirst Rat.divInt))=none:=fs5 (wrong_none (Nat.le_of_ble_eq_true rfl) g1R13_ok) (wrong_none (Nat.le_of_ble_eq_true rfl) g1R41_ok) (wrong_none (Nat.le_of_ble_eq_true rfl) g1R45_ok) (wrong_none (Nat.le_of_ble_eq_true rfl) g1R50_ok) (wrong_none (Nat.le_of_ble_eq_true rfl) rfl)
theorem second_right:firstSome (yearL 1 (gSecond Rat.divInt))=none:=fs5 (wrong_none (Nat.le_of_ble_eq_true rfl) g2R13_ok) (wrong_none (Nat.le_of_ble_eq_true rfl) g2R31_ok) (wrong_none (Nat.le_of_ble_eq_true rfl) g2R35_ok) (wrong_none (Nat.le_of_ble_eq_true rfl) rfl) (wrong_none (Nat.le_of_ble_eq_true rfl) g2R39_ok)
theorem third_right:firstSome (yearL 2 (gThird Rat.divInt))=none:=fs5 (wrong_none (Nat.le_of_ble_eq_true rfl) g3R9_ok) (wrong_none (Nat.le_of_ble_eq_true rfl) g3R23_ok) (wrong_none (Nat.le_of_ble_eq_true rfl) rfl) (wrong_none (Nat.le_of_ble_eq_true rfl) rfl) (wrong_none (Nat.le_of_ble_eq_true rfl) g3R27_ok)
theorem num_right:(numS gG).all id=true:=by
 have e:numS gG=[shareS (rawR (PQ (Rat.divInt 7500 10000))),shareS (rawR (PQ (Rat.divInt 6000 10000))),shareS (rawR (PQ (Rat.divInt 3000 10000))),true,true,true,moneyS (rawR (PQ (Rat.divInt 5000 100)))]:=rfl
 rw [e,share_q,share_q,share_q,money_q]
 have h:([shareQ (Rat.divInt 7500 10000),shareQ (Rat.divInt 6000 10000),shareQ (Rat.divInt 3000 10000),true,true,true,moneyQ (Rat.divInt 5000 100)].all id)=true:=by kernel_rfl
 exact h
theorem group_right:rightS gG=none:=by
 have h:firstSome (rightL gG)=none:=fs6 (wrong_none (Nat.le_of_ble_eq_true rfl) (by kernel_rfl)) (wrong_none (Nat.le_of_ble_eq_true rfl) gGR10_ok) (wrong_none (Nat.le_of_ble_eq_true rfl) num_right) (wrong_none (Nat.le_of_ble_eq_true rfl) gCR25_ok) (wrong_none (Nat.le_of_ble_eq_true rfl) (by kernel_rfl)) (wrong_none (Nat.le_of_ble_eq_true rfl) (by kernel_rfl))
 rw [rightS,h]
 show yearsW 0 [gFirst Rat.divInt,gSecond Rat.divInt,gThird Rat.divInt]=none
 have h1:=first_right
 have h2:=second_right
 have h3:=third_right
 simp only [yearsW]
 rw [show ((0:Nat):Int)=0 from rfl,h1]
 simp only
 rw [show ((0+1:Nat):Int)=1 from rfl,h2]
 simp only
 rw [show ((0+1+1:Nat):Int)=2 from rfl,h3]
theorem no_sz {α:Type} {P:α→Prop}:∀ a,a∈([]:List α)→P a:=fun a h=>absurd h List.not_mem_nil
theorem group_sk:SkF gG where
 str2:=sn_all (by kernel_rfl)
 brackets:=gGR10_sz
 threshold:=Sk_of (q:=Rat.divInt 7500 10000) (by kernel_rfl)
 cap:=Sk_of (q:=Rat.divInt 6000 10000) (by kernel_rfl)
 interest:=Sk_of (q:=Rat.divInt 3000 10000) (by kernel_rfl)
 floor:=Sk_of (q:=Rat.divInt 5000 100) (by kernel_rfl)
 classes:=gCR25_sz
 entities:=sn_all (by kernel_rfl)
 years:=fun a ha=>by
  have ha:a∈[gFirst Rat.divInt,gSecond Rat.divInt,gThird Rat.divInt]:=ha
  rcases List.mem_cons.1 ha with rfl | ha
  ·exact ⟨g1R13_sz,g1R41_sz,g1R45_sz,g1R50_sz,no_sz⟩
  ·rcases List.mem_cons.1 ha with rfl | ha
   ·exact ⟨g2R13_sz,g2R31_sz,g2R35_sz,no_sz,g2R39_sz⟩
   ·rcases List.mem_cons.1 ha with rfl | ha
    ·exact ⟨g3R9_sz,g3R23_sz,no_sz,no_sz,g3R27_sz⟩
    ·cases ha
theorem group_fc {k:Nat} (hk:14≤k) {z:Mem}:FC (E k) 30 [] z fun v z'=>∃ cs x,v=.agg cs∧RFiling z' cs x∧SkF x∧rightS x=none:=(c_fil_Group (dv:=Rat.divInt) (fun _ _=>rfl) hk).mono fun v z' _ ⟨cs,h1,h2⟩=>⟨cs,_,h1,h2,group_sk,group_right⟩
theorem by_x {k:Nat} (hk:10≤k) {z:Mem} {n d:Int} (h1 : -9223372036854775808≤n) (h2:n<9223372036854775808) (h3 : -9223372036854775808≤d) (h4:d<9223372036854775808) (hd:d≠0):FC (E k) 26 [.c (.v (.int .i64 n)),.c (.v (.int .i64 d))] z fun v z'=>∃ q,QA z' v q∧q=Rat.divInt n d:=(c_fil_By hk h1 h2 h3 h4 hd).mono fun v z' _ h=>⟨_,qa_of h,rfl⟩
theorem c_law08_works {k:Nat} (hk:19≤k) {z:Mem}  : FC (E k) 7 [] z fun v _=>v=.c (.v (.bool true)):=by
 refine fc_of (tS_get7) (by omega) (len1 rfl) fun B j hj=>?_
 refine xR (lC rfl (lN (xR ?_)))
 refine lZ z (group_fc (by omega)) rfl rfl fun v4 z4 hz4 ⟨cs,x,hv4,hR,hSk,hrt⟩=>?_
 subst hv4
 obtain ⟨c0,c1,c2,c3,c4,c5,c6,c7,c8,c9,c10,c11,hcs,g0,g1,g2,g3,g4,g5,g6,g7,g8,g9,g10,g11⟩:=hR
 subst hcs
 refine lZ z4 (c_ast_Right (x:=x) (by omega) g0 g1 g2 g3 g4 g5 g6 g7 g8 g9 g10 g11 hSk) rfl rfl fun v5 z5 hz5 hv5=>?_
 rw [hrt] at hv5
 subst hv5
 refine lM rfl (fl_ext rfl rfl (fl_ext rfl rfl ?_))
 refine fl_alloc fun b1=>?_
 refine fl_stAll rfl rfl rfl rfl rep0 (lM rfl (lN (xR ?_)))
 refine lZ z5 (c_name (s:=⟨#[97,45,49]⟩) (by omega) (by unfold Sn;decide)) rfl rfl fun v8 z8 hz8 hv8=>?_
 rw [show nameB ⟨#[97,45,49]⟩=true by kernel_rfl] at hv8
 subst hv8
 refine lM rfl (lD rfl ?_)
 refine lZ z8 (c_name (s:=⟨#[49,97]⟩) (by omega) (by unfold Sn;decide)) rfl rfl fun v10 z10 hz10 hv10=>?_
 rw [show nameB ⟨#[49,97]⟩=false by kernel_rfl] at hv10
 subst hv10
 refine lD rfl (fl_un rfl (u_not _) (lP rfl rfl (lM rfl (lD rfl ?_))))
 refine lZ z10 (by_x (n:=5) (d:=2) (by omega) (by decide) (by decide) (by decide) (by decide) (by decide)) rfl rfl fun v14 z14 hz14 ⟨q14,hv14,e14⟩=>?_
 obtain ⟨c14,d14,hv,m14,n14⟩:=hv14
 subst hv
 refine lD rfl ?_
 refine lZ z14 (c_money (a:=PQ q14) (by omega) m14 n14 (Sk_of (by rw [e14];kernel_rfl))) rfl rfl fun v15 z15 hz15 hv15=>?_
 rw [money_q,e14,show moneyQ (Rat.divInt 5 2)=true by kernel_rfl] at hv15
 subst hv15
 refine lP rfl rfl (lM rfl (lD rfl ?_))
 refine lZ z15 (by_x (n:=1) (d:=3) (by omega) (by decide) (by decide) (by decide) (by decide) (by decide)) rfl rfl fun v18 z18 hz18 ⟨q18,hv18,e18⟩=>?_
 obtain ⟨c18,d18,hv,m18,n18⟩:=hv18
 subst hv
 refine lD rfl ?_
 refine lZ z18 (c_money (a:=PQ q18) (by omega) m18 n18 (Sk_of (by rw [e18];kernel_rfl))) rfl rfl fun v19 z19 hz19 hv19=>?_
 rw [money_q,e18,show moneyQ (Rat.divInt 1 3)=false by kernel_rfl] at hv19
 subst hv19
 refine lD rfl (fl_un rfl (u_not _) (lP rfl rfl (lM rfl (lD rfl ?_))))
 refine lZ z19 (by_x (n:=3) (d:=8) (by omega) (by decide) (by decide) (by decide) (by decide) (by decide)) rfl rfl fun v23 z23 hz23 ⟨q23,hv23,e23⟩=>?_
 obtain ⟨c23,d23,hv,m23,n23⟩:=hv23
 subst hv
 refine lD rfl ?_
 refine lZ z23 (c_share (a:=PQ q23) (by omega) m23 n23 (Sk_of (by rw [e23];kernel_rfl))) rfl rfl fun v24 z24 hz24 hv24=>?_
 rw [share_q,e23,show shareQ (Rat.divInt 3 8)=true by kernel_rfl] at hv24
 subst hv24
 refine lP rfl rfl (lM rfl (lD rfl ?_))
 refine lZ z24 (by_x (n:=1) (d:=3) (by omega) (by decide) (by decide) (by decide) (by decide) (by decide)) rfl rfl fun v27 z27 hz27 ⟨q27,hv27,e27⟩=>?_
 obtain ⟨c27,d27,hv,m27,n27⟩:=hv27
 subst hv
 refine lD rfl ?_
 refine lZ z27 (c_share (a:=PQ q27) (by omega) m27 n27 (Sk_of (by rw [e27];kernel_rfl))) rfl rfl fun v28 z28 hz28 hv28=>?_
 rw [share_q,e27,show shareQ (Rat.divInt 1 3)=false by kernel_rfl] at hv28
 subst hv28
 refine lD rfl (fl_un rfl (u_not _) (lP rfl rfl (lM rfl (lD rfl (lM rfl (lD rfl (lB rfl rfl (b_eql _ _ _) ?_)))))))
 refine lP rfl rfl (lM rfl (lN (xT (rQ (.inl rfl) (rt rfl rn) ?_))))
 rfl
end Go.Proofs.YtcnpoojdochapaaGreatDoor
