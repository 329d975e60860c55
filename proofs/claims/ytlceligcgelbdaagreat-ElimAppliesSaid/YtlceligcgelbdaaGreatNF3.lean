/- What the kinds' rules count, walked. -/
import Derived.WalkKit
import Derived.Orders
import Derived.Test.YtlceligcgelbdaaGreatNF2
set_option linter.unusedVariables false
set_option linter.unusedSimpArgs false
set_option maxRecDepth 100000
set_option maxHeartbeats 1000000
namespace Go.Proofs.YtlceligcgelbdaaGreat
open Go.CE Go.RowKit Go.Num
open Go.Eng (setL)
theorem one_n:(toL (((1:Int):Rat)).num.natAbs).length≤9000000:=Nat.le_trans (m:=1) (toL_len.2 (by decide)) (by decide)
theorem one_d:(toL ((((1:Int):Rat)).den:Int).natAbs).length≤9000000:=Nat.le_trans (m:=1) (toL_len.2 (by decide)) (by decide)
theorem sub_lb {q:Rat} {m:Nat} (h1:(toL q.num.natAbs).length≤m) (h2:(toL (q.den:Int).natAbs).length≤m):(toL (((1:Int):Rat) - q).num.natAbs).length≤1+m+1∧(toL ((((1:Int):Rat) - q).den:Int).natAbs).length≤1+m+1:=by
 rw [Rat.sub_eq_add_neg]
 exact add_len (toL_len.2 (by decide)) (toL_len.2 (by decide)) (by rw [Rat.neg_num,Int.natAbs_neg];exact h1) (by rw [Rat.neg_den];exact h2)
theorem mul_lb {p q:Rat} {a b:Nat} (h1:(toL p.num.natAbs).length≤a) (h2:(toL (p.den:Int).natAbs).length≤a) (h3:(toL q.num.natAbs).length≤b) (h4:(toL (q.den:Int).natAbs).length≤b):(toL (p * q).num.natAbs).length≤a+b∧(toL ((p * q).den:Int).natAbs).length≤a+b:=by
 rw [← mulR (p:=p) (q:=q)]
 have hd:=divInt_le (a:=p.num * q.num) (denR p q)
 exact ⟨Nat.le_trans (len_le hd.1) (lenMul h1 h3),Nat.le_trans (len_le (b:=((p.den:Int) * (q.den:Int)).natAbs) (by rw [Int.natAbs_natCast];exact hd.2)) (lenMul h2 h4)⟩
theorem min_lb {p q:Rat} {a:Nat} (h1:(toL p.num.natAbs).length≤a) (h2:(toL (p.den:Int).natAbs).length≤a) (h3:(toL q.num.natAbs).length≤a) (h4:(toL (q.den:Int).natAbs).length≤a):(toL (minF p [q]).num.natAbs).length≤a∧(toL ((minF p [q]).den:Int).natAbs).length≤a:=by
 by_cases h:q<p
 ·rw [show minF p [q]=q from if_pos h];exact ⟨h3,h4⟩
 rw [show minF p [q]=p from if_neg h];exact ⟨h1,h2⟩
theorem one_in {n1 n2:Bool} {l1 l2:List UInt32} (h1:l1.length≤1000000) (h2:l2.length≤1000000):∀ x,x∈[(((n1,l1),(n2,l2)):RawR)]→x.1.2.length≤1000000∧x.2.2.length≤1000000:=fun x hx=>by
 simp at hx;subst hx;exact ⟨h1,h2⟩
theorem c_rules_zero {k:Nat} (hk:6≤k) {z:Mem}  : FC (E k) 138 [] z fun v z'=>QV (zd z z') v 0:=by
 refine fc_of (tS_get138) (by omega) (len1 rfl) fun B j hj=>?_
 refine xR ?_
 refine fl_al4 fun b0=>?_
 refine lN ?_
 refine xR ?_
 refine lZ z (c_rat_Whole (n:=0) (by omega) (by decide) (by decide)) rfl rfl fun v1 z1 _ hv1=>?_
 have hv1:=qv_op hv1
 obtain ⟨c1,d1,hv,hm1,hn1⟩:=hv1
 subst hv
 refine fl_st4 rfl rfl rep0 ?_
 refine lN ?_
 refine xT ?_
 refine rQ (.inl rfl) (rc4 rfl mem0 rn) ?_
 exact qv_eq rfl rfl hm1 hn1
theorem c_rules_none {k:Nat} (hk:7≤k) {z:Mem}  : FC (E k) 135 [] z fun v z'=>∃ e0 e1 e2 e3 e4 e5 e6 e7:C,v=.agg [Cb (decide ((0:Rat).num<0)),e0,Cb (decide ((((0:Rat).den:Nat):Int)<0)),e1,Cb (decide ((0:Rat).num<0)),e2,Cb (decide ((((0:Rat).den:Nat):Int)<0)),e3,Cb (decide ((0:Rat).num<0)),e4,Cb (decide ((((0:Rat).den:Nat):Int)<0)),e5,Cb (decide ((0:Rat).num<0)),e6,Cb (decide ((((0:Rat).den:Nat):Int)<0)),e7]∧CZ 1 RW z' e0 (toL (0:Rat).num.natAbs)∧CZ 1 RW z' e1 (toL (((0:Rat).den:Nat):Int).natAbs)∧CZ 1 RW z' e2 (toL (0:Rat).num.natAbs)∧CZ 1 RW z' e3 (toL (((0:Rat).den:Nat):Int).natAbs)∧CZ 1 RW z' e4 (toL (0:Rat).num.natAbs)∧CZ 1 RW z' e5 (toL (((0:Rat).den:Nat):Int).natAbs)∧CZ 1 RW z' e6 (toL (0:Rat).num.natAbs)∧CZ 1 RW z' e7 (toL (((0:Rat).den:Nat):Int).natAbs):=by
 refine fc_of (tS_get135) (by omega) (len1 rfl) fun B j hj=>?_
 refine xR ?_
 refine fl_alloc fun b0=>?_
 refine lN ?_
 refine xR ?_
 refine lZ z (c_rules_zero (by omega)) rfl rfl fun v1 z1 hz1 hv1=>?_
 have hv1:=qv_op hv1
 obtain ⟨c1,d1,hv,hm1,hn1⟩:=hv1
 subst hv
 refine lZ z1 (c_rules_zero (by omega)) rfl rfl fun v2 z2 hz2 hv2=>?_
 have hv2:=qv_op hv2
 obtain ⟨c2,d2,hv,hm2,hn2⟩:=hv2
 subst hv
 have hm2:=hm2.mono (zAq (hz1))
 have hn2:=hn2.mono (zAq (hz1))
 refine lZ z2 (c_rules_zero (by omega)) rfl rfl fun v3 z3 hz3 hv3=>?_
 have hv3:=qv_op hv3
 obtain ⟨c3,d3,hv,hm3,hn3⟩:=hv3
 subst hv
 have hm3:=hm3.mono (zAq (hz1.trans hz2))
 have hn3:=hn3.mono (zAq (hz1.trans hz2))
 refine lZ z3 (c_rules_zero (by omega)) rfl rfl fun v4 z4 _ hv4=>?_
 have hv4:=qv_op hv4
 obtain ⟨c4,d4,hv,hm4,hn4⟩:=hv4
 subst hv
 have hm4:=hm4.mono (zAq (hz1.trans (hz2.trans hz3)))
 have hn4:=hn4.mono (zAq (hz1.trans (hz2.trans hz3)))
 refine fl_bd (cs:=[_,_,_,_,_,_,_,_,_,_,_,_,_,_,_,_]) rfl ?_
 refine fl_stAll rfl rfl rfl rfl rep0 ?_
 refine lN ?_
 refine xT ?_
 refine rQ (.inl rfl) (rcAll rfl mem0 rfl rn) ?_
 exact ⟨_,_,_,_,_,_,_,_,rfl,hm1.m,hn1.m,hm2.m,hn2.m,hm3.m,hn3.m,(hm4.mono zd_le),(hn4.mono zd_le)⟩
theorem c_rules_with {k:Nat} (hk:8≤k) {z:Mem} {p q:Rat} {c1 c2 c3 c4:C} (hx:CZ 1 RW z c1 (toL p.num.natAbs)) (hy:CZ 1 RW z c2 (toL (p.den:Int).natAbs)) (hu:CZ 1 RW z c3 (toL q.num.natAbs)) (hw:CZ 1 RW z c4 (toL (q.den:Int).natAbs)):FC (E k) 225 [.agg [Cb (decide ((p:Rat).num<0)),c1,Cb (decide ((((p:Rat).den:Nat):Int)<0)),c2],.agg [Cb (decide ((q:Rat).num<0)),c3,Cb (decide ((((q:Rat).den:Nat):Int)<0)),c4]] z fun v z'=>∃ e0 e1 e2 e3 e4 e5 e6 e7:C,v=.agg [Cb (decide ((p:Rat).num<0)),e0,Cb (decide ((((p:Rat).den:Nat):Int)<0)),e1,Cb (decide ((q:Rat).num<0)),e2,Cb (decide ((((q:Rat).den:Nat):Int)<0)),e3,Cb (decide ((0:Rat).num<0)),e4,Cb (decide ((((0:Rat).den:Nat):Int)<0)),e5,Cb (decide ((0:Rat).num<0)),e6,Cb (decide ((((0:Rat).den:Nat):Int)<0)),e7]∧CZ 1 RW z' e0 (toL (p:Rat).num.natAbs)∧CZ 1 RW z' e1 (toL (((p:Rat).den:Nat):Int).natAbs)∧CZ 1 RW z' e2 (toL (q:Rat).num.natAbs)∧CZ 1 RW z' e3 (toL (((q:Rat).den:Nat):Int).natAbs)∧CZ 1 RW z' e4 (toL (0:Rat).num.natAbs)∧CZ 1 RW z' e5 (toL (((0:Rat).den:Nat):Int).natAbs)∧CZ 1 RW z' e6 (toL (0:Rat).num.natAbs)∧CZ 1 RW z' e7 (toL (((0:Rat).den:Nat):Int).natAbs):=by
 refine fc_of (tS_get225) (by omega) (len1 rfl) fun B j hj=>?_
 refine xR ?_
 refine fl_bx rfl fun b2=>?_
 refine fl_bx rfl fun b3=>?_
 refine fl_alloc fun b4=>?_
 refine lN ?_
 refine xR ?_
 refine lZ z (c_rules_none (by omega)) rfl rfl fun v6 z6 _ ⟨e0,e1,e2,e3,e4,e5,e6,e7,hv6,k0,k1,k2,k3,k4,k5,k6,k7⟩=>?_
 subst hv6
 refine fl_alloc fun b5=>?_
 refine fl_stAll rfl rfl rfl rfl rep0 ?_
 refine lN ?_
 refine fx_drwS ?_
 refine fg_part (p:=[]) rfl fun hT5=>?_
 refine gl4 O O (.inr Y2) O ?_
 refine gl4 O O (.inr Y1) O ?_
 refine G1 2 O ?_
 refine gT O O O hT5 ?_
 refine fl_stE (cs':=[Cb (decide ((p:Rat).num<0)),c1,Cb (decide ((((p:Rat).den:Nat):Int)<0)),c2,Cb (decide ((0:Rat).num<0)),e2,Cb (decide ((((0:Rat).den:Nat):Int)<0)),e3,Cb (decide ((0:Rat).num<0)),e4,Cb (decide ((((0:Rat).den:Nat):Int)<0)),e5,Cb (decide ((0:Rat).num<0)),e6,Cb (decide ((((0:Rat).den:Nat):Int)<0)),e7]) rfl rfl rfl rep0 rfl rfl (Nat.le_of_ble_eq_true rfl) ?_
 refine lN ?_
 refine G1 2 O ?_
 refine gS O O O ?_
 refine fl_stE (cs':=[Cb (decide ((p:Rat).num<0)),c1,Cb (decide ((((p:Rat).den:Nat):Int)<0)),c2,Cb (decide ((q:Rat).num<0)),c3,Cb (decide ((((q:Rat).den:Nat):Int)<0)),c4,Cb (decide ((0:Rat).num<0)),e4,Cb (decide ((((0:Rat).den:Nat):Int)<0)),e5,Cb (decide ((0:Rat).num<0)),e6,Cb (decide ((((0:Rat).den:Nat):Int)<0)),e7]) rfl rfl rfl rep0 rfl rfl (Nat.le_of_ble_eq_true rfl) ?_
 refine lN ?_
 refine fg_nil ?_
 refine xR ?_
 refine fl_ldAll rfl mem0 rfl ?_
 refine fl_stAll rfl rfl rfl rfl P1 ?_
 refine lN ?_
 refine xT ?_
 refine rQ (.inl rfl) (rcAll rfl Y1 rfl rn) ?_
 exact ⟨_,_,_,_,_,_,_,_,rfl,hx.m,hy.m,hu.m,hw.m,k4,k5,k6,k7⟩
theorem c_rules_earned {k:Nat} (hk:9≤k) {z:Mem} {p:Rat} {c1 c2:C} (hx:CZ 1 RW z c1 (toL p.num.natAbs)) (hy:CZ 1 RW z c2 (toL (p.den:Int).natAbs)) (h1:(toL p.num.natAbs).length≤1000) (h2:(toL (p.den:Int).natAbs).length≤1000) {q:Rat} {c3 c4:C} (hu:CZ 1 RW z c3 (toL q.num.natAbs)) (hw:CZ 1 RW z c4 (toL (q.den:Int).natAbs)) (h3:(toL q.num.natAbs).length≤1000) (h4:(toL (q.den:Int).natAbs).length≤1000):FC (E k) 221 [.agg [Cb (decide ((p:Rat).num<0)),c1,Cb (decide ((((p:Rat).den:Nat):Int)<0)),c2],.agg [Cb (decide ((q:Rat).num<0)),c3,Cb (decide ((((q:Rat).den:Nat):Int)<0)),c4]] z fun v z'=>∃ e0 e1 e2 e3 e4 e5 e6 e7:C,v=.agg [Cb (decide ((p:Rat).num<0)),e0,Cb (decide ((((p:Rat).den:Nat):Int)<0)),e1,Cb (decide ((p:Rat).num<0)),e2,Cb (decide ((((p:Rat).den:Nat):Int)<0)),e3,Cb (decide ((0:Rat).num<0)),e4,Cb (decide ((((0:Rat).den:Nat):Int)<0)),e5,Cb (decide ((0:Rat).num<0)),e6,Cb (decide ((((0:Rat).den:Nat):Int)<0)),e7]∧CZ 1 RW z' e0 (toL (p:Rat).num.natAbs)∧CZ 1 RW z' e1 (toL (((p:Rat).den:Nat):Int).natAbs)∧CZ 1 RW z' e2 (toL (p:Rat).num.natAbs)∧CZ 1 RW z' e3 (toL (((p:Rat).den:Nat):Int).natAbs)∧CZ 1 RW z' e4 (toL (0:Rat).num.natAbs)∧CZ 1 RW z' e5 (toL (((0:Rat).den:Nat):Int).natAbs)∧CZ 1 RW z' e6 (toL (0:Rat).num.natAbs)∧CZ 1 RW z' e7 (toL (((0:Rat).den:Nat):Int).natAbs):=by
 refine fc_of (tS_get221) (by omega) (len1 rfl) fun B j hj=>?_
 refine xR ?_
 refine fl_bx rfl fun b2=>?_
 refine fl_bx rfl fun b3=>?_
 refine fl_alloc fun b4=>?_
 refine lN ?_
 refine xR ?_
 refine fl_ld4 rfl Y2 rfl ?_
 refine fl_ld4 rfl Y2 rfl ?_
 refine lZ z (c_rules_with (p:=p) (q:=p) (by omega) hx hy hx hy) rfl rfl fun v7 z7 _ ⟨e7_0,e7_1,e7_2,e7_3,e7_4,e7_5,e7_6,e7_7,hv7,k7_0,k7_1,k7_2,k7_3,k7_4,k7_5,k7_6,k7_7⟩=>?_
 subst hv7
 refine fl_stAll rfl rfl rfl rfl rep0 ?_
 refine lN ?_
 refine xT ?_
 refine rQ (.inl rfl) (rcAll rfl mem0 rfl rn) ?_
 exact ⟨_,_,_,_,_,_,_,_,rfl,k7_0,k7_1,k7_2,k7_3,k7_4,k7_5,k7_6,k7_7⟩
theorem c_rules_spent {k:Nat} (hk:11≤k) {z:Mem} {p:Rat} {c1 c2:C} (hx:CZ 1 RW z c1 (toL p.num.natAbs)) (hy:CZ 1 RW z c2 (toL (p.den:Int).natAbs)) (h1:(toL p.num.natAbs).length≤1000) (h2:(toL (p.den:Int).natAbs).length≤1000) {q:Rat} {c3 c4:C} (hu:CZ 1 RW z c3 (toL q.num.natAbs)) (hw:CZ 1 RW z c4 (toL (q.den:Int).natAbs)) (h3:(toL q.num.natAbs).length≤1000) (h4:(toL (q.den:Int).natAbs).length≤1000):FC (E k) 222 [.agg [Cb (decide ((p:Rat).num<0)),c1,Cb (decide ((((p:Rat).den:Nat):Int)<0)),c2],.agg [Cb (decide ((q:Rat).num<0)),c3,Cb (decide ((((q:Rat).den:Nat):Int)<0)),c4]] z fun v z'=>∃ e0 e1 e2 e3 e4 e5 e6 e7:C,v=.agg [Cb (decide (((-p):Rat).num<0)),e0,Cb (decide (((((-p):Rat).den:Nat):Int)<0)),e1,Cb (decide (((-p):Rat).num<0)),e2,Cb (decide (((((-p):Rat).den:Nat):Int)<0)),e3,Cb (decide ((0:Rat).num<0)),e4,Cb (decide ((((0:Rat).den:Nat):Int)<0)),e5,Cb (decide ((0:Rat).num<0)),e6,Cb (decide ((((0:Rat).den:Nat):Int)<0)),e7]∧CZ 1 RW z' e0 (toL ((-p):Rat).num.natAbs)∧CZ 1 RW z' e1 (toL ((((-p):Rat).den:Nat):Int).natAbs)∧CZ 1 RW z' e2 (toL ((-p):Rat).num.natAbs)∧CZ 1 RW z' e3 (toL ((((-p):Rat).den:Nat):Int).natAbs)∧CZ 1 RW z' e4 (toL (0:Rat).num.natAbs)∧CZ 1 RW z' e5 (toL (((0:Rat).den:Nat):Int).natAbs)∧CZ 1 RW z' e6 (toL (0:Rat).num.natAbs)∧CZ 1 RW z' e7 (toL (((0:Rat).den:Nat):Int).natAbs):=by
 refine fc_of (tS_get222) (by omega) (len1 rfl) fun B j hj=>?_
 refine xR ?_
 refine fl_bx rfl fun b2=>?_
 refine fl_bx rfl fun b3=>?_
 refine fl_alloc fun b4=>?_
 refine lN ?_
 refine fx_drwS ?_
 refine gl4 O O (.inr Y2) O ?_
 refine gC z (c_rat_Neg (by omega) hx hy (Nat.le_trans h1 (by decide)) (Nat.le_trans h2 (by decide))) O O O O fun v6 z6 hz6 hv6=>?_
 rw [valR_c] at hv6
 have hv6:=qv_op hv6
 obtain ⟨c6,d6,hv,hm6,hn6⟩:=hv6
 subst hv
 refine gl4 O O (.inr Y2) O ?_
 refine gC z6 (c_rat_Neg (by omega) hx.m hy.m (Nat.le_trans h1 (by decide)) (Nat.le_trans h2 (by decide))) O O O O fun v8 z8 _ hv8=>?_
 rw [valR_c] at hv8
 have hv8:=qv_op hv8
 obtain ⟨c8,d8,hv,hm8,hn8⟩:=hv8
 subst hv
 have hm8:=hm8.mono (zAq (hz6))
 have hn8:=hn8.mono (zAq (hz6))
 refine gC z8 (c_rules_with (p:=(-p)) (q:=(-p)) (by omega) hm6.m hn6.m (hm8.mono zd_le) (hn8.mono zd_le)) O O O O fun v9 z9 _ ⟨e9_0,e9_1,e9_2,e9_3,e9_4,e9_5,e9_6,e9_7,hv9,k9_0,k9_1,k9_2,k9_3,k9_4,k9_5,k9_6,k9_7⟩=>?_
 subst hv9
 refine gS O O O ?_
 refine fl_stAll rfl rfl rfl rfl rep0 ?_
 refine lN ?_
 refine fg_nil ?_
 refine xT ?_
 refine rQ (.inl rfl) (rcAll rfl mem0 rfl rn) ?_
 exact ⟨_,_,_,_,_,_,_,_,rfl,k9_0,k9_1,k9_2,k9_3,k9_4,k9_5,k9_6,k9_7⟩
theorem c_rules_booked {k:Nat} (hk:11≤k) {z:Mem} {p:Rat} {c1 c2:C} (hx:CZ 1 RW z c1 (toL p.num.natAbs)) (hy:CZ 1 RW z c2 (toL (p.den:Int).natAbs)) (h1:(toL p.num.natAbs).length≤1000) (h2:(toL (p.den:Int).natAbs).length≤1000) {q:Rat} {c3 c4:C} (hu:CZ 1 RW z c3 (toL q.num.natAbs)) (hw:CZ 1 RW z c4 (toL (q.den:Int).natAbs)) (h3:(toL q.num.natAbs).length≤1000) (h4:(toL (q.den:Int).natAbs).length≤1000):FC (E k) 223 [.agg [Cb (decide ((p:Rat).num<0)),c1,Cb (decide ((((p:Rat).den:Nat):Int)<0)),c2],.agg [Cb (decide ((q:Rat).num<0)),c3,Cb (decide ((((q:Rat).den:Nat):Int)<0)),c4]] z fun v z'=>∃ e0 e1 e2 e3 e4 e5 e6 e7:C,v=.agg [Cb (decide (((-p):Rat).num<0)),e0,Cb (decide (((((-p):Rat).den:Nat):Int)<0)),e1,Cb (decide ((0:Rat).num<0)),e2,Cb (decide ((((0:Rat).den:Nat):Int)<0)),e3,Cb (decide ((0:Rat).num<0)),e4,Cb (decide ((((0:Rat).den:Nat):Int)<0)),e5,Cb (decide ((0:Rat).num<0)),e6,Cb (decide ((((0:Rat).den:Nat):Int)<0)),e7]∧CZ 1 RW z' e0 (toL ((-p):Rat).num.natAbs)∧CZ 1 RW z' e1 (toL ((((-p):Rat).den:Nat):Int).natAbs)∧CZ 1 RW z' e2 (toL (0:Rat).num.natAbs)∧CZ 1 RW z' e3 (toL (((0:Rat).den:Nat):Int).natAbs)∧CZ 1 RW z' e4 (toL (0:Rat).num.natAbs)∧CZ 1 RW z' e5 (toL (((0:Rat).den:Nat):Int).natAbs)∧CZ 1 RW z' e6 (toL (0:Rat).num.natAbs)∧CZ 1 RW z' e7 (toL (((0:Rat).den:Nat):Int).natAbs):=by
 refine fc_of (tS_get223) (by omega) (len1 rfl) fun B j hj=>?_
 refine xR ?_
 refine fl_bx rfl fun b2=>?_
 refine fl_bx rfl fun b3=>?_
 refine fl_alloc fun b4=>?_
 refine lN ?_
 refine xR ?_
 refine fl_ld4 rfl Y2 rfl ?_
 refine lZ z (c_rat_Neg (by omega) hx hy (Nat.le_trans h1 (by decide)) (Nat.le_trans h2 (by decide))) rfl rfl fun v6 z6 hz6 hv6=>?_
 rw [valR_c] at hv6
 have hv6:=qv_op hv6
 obtain ⟨c6,d6,hv,hm6,hn6⟩:=hv6
 subst hv
 refine lZ z6 (c_rules_zero (by omega)) rfl rfl fun v7 z7 _ hv7=>?_
 have hv7:=qv_op hv7
 obtain ⟨c7,d7,hv,hm7,hn7⟩:=hv7
 subst hv
 have hm7:=hm7.mono (zAq (hz6))
 have hn7:=hn7.mono (zAq (hz6))
 refine lZ z7 (c_rules_with (p:=(-p)) (q:=0) (by omega) hm6.m hn6.m (hm7.mono zd_le) (hn7.mono zd_le)) rfl rfl fun v8 z8 _ ⟨e8_0,e8_1,e8_2,e8_3,e8_4,e8_5,e8_6,e8_7,hv8,k8_0,k8_1,k8_2,k8_3,k8_4,k8_5,k8_6,k8_7⟩=>?_
 subst hv8
 refine fl_stAll rfl rfl rfl rfl rep0 ?_
 refine lN ?_
 refine xT ?_
 refine rQ (.inl rfl) (rcAll rfl mem0 rfl rn) ?_
 exact ⟨_,_,_,_,_,_,_,_,rfl,k8_0,k8_1,k8_2,k8_3,k8_4,k8_5,k8_6,k8_7⟩
theorem c_rules_rules_1 {k:Nat} (hk:9≤k) {z:Mem} {p:Rat} {c1 c2:C} (hx:CZ 1 RW z c1 (toL p.num.natAbs)) (hy:CZ 1 RW z c2 (toL (p.den:Int).natAbs)) (h1:(toL p.num.natAbs).length≤1000) (h2:(toL (p.den:Int).natAbs).length≤1000) {q:Rat} {c3 c4:C} (hu:CZ 1 RW z c3 (toL q.num.natAbs)) (hw:CZ 1 RW z c4 (toL (q.den:Int).natAbs)) (h3:(toL q.num.natAbs).length≤1000) (h4:(toL (q.den:Int).natAbs).length≤1000):FC (E k) 224 [.agg [Cb (decide ((p:Rat).num<0)),c1,Cb (decide ((((p:Rat).den:Nat):Int)<0)),c2],.agg [Cb (decide ((q:Rat).num<0)),c3,Cb (decide ((((q:Rat).den:Nat):Int)<0)),c4]] z fun v z'=>∃ e0 e1 e2 e3 e4 e5 e6 e7:C,v=.agg [Cb (decide ((p:Rat).num<0)),e0,Cb (decide ((((p:Rat).den:Nat):Int)<0)),e1,Cb (decide ((0:Rat).num<0)),e2,Cb (decide ((((0:Rat).den:Nat):Int)<0)),e3,Cb (decide ((0:Rat).num<0)),e4,Cb (decide ((((0:Rat).den:Nat):Int)<0)),e5,Cb (decide ((0:Rat).num<0)),e6,Cb (decide ((((0:Rat).den:Nat):Int)<0)),e7]∧CZ 1 RW z' e0 (toL (p:Rat).num.natAbs)∧CZ 1 RW z' e1 (toL (((p:Rat).den:Nat):Int).natAbs)∧CZ 1 RW z' e2 (toL (0:Rat).num.natAbs)∧CZ 1 RW z' e3 (toL (((0:Rat).den:Nat):Int).natAbs)∧CZ 1 RW z' e4 (toL (0:Rat).num.natAbs)∧CZ 1 RW z' e5 (toL (((0:Rat).den:Nat):Int).natAbs)∧CZ 1 RW z' e6 (toL (0:Rat).num.natAbs)∧CZ 1 RW z' e7 (toL (((0:Rat).den:Nat):Int).natAbs):=by
 refine fc_of (tS_get224) (by omega) (len1 rfl) fun B j hj=>?_
 refine xR ?_
 refine fl_bx rfl fun b2=>?_
 refine fl_bx rfl fun b3=>?_
 refine fl_alloc fun b4=>?_
 refine lN ?_
 refine fx_drwS ?_
 refine gl4 O O (.inr Y2) O ?_
 refine gC z (c_rules_zero (by omega)) O O O O fun v6 z6 _ hv6=>?_
 have hv6:=qv_op hv6
 obtain ⟨c6,d6,hv,hm6,hn6⟩:=hv6
 subst hv
 refine gC z6 (c_rules_with (p:=p) (q:=0) (by omega) hx.m hy.m (hm6.mono zd_le) (hn6.mono zd_le)) O O O O fun v7 z7 _ ⟨e7_0,e7_1,e7_2,e7_3,e7_4,e7_5,e7_6,e7_7,hv7,k7_0,k7_1,k7_2,k7_3,k7_4,k7_5,k7_6,k7_7⟩=>?_
 subst hv7
 refine gS O O O ?_
 refine fl_stAll rfl rfl rfl rfl rep0 ?_
 refine lN ?_
 refine fg_nil ?_
 refine xT ?_
 refine rQ (.inl rfl) (rcAll rfl mem0 rfl rn) ?_
 exact ⟨_,_,_,_,_,_,_,_,rfl,k7_0,k7_1,k7_2,k7_3,k7_4,k7_5,k7_6,k7_7⟩
theorem c_rules_rules_2 {k:Nat} (hk:12≤k) {z:Mem} {p:Rat} {c1 c2:C} (hx:CZ 1 RW z c1 (toL p.num.natAbs)) (hy:CZ 1 RW z c2 (toL (p.den:Int).natAbs)) (h1:(toL p.num.natAbs).length≤1000) (h2:(toL (p.den:Int).natAbs).length≤1000) {q:Rat} {c3 c4:C} (hu:CZ 1 RW z c3 (toL q.num.natAbs)) (hw:CZ 1 RW z c4 (toL (q.den:Int).natAbs)) (h3:(toL q.num.natAbs).length≤1000) (h4:(toL (q.den:Int).natAbs).length≤1000):FC (E k) 226 [.agg [Cb (decide ((p:Rat).num<0)),c1,Cb (decide ((((p:Rat).den:Nat):Int)<0)),c2],.agg [Cb (decide ((q:Rat).num<0)),c3,Cb (decide ((((q:Rat).den:Nat):Int)<0)),c4]] z fun v z'=>∃ e0 e1 e2 e3 e4 e5 e6 e7:C,v=.agg [Cb (decide (((-p):Rat).num<0)),e0,Cb (decide (((((-p):Rat).den:Nat):Int)<0)),e1,Cb (decide (((-(p * ((((1:Int):Rat)) - q))):Rat).num<0)),e2,Cb (decide (((((-(p * ((((1:Int):Rat)) - q))):Rat).den:Nat):Int)<0)),e3,Cb (decide ((0:Rat).num<0)),e4,Cb (decide ((((0:Rat).den:Nat):Int)<0)),e5,Cb (decide ((0:Rat).num<0)),e6,Cb (decide ((((0:Rat).den:Nat):Int)<0)),e7]∧CZ 1 RW z' e0 (toL ((-p):Rat).num.natAbs)∧CZ 1 RW z' e1 (toL ((((-p):Rat).den:Nat):Int).natAbs)∧CZ 1 RW z' e2 (toL ((-(p * ((((1:Int):Rat)) - q))):Rat).num.natAbs)∧CZ 1 RW z' e3 (toL ((((-(p * ((((1:Int):Rat)) - q))):Rat).den:Nat):Int).natAbs)∧CZ 1 RW z' e4 (toL (0:Rat).num.natAbs)∧CZ 1 RW z' e5 (toL (((0:Rat).den:Nat):Int).natAbs)∧CZ 1 RW z' e6 (toL (0:Rat).num.natAbs)∧CZ 1 RW z' e7 (toL (((0:Rat).den:Nat):Int).natAbs):=by
 refine fc_of (tS_get226) (by omega) (len1 rfl) fun B j hj=>?_
 refine xR ?_
 refine fl_bx rfl fun b2=>?_
 refine fl_bx rfl fun b3=>?_
 refine fl_alloc fun b4=>?_
 refine lN ?_
 refine fx_drwS ?_
 refine gl4 O O (.inr Y2) O ?_
 refine gC z (c_rat_Neg (by omega) hx hy (Nat.le_trans h1 (by decide)) (Nat.le_trans h2 (by decide))) O O O O fun v6 z6 hz6 hv6=>?_
 rw [valR_c] at hv6
 have hv6:=qv_op hv6
 obtain ⟨c6,d6,hv,hm6,hn6⟩:=hv6
 subst hv
 refine gl4 O O (.inr Y2) O ?_
 refine gC z6 (c_rat_Whole (n:=1) (by omega) (by decide) (by decide)) O O O O fun v8 z8 hz8 hv8=>?_
 have hv8:=qv_op hv8
 obtain ⟨c8,d8,hv,hm8,hn8⟩:=hv8
 subst hv
 have hm8:=hm8.mono (zAq (hz6))
 have hn8:=hn8.mono (zAq (hz6))
 refine gl4 O O (.inr Y1) O ?_
 refine gC z8 (c_rat_Sub (by omega) (hm8.mono zd_le) (hn8.mono zd_le) one_n one_d hu.m hw.m (Nat.le_trans h3 (by decide)) (Nat.le_trans h4 (by decide))) O O O O fun v10 z10 hz10 hv10=>?_
 rw [valR_c,valR_c] at hv10
 have hv10:=qv_op hv10
 obtain ⟨c10,d10,hv,hm10,hn10⟩:=hv10
 subst hv
 have hm10:=hm10.mono (zAq (hz6.trans hz8))
 have hn10:=hn10.mono (zAq (hz6.trans hz8))
 refine gC z10 (c_rat_Mul (by omega) hx.m hy.m (Nat.le_trans h1 (by decide)) (Nat.le_trans h2 (by decide)) (hm10.mono zd_le) (hn10.mono zd_le) (Nat.le_trans (sub_lb h3 h4).1 (by decide)) (Nat.le_trans (sub_lb h3 h4).2 (by decide))) O O O O fun v11 z11 hz11 hv11=>?_
 rw [valR_c,valR_c] at hv11
 have hv11:=qv_op hv11
 obtain ⟨c11,d11,hv,hm11,hn11⟩:=hv11
 subst hv
 have hm11:=hm11.mono (zAq (hz6.trans (hz8.trans hz10)))
 have hn11:=hn11.mono (zAq (hz6.trans (hz8.trans hz10)))
 refine gC z11 (c_rat_Neg (by omega) (hm11.mono zd_le) (hn11.mono zd_le) (Nat.le_trans (mul_lb h1 h2 (sub_lb h3 h4).1 (sub_lb h3 h4).2).1 (by decide)) (Nat.le_trans (mul_lb h1 h2 (sub_lb h3 h4).1 (sub_lb h3 h4).2).2 (by decide))) O O O O fun v12 z12 _ hv12=>?_
 rw [valR_c] at hv12
 have hv12:=qv_op hv12
 obtain ⟨c12,d12,hv,hm12,hn12⟩:=hv12
 subst hv
 have hm12:=hm12.mono (zAq (hz6.trans (hz8.trans (hz10.trans hz11))))
 have hn12:=hn12.mono (zAq (hz6.trans (hz8.trans (hz10.trans hz11))))
 refine gC z12 (c_rules_with (p:=(-p)) (q:=(-(p * ((((1:Int):Rat)) - q)))) (by omega) hm6.m hn6.m (hm12.mono zd_le) (hn12.mono zd_le)) O O O O fun v13 z13 _ ⟨e13_0,e13_1,e13_2,e13_3,e13_4,e13_5,e13_6,e13_7,hv13,k13_0,k13_1,k13_2,k13_3,k13_4,k13_5,k13_6,k13_7⟩=>?_
 subst hv13
 refine gS O O O ?_
 refine fl_stAll rfl rfl rfl rfl rep0 ?_
 refine lN ?_
 refine fg_nil ?_
 refine xT ?_
 refine rQ (.inl rfl) (rcAll rfl mem0 rfl rn) ?_
 exact ⟨_,_,_,_,_,_,_,_,rfl,k13_0,k13_1,k13_2,k13_3,k13_4,k13_5,k13_6,k13_7⟩
theorem c_rules_rules_3 {k:Nat} (hk:15≤k) {z:Mem} {p:Rat} {c1 c2:C} (hx:CZ 1 RW z c1 (toL p.num.natAbs)) (hy:CZ 1 RW z c2 (toL (p.den:Int).natAbs)) (h1:(toL p.num.natAbs).length≤1000) (h2:(toL (p.den:Int).natAbs).length≤1000) {q:Rat} {c3 c4:C} (hu:CZ 1 RW z c3 (toL q.num.natAbs)) (hw:CZ 1 RW z c4 (toL (q.den:Int).natAbs)) (h3:(toL q.num.natAbs).length≤1000) (h4:(toL (q.den:Int).natAbs).length≤1000):FC (E k) 227 [.agg [Cb (decide ((p:Rat).num<0)),c1,Cb (decide ((((p:Rat).den:Nat):Int)<0)),c2],.agg [Cb (decide ((q:Rat).num<0)),c3,Cb (decide ((((q:Rat).den:Nat):Int)<0)),c4]] z fun v z'=>∃ e0 e1 e2 e3 e4 e5 e6 e7:C,v=.agg [Cb (decide (((-p):Rat).num<0)),e0,Cb (decide (((((-p):Rat).den:Nat):Int)<0)),e1,Cb (decide (((-(minF p [q])):Rat).num<0)),e2,Cb (decide (((((-(minF p [q])):Rat).den:Nat):Int)<0)),e3,Cb (decide ((0:Rat).num<0)),e4,Cb (decide ((((0:Rat).den:Nat):Int)<0)),e5,Cb (decide ((0:Rat).num<0)),e6,Cb (decide ((((0:Rat).den:Nat):Int)<0)),e7]∧CZ 1 RW z' e0 (toL ((-p):Rat).num.natAbs)∧CZ 1 RW z' e1 (toL ((((-p):Rat).den:Nat):Int).natAbs)∧CZ 1 RW z' e2 (toL ((-(minF p [q])):Rat).num.natAbs)∧CZ 1 RW z' e3 (toL ((((-(minF p [q])):Rat).den:Nat):Int).natAbs)∧CZ 1 RW z' e4 (toL (0:Rat).num.natAbs)∧CZ 1 RW z' e5 (toL (((0:Rat).den:Nat):Int).natAbs)∧CZ 1 RW z' e6 (toL (0:Rat).num.natAbs)∧CZ 1 RW z' e7 (toL (((0:Rat).den:Nat):Int).natAbs):=by
 refine fc_of (tS_get227) (by omega) (len1 rfl) fun B j hj=>?_
 refine xR ?_
 refine fl_bx rfl fun b2=>?_
 refine fl_bx rfl fun b3=>?_
 refine fl_alloc fun b4=>?_
 refine lN ?_
 refine fx_drwS ?_
 refine gl4 O O (.inr Y2) O ?_
 refine gC z (c_rat_Neg (by omega) hx hy (Nat.le_trans h1 (by decide)) (Nat.le_trans h2 (by decide))) O O O O fun v6 z6 hz6 hv6=>?_
 rw [valR_c] at hv6
 have hv6:=qv_op hv6
 obtain ⟨c6,d6,hv,hm6,hn6⟩:=hv6
 subst hv
 refine gl4 O O (.inr Y2) O ?_
 refine gl4 O O (.inr Y1) O ?_
 refine fg_own (k:=.cells 35 [Cb (decide ((q:Rat).num<0)),c3,Cb (decide ((((q:Rat).den:Nat):Int)<0)),c4]) (w:=fun b=>.c (.sl b 0 1 4)) rfl trivial rfl (fun _=>rfl) (fun st hst=>?_) (fun b9 hT9=>?_)
 ·simp only [stepE,fillS,AS.ev,hst 8 (by simp [Ins.sl,Od.sls,Od.sl])];rfl
 refine fg_frzZ z6 (p:=[]) rfl rfl rfl (fun _ h=>h) fun zff9 hzff9 f9=>?_
 refine gC zff9 (c_rat_Min (by omega) hx.m hy.m (Nat.le_trans h1 (by decide)) (Nat.le_trans h2 (by decide)) (rq_one f9 hu.m hw.m) (one_in (Nat.le_trans h3 (by decide)) (Nat.le_trans h4 (by decide)))) O O O O fun v10 z10 hz10 hv10=>?_
 rw [valR_c,List.map_cons,List.map_nil,valR_c] at hv10
 have hv10:=qv_op hv10
 obtain ⟨c10,d10,hv,hm10,hn10⟩:=hv10
 subst hv
 refine gC z10 (c_rat_Neg (by omega) hm10 hn10 (Nat.le_trans (min_lb h1 h2 h3 h4).1 (by decide)) (Nat.le_trans (min_lb h1 h2 h3 h4).2 (by decide))) O O O O fun v11 z11 _ hv11=>?_
 rw [valR_c] at hv11
 have hv11:=qv_op hv11
 obtain ⟨c11,d11,hv,hm11,hn11⟩:=hv11
 subst hv
 have hm11:=hm11.mono (zAq (hz6.trans (hzff9.trans hz10)))
 have hn11:=hn11.mono (zAq (hz6.trans (hzff9.trans hz10)))
 refine gC z11 (c_rules_with (p:=(-p)) (q:=(-(minF p [q]))) (by omega) hm6.m hn6.m (hm11.mono zd_le) (hn11.mono zd_le)) O O O O fun v12 z12 _ ⟨e12_0,e12_1,e12_2,e12_3,e12_4,e12_5,e12_6,e12_7,hv12,k12_0,k12_1,k12_2,k12_3,k12_4,k12_5,k12_6,k12_7⟩=>?_
 subst hv12
 refine gS O O O ?_
 refine fl_stAll rfl rfl rfl rfl rep0 ?_
 refine lN ?_
 refine fg_nil ?_
 refine xT ?_
 refine rQ (.inl rfl) (rcAll rfl mem0 rfl rn) ?_
 exact ⟨_,_,_,_,_,_,_,_,rfl,k12_0,k12_1,k12_2,k12_3,k12_4,k12_5,k12_6,k12_7⟩
theorem c_rules_rules_4 {k:Nat} (hk:12≤k) {z:Mem} {p:Rat} {c1 c2:C} (hx:CZ 1 RW z c1 (toL p.num.natAbs)) (hy:CZ 1 RW z c2 (toL (p.den:Int).natAbs)) (h1:(toL p.num.natAbs).length≤1000) (h2:(toL (p.den:Int).natAbs).length≤1000) {q:Rat} {c3 c4:C} (hu:CZ 1 RW z c3 (toL q.num.natAbs)) (hw:CZ 1 RW z c4 (toL (q.den:Int).natAbs)) (h3:(toL q.num.natAbs).length≤1000) (h4:(toL (q.den:Int).natAbs).length≤1000):FC (E k) 229 [.agg [Cb (decide ((p:Rat).num<0)),c1,Cb (decide ((((p:Rat).den:Nat):Int)<0)),c2],.agg [Cb (decide ((q:Rat).num<0)),c3,Cb (decide ((((q:Rat).den:Nat):Int)<0)),c4]] z fun v z'=>∃ e0 e1 e2 e3 e4 e5 e6 e7:C,v=.agg [Cb (decide (((-p):Rat).num<0)),e0,Cb (decide (((((-p):Rat).den:Nat):Int)<0)),e1,Cb (decide (((-p):Rat).num<0)),e2,Cb (decide (((((-p):Rat).den:Nat):Int)<0)),e3,Cb (decide ((p:Rat).num<0)),e4,Cb (decide ((((p:Rat).den:Nat):Int)<0)),e5,Cb (decide ((0:Rat).num<0)),e6,Cb (decide ((((0:Rat).den:Nat):Int)<0)),e7]∧CZ 1 RW z' e0 (toL ((-p):Rat).num.natAbs)∧CZ 1 RW z' e1 (toL ((((-p):Rat).den:Nat):Int).natAbs)∧CZ 1 RW z' e2 (toL ((-p):Rat).num.natAbs)∧CZ 1 RW z' e3 (toL ((((-p):Rat).den:Nat):Int).natAbs)∧CZ 1 RW z' e4 (toL (p:Rat).num.natAbs)∧CZ 1 RW z' e5 (toL (((p:Rat).den:Nat):Int).natAbs)∧CZ 1 RW z' e6 (toL (0:Rat).num.natAbs)∧CZ 1 RW z' e7 (toL (((0:Rat).den:Nat):Int).natAbs):=by
 refine fc_of (tS_get229) (by omega) (len1 rfl) fun B j hj=>?_
 refine xR ?_
 refine fl_bx rfl fun b2=>?_
 refine fl_bx rfl fun b3=>?_
 refine fl_alloc fun b4=>?_
 refine lN ?_
 refine xR ?_
 refine fl_ld4 rfl Y2 rfl ?_
 refine fl_ld4 rfl Y1 rfl ?_
 refine lZ z (c_rules_spent (by omega) hx hy h1 h2 hu hw h3 h4) rfl rfl fun v8 z8 _ ⟨e8_0,e8_1,e8_2,e8_3,e8_4,e8_5,e8_6,e8_7,hv8,k8_0,k8_1,k8_2,k8_3,k8_4,k8_5,k8_6,k8_7⟩=>?_
 subst hv8
 refine fl_alloc fun b5=>?_
 refine fl_stAll rfl rfl rfl rfl rep0 ?_
 refine lN ?_
 refine xR ?_
 refine fl_ld4 rfl Y3 rfl ?_
 refine lF rfl ?_
 refine fl_stE (cs':=[Cb (decide (((-p):Rat).num<0)),e8_0,Cb (decide (((((-p):Rat).den:Nat):Int)<0)),e8_1,Cb (decide (((-p):Rat).num<0)),e8_2,Cb (decide (((((-p):Rat).den:Nat):Int)<0)),e8_3,Cb (decide ((p:Rat).num<0)),c1,Cb (decide ((((p:Rat).den:Nat):Int)<0)),c2,Cb (decide ((0:Rat).num<0)),e8_6,Cb (decide ((((0:Rat).den:Nat):Int)<0)),e8_7]) rfl rfl rfl rep0 rfl rfl (Nat.le_of_ble_eq_true rfl) ?_
 refine lN ?_
 refine xR ?_
 refine fl_ldAll rfl mem0 rfl ?_
 refine fl_stAll rfl rfl rfl rfl P1 ?_
 refine lN ?_
 refine xT ?_
 refine rQ (.inl rfl) (rcAll rfl Y1 rfl rn) ?_
 exact ⟨_,_,_,_,_,_,_,_,rfl,k8_0,k8_1,k8_2,k8_3,hx.m,hy.m,k8_6,k8_7⟩
theorem c_rules_rules_5 {k:Nat} (hk:11≤k) {z:Mem} {p:Rat} {c1 c2:C} (hx:CZ 1 RW z c1 (toL p.num.natAbs)) (hy:CZ 1 RW z c2 (toL (p.den:Int).natAbs)) (h1:(toL p.num.natAbs).length≤1000) (h2:(toL (p.den:Int).natAbs).length≤1000) {q:Rat} {c3 c4:C} (hu:CZ 1 RW z c3 (toL q.num.natAbs)) (hw:CZ 1 RW z c4 (toL (q.den:Int).natAbs)) (h3:(toL q.num.natAbs).length≤1000) (h4:(toL (q.den:Int).natAbs).length≤1000):FC (E k) 230 [.agg [Cb (decide ((p:Rat).num<0)),c1,Cb (decide ((((p:Rat).den:Nat):Int)<0)),c2],.agg [Cb (decide ((q:Rat).num<0)),c3,Cb (decide ((((q:Rat).den:Nat):Int)<0)),c4]] z fun v z'=>∃ e0 e1 e2 e3 e4 e5 e6 e7:C,v=.agg [Cb (decide ((p:Rat).num<0)),e0,Cb (decide ((((p:Rat).den:Nat):Int)<0)),e1,Cb (decide ((0:Rat).num<0)),e2,Cb (decide ((((0:Rat).den:Nat):Int)<0)),e3,Cb (decide ((0:Rat).num<0)),e4,Cb (decide ((((0:Rat).den:Nat):Int)<0)),e5,Cb (decide (((-p):Rat).num<0)),e6,Cb (decide (((((-p):Rat).den:Nat):Int)<0)),e7]∧CZ 1 RW z' e0 (toL (p:Rat).num.natAbs)∧CZ 1 RW z' e1 (toL (((p:Rat).den:Nat):Int).natAbs)∧CZ 1 RW z' e2 (toL (0:Rat).num.natAbs)∧CZ 1 RW z' e3 (toL (((0:Rat).den:Nat):Int).natAbs)∧CZ 1 RW z' e4 (toL (0:Rat).num.natAbs)∧CZ 1 RW z' e5 (toL (((0:Rat).den:Nat):Int).natAbs)∧CZ 1 RW z' e6 (toL ((-p):Rat).num.natAbs)∧CZ 1 RW z' e7 (toL ((((-p):Rat).den:Nat):Int).natAbs):=by
 refine fc_of (tS_get230) (by omega) (len1 rfl) fun B j hj=>?_
 refine xR ?_
 refine fl_bx rfl fun b2=>?_
 refine fl_bx rfl fun b3=>?_
 refine fl_alloc fun b4=>?_
 refine lN ?_
 refine fx_drwS ?_
 refine gl4 O O (.inr Y2) O ?_
 refine gC z (c_rules_zero (by omega)) O O O O fun v7 z7 hz7 hv7=>?_
 have hv7:=qv_op hv7
 obtain ⟨c7,d7,hv,hm7,hn7⟩:=hv7
 subst hv
 refine gC z7 (c_rules_with (p:=p) (q:=0) (by omega) hx.m hy.m (hm7.mono zd_le) (hn7.mono zd_le)) O O O O fun v8 z8 hz8 ⟨e8_0,e8_1,e8_2,e8_3,e8_4,e8_5,e8_6,e8_7,hv8,k8_0,k8_1,k8_2,k8_3,k8_4,k8_5,k8_6,k8_7⟩=>?_
 subst hv8
 refine gA O O (fun b5 hT5=>?_)
 refine gS O O O ?_
 refine fl_stAll rfl rfl rfl rfl rep0 ?_
 refine lN ?_
 refine fg_nil ?_
 refine xR ?_
 refine fl_ld4 rfl Y3 rfl ?_
 refine lZ z8 (c_rat_Neg (by omega) hx.m hy.m (Nat.le_trans h1 (by decide)) (Nat.le_trans h2 (by decide))) rfl rfl fun v10 z10 _ hv10=>?_
 rw [valR_c] at hv10
 have hv10:=qv_op hv10
 obtain ⟨c10,d10,hv,hm10,hn10⟩:=hv10
 subst hv
 have hm10:=hm10.mono (zAq (hz7.trans hz8))
 have hn10:=hn10.mono (zAq (hz7.trans hz8))
 refine lF rfl ?_
 refine fl_stE (cs':=[Cb (decide ((p:Rat).num<0)),e8_0,Cb (decide ((((p:Rat).den:Nat):Int)<0)),e8_1,Cb (decide ((0:Rat).num<0)),e8_2,Cb (decide ((((0:Rat).den:Nat):Int)<0)),e8_3,Cb (decide ((0:Rat).num<0)),e8_4,Cb (decide ((((0:Rat).den:Nat):Int)<0)),e8_5,Cb (decide (((-p):Rat).num<0)),c10,Cb (decide (((((-p):Rat).den:Nat):Int)<0)),d10]) rfl rfl rfl rep0 rfl rfl (Nat.le_of_ble_eq_true rfl) ?_
 refine lN ?_
 refine xR ?_
 refine fl_ldAll rfl mem0 rfl ?_
 refine fl_stAll rfl rfl rfl rfl P1 ?_
 refine lN ?_
 refine xT ?_
 refine rQ (.inl rfl) (rcAll rfl Y1 rfl rn) ?_
 exact ⟨_,_,_,_,_,_,_,_,rfl,k8_0.m,k8_1.m,k8_2.m,k8_3.m,k8_4.m,k8_5.m,(hm10.mono zd_le),(hn10.mono zd_le)⟩
theorem c_rules_rules_6 {k:Nat} (hk:12≤k) {z:Mem} {p:Rat} {c1 c2:C} (hx:CZ 1 RW z c1 (toL p.num.natAbs)) (hy:CZ 1 RW z c2 (toL (p.den:Int).natAbs)) (h1:(toL p.num.natAbs).length≤1000) (h2:(toL (p.den:Int).natAbs).length≤1000) {q:Rat} {c3 c4:C} (hu:CZ 1 RW z c3 (toL q.num.natAbs)) (hw:CZ 1 RW z c4 (toL (q.den:Int).natAbs)) (h3:(toL q.num.natAbs).length≤1000) (h4:(toL (q.den:Int).natAbs).length≤1000):FC (E k) 231 [.agg [Cb (decide ((p:Rat).num<0)),c1,Cb (decide ((((p:Rat).den:Nat):Int)<0)),c2],.agg [Cb (decide ((q:Rat).num<0)),c3,Cb (decide ((((q:Rat).den:Nat):Int)<0)),c4]] z fun v z'=>∃ e0 e1 e2 e3 e4 e5 e6 e7:C,v=.agg [Cb (decide (((-p):Rat).num<0)),e0,Cb (decide (((((-p):Rat).den:Nat):Int)<0)),e1,Cb (decide ((0:Rat).num<0)),e2,Cb (decide ((((0:Rat).den:Nat):Int)<0)),e3,Cb (decide ((0:Rat).num<0)),e4,Cb (decide ((((0:Rat).den:Nat):Int)<0)),e5,Cb (decide ((p:Rat).num<0)),e6,Cb (decide ((((p:Rat).den:Nat):Int)<0)),e7]∧CZ 1 RW z' e0 (toL ((-p):Rat).num.natAbs)∧CZ 1 RW z' e1 (toL ((((-p):Rat).den:Nat):Int).natAbs)∧CZ 1 RW z' e2 (toL (0:Rat).num.natAbs)∧CZ 1 RW z' e3 (toL (((0:Rat).den:Nat):Int).natAbs)∧CZ 1 RW z' e4 (toL (0:Rat).num.natAbs)∧CZ 1 RW z' e5 (toL (((0:Rat).den:Nat):Int).natAbs)∧CZ 1 RW z' e6 (toL (p:Rat).num.natAbs)∧CZ 1 RW z' e7 (toL (((p:Rat).den:Nat):Int).natAbs):=by
 refine fc_of (tS_get231) (by omega) (len1 rfl) fun B j hj=>?_
 refine xR ?_
 refine fl_bx rfl fun b2=>?_
 refine fl_bx rfl fun b3=>?_
 refine fl_alloc fun b4=>?_
 refine lN ?_
 refine xR ?_
 refine fl_ld4 rfl Y2 rfl ?_
 refine fl_ld4 rfl Y1 rfl ?_
 refine lZ z (c_rules_booked (by omega) hx hy h1 h2 hu hw h3 h4) rfl rfl fun v8 z8 _ ⟨e8_0,e8_1,e8_2,e8_3,e8_4,e8_5,e8_6,e8_7,hv8,k8_0,k8_1,k8_2,k8_3,k8_4,k8_5,k8_6,k8_7⟩=>?_
 subst hv8
 refine fl_alloc fun b5=>?_
 refine fl_stAll rfl rfl rfl rfl rep0 ?_
 refine lN ?_
 refine xR ?_
 refine fl_ld4 rfl Y3 rfl ?_
 refine lF rfl ?_
 refine fl_stE (cs':=[Cb (decide (((-p):Rat).num<0)),e8_0,Cb (decide (((((-p):Rat).den:Nat):Int)<0)),e8_1,Cb (decide ((0:Rat).num<0)),e8_2,Cb (decide ((((0:Rat).den:Nat):Int)<0)),e8_3,Cb (decide ((0:Rat).num<0)),e8_4,Cb (decide ((((0:Rat).den:Nat):Int)<0)),e8_5,Cb (decide ((p:Rat).num<0)),c1,Cb (decide ((((p:Rat).den:Nat):Int)<0)),c2]) rfl rfl rfl rep0 rfl rfl (Nat.le_of_ble_eq_true rfl) ?_
 refine lN ?_
 refine xR ?_
 refine fl_ldAll rfl mem0 rfl ?_
 refine fl_stAll rfl rfl rfl rfl P1 ?_
 refine lN ?_
 refine xT ?_
 refine rQ (.inl rfl) (rcAll rfl Y1 rfl rn) ?_
 exact ⟨_,_,_,_,_,_,_,_,rfl,k8_0,k8_1,k8_2,k8_3,k8_4,k8_5,hx.m,hy.m⟩
open Go.CE Go.RowKit Go.Num
open Go.Eng (setL)
def esR:List (Value×AV×Nat):=[(.int .u8 1,.c (.fn 221 [] []),0),(.int .u8 10,.c (.fn 221 [] []),1),(.int .u8 2,.c (.fn 222 [] []),2),(.int .u8 6,.c (.fn 223 [] []),3),(.int .u8 11,.c (.fn 223 [] []),4),(.int .u8 3,.c (.fn 224 [] []),5),(.int .u8 4,.c (.fn 226 [] []),6),(.int .u8 5,.c (.fn 227 [] []),7),(.int .u8 7,.c (.fn 229 [] []),8),(.int .u8 8,.c (.fn 230 [] []),9),(.int .u8 9,.c (.fn 231 [] []),10)]
def ruleF (k:Int):Option Nat:=if k=1 then some 221 else if k=10 then some 221 else if k=2 then some 222 else if k=6 then some 223 else if k=11 then some 223 else if k=3 then some 224 else if k=4 then some 226 else if k=5 then some 227 else if k=7 then some 229 else if k=8 then some 230 else if k=9 then some 231 else none
theorem fv_st (k0 n:Int) (v:AV) (m:Nat) (es:List (Value×AV×Nat)):findV false (.int .u8 k0) ((.int .u8 n,v,m)::es)=if k0=n then some (some v) else findV false (.int .u8 k0) es:=by
 by_cases h:k0=n
 ·rw [if_pos h];simp [findV,sameK,h]
 rw [if_neg h]
 have:sameK false (.int .u8 k0) (.int .u8 n)=some false:=by simp [sameK,h]
 simp only [findV,this]
theorem find_rule (k:Int):findV false (.int .u8 k) esR=some ((ruleF k).map fun f=>.c (.fn f [] [])):=by
 unfold esR ruleF
 simp only [fv_st]
 by_cases h1:k=1
 ·subst h1;rfl
 by_cases h10:k=10
 ·subst h10;rfl
 by_cases h2:k=2
 ·subst h2;rfl
 by_cases h6:k=6
 ·subst h6;rfl
 by_cases h11:k=11
 ·subst h11;rfl
 by_cases h3:k=3
 ·subst h3;rfl
 by_cases h4:k=4
 ·subst h4;rfl
 by_cases h5:k=5
 ·subst h5;rfl
 by_cases h7:k=7
 ·subst h7;rfl
 by_cases h8:k=8
 ·subst h8;rfl
 by_cases h9:k=9
 ·subst h9;rfl
 simp only [if_neg h1,if_neg h10,if_neg h2,if_neg h6,if_neg h11,if_neg h3,if_neg h4,if_neg h5,if_neg h7,if_neg h8,if_neg h9]
 rfl
def bk (k:Int) (t:Rat):Rat:=if k=1∨k=3∨k=8∨k=10 then t else if k=2∨k=6∨k=11∨k=4∨k=5∨k=7∨k=9 then -t else 0
theorem bk_no {k:Int} {t:Rat} (h:ruleF k=none):bk k t=0:=by
 unfold ruleF at h
 repeat' (split at h;first | cases h | skip)
 unfold bk
 rw [if_neg (by omega),if_neg (by omega)]
def LB (m:Nat) (q:Rat):Prop:=(toL q.num.natAbs).length≤m∧(toL (q.den:Int).natAbs).length≤m
theorem lb_0 (m:Nat) (h:1≤m:=by decide):LB m 0:=⟨Nat.le_trans (toL_len.2 (by decide)) h,Nat.le_trans (toL_len.2 (by decide)) h⟩
theorem lb_neg {m:Nat} {q:Rat} (h:LB m q):LB m (-q):=⟨by rw [Rat.neg_num,Int.natAbs_neg];exact h.1,by rw [Rat.neg_den];exact h.2⟩
theorem lb_up {m k:Nat} {q:Rat} (h:LB m q) (hk:m≤k:=by decide):LB k q:=⟨Nat.le_trans h.1 hk,Nat.le_trans h.2 hk⟩
theorem c_rules_adder_add {k:Nat} (hk:11≤k) {z:Mem} {b0:Nat} {BB:Rat} {a0 a1:C} (gax:CZ 1 RW z a0 (toL BB.num.natAbs)) (gay:CZ 1 RW z a1 (toL (BB.den:Int).natAbs)) (ga1:(toL BB.num.natAbs).length≤9000000) (ga2:(toL (BB.den:Int).natAbs).length≤9000000) {S:Rat} {a2 a3:C} (gbx:CZ 1 RW z a2 (toL S.num.natAbs)) (gby:CZ 1 RW z a3 (toL (S.den:Int).natAbs)) (gb1:(toL S.num.natAbs).length≤9000000) (gb2:(toL (S.den:Int).natAbs).length≤9000000) {D:Rat} {a4 a5:C} (gcx:CZ 1 RW z a4 (toL D.num.natAbs)) (gcy:CZ 1 RW z a5 (toL (D.den:Int).natAbs)) (gc1:(toL D.num.natAbs).length≤9000000) (gc2:(toL (D.den:Int).natAbs).length≤9000000) {I:Rat} {a6 a7:C} (gdx:CZ 1 RW z a6 (toL I.num.natAbs)) (gdy:CZ 1 RW z a7 (toL (I.den:Int).natAbs)) (gd1:(toL I.num.natAbs).length≤9000000) (gd2:(toL (I.den:Int).natAbs).length≤9000000) {p:Rat} {e0 e1:C} (hax:CZ 1 RW z e0 (toL p.num.natAbs)) (hay:CZ 1 RW z e1 (toL (p.den:Int).natAbs)) (ha1:(toL p.num.natAbs).length≤9000000) (ha2:(toL (p.den:Int).natAbs).length≤9000000) {q:Rat} {e2 e3:C} (hbx:CZ 1 RW z e2 (toL q.num.natAbs)) (hby:CZ 1 RW z e3 (toL (q.den:Int).natAbs)) (hb1:(toL q.num.natAbs).length≤9000000) (hb2:(toL (q.den:Int).natAbs).length≤9000000) {r:Rat} {e4 e5:C} (hcx:CZ 1 RW z e4 (toL r.num.natAbs)) (hcy:CZ 1 RW z e5 (toL (r.den:Int).natAbs)) (hc1:(toL r.num.natAbs).length≤9000000) (hc2:(toL (r.den:Int).natAbs).length≤9000000) {s:Rat} {e6 e7:C} (hdx:CZ 1 RW z e6 (toL s.num.natAbs)) (hdy:CZ 1 RW z e7 (toL (s.den:Int).natAbs)) (hd1:(toL s.num.natAbs).length≤9000000) (hd2:(toL (s.den:Int).natAbs).length≤9000000):FCt (E k) 137 [Ap b0,.agg [Cb (decide ((p:Rat).num<0)),e0,Cb (decide ((((p:Rat).den:Nat):Int)<0)),e1,Cb (decide ((q:Rat).num<0)),e2,Cb (decide ((((q:Rat).den:Nat):Int)<0)),e3,Cb (decide ((r:Rat).num<0)),e4,Cb (decide ((((r:Rat).den:Nat):Int)<0)),e5,Cb (decide ((s:Rat).num<0)),e6,Cb (decide ((((s:Rat).den:Nat):Int)<0)),e7]] z [.blk b0 (.cells 276 [Cb (decide ((BB:Rat).num<0)),a0,Cb (decide ((((BB:Rat).den:Nat):Int)<0)),a1,Cb (decide ((S:Rat).num<0)),a2,Cb (decide ((((S:Rat).den:Nat):Int)<0)),a3,Cb (decide ((D:Rat).num<0)),a4,Cb (decide ((((D:Rat).den:Nat):Int)<0)),a5,Cb (decide ((I:Rat).num<0)),a6,Cb (decide ((((I:Rat).den:Nat):Int)<0)),a7])] fun v z' H'=>v=.tup []∧∃ f0 f1 f2 f3 f4 f5 f6 f7:C,H'=[.blk b0 (.cells 276 [Cb (decide (((BB+p):Rat).num<0)),f0,Cb (decide (((((BB+p):Rat).den:Nat):Int)<0)),f1,Cb (decide (((S+q):Rat).num<0)),f2,Cb (decide (((((S+q):Rat).den:Nat):Int)<0)),f3,Cb (decide (((D+r):Rat).num<0)),f4,Cb (decide (((((D+r):Rat).den:Nat):Int)<0)),f5,Cb (decide (((I+s):Rat).num<0)),f6,Cb (decide (((((I+s):Rat).den:Nat):Int)<0)),f7])]∧CZ 1 RW z' f0 (toL ((BB+p):Rat).num.natAbs)∧CZ 1 RW z' f1 (toL ((((BB+p):Rat).den:Nat):Int).natAbs)∧CZ 1 RW z' f2 (toL ((S+q):Rat).num.natAbs)∧CZ 1 RW z' f3 (toL ((((S+q):Rat).den:Nat):Int).natAbs)∧CZ 1 RW z' f4 (toL ((D+r):Rat).num.natAbs)∧CZ 1 RW z' f5 (toL ((((D+r):Rat).den:Nat):Int).natAbs)∧CZ 1 RW z' f6 (toL ((I+s):Rat).num.natAbs)∧CZ 1 RW z' f7 (toL ((((I+s):Rat).den:Nat):Int).natAbs):=by
 refine fct_of (tS_get137) (by omega) (len1 rfl) fun B j hj=>?_
 refine xR ?_
 refine fl_bx rfl fun b3=>?_
 refine lN ?_
 refine fx_drwS ?_
 refine G1 8 O ?_
 refine gP rfl rfl trivial ?_
 refine fl_nilck rfl (lN ?_)
 refine G1 4 O ?_
 refine gl4 O O (.inr Y1) O ?_
 refine G1 2 O ?_
 refine gl4 O O Ht O ?_
 refine gC z (c_rat_Add (by omega) gax gay ga1 ga2 hax hay ha1 ha2) O O O O fun v13 z13 hz13 hv13=>?_
 rw [valR_c,valR_c] at hv13
 have hv13:=qv_op hv13
 obtain ⟨c13,d13,hv,hm13,hn13⟩:=hv13
 subst hv
 refine G1 2 O ?_
 refine gP rfl rfl trivial ?_
 refine fl_nilck rfl (lN ?_)
 refine G1 4 O ?_
 refine gl4 O O (.inr Y1) O ?_
 refine G1 2 O ?_
 refine gl4 O O Ht O ?_
 refine gC z13 (c_rat_Add (by omega) gbx.m gby.m gb1 gb2 hbx.m hby.m hb1 hb2) O O O O fun v21 z21 hz21 hv21=>?_
 rw [valR_c,valR_c] at hv21
 have hv21:=qv_op hv21
 obtain ⟨c21,d21,hv,hm21,hn21⟩:=hv21
 subst hv
 have hm21:=hm21.mono (zAq (hz13))
 have hn21:=hn21.mono (zAq (hz13))
 refine gP rfl rfl trivial ?_
 refine fl_nilck rfl (lN ?_)
 refine G1 4 O ?_
 refine gS O O O ?_
 refine fl_stE (cs':=[Cb (decide (((BB+p):Rat).num<0)),c13,Cb (decide (((((BB+p):Rat).den:Nat):Int)<0)),d13,Cb (decide ((S:Rat).num<0)),a2,Cb (decide ((((S:Rat).den:Nat):Int)<0)),a3,Cb (decide ((D:Rat).num<0)),a4,Cb (decide ((((D:Rat).den:Nat):Int)<0)),a5,Cb (decide ((I:Rat).num<0)),a6,Cb (decide ((((I:Rat).den:Nat):Int)<0)),a7]) rfl rfl rfl P1 rfl rfl (Nat.le_of_ble_eq_true rfl) ?_
 refine lN ?_
 refine gP rfl rfl trivial ?_
 refine fl_nilck rfl (lN ?_)
 refine G1 4 O ?_
 refine gS O O O ?_
 refine fl_stE (cs':=[Cb (decide (((BB+p):Rat).num<0)),c13,Cb (decide (((((BB+p):Rat).den:Nat):Int)<0)),d13,Cb (decide (((S+q):Rat).num<0)),c21,Cb (decide (((((S+q):Rat).den:Nat):Int)<0)),d21,Cb (decide ((D:Rat).num<0)),a4,Cb (decide ((((D:Rat).den:Nat):Int)<0)),a5,Cb (decide ((I:Rat).num<0)),a6,Cb (decide ((((I:Rat).den:Nat):Int)<0)),a7]) rfl rfl rfl P1 rfl rfl (Nat.le_of_ble_eq_true rfl) ?_
 refine lN ?_
 refine fg_nil ?_
 refine fx_drw ?_
 refine G1 8 O ?_
 refine gP rfl rfl trivial ?_
 refine fl_nilck rfl (lN ?_)
 refine G1 4 O ?_
 refine gl4 O O (.inr Y1) O ?_
 refine G1 2 O ?_
 refine gl4 O O Ht O ?_
 refine gC z21 (c_rat_Add (by omega) gcx.m gcy.m gc1 gc2 hcx.m hcy.m hc1 hc2) O O O O fun v37 z37 hz37 hv37=>?_
 rw [valR_c,valR_c] at hv37
 have hv37:=qv_op hv37
 obtain ⟨c37,d37,hv,hm37,hn37⟩:=hv37
 subst hv
 have hm37:=hm37.mono (zAq (hz13.trans hz21))
 have hn37:=hn37.mono (zAq (hz13.trans hz21))
 refine G1 2 O ?_
 refine gP rfl rfl trivial ?_
 refine fl_nilck rfl (lN ?_)
 refine G1 4 O ?_
 refine gl4 O O (.inr Y1) O ?_
 refine G1 2 O ?_
 refine gl4 O O Ht O ?_
 refine gC z37 (c_rat_Add (by omega) gdx.m gdy.m gd1 gd2 hdx.m hdy.m hd1 hd2) O O O O fun v45 z45 _ hv45=>?_
 rw [valR_c,valR_c] at hv45
 have hv45:=qv_op hv45
 obtain ⟨c45,d45,hv,hm45,hn45⟩:=hv45
 subst hv
 have hm45:=hm45.mono (zAq (hz13.trans (hz21.trans hz37)))
 have hn45:=hn45.mono (zAq (hz13.trans (hz21.trans hz37)))
 refine gP rfl rfl trivial ?_
 refine fl_nilck rfl (lN ?_)
 refine G1 4 O ?_
 refine gS O O O ?_
 refine fl_stE (cs':=[Cb (decide (((BB+p):Rat).num<0)),c13,Cb (decide (((((BB+p):Rat).den:Nat):Int)<0)),d13,Cb (decide (((S+q):Rat).num<0)),c21,Cb (decide (((((S+q):Rat).den:Nat):Int)<0)),d21,Cb (decide (((D+r):Rat).num<0)),c37,Cb (decide (((((D+r):Rat).den:Nat):Int)<0)),d37,Cb (decide ((I:Rat).num<0)),a6,Cb (decide ((((I:Rat).den:Nat):Int)<0)),a7]) rfl rfl rfl P1 rfl rfl (Nat.le_of_ble_eq_true rfl) ?_
 refine lN ?_
 refine gP rfl rfl trivial ?_
 refine fl_nilck rfl (lN ?_)
 refine G1 4 O ?_
 refine gS O O O ?_
 refine fl_stE (cs':=[Cb (decide (((BB+p):Rat).num<0)),c13,Cb (decide (((((BB+p):Rat).den:Nat):Int)<0)),d13,Cb (decide (((S+q):Rat).num<0)),c21,Cb (decide (((((S+q):Rat).den:Nat):Int)<0)),d21,Cb (decide (((D+r):Rat).num<0)),c37,Cb (decide (((((D+r):Rat).den:Nat):Int)<0)),d37,Cb (decide (((I+s):Rat).num<0)),c45,Cb (decide (((((I+s):Rat).den:Nat):Int)<0)),d45]) rfl rfl rfl P1 rfl rfl (Nat.le_of_ble_eq_true rfl) ?_
 refine lN ?_
 refine fg_nil ?_
 refine ret_h (.inr rfl) rn (List.sublist_append_right [_] _) ?_
 exact ⟨rfl,_,_,_,_,_,_,_,_,rfl,hm13.m,hn13.m,hm21.m,hn21.m,hm37.m,hn37.m,(hm45.mono zd_le),(hn45.mono zd_le)⟩
theorem c_rules_rules {k:Nat} (hk:1≤k) {z:Mem}  : FC (E k) 136 [] z fun v z'=>∃ b,v=.c (.mp b)∧z' b (.mp esR 11):=by
 refine fc_of (tS_get136) (by omega) (len1 rfl) fun B j hj=>?_
 refine R4 8 O ?_
 refine fl_mkm fun b1=>?_
 refine fl_mupd rfl rfl rfl rfl rep0 ?_
 refine fl_mupd rfl rfl rfl rfl rep0 ?_
 refine fl_mupd rfl rfl rfl rfl rep0 ?_
 refine fl_mupd rfl rfl rfl rfl rep0 ?_
 refine fl_mupd rfl rfl rfl rfl rep0 ?_
 refine fl_mupd rfl rfl rfl rfl rep0 ?_
 refine fl_mupd rfl rfl rfl rfl rep0 ?_
 refine fl_mupd rfl rfl rfl rfl rep0 ?_
 refine fl_mupd rfl rfl rfl rfl rep0 ?_
 refine fl_mupd rfl rfl rfl rfl rep0 ?_
 refine fl_mupd rfl rfl rfl rfl rep0 ?_
 refine R1 7 O ?_
 refine fl_frzZ z (p:=[]) rfl rfl rfl (fun _ h=>h) fun zffm _ fm=>?_
 refine lN ?_
 refine xT ?_
 exact rI O ⟨_,rfl,fm⟩
theorem rule_ok {k:Nat} (hk:15≤k) {kd:Int} {f:Nat} (h:ruleF kd=some f) {z:Mem} {p:Rat} {c1 c2:C} (hx:CZ 1 RW z c1 (toL p.num.natAbs)) (hy:CZ 1 RW z c2 (toL (p.den:Int).natAbs)) (h1:(toL p.num.natAbs).length≤1000) (h2:(toL (p.den:Int).natAbs).length≤1000) {q:Rat} {c3 c4:C} (hu:CZ 1 RW z c3 (toL q.num.natAbs)) (hw:CZ 1 RW z c4 (toL (q.den:Int).natAbs)) (h3:(toL q.num.natAbs).length≤1000) (h4:(toL (q.den:Int).natAbs).length≤1000):FC (E k) f [.agg [Cb (decide ((p:Rat).num<0)),c1,Cb (decide ((((p:Rat).den:Nat):Int)<0)),c2],.agg [Cb (decide ((q:Rat).num<0)),c3,Cb (decide ((((q:Rat).den:Nat):Int)<0)),c4]] z fun v z'=>∃ (B S D I:Rat) (e0 e1 e2 e3 e4 e5 e6 e7:C),B=bk kd p∧LB 2100 B∧LB 2100 S∧LB 2100 D∧LB 2100 I∧v=.agg [Cb (decide ((B:Rat).num<0)),e0,Cb (decide ((((B:Rat).den:Nat):Int)<0)),e1,Cb (decide ((S:Rat).num<0)),e2,Cb (decide ((((S:Rat).den:Nat):Int)<0)),e3,Cb (decide ((D:Rat).num<0)),e4,Cb (decide ((((D:Rat).den:Nat):Int)<0)),e5,Cb (decide ((I:Rat).num<0)),e6,Cb (decide ((((I:Rat).den:Nat):Int)<0)),e7]∧CZ 1 RW z' e0 (toL (B:Rat).num.natAbs)∧CZ 1 RW z' e1 (toL (((B:Rat).den:Nat):Int).natAbs)∧CZ 1 RW z' e2 (toL (S:Rat).num.natAbs)∧CZ 1 RW z' e3 (toL (((S:Rat).den:Nat):Int).natAbs)∧CZ 1 RW z' e4 (toL (D:Rat).num.natAbs)∧CZ 1 RW z' e5 (toL (((D:Rat).den:Nat):Int).natAbs)∧CZ 1 RW z' e6 (toL (I:Rat).num.natAbs)∧CZ 1 RW z' e7 (toL (((I:Rat).den:Nat):Int).natAbs):=by
 unfold ruleF at h
 split at h
 ·injection h with h
  subst h
  rename_i hkd
  subst hkd
  refine (c_rules_earned (by omega) hx hy h1 h2 hu hw h3 h4).mono fun v z' hz ⟨e0,e1,e2,e3,e4,e5,e6,e7,hv,k0,k1,k2,k3,k4,k5,k6,k7⟩=>?_
  exact ⟨_,_,_,_,e0,e1,e2,e3,e4,e5,e6,e7,(if_pos (by decide):bk 1 p=_).symm,(lb_up (m:=1000) ⟨h1,h2⟩),(lb_up (m:=1000) ⟨h1,h2⟩),(lb_0 _),(lb_0 _),hv,k0,k1,k2,k3,k4,k5,k6,k7⟩
 split at h
 ·injection h with h
  subst h
  rename_i hkd
  subst hkd
  refine (c_rules_earned (by omega) hx hy h1 h2 hu hw h3 h4).mono fun v z' hz ⟨e0,e1,e2,e3,e4,e5,e6,e7,hv,k0,k1,k2,k3,k4,k5,k6,k7⟩=>?_
  exact ⟨_,_,_,_,e0,e1,e2,e3,e4,e5,e6,e7,(if_pos (by decide):bk 10 p=_).symm,(lb_up (m:=1000) ⟨h1,h2⟩),(lb_up (m:=1000) ⟨h1,h2⟩),(lb_0 _),(lb_0 _),hv,k0,k1,k2,k3,k4,k5,k6,k7⟩
 split at h
 ·injection h with h
  subst h
  rename_i hkd
  subst hkd
  refine (c_rules_spent (by omega) hx hy h1 h2 hu hw h3 h4).mono fun v z' hz ⟨e0,e1,e2,e3,e4,e5,e6,e7,hv,k0,k1,k2,k3,k4,k5,k6,k7⟩=>?_
  exact ⟨_,_,_,_,e0,e1,e2,e3,e4,e5,e6,e7,((if_neg (by decide)).trans (if_pos (by decide)):bk 2 p=_).symm,(lb_neg (lb_up (m:=1000) ⟨h1,h2⟩)),(lb_neg (lb_up (m:=1000) ⟨h1,h2⟩)),(lb_0 _),(lb_0 _),hv,k0,k1,k2,k3,k4,k5,k6,k7⟩
 split at h
 ·injection h with h
  subst h
  rename_i hkd
  subst hkd
  refine (c_rules_booked (by omega) hx hy h1 h2 hu hw h3 h4).mono fun v z' hz ⟨e0,e1,e2,e3,e4,e5,e6,e7,hv,k0,k1,k2,k3,k4,k5,k6,k7⟩=>?_
  exact ⟨_,_,_,_,e0,e1,e2,e3,e4,e5,e6,e7,((if_neg (by decide)).trans (if_pos (by decide)):bk 6 p=_).symm,(lb_neg (lb_up (m:=1000) ⟨h1,h2⟩)),(lb_0 _),(lb_0 _),(lb_0 _),hv,k0,k1,k2,k3,k4,k5,k6,k7⟩
 split at h
 ·injection h with h
  subst h
  rename_i hkd
  subst hkd
  refine (c_rules_booked (by omega) hx hy h1 h2 hu hw h3 h4).mono fun v z' hz ⟨e0,e1,e2,e3,e4,e5,e6,e7,hv,k0,k1,k2,k3,k4,k5,k6,k7⟩=>?_
  exact ⟨_,_,_,_,e0,e1,e2,e3,e4,e5,e6,e7,((if_neg (by decide)).trans (if_pos (by decide)):bk 11 p=_).symm,(lb_neg (lb_up (m:=1000) ⟨h1,h2⟩)),(lb_0 _),(lb_0 _),(lb_0 _),hv,k0,k1,k2,k3,k4,k5,k6,k7⟩
 split at h
 ·injection h with h
  subst h
  rename_i hkd
  subst hkd
  refine (c_rules_rules_1 (by omega) hx hy h1 h2 hu hw h3 h4).mono fun v z' hz ⟨e0,e1,e2,e3,e4,e5,e6,e7,hv,k0,k1,k2,k3,k4,k5,k6,k7⟩=>?_
  exact ⟨_,_,_,_,e0,e1,e2,e3,e4,e5,e6,e7,(if_pos (by decide):bk 3 p=_).symm,(lb_up (m:=1000) ⟨h1,h2⟩),(lb_0 _),(lb_0 _),(lb_0 _),hv,k0,k1,k2,k3,k4,k5,k6,k7⟩
 split at h
 ·injection h with h
  subst h
  rename_i hkd
  subst hkd
  refine (c_rules_rules_2 (by omega) hx hy h1 h2 hu hw h3 h4).mono fun v z' hz ⟨e0,e1,e2,e3,e4,e5,e6,e7,hv,k0,k1,k2,k3,k4,k5,k6,k7⟩=>?_
  exact ⟨_,_,_,_,e0,e1,e2,e3,e4,e5,e6,e7,((if_neg (by decide)).trans (if_pos (by decide)):bk 4 p=_).symm,(lb_neg (lb_up (m:=1000) ⟨h1,h2⟩)),(lb_neg (lb_up (m:=2002) ⟨(mul_lb h1 h2 (sub_lb h3 h4).1 (sub_lb h3 h4).2).1,(mul_lb h1 h2 (sub_lb h3 h4).1 (sub_lb h3 h4).2).2⟩)),(lb_0 _),(lb_0 _),hv,k0,k1,k2,k3,k4,k5,k6,k7⟩
 split at h
 ·injection h with h
  subst h
  rename_i hkd
  subst hkd
  refine (c_rules_rules_3 (by omega) hx hy h1 h2 hu hw h3 h4).mono fun v z' hz ⟨e0,e1,e2,e3,e4,e5,e6,e7,hv,k0,k1,k2,k3,k4,k5,k6,k7⟩=>?_
  exact ⟨_,_,_,_,e0,e1,e2,e3,e4,e5,e6,e7,((if_neg (by decide)).trans (if_pos (by decide)):bk 5 p=_).symm,(lb_neg (lb_up (m:=1000) ⟨h1,h2⟩)),(lb_neg (lb_up (m:=1000) (min_lb h1 h2 h3 h4))),(lb_0 _),(lb_0 _),hv,k0,k1,k2,k3,k4,k5,k6,k7⟩
 split at h
 ·injection h with h
  subst h
  rename_i hkd
  subst hkd
  refine (c_rules_rules_4 (by omega) hx hy h1 h2 hu hw h3 h4).mono fun v z' hz ⟨e0,e1,e2,e3,e4,e5,e6,e7,hv,k0,k1,k2,k3,k4,k5,k6,k7⟩=>?_
  exact ⟨_,_,_,_,e0,e1,e2,e3,e4,e5,e6,e7,((if_neg (by decide)).trans (if_pos (by decide)):bk 7 p=_).symm,(lb_neg (lb_up (m:=1000) ⟨h1,h2⟩)),(lb_neg (lb_up (m:=1000) ⟨h1,h2⟩)),(lb_up (m:=1000) ⟨h1,h2⟩),(lb_0 _),hv,k0,k1,k2,k3,k4,k5,k6,k7⟩
 split at h
 ·injection h with h
  subst h
  rename_i hkd
  subst hkd
  refine (c_rules_rules_5 (by omega) hx hy h1 h2 hu hw h3 h4).mono fun v z' hz ⟨e0,e1,e2,e3,e4,e5,e6,e7,hv,k0,k1,k2,k3,k4,k5,k6,k7⟩=>?_
  exact ⟨_,_,_,_,e0,e1,e2,e3,e4,e5,e6,e7,(if_pos (by decide):bk 8 p=_).symm,(lb_up (m:=1000) ⟨h1,h2⟩),(lb_0 _),(lb_0 _),(lb_neg (lb_up (m:=1000) ⟨h1,h2⟩)),hv,k0,k1,k2,k3,k4,k5,k6,k7⟩
 split at h
 ·injection h with h
  subst h
  rename_i hkd
  subst hkd
  refine (c_rules_rules_6 (by omega) hx hy h1 h2 hu hw h3 h4).mono fun v z' hz ⟨e0,e1,e2,e3,e4,e5,e6,e7,hv,k0,k1,k2,k3,k4,k5,k6,k7⟩=>?_
  exact ⟨_,_,_,_,e0,e1,e2,e3,e4,e5,e6,e7,((if_neg (by decide)).trans (if_pos (by decide)):bk 9 p=_).symm,(lb_neg (lb_up (m:=1000) ⟨h1,h2⟩)),(lb_0 _),(lb_0 _),(lb_up (m:=1000) ⟨h1,h2⟩),hv,k0,k1,k2,k3,k4,k5,k6,k7⟩
 cases h
open Go.CE Go.RowKit Go.Num
open Go.Eng (setL)
structure PIt where
 kind:Int
 arg:PRat
 tot:PRat
def RIt:RT PIt:=fun z cs a=>∃ c0 c1 c2 c3,cs=[Cu a.kind,Cb a.arg.n,c0,Cb a.arg.d,c1,Cb a.tot.n,c2,Cb a.tot.d,c3]∧CZ 1 RW z c0 a.arg.nm∧CZ 1 RW z c1 a.arg.dm∧CZ 1 RW z c2 a.tot.nm∧CZ 1 RW z c3 a.tot.dm
instance:RMono RIt:=⟨fun hz ⟨c0,c1,c2,c3,h,g0,g1,g2,g3⟩=>⟨c0,c1,c2,c3,h,g0.mono hz,g1.mono hz,g2.mono hz,g3.mono hz⟩⟩
def bookL (l:List PIt):Rat:=l.foldl (fun q a=>q+bk a.kind (rv a.tot)) 0
theorem bl_step {l:List PIt} {i:Nat} {a:PIt} (h:l[i]? = some a):bookL (l.take (i+1))=bookL (l.take i)+bk a.kind (rv a.tot):=by
 rw [bookL,tk_some h,List.foldl_append]
 rfl
theorem lk_f {k:Int} {f:Nat} (h:ruleF k=some f):((ruleF k).map fun f=>(AV.c (.fn f [] []))).getD (mkAV false ([Value.nilFunc].map fun v=>.v v))=.c (.fn f [] []):=by rw [h];rfl
theorem lb_st {p q:Rat} {i:Nat} (h:LB (1+i * 2101) p) (g:LB 2100 q):LB (1+(i+1) * 2101) (p+q):=by
 have:=add_len h.1 h.2 g.1 g.2
 exact ⟨Nat.le_trans this.1 (by omega),Nat.le_trans this.2 (by omega)⟩
theorem g_1 {m k:Nat} {q:Rat} (h:LB m q) (hk:m≤k):(toL q.num.natAbs).length≤k:=Nat.le_trans h.1 hk
theorem g_2 {m k:Nat} {q:Rat} (h:LB m q) (hk:m≤k):(toL (q.den:Int).natAbs).length≤k:=Nat.le_trans h.2 hk
theorem z_n:(toL (0:Rat).num.natAbs).length≤9000000:=Nat.le_trans (m:=1) (toL_len.2 (by decide)) (by decide)
theorem z_d:(toL ((0:Rat).den:Int).natAbs).length≤9000000:=Nat.le_trans (m:=1) (toL_len.2 (by decide)) (by decide)
theorem one_fp {T:Mem} {b:Nat} {k:Blk} (h:∀ k,¬ T b k):∀ x,x∈fps [.blk b k]→∀ k,¬ T x k:=fun x hx=>by
 simp [fps,HA.fp] at hx;subst hx;exact h
theorem c_rules_Of {k:Nat} (hk:16≤k) {z:Mem} {v:AV} {l:List PIt} (hx:SZ 9 RIt z v l) (hl:l.length≤1000) (hs:∀ a,a∈l→(a.arg.nm.length≤999∧a.arg.dm.length≤999)∧(a.tot.nm.length≤999∧a.tot.dm.length≤999)):FC (E k) 66 [v] z fun u z'=>∃ (BB S D I:Rat) (e0 e1 e2 e3 e4 e5 e6 e7:C),BB=bookL l∧LB 3000000 BB∧u=.agg [Cb (decide ((BB:Rat).num<0)),e0,Cb (decide ((((BB:Rat).den:Nat):Int)<0)),e1,Cb (decide ((S:Rat).num<0)),e2,Cb (decide ((((S:Rat).den:Nat):Int)<0)),e3,Cb (decide ((D:Rat).num<0)),e4,Cb (decide ((((D:Rat).den:Nat):Int)<0)),e5,Cb (decide ((I:Rat).num<0)),e6,Cb (decide ((((I:Rat).den:Nat):Int)<0)),e7]∧CZ 1 RW z' e0 (toL (BB:Rat).num.natAbs)∧CZ 1 RW z' e1 (toL (((BB:Rat).den:Nat):Int).natAbs)∧CZ 1 RW z' e2 (toL (S:Rat).num.natAbs)∧CZ 1 RW z' e3 (toL (((S:Rat).den:Nat):Int).natAbs)∧CZ 1 RW z' e4 (toL (D:Rat).num.natAbs)∧CZ 1 RW z' e5 (toL (((D:Rat).den:Nat):Int).natAbs)∧CZ 1 RW z' e6 (toL (I:Rat).num.natAbs)∧CZ 1 RW z' e7 (toL (((I:Rat).den:Nat):Int).natAbs):=by
 have hxl:=hx.le
 refine fc_of (tS_get66) (by omega) (len1 rfl) fun B j hj=>?_
 refine xR ?_
 refine fl_alloc fun b2=>?_
 refine lN ?_
 refine xR ?_
 refine lZ z (c_rules_none (by omega)) rfl rfl fun v9 z9 hz9 ⟨e9_0,e9_1,e9_2,e9_3,e9_4,e9_5,e9_6,e9_7,hv9,k9_0,k9_1,k9_2,k9_3,k9_4,k9_5,k9_6,k9_7⟩=>?_
 subst hv9
 refine fl_bd (cs:=[_,_,_,_,_,_,_,_,_,_,_,_,_,_,_,_]) rfl ?_
 refine fl_bx rfl fun b11=>?_
 refine lZ z9 (c_rules_rules (by omega)) rfl rfl fun v12 z12 hz12 ⟨b12,hv12,hk12⟩=>?_
 subst hv12
 refine R2 50 O ?_
 refine fl_lenS rfl hx ?_
 refine R0 2 O ?_
 refine fx_seq (fx_block ?_)
 refine fx_loop (fun n fs=>∃ (i:Nat) (BB:Rat) (S:Rat) (D:Rat) (I:Rat) (a0:C) (a1:C) (a2:C) (a3:C) (a4:C) (a5:C) (a6:C) (a7:C) (zz:Mem),LZ z12 zz [.blk b11 (.cells 276 [Cb (decide ((BB:Rat).num<0)),a0,Cb (decide ((((BB:Rat).den:Nat):Int)<0)),a1,Cb (decide ((S:Rat).num<0)),a2,Cb (decide ((((S:Rat).den:Nat):Int)<0)),a3,Cb (decide ((D:Rat).num<0)),a4,Cb (decide ((((D:Rat).den:Nat):Int)<0)),a5,Cb (decide ((I:Rat).num<0)),a6,Cb (decide ((((I:Rat).den:Nat):Int)<0)),a7]),.blk b2 (.cells 162 [Cb false,Cz,Cb false,Cz,Cb false,Cz,Cb false,Cz,Cb false,Cz,Cb false,Cz,Cb false,Cz,Cb false,Cz])] [(2,Ap b2),(3,Ap b11),(4,.c (.mp b12)),(13,v),(14,Az l.length),(15,Az i)] fs∧n=l.length - i∧(i≤l.length)∧(BB=bookL (l.take i))∧(CZ 1 RW zz a0 (toL BB.num.natAbs))∧(CZ 1 RW zz a2 (toL S.num.natAbs))∧(CZ 1 RW zz a4 (toL D.num.natAbs))∧(CZ 1 RW zz a6 (toL I.num.natAbs))∧(CZ 1 RW zz a1 (toL (BB.den:Int).natAbs))∧(CZ 1 RW zz a3 (toL (S.den:Int).natAbs))∧(CZ 1 RW zz a5 (toL (D.den:Int).natAbs))∧(CZ 1 RW zz a7 (toL (I.den:Int).natAbs))∧(LB (1+i * 2101) BB)∧(LB (1+i * 2101) S)∧(LB (1+i * 2101) D)∧(LB (1+i * 2101) I)) ?_ _ ⟨0,0,0,0,0,e9_0,e9_1,e9_2,e9_3,e9_4,e9_5,e9_6,e9_7,_,LZ.m [] O,rfl,Nat.zero_le _,rfl,k9_0.m,k9_2.m,k9_4.m,k9_6.m,k9_1.m,k9_3.m,k9_5.m,k9_7.m,lb_0 _,lb_0 _,lb_0 _,lb_0 _⟩ (kK (by omega))
 intro n fs ⟨i,BB,S,D,I,a0,a1,a2,a3,a4,a5,a6,a7,zz,hL0,hmz0,hi,hB,m0,m1,m2,m3,n0,n1,n2,n3,g0,g1,g2,g3⟩
 refine hL0.open fun e hzz=>?_
 refine R5 8 O ?_
 refine xD rfl (fun hc16=>?_) (fun hc16=>?_)
 ·refine fx_kseq ?_
  refine fx_seq (fx_block ?_)
  refine xR ?_
  obtain ⟨a,ha⟩:=at_lt (l:=l) (i:=i) (by omega)
  have hsa:=hs a (List.mem_of_getElem? ha)
  refine fl_iadS (zz:=zz) rfl rfl hx.m i rfl a ha fun b17 p17 cs at17 hR=>?_
  obtain ⟨t0,t1,t2,t3,hcs,y0,y1,y2,y3⟩:=hR
  subst hcs
  refine fl_ldA (off:=0) rfl at17 rfl (by simp) rfl ?_
  refine fl_alloc fun b6=>?_
  refine fl_stAll rfl rfl rfl rfl rep0 ?_
  refine lN ?_
  refine R4 8 O ?_
  refine fl_ld1 rfl mem0 rfl ?_
  obtain ⟨w23,hw23⟩:∃ w,((ruleF a.kind).map fun f=>(AV.c (.fn f [] []))).getD (mkAV false ([Value.nilFunc].map fun v=>.v v))=w:=⟨_,rfl⟩
  refine fl_lookOk rfl rfl ((zI _ _ hk12)) (find_rule a.kind) hw23 ?_
  refine R2 89 O ?_
  refine fl_perm (List.Perm.swap _ _ _) ?_
  refine R0 3 O ?_
  refine fx_condB rfl (fun hc26=>?_) (fun hc26=>?_)
  ·refine fx_drw ?_
   refine fg_part (p:=[]) rfl fun hT11=>?_
   obtain ⟨f,hf⟩:=Option.isSome_iff_exists.1 (show (ruleF a.kind).isSome=true by simpa using hc26)
   have hlv:=hw23.symm.trans (lk_f hf)
   subst hlv
   refine G1 10 O ?_
   refine gl4 O O Ht O ?_
   refine gC zz (c_rules_zero (by omega)) O O O O fun v31 z31 hz31 hv31=>?_
   have hv31:=qv_op hv31
   obtain ⟨c31,d31,hv,hm31,hn31⟩:=hv31
   subst hv
   have hm31:=hm31.mono (zAq (hz9.trans (hz12.trans hzz)))
   have hn31:=hn31.mono (zAq (hz9.trans (hz12.trans hzz)))
   refine gC z31 (c_rat_Add (by omega) y2.m y3.m (Nat.le_trans hsa.2.1 (by decide)) (Nat.le_trans hsa.2.2 (by decide)) (hm31.mono zd_le) (hn31.mono zd_le) z_n z_d) O O O O fun v32 z32 hz32 hv32=>?_
   rw [valR_c,Rat.add_zero] at hv32
   have hv32:=qv_op hv32
   obtain ⟨c32,d32,hv,hm32,hn32⟩:=hv32
   subst hv
   have hm32:=hm32.mono (zAq (hz9.trans (hz12.trans (hzz.trans hz31))))
   have hn32:=hn32.mono (zAq (hz9.trans (hz12.trans (hzz.trans hz31))))
   refine G1 2 O ?_
   refine gl4 O O Ht O ?_
   refine gC z32 (c_rules_zero (by omega)) O O O O fun v35 z35 hz35 hv35=>?_
   have hv35:=qv_op hv35
   obtain ⟨c35,d35,hv,hm35,hn35⟩:=hv35
   subst hv
   have hm35:=hm35.mono (zAq (hz9.trans (hz12.trans (hzz.trans (hz31.trans hz32)))))
   have hn35:=hn35.mono (zAq (hz9.trans (hz12.trans (hzz.trans (hz31.trans hz32)))))
   refine gC z35 (c_rat_Add (by omega) y0.m y1.m (Nat.le_trans hsa.1.1 (by decide)) (Nat.le_trans hsa.1.2 (by decide)) (hm35.mono zd_le) (hn35.mono zd_le) z_n z_d) O O O O fun v36 z36 _ hv36=>?_
   rw [valR_c,Rat.add_zero] at hv36
   have hv36:=qv_op hv36
   obtain ⟨c36,d36,hv,hm36,hn36⟩:=hv36
   subst hv
   have hm36:=hm36.mono (zAq (hz9.trans (hz12.trans (hzz.trans (hz31.trans (hz32.trans hz35))))))
   have hn36:=hn36.mono (zAq (hz9.trans (hz12.trans (hzz.trans (hz31.trans (hz32.trans hz35))))))
   refine fg_callvZ z36 (i:=⟨_,_,.callv _ _⟩) rfl (rule_ok (p:=(rv a.tot)) (q:=(rv a.arg)) (by omega) hf hm32.m hn32.m (Nat.le_trans (Nat.le_trans (lenN (x:=((a.tot.n,a.tot.nm),(a.tot.d,a.tot.dm)))) hsa.2.1) (by decide)) (Nat.le_trans (Nat.le_trans (lenD (x:=((a.tot.n,a.tot.nm),(a.tot.d,a.tot.dm)))) (Nat.succ_le_succ hsa.2.2)) (by decide)) (hm36.mono zd_le) (hn36.mono zd_le) (Nat.le_trans (Nat.le_trans (lenN (x:=((a.arg.n,a.arg.nm),(a.arg.d,a.arg.dm)))) hsa.1.1) (by decide)) (Nat.le_trans (Nat.le_trans (lenD (x:=((a.arg.n,a.arg.nm),(a.arg.d,a.arg.dm)))) (Nat.succ_le_succ hsa.1.2)) (by decide))) rfl rfl trivial rfl rfl rfl rfl fun v37 z37 _ hv37=>?_
   obtain ⟨B1,S1,D1,I1,w0,w1,w2,w3,w4,w5,w6,w7,hbk,l0,l1,l2,l3,hv,x0,x1,x2,x3,x4,x5,x6,x7⟩:=hv37
   subst hv
   refine fg_callLZ z37 (i:=⟨_,_,.call _ _⟩) (c_rules_adder_add (by omega) m0.m n0.m (g_1 g0 (by omega)) (g_2 g0 (by omega)) m1.m n1.m (g_1 g1 (by omega)) (g_2 g1 (by omega)) m2.m n2.m (g_1 g2 (by omega)) (g_2 g2 (by omega)) m3.m n3.m (g_1 g3 (by omega)) (g_2 g3 (by omega)) x0 x1 (g_1 l0 (by decide)) (g_2 l0 (by decide)) x2 x3 (g_1 l1 (by decide)) (g_2 l1 (by decide)) x4 x5 (g_1 l2 (by decide)) (g_2 l2 (by decide)) x6 x7 (g_1 l3 (by decide)) (g_2 l3 (by decide))) rfl rfl trivial rfl rfl rfl rfl (one_fp hT11) rfl fun v38 z38 H38 _ hv38=>?_
   obtain ⟨hv,f0,f1,f2,f3,f4,f5,f6,f7,hH38,u0,u1,u2,u3,u4,u5,u6,u7⟩:=hv38
   subst hv hH38
   refine fg_nil ?_
   refine sq_n ?_
   refine xG ?_
   refine fl_perm (List.Perm.swap _ _ _) ?_
   refine lB rfl rfl (bI_add (n:=i+1) (by omega) (by omega)) ?_
   refine R0 2 O ?_
   exact lq_n (by omega) ⟨i+1,(BB+B1),(S+S1),(D+D1),(I+I1),f0,f1,f2,f3,f4,f5,f6,f7,_,LZ.m [_] O,rfl,by omega,by rw [bl_step ha,← hB,hbk],u0,u2,u4,u6,u1,u3,u5,u7,lb_st g0 l0,lb_st g1 l1,lb_st g2 l2,lb_st g3 l3⟩
  refine fx_skip ?_
  refine sq_n ?_
  refine xG ?_
  refine fl_perm (List.Perm.swap _ _ _) ?_
  refine lB rfl rfl (bI_add (n:=i+1) (by omega) (by omega)) ?_
  refine R0 2 O ?_
  exact lq_n (by omega) ⟨i+1,BB,S,D,I,a0,a1,a2,a3,a4,a5,a6,a7,_,LZ.m [_] O,rfl,by omega,by rw [bl_step ha,bk_no (by simpa using hc26),Rat.add_zero];exact hB,m0,m1,m2,m3,n0,n1,n2,n3,lb_up g0 (by omega),lb_up g1 (by omega),lb_up g2 (by omega),lb_up g3 (by omega)⟩
 refine fx_eseq ?_
 refine lq_e ?_
 refine sq_n ?_
 refine R4 4 O ?_
 refine fl_nilck rfl ?_
 refine lF rfl ?_
 refine fl_ldAll rfl mem0 rfl ?_
 refine fl_stAll rfl rfl rfl rfl P1 ?_
 refine lN ?_
 refine xT ?_
 refine rQ (.inl rfl) (rcAll rfl Y1 rfl rn) ?_
 rw [List.take_of_length_le (by omega)] at hB
 exact ⟨_,_,_,_,_,_,_,_,_,_,_,_,hB,lb_up g0 (by omega),rfl,m0,n0,m1,n1,m2,n2,m3,n3⟩
open Go.CE Go.RowKit Go.Num
open Go.Eng (setL)
def itemsL (cs:List PClass) (l:List PEn):List PIt:=l.filterMap fun a=>if 0≤a.cls then (cs[a.cls.toNat]?).map fun c=>⟨c.kind,c.arg,a.am⟩ else none
section
variable {cs:List PClass} {l:List PEn} {i:Nat} {a:PEn} {cl:PClass}
theorem it_yes (ha:l[i]? = some a) (hc:cs[a.cls.toNat]? = some cl) (h:0≤a.cls):itemsL cs (l.take (i+1))=itemsL cs (l.take i)++[⟨cl.kind,cl.arg,a.am⟩]:=by
 rw [itemsL,itemsL,tk_some ha,List.filterMap_append]
 congr 1
 simp only [List.filterMap_cons,List.filterMap_nil,if_pos h,hc,Option.map_some]
theorem it_no (ha:l[i]? = some a) (h:¬ (0≤a.cls∧a.cls<(cs.length:Int))):itemsL cs (l.take (i+1))=itemsL cs (l.take i):=by
 rw [itemsL,itemsL,tk_some ha,List.filterMap_append]
 have:(if 0≤a.cls then (cs[a.cls.toNat]?).map fun c=>(⟨c.kind,c.arg,a.am⟩:PIt) else none)=none:=by
  by_cases h0:0≤a.cls
  ·rw [if_pos h0,List.getElem?_eq_none (by omega)];rfl
  rw [if_neg h0]
 simp only [List.filterMap_cons,List.filterMap_nil,this,List.append_nil]
theorem it_len (hc:∀ a,a∈cs→a.arg.nm.length≤999∧a.arg.dm.length≤999) (hs:∀ a,a∈l→a.am.nm.length≤999∧a.am.dm.length≤999):∀ x,x∈itemsL cs l→(x.arg.nm.length≤999∧x.arg.dm.length≤999)∧(x.tot.nm.length≤999∧x.tot.dm.length≤999):=fun x hx=>by
 obtain ⟨a,ha,he⟩:=List.mem_filterMap.1 hx
 split at he
 ·cases hq:cs[a.cls.toNat]? with
  | none=>rw [hq] at he;cases he
  | some c=>rw [hq] at he;injection he with he;subst he;exact ⟨hc c (List.mem_of_getElem? hq),hs a ha⟩
 cases he
end
theorem c_elim_Book {k:Nat} (hk:17≤k) {z:Mem} {v w:AV} {cs:List PClass} {l:List PEn} (hx:SZ 6 RClass z v cs) (he:SZ 6 REn z w l) (hl:l.length≤1000) (hcs:∀ a,a∈cs→a.arg.nm.length≤999∧a.arg.dm.length≤999) (hs:∀ a,a∈l→a.am.nm.length≤999∧a.am.dm.length≤999):FC (E k) 21 [v,w] z fun u z'=>QV z' u (bookL (itemsL cs l))∧LB 3000000 (bookL (itemsL cs l)):=by
 have hxl:=hx.le
 have hel:=he.le
 refine fc_of (tS_get21) (by omega) (len1 rfl) fun B j hj=>?_
 refine xR ?_
 refine fl_al4 fun b4=>?_
 refine lN ?_
 refine R4 4 O ?_
 refine fl_row0 160 9 ?_
 refine lN ?_
 refine R4 12 O ?_
 refine fl_lenS rfl he ?_
 refine R0 2 O ?_
 refine fx_seq (fx_block ?_)
 refine fx_loop (fun n fs=>∃ (i:Nat) (u:AV) (csx:List C) (k0:Nat) (zz:Mem),LZ z zz [.row u 160 9 k0 csx,.blk b4 (.cells 35 [Cb false,Cz,Cb false,Cz])] [(0,v),(4,Ap b4),(5,u),(8,w),(9,Az l.length),(10,Az i)] fs∧n=l.length - i∧(i≤l.length)∧(CL 9 RIt zz csx (itemsL cs (l.take i)))∧((itemsL cs (l.take i)).length=k0)∧(k0≤i)) ?_ _ ⟨0,nilv,[],0,_,LZ.m [] O,rfl,Nat.zero_le _,CL.nil,rfl,Nat.le_refl _⟩ (kK (by omega))
 intro n fs ⟨i,u,csx,k0,zz,hL0,hmz0,hi,hc,hk0,hki⟩
 refine hL0.open fun e _=>?_
 refine R5 8 O ?_
 refine xD rfl (fun hc11=>?_) (fun hc11=>?_)
 ·refine fx_kseq ?_
  refine fx_seq (fx_block ?_)
  refine xR ?_
  obtain ⟨a,ha⟩:=at_lt (l:=l) (i:=i) (by omega)
  refine fl_iadS (zz:=zz) rfl rfl he.m i rfl a ha fun b12 p12 cs at12 hR=>?_
  obtain ⟨c12,d12,hcs,q12,r12⟩:=hR
  subst hcs
  refine fl_ldA (off:=0) rfl at12 rfl (by simp) rfl ?_
  refine fl_alloc fun b7=>?_
  refine fl_stAll rfl rfl rfl rfl rep0 ?_
  refine lN ?_
  refine R4 4 O ?_
  refine fl_ld1 rfl mem0 rfl ?_
  refine R1 4 O ?_
  refine fl_splitD 17 rfl (fun hg17=>?_) (fun hg17=>?_)
  ·refine lD rfl ?_
   refine lF rfl ?_
   refine lD rfl ?_
   refine fl_ld1 rfl mem0 rfl ?_
   refine lD rfl ?_
   refine lM rfl ?_
   refine lD rfl ?_
   refine fl_lenS rfl hx ?_
   refine R0 4 O ?_
   refine xD rfl (fun hc23=>?_) (fun hc23=>?_)
   ·refine fx_drw ?_
    obtain ⟨cl,hcl⟩:=at_lt (l:=cs) (i:=a.cls.toNat) (by omega)
    have hci:0≤a.cls:=by omega
    refine G1 11 O ?_
    refine gl1 O O Ht O ?_
    refine gP rfl rfl trivial ?_
    refine fl_iadS rfl rfl hx a.cls.toNat (by omega) cl hcl fun b28 p28 cs at28 hR=>lN ?_
    obtain ⟨c28,d28,hcs,q28,r28⟩:=hR
    subst hcs
    refine G1 2 O ?_
    refine fg_ldA (i:=⟨_,_,.load _ _ _⟩) (off:=1) rfl rfl trivial rfl at28 ti rfl (by simp) rfl sR ?_
    refine G1 5 O ?_
    refine gl1 O O Ht O ?_
    refine gP rfl rfl trivial ?_
    refine fl_iadS rfl rfl hx a.cls.toNat (by omega) cl hcl fun b34 p34 cs at34 hR=>lN ?_
    obtain ⟨c34,d34,hcs,q34,r34⟩:=hR
    subst hcs
    refine G1 2 O ?_
    refine fg_ldA (i:=⟨_,_,.load _ _ _⟩) (off:=2) rfl rfl trivial rfl at34 ti rfl (by simp) rfl sR ?_
    refine G1 2 O ?_
    refine gl4 O O Ht O ?_
    refine gP rfl rfl trivial ?_
    refine fl_bd (cs:=[Cu cl.kind,Cb cl.arg.n,c34,Cb cl.arg.d,d34,Cb a.am.n,c12,Cb a.am.d,d12]) rfl (lN ?_)
    refine fg_own (k:=.cells 160 [Cu cl.kind,Cb cl.arg.n,c34,Cb cl.arg.d,d34,Cb a.am.n,c12,Cb a.am.d,d12]) (w:=fun b=>.c (.sl b 0 1 9)) rfl trivial rfl (fun _=>rfl) (fun st hst=>?_) (fun b40 hT40=>?_)
    ·simp only [stepE,fillS,AS.ev,hst 39 (by simp [Ins.sl,Od.sls,Od.sl])];rfl
    refine fg_app (i:=⟨_,_,.app _ _ _ _ _ _⟩) rfl trivial rfl rfl rfl rfl ?_
    refine fl_appB (n:=k0) (m:=1) (cs:=csx) rfl rfl mem0 rfl (fun _=>repS P1) (by omega) (by omega) fun c41 hc41=>lN ?_
    refine G0 2 O ?_
    refine sq_n ?_
    refine xG ?_
    refine lB rfl rfl (bI_add (n:=i+1) (by omega) (by omega)) ?_
    refine R0 2 O ?_
    exact lq_n (by omega) ⟨i+1,_,_,k0+1,_,LZ.m [_,_] O,rfl,by omega,by rw [it_yes ha hcl hci];exact (hc).append (CL.one rfl ⟨_,_,_,_,rfl,q34.m,r34.m,q12,r12⟩),by rw [it_yes ha hcl hci,List.length_append,hk0];rfl,by omega⟩
   refine fx_skip ?_
   refine sq_n ?_
   refine xG ?_
   refine lB rfl rfl (bI_add (n:=i+1) (by omega) (by omega)) ?_
   refine R0 2 O ?_
   exact lq_n (by omega) ⟨i+1,u,csx,k0,_,LZ.m [_] O,rfl,by omega,by rw [it_no ha (fun h=>hc23 h.2)];exact hc,by rw [it_no ha (fun h=>hc23 h.2)];exact hk0,by omega⟩
  refine R3 128 O ?_
  refine fx_skip ?_
  refine sq_n ?_
  refine xG ?_
  refine lB rfl rfl (bI_add (n:=i+1) (by omega) (by omega)) ?_
  refine R0 2 O ?_
  exact lq_n (by omega) ⟨i+1,u,csx,k0,_,LZ.m [_] O,rfl,by omega,by rw [it_no ha (fun h=>hg17 h.1)];exact hc,by rw [it_no ha (fun h=>hg17 h.1)];exact hk0,by omega⟩
 refine fx_eseq ?_
 refine lq_e ?_
 refine sq_n ?_
 refine xR ?_
 rw [List.take_of_length_le (by omega)] at hk0
 have hc2:=hc
 rw [List.take_of_length_le (by omega)] at hc2
 refine fl_frzS (p:=[]) rfl hc2 hk0 (by omega) fun zw _ hsw=>?_
 refine lM rfl ?_
 refine lZ zw (c_rules_Of (by omega) hsw (by omega) (it_len hcs hs)) rfl rfl fun v44 z44 _ ⟨BB,S,D,I,e0,e1,e2,e3,e4,e5,e6,e7,hB,hLB,hv44,k0_,k1_,k2_,k3_,k4_,k5_,k6_,k7_⟩=>?_
 subst hv44
 refine fl_fld rfl (by simp) rfl ?_
 refine fl_st4 rfl rfl rep0 ?_
 refine lN ?_
 refine xT ?_
 refine rQ (.inl rfl) (rc4 rfl mem0 rn) ?_
 subst hB
 exact ⟨⟨_,_,rfl,k0_,k1_⟩,hLB⟩
end Go.Proofs.YtlceligcgelbdaaGreat
