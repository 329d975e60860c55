/- A copy is new; what is written over; the law, walked. -/
import Derived.WalkKit
import Derived.Orders
import Derived.KernelRfl
import Derived.Test.YtlhgffgfigkghaaGreatDoorKD3
set_option linter.unusedVariables false
set_option linter.unusedSimpArgs false
set_option maxRecDepth 100000
set_option maxHeartbeats 1000000
namespace Go.Proofs.YtlhgffgfigkghaaGreatDoor
open Go.CE Go.RowKit
open Go.Eng (setL)
theorem K0lt : 9223372036854775807 < K0 := by show _ < 18446744073709551616; omega
theorem clone_u32 {k : Nat} (hk : 1 ≤ k) {z : Mem} {v : AV} {l : List Int} (hv : SZ 1 (RU .u32) z v l) (hb : l.length ≤ 6) : FC (E k) 81 [v] z fun v' z' => SZ 1 (RU .u32) (zd z z') v' l := FCt.clone (clone_fc tS_get81 hk hv (by omega)) (fun h => h) (by omega)
theorem clone_str {k : Nat} (hk : 1 ≤ k) {z : Mem} {v : AV} {l : List ByteArray} (hv : SZ 1 RS z v l) (hb : l.length ≤ 1000) : FC (E k) 33 [v] z fun v' z' => SZ 1 RS (zd z z') v' l := FCt.clone (clone_fc tS_get33 hk hv (by omega)) (fun h => h) (by omega)
theorem own {k : Nat} (hk : 2 ≤ k) {z : Mem} {v : AV} {x : PRat} (hx : AZ RRat z v x) (hS : Sm x) : FC (E k) 28 [v] z fun v z' => AZ RRat (zd z z') v x := by
 obtain ⟨hS0, hS1⟩ := hS
 obtain ⟨_, rfl, cx_0, cx_1, rfl, hx_0, hx_1⟩ := hx
 refine fc_of (tS_get28) (by omega) (len1 rfl) fun B j hj => ?_
 refine fx_sr ?_
 refine fl_box rfl rfl fun b1 => ?_
 refine fl_alloc fun b2 => ?_
 refine fl_nil ?_
 refine fx_drwS ?_
 refine fg_pure rfl rfl trivial (fl_fad rfl (fl_nil (fg_pure rfl rfl trivial (fl_fad rfl (fl_nil ?_)))))
 refine fg_load (v := .c (cx_0)) (i := ⟨_, _, .load _ _ _⟩) rfl rfl trivial rfl (.inr (memS mem0)) rfl (len1 rfl) rfl (by simp [sameA, sameL, sameC_int, sameC_b, sameC_s, hx_0.refl]) ?_
 refine fg_call (i := ⟨_, _, .call _ _⟩) rfl rfl trivial rfl rfl rfl (clone_u32 (by omega) hx_0 (by omega)) fun v6 z6 hz6 hs6 => ?_
 obtain ⟨c6, hc6, hr6⟩ := SZ.one hs6
 subst hc6
 refine fg_pure rfl rfl trivial (fl_fad rfl (fl_nil (fg_pure rfl rfl trivial (fl_fad rfl (fl_nil ?_)))))
 refine fg_load (v := .c (cx_1)) (i := ⟨_, _, .load _ _ _⟩) rfl rfl trivial rfl (.inr (memS mem0)) rfl (len1 rfl) rfl (by simp [sameA, sameL, sameC_int, sameC_b, sameC_s, hx_1.refl]) ?_
 refine fg_call (i := ⟨_, _, .call _ _⟩) rfl rfl trivial rfl rfl rfl (clone_u32 (by omega) (hx_1.mono (hz6)) (by omega)) fun v10 z10 hz10 hs10 => ?_
 obtain ⟨c10, hc10, hr10⟩ := SZ.one hs10
 subst hc10
 have hs10 := hs10.mono (zd_anti (hz6))
 refine fg_pure rfl rfl trivial (fl_fad rfl (fl_nil (fg_pure rfl rfl trivial (fl_fad rfl (fl_nil ?_)))))
 refine fg_store (i := ⟨_, _, .store _ _ _⟩) rfl trivial rfl rfl rfl rfl ?_
 refine fl_stE (cs' := [.v (.bool x.n), c6, .v (.bool x.d), cx_1]) rfl rfl rfl (repS rep0) (by kernel_rfl) rfl (len1 rfl) ?_
 refine fl_nil (fg_pure rfl rfl trivial (fl_fad rfl (fl_nil (fg_pure rfl rfl trivial (fl_fad rfl (fl_nil ?_))))))
 refine fg_store (i := ⟨_, _, .store _ _ _⟩) rfl trivial rfl rfl rfl rfl ?_
 refine fl_stE (cs' := [.v (.bool x.n), c6, .v (.bool x.d), c10]) rfl rfl rfl (repS rep0) (by kernel_rfl) rfl (len1 rfl) ?_
 refine fl_nil ?_
 refine fg_nil ?_
 refine fx_sr ?_
 refine fl_ld (v := .agg [.v (.bool x.n), c6, .v (.bool x.d), c10]) rfl (memS mem0) (len1 rfl) rfl ?_
 refine fl_stE (cs' := [.v (.bool x.n), c6, .v (.bool x.d), c10]) rfl rfl rfl rep0 (by kernel_rfl) rfl (len1 rfl) ?_
 refine fl_nil ?_
 refine fx_ret ?_
 refine ret_q (.inl rfl) (rc rfl mem0 (len1 rfl) rfl rn) ?_
 exact ⟨_, rfl, mk_rat (hs6.mono (zd_mono (hz10))) hs10⟩
theorem cl_class {k : Nat} (hk : 3 ≤ k) {z : Mem} {b ty o : Nat} {cs ws : List C} {x : PClass} (hx : RClass z ws x) (hS : Sm x.arg) (hw : o + ws.length ≤ cs.length) : FCt (E k) 32 [.c (.ptr b o)] z [.blk b (.cells ty (setL cs o ws))] (ElemPost RClass b ty o cs ws x z) := by
 obtain ⟨cx_0, cx_1, rfl, hx_0, hx_1⟩ := hx
 refine fct_of (tS_get32) (by omega) (len1 rfl) fun B j hj => ?_
 refine fx_region ?_
 iterate 2 refine fl_mv rfl ?_
 refine fl_nilck rfl ?_
 refine fl_fad rfl ?_
 refine fl_ldW (v := .agg [.v (.bool x.arg.n), cx_0, .v (.bool x.arg.d), cx_1]) (ws := [.v (.string x.name), .v (.int .u8 x.kind), .v (.bool x.arg.n), cx_0, .v (.bool x.arg.d), cx_1]) rfl mem0 hw (len1 rfl) rfl ?_
 refine fl_call rfl (own (by omega) ⟨_, rfl, mk_rat hx_0 hx_1⟩ hS) fun v7 z7 hz7 ⟨_, hv7, c7_0, c7_1, hq7, h7_0, h7_1⟩ => ?_
 subst hq7
 subst hv7
 refine fl_nilck rfl ?_
 refine fl_fad rfl ?_
 refine fl_stW (ws' := [.v (.string x.name), .v (.int .u8 x.kind), .v (.bool x.arg.n), c7_0, .v (.bool x.arg.d), c7_1]) rfl rfl rfl rep0 hw (by kernel_rfl) rfl (len1 rfl) ?_
 refine fl_nil ?_
 refine ret_h (.inr rfl) rn (List.Sublist.refl _) ?_
 exact ⟨_, rfl, rfl, mk_class h7_0 h7_1⟩
theorem cl_hold {k : Nat} (hk : 3 ≤ k) {z : Mem} {b ty o : Nat} {cs ws : List C} {x : PHold} (hx : RHold z ws x) (hS : Sm x.share) (hw : o + ws.length ≤ cs.length) : FCt (E k) 86 [.c (.ptr b o)] z [.blk b (.cells ty (setL cs o ws))] (ElemPost RHold b ty o cs ws x z) := by
 obtain ⟨cx_0, cx_1, rfl, hx_0, hx_1⟩ := hx
 refine fct_of (tS_get86) (by omega) (len1 rfl) fun B j hj => ?_
 refine fx_region ?_
 iterate 2 refine fl_mv rfl ?_
 refine fl_nilck rfl ?_
 refine fl_fad rfl ?_
 refine fl_ldW (v := .agg [.v (.bool x.share.n), cx_0, .v (.bool x.share.d), cx_1]) (ws := [.v (.string x.owner), .v (.string x.owned), .v (.bool x.share.n), cx_0, .v (.bool x.share.d), cx_1]) rfl mem0 hw (len1 rfl) rfl ?_
 refine fl_call rfl (own (by omega) ⟨_, rfl, mk_rat hx_0 hx_1⟩ hS) fun v7 z7 hz7 ⟨_, hv7, c7_0, c7_1, hq7, h7_0, h7_1⟩ => ?_
 subst hq7
 subst hv7
 refine fl_nilck rfl ?_
 refine fl_fad rfl ?_
 refine fl_stW (ws' := [.v (.string x.owner), .v (.string x.owned), .v (.bool x.share.n), c7_0, .v (.bool x.share.d), c7_1]) rfl rfl rfl rep0 hw (by kernel_rfl) rfl (len1 rfl) ?_
 refine fl_nil ?_
 refine ret_h (.inr rfl) rn (List.Sublist.refl _) ?_
 exact ⟨_, rfl, rfl, mk_hold h7_0 h7_1⟩
theorem cl_book {k : Nat} (hk : 3 ≤ k) {z : Mem} {b ty o : Nat} {cs ws : List C} {x : PBook} (hx : RBook z ws x) (hS : Sm x.amount) (hw : o + ws.length ≤ cs.length) : FCt (E k) 88 [.c (.ptr b o)] z [.blk b (.cells ty (setL cs o ws))] (ElemPost RBook b ty o cs ws x z) := by
 obtain ⟨cx_0, cx_1, rfl, hx_0, hx_1⟩ := hx
 refine fct_of (tS_get88) (by omega) (len1 rfl) fun B j hj => ?_
 refine fx_region ?_
 iterate 2 refine fl_mv rfl ?_
 refine fl_nilck rfl ?_
 refine fl_fad rfl ?_
 refine fl_ldW (v := .agg [.v (.bool x.amount.n), cx_0, .v (.bool x.amount.d), cx_1]) (ws := [.v (.string x.entity), .v (.string x.cls), .v (.bool x.amount.n), cx_0, .v (.bool x.amount.d), cx_1]) rfl mem0 hw (len1 rfl) rfl ?_
 refine fl_call rfl (own (by omega) ⟨_, rfl, mk_rat hx_0 hx_1⟩ hS) fun v7 z7 hz7 ⟨_, hv7, c7_0, c7_1, hq7, h7_0, h7_1⟩ => ?_
 subst hq7
 subst hv7
 refine fl_nilck rfl ?_
 refine fl_fad rfl ?_
 refine fl_stW (ws' := [.v (.string x.entity), .v (.string x.cls), .v (.bool x.amount.n), c7_0, .v (.bool x.amount.d), c7_1]) rfl rfl rfl rep0 hw (by kernel_rfl) rfl (len1 rfl) ?_
 refine fl_nil ?_
 refine ret_h (.inr rfl) rn (List.Sublist.refl _) ?_
 exact ⟨_, rfl, rfl, mk_book h7_0 h7_1⟩
theorem cl_deal {k : Nat} (hk : 3 ≤ k) {z : Mem} {b ty o : Nat} {cs ws : List C} {x : PDeal} (hx : RDeal z ws x) (hS : Sm x.amount) (hw : o + ws.length ≤ cs.length) : FCt (E k) 90 [.c (.ptr b o)] z [.blk b (.cells ty (setL cs o ws))] (ElemPost RDeal b ty o cs ws x z) := by
 obtain ⟨cx_0, cx_1, rfl, hx_0, hx_1⟩ := hx
 refine fct_of (tS_get90) (by omega) (len1 rfl) fun B j hj => ?_
 refine fx_region ?_
 iterate 2 refine fl_mv rfl ?_
 refine fl_nilck rfl ?_
 refine fl_fad rfl ?_
 refine fl_ldW (v := .agg [.v (.bool x.amount.n), cx_0, .v (.bool x.amount.d), cx_1]) (ws := [.v (.bool x.give), .v (.string x.id), .v (.int .u8 x.kind), .v (.string x.payee), .v (.string x.payer), .v (.string x.cls), .v (.bool x.amount.n), cx_0, .v (.bool x.amount.d), cx_1]) rfl mem0 hw (len1 rfl) rfl ?_
 refine fl_call rfl (own (by omega) ⟨_, rfl, mk_rat hx_0 hx_1⟩ hS) fun v7 z7 hz7 ⟨_, hv7, c7_0, c7_1, hq7, h7_0, h7_1⟩ => ?_
 subst hq7
 subst hv7
 refine fl_nilck rfl ?_
 refine fl_fad rfl ?_
 refine fl_stW (ws' := [.v (.bool x.give), .v (.string x.id), .v (.int .u8 x.kind), .v (.string x.payee), .v (.string x.payer), .v (.string x.cls), .v (.bool x.amount.n), c7_0, .v (.bool x.amount.d), c7_1]) rfl rfl rfl rep0 hw (by kernel_rfl) rfl (len1 rfl) ?_
 refine fl_nil ?_
 refine ret_h (.inr rfl) rn (List.Sublist.refl _) ?_
 exact ⟨_, rfl, rfl, mk_deal h7_0 h7_1⟩
theorem cl_sold {k : Nat} (hk : 3 ≤ k) {z : Mem} {b ty o : Nat} {cs ws : List C} {x : PSold} (hx : RSold z ws x) (hS : Sm x.share) (hw : o + ws.length ≤ cs.length) : FCt (E k) 94 [.c (.ptr b o)] z [.blk b (.cells ty (setL cs o ws))] (ElemPost RSold b ty o cs ws x z) := by
 obtain ⟨cx_0, cx_1, rfl, hx_0, hx_1⟩ := hx
 refine fct_of (tS_get94) (by omega) (len1 rfl) fun B j hj => ?_
 refine fx_region ?_
 iterate 2 refine fl_mv rfl ?_
 refine fl_nilck rfl ?_
 refine fl_fad rfl ?_
 refine fl_ldW (v := .agg [.v (.bool x.share.n), cx_0, .v (.bool x.share.d), cx_1]) (ws := [.v (.string x.id), .v (.bool x.share.n), cx_0, .v (.bool x.share.d), cx_1]) rfl mem0 hw (len1 rfl) rfl ?_
 refine fl_call rfl (own (by omega) ⟨_, rfl, mk_rat hx_0 hx_1⟩ hS) fun v7 z7 hz7 ⟨_, hv7, c7_0, c7_1, hq7, h7_0, h7_1⟩ => ?_
 subst hq7
 subst hv7
 refine fl_nilck rfl ?_
 refine fl_fad rfl ?_
 refine fl_stW (ws' := [.v (.string x.id), .v (.bool x.share.n), c7_0, .v (.bool x.share.d), c7_1]) rfl rfl rfl rep0 hw (by kernel_rfl) rfl (len1 rfl) ?_
 refine fl_nil ?_
 refine ret_h (.inr rfl) rn (List.Sublist.refl _) ?_
 exact ⟨_, rfl, rfl, mk_sold h7_0 h7_1⟩
theorem cl_bracket {k : Nat} (hk : 3 ≤ k) {z : Mem} {b ty o : Nat} {cs ws : List C} {x : PBracket} (hx : RBracket z ws x) (hS : Sm x.frm) (hS2 : Sm x.rate) (hw : o + ws.length ≤ cs.length) : FCt (E k) 30 [.c (.ptr b o)] z [.blk b (.cells ty (setL cs o ws))] (ElemPost RBracket b ty o cs ws x z) := by
 obtain ⟨cx_0, cx_1, cx_2, cx_3, rfl, hx_0, hx_1, hx_2, hx_3⟩ := hx
 refine fct_of (tS_get30) (by omega) (len1 rfl) fun B j hj => ?_
 refine fx_drw ?_
 refine fg_pure rfl rfl trivial (fl_mv rfl (fl_nil (fg_pure rfl rfl trivial (fl_mv rfl (fl_nil (fg_pure rfl rfl trivial (fl_mv rfl (fl_nil (fg_pure rfl rfl trivial ?_)))))))))
 refine fl_nilck rfl ?_
 refine fl_nil (fg_pure rfl rfl trivial (fl_fad rfl (fl_nil ?_)))
 refine fg_ldW (v := .agg [.v (.bool x.frm.n), cx_0, .v (.bool x.frm.d), cx_1]) (ws := [.v (.bool x.frm.n), cx_0, .v (.bool x.frm.d), cx_1, .v (.bool x.rate.n), cx_2, .v (.bool x.rate.d), cx_3]) (i := ⟨_, _, .load _ _ _⟩) rfl rfl trivial rfl (.inr mem0) hw (len1 rfl) rfl (by simp [sameA, sameL, sameC_int, sameC_b, sameC_s, hx_0.refl, hx_1.refl]) ?_
 refine fg_call (i := ⟨_, _, .call _ _⟩) rfl rfl trivial rfl rfl rfl (own (by omega) ⟨_, rfl, mk_rat hx_0 hx_1⟩ hS) fun v8 z8 hz8 ⟨_, hv8, c8_0, c8_1, hq8, h8_0, h8_1⟩ => ?_
 subst hq8
 subst hv8
 refine fg_pure rfl rfl trivial (fl_mv rfl (fl_nil (fg_pure rfl rfl trivial ?_)))
 refine fl_nilck rfl ?_
 refine fl_nil (fg_pure rfl rfl trivial (fl_fad rfl (fl_nil ?_)))
 refine fg_ldW (v := .agg [.v (.bool x.rate.n), cx_2, .v (.bool x.rate.d), cx_3]) (ws := [.v (.bool x.frm.n), cx_0, .v (.bool x.frm.d), cx_1, .v (.bool x.rate.n), cx_2, .v (.bool x.rate.d), cx_3]) (i := ⟨_, _, .load _ _ _⟩) rfl rfl trivial rfl (.inr mem0) hw (len1 rfl) rfl (by simp [sameA, sameL, sameC_int, sameC_b, sameC_s, hx_2.refl, hx_3.refl]) ?_
 refine fg_call (i := ⟨_, _, .call _ _⟩) rfl rfl trivial rfl rfl rfl (own (by omega) ⟨_, rfl, mk_rat (hx_2.mono (hz8)) (hx_3.mono (hz8))⟩ hS2) fun v13 z13 hz13 ⟨_, hv13, c13_0, c13_1, hq13, h13_0, h13_1⟩ => ?_
 subst hq13
 subst hv13
 have h13_0 := h13_0.mono (zd_anti (hz8))
 have h13_1 := h13_1.mono (zd_anti (hz8))
 refine fg_pure rfl rfl trivial ?_
 refine fl_nilck rfl ?_
 refine fl_nil (fg_pure rfl rfl trivial (fl_fad rfl (fl_nil ?_)))
 refine fg_store (i := ⟨_, _, .store _ _ _⟩) rfl trivial rfl rfl rfl rfl ?_
 refine fl_stW (ws' := [.v (.bool x.frm.n), c8_0, .v (.bool x.frm.d), c8_1, .v (.bool x.rate.n), cx_2, .v (.bool x.rate.d), cx_3]) rfl rfl rfl rep0 hw (by kernel_rfl) rfl (len1 rfl) ?_
 refine fl_nil (fg_pure rfl rfl trivial ?_)
 refine fl_nilck rfl ?_
 refine fl_nil (fg_pure rfl rfl trivial (fl_fad rfl (fl_nil ?_)))
 refine fg_store (i := ⟨_, _, .store _ _ _⟩) rfl trivial rfl rfl rfl rfl ?_
 refine fl_stW (ws' := [.v (.bool x.frm.n), c8_0, .v (.bool x.frm.d), c8_1, .v (.bool x.rate.n), c13_0, .v (.bool x.rate.d), c13_1]) rfl rfl rfl rep0 hw (by kernel_rfl) rfl (len1 rfl) ?_
 refine fl_nil ?_
 refine fg_nil ?_
 refine ret_h (.inr rfl) rn (List.Sublist.refl _) ?_
 exact ⟨_, rfl, rfl, mk_bracket (h8_0.mono (zd_mono (hz13))) (h8_1.mono (zd_mono (hz13))) h13_0 h13_1⟩
theorem cl_stock {k : Nat} (hk : 3 ≤ k) {z : Mem} {b ty o : Nat} {cs ws : List C} {x : PStock} (hx : RStock z ws x) (hS : Sm x.margin) (hS2 : Sm x.unsold) (hw : o + ws.length ≤ cs.length) : FCt (E k) 92 [.c (.ptr b o)] z [.blk b (.cells ty (setL cs o ws))] (ElemPost RStock b ty o cs ws x z) := by
 obtain ⟨cx_0, cx_1, cx_2, cx_3, rfl, hx_0, hx_1, hx_2, hx_3⟩ := hx
 refine fct_of (tS_get92) (by omega) (len1 rfl) fun B j hj => ?_
 refine fx_drw ?_
 refine fg_pure rfl rfl trivial (fl_mv rfl (fl_nil (fg_pure rfl rfl trivial (fl_mv rfl (fl_nil (fg_pure rfl rfl trivial (fl_mv rfl (fl_nil (fg_pure rfl rfl trivial ?_)))))))))
 refine fl_nilck rfl ?_
 refine fl_nil (fg_pure rfl rfl trivial (fl_fad rfl (fl_nil ?_)))
 refine fg_ldW (v := .agg [.v (.bool x.margin.n), cx_0, .v (.bool x.margin.d), cx_1]) (ws := [.v (.string x.id), .v (.bool x.margin.n), cx_0, .v (.bool x.margin.d), cx_1, .v (.bool x.unsold.n), cx_2, .v (.bool x.unsold.d), cx_3]) (i := ⟨_, _, .load _ _ _⟩) rfl rfl trivial rfl (.inr mem0) hw (len1 rfl) rfl (by simp [sameA, sameL, sameC_int, sameC_b, sameC_s, hx_0.refl, hx_1.refl]) ?_
 refine fg_call (i := ⟨_, _, .call _ _⟩) rfl rfl trivial rfl rfl rfl (own (by omega) ⟨_, rfl, mk_rat hx_0 hx_1⟩ hS) fun v8 z8 hz8 ⟨_, hv8, c8_0, c8_1, hq8, h8_0, h8_1⟩ => ?_
 subst hq8
 subst hv8
 refine fg_pure rfl rfl trivial (fl_mv rfl (fl_nil (fg_pure rfl rfl trivial ?_)))
 refine fl_nilck rfl ?_
 refine fl_nil (fg_pure rfl rfl trivial (fl_fad rfl (fl_nil ?_)))
 refine fg_ldW (v := .agg [.v (.bool x.unsold.n), cx_2, .v (.bool x.unsold.d), cx_3]) (ws := [.v (.string x.id), .v (.bool x.margin.n), cx_0, .v (.bool x.margin.d), cx_1, .v (.bool x.unsold.n), cx_2, .v (.bool x.unsold.d), cx_3]) (i := ⟨_, _, .load _ _ _⟩) rfl rfl trivial rfl (.inr mem0) hw (len1 rfl) rfl (by simp [sameA, sameL, sameC_int, sameC_b, sameC_s, hx_2.refl, hx_3.refl]) ?_
 refine fg_call (i := ⟨_, _, .call _ _⟩) rfl rfl trivial rfl rfl rfl (own (by omega) ⟨_, rfl, mk_rat (hx_2.mono (hz8)) (hx_3.mono (hz8))⟩ hS2) fun v13 z13 hz13 ⟨_, hv13, c13_0, c13_1, hq13, h13_0, h13_1⟩ => ?_
 subst hq13
 subst hv13
 have h13_0 := h13_0.mono (zd_anti (hz8))
 have h13_1 := h13_1.mono (zd_anti (hz8))
 refine fg_pure rfl rfl trivial ?_
 refine fl_nilck rfl ?_
 refine fl_nil (fg_pure rfl rfl trivial (fl_fad rfl (fl_nil ?_)))
 refine fg_store (i := ⟨_, _, .store _ _ _⟩) rfl trivial rfl rfl rfl rfl ?_
 refine fl_stW (ws' := [.v (.string x.id), .v (.bool x.margin.n), c8_0, .v (.bool x.margin.d), c8_1, .v (.bool x.unsold.n), cx_2, .v (.bool x.unsold.d), cx_3]) rfl rfl rfl rep0 hw (by kernel_rfl) rfl (len1 rfl) ?_
 refine fl_nil (fg_pure rfl rfl trivial ?_)
 refine fl_nilck rfl ?_
 refine fl_nil (fg_pure rfl rfl trivial (fl_fad rfl (fl_nil ?_)))
 refine fg_store (i := ⟨_, _, .store _ _ _⟩) rfl trivial rfl rfl rfl rfl ?_
 refine fl_stW (ws' := [.v (.string x.id), .v (.bool x.margin.n), c8_0, .v (.bool x.margin.d), c8_1, .v (.bool x.unsold.n), c13_0, .v (.bool x.unsold.d), c13_1]) rfl rfl rfl rep0 hw (by kernel_rfl) rfl (len1 rfl) ?_
 refine fl_nil ?_
 refine fg_nil ?_
 refine ret_h (.inr rfl) rn (List.Sublist.refl _) ?_
 exact ⟨_, rfl, rfl, mk_stock (h8_0.mono (zd_mono (hz13))) (h8_1.mono (zd_mono (hz13))) h13_0 h13_1⟩
theorem copied_class {k : Nat} (hk : 4 ≤ k) {z : Mem} {v : AV} {l : List PClass} (hv : SZ 6 RClass z v l) (hl : l.length ≤ 1000) (hS : ∀ a, a ∈ l → Sm a.arg) : FC (E k) 31 [v, .c (.fn 32 [] [])] z fun v' z' => SZ 6 RClass (zd z z') v' l :=
 copied_fc tS_get31 tS_get83 (by omega) K0lt hv (by omega) (by omega) fun j z' b o cs ws a e hz ha hR hw => cl_class (by omega) (RMono.mono hz hR) (hS a ha) hw
theorem copied_hold {k : Nat} (hk : 4 ≤ k) {z : Mem} {v : AV} {l : List PHold} (hv : SZ 6 RHold z v l) (hl : l.length ≤ 1000) (hS : ∀ a, a ∈ l → Sm a.share) : FC (E k) 85 [v, .c (.fn 86 [] [])] z fun v' z' => SZ 6 RHold (zd z z') v' l :=
 copied_fc tS_get85 tS_get148 (by omega) K0lt hv (by omega) (by omega) fun j z' b o cs ws a e hz ha hR hw => cl_hold (by omega) (RMono.mono hz hR) (hS a ha) hw
theorem copied_book {k : Nat} (hk : 4 ≤ k) {z : Mem} {v : AV} {l : List PBook} (hv : SZ 6 RBook z v l) (hl : l.length ≤ 1000) (hS : ∀ a, a ∈ l → Sm a.amount) : FC (E k) 87 [v, .c (.fn 88 [] [])] z fun v' z' => SZ 6 RBook (zd z z') v' l :=
 copied_fc tS_get87 tS_get149 (by omega) K0lt hv (by omega) (by omega) fun j z' b o cs ws a e hz ha hR hw => cl_book (by omega) (RMono.mono hz hR) (hS a ha) hw
theorem copied_deal {k : Nat} (hk : 4 ≤ k) {z : Mem} {v : AV} {l : List PDeal} (hv : SZ 10 RDeal z v l) (hl : l.length ≤ 1000) (hS : ∀ a, a ∈ l → Sm a.amount) : FC (E k) 89 [v, .c (.fn 90 [] [])] z fun v' z' => SZ 10 RDeal (zd z z') v' l :=
 copied_fc tS_get89 tS_get150 (by omega) K0lt hv (by omega) (by omega) fun j z' b o cs ws a e hz ha hR hw => cl_deal (by omega) (RMono.mono hz hR) (hS a ha) hw
theorem copied_sold {k : Nat} (hk : 4 ≤ k) {z : Mem} {v : AV} {l : List PSold} (hv : SZ 5 RSold z v l) (hl : l.length ≤ 1000) (hS : ∀ a, a ∈ l → Sm a.share) : FC (E k) 93 [v, .c (.fn 94 [] [])] z fun v' z' => SZ 5 RSold (zd z z') v' l :=
 copied_fc tS_get93 tS_get152 (by omega) K0lt hv (by omega) (by omega) fun j z' b o cs ws a e hz ha hR hw => cl_sold (by omega) (RMono.mono hz hR) (hS a ha) hw
theorem copied_bracket {k : Nat} (hk : 4 ≤ k) {z : Mem} {v : AV} {l : List PBracket} (hv : SZ 8 RBracket z v l) (hl : l.length ≤ 1000) (hS : ∀ a, a ∈ l → Sm a.frm) (hS2 : ∀ a, a ∈ l → Sm a.rate) : FC (E k) 29 [v, .c (.fn 30 [] [])] z fun v' z' => SZ 8 RBracket (zd z z') v' l :=
 copied_fc tS_get29 tS_get82 (by omega) K0lt hv (by omega) (by omega) fun j z' b o cs ws a e hz ha hR hw => cl_bracket (by omega) (RMono.mono hz hR) (hS a ha) (hS2 a ha) hw
theorem copied_stock {k : Nat} (hk : 4 ≤ k) {z : Mem} {v : AV} {l : List PStock} (hv : SZ 9 RStock z v l) (hl : l.length ≤ 1000) (hS : ∀ a, a ∈ l → Sm a.margin) (hS2 : ∀ a, a ∈ l → Sm a.unsold) : FC (E k) 91 [v, .c (.fn 92 [] [])] z fun v' z' => SZ 9 RStock (zd z z') v' l :=
 copied_fc tS_get91 tS_get151 (by omega) K0lt hv (by omega) (by omega) fun j z' b o cs ws a e hz ha hR hw => cl_stock (by omega) (RMono.mono hz hR) (hS a ha) (hS2 a ha) hw
theorem cl_year {k : Nat} (hk : 5 ≤ k) {z : Mem} {b ty o : Nat} {cs ws : List C} {x : PYear} (hx : RYear z ws x) (hS : SmY x) (hw : o + ws.length ≤ cs.length) : FCt (E k) 35 [.c (.ptr b o)] z [.blk b (.cells ty (setL cs o ws))] (ElemPost RYear b ty o cs ws x z) := by
 obtain ⟨cx_0, cx_1, cx_2, cx_3, cx_4, rfl, hx_0, hx_1, hx_2, hx_3, hx_4⟩ := hx
 refine fct_of (tS_get35) (by omega) (len1 rfl) fun B j hj => ?_
 refine fx_sr (fl_mv rfl (fl_mv rfl ?_))
 refine fl_nilck rfl ?_
 refine fl_fad rfl ?_
 refine fl_ldW (v := .c (cx_0)) (ws := [.v (.int .i64 x.number), cx_0, cx_1, cx_2, cx_3, cx_4]) rfl mem0 hw (len1 rfl) rfl ?_
 refine fl_call rfl (copied_hold (by omega) hx_0 (by have := hS.l0; omega) hS.r0) fun v7 z7 hz7 hs7 => ?_
 obtain ⟨c7, hc7, hr7⟩ := SZ.one hs7
 subst hc7
 refine fl_nilck rfl ?_
 refine fl_fad rfl ?_
 refine fl_stW (ws' := [.v (.int .i64 x.number), c7, cx_1, cx_2, cx_3, cx_4]) rfl rfl rfl rep0 hw (by kernel_rfl) rfl (len1 rfl) ?_
 refine fl_nil (fx_sr (fl_mv rfl (fl_mv rfl ?_)))
 refine fl_nilck rfl ?_
 refine fl_fad rfl ?_
 refine fl_ldW (v := .c (cx_1)) (ws := [.v (.int .i64 x.number), c7, cx_1, cx_2, cx_3, cx_4]) rfl mem0 hw (len1 rfl) rfl ?_
 refine fl_call rfl (copied_book (by omega) (hx_1.mono (hz7)) (by have := hS.l1; omega) hS.r1) fun v15 z15 hz15 hs15 => ?_
 obtain ⟨c15, hc15, hr15⟩ := SZ.one hs15
 subst hc15
 have hs15 := hs15.mono (zd_anti (hz7))
 refine fl_nilck rfl ?_
 refine fl_fad rfl ?_
 refine fl_stW (ws' := [.v (.int .i64 x.number), c7, c15, cx_2, cx_3, cx_4]) rfl rfl rfl rep0 hw (by kernel_rfl) rfl (len1 rfl) ?_
 refine fl_nil (fx_sr (fl_mv rfl (fl_mv rfl ?_)))
 refine fl_nilck rfl ?_
 refine fl_fad rfl ?_
 refine fl_ldW (v := .c (cx_2)) (ws := [.v (.int .i64 x.number), c7, c15, cx_2, cx_3, cx_4]) rfl mem0 hw (len1 rfl) rfl ?_
 refine fl_call rfl (copied_deal (by omega) (hx_2.mono (hz7.trans hz15)) (by have := hS.l2; omega) hS.r2) fun v23 z23 hz23 hs23 => ?_
 obtain ⟨c23, hc23, hr23⟩ := SZ.one hs23
 subst hc23
 have hs23 := hs23.mono (zd_anti (hz7.trans hz15))
 refine fl_nilck rfl ?_
 refine fl_fad rfl ?_
 refine fl_stW (ws' := [.v (.int .i64 x.number), c7, c15, c23, cx_3, cx_4]) rfl rfl rfl rep0 hw (by kernel_rfl) rfl (len1 rfl) ?_
 refine fl_nil (fx_sr (fl_mv rfl (fl_mv rfl ?_)))
 refine fl_nilck rfl ?_
 refine fl_fad rfl ?_
 refine fl_ldW (v := .c (cx_3)) (ws := [.v (.int .i64 x.number), c7, c15, c23, cx_3, cx_4]) rfl mem0 hw (len1 rfl) rfl ?_
 refine fl_call rfl (copied_stock (by omega) (hx_3.mono (hz7.trans (hz15.trans hz23))) (by have := hS.l3; omega) hS.r3 hS.r3') fun v31 z31 hz31 hs31 => ?_
 obtain ⟨c31, hc31, hr31⟩ := SZ.one hs31
 subst hc31
 have hs31 := hs31.mono (zd_anti (hz7.trans (hz15.trans hz23)))
 refine fl_nilck rfl ?_
 refine fl_fad rfl ?_
 refine fl_stW (ws' := [.v (.int .i64 x.number), c7, c15, c23, c31, cx_4]) rfl rfl rfl rep0 hw (by kernel_rfl) rfl (len1 rfl) ?_
 refine fl_nil ?_
 refine fx_region ?_
 iterate 2 refine fl_mv rfl ?_
 refine fl_nilck rfl ?_
 refine fl_fad rfl ?_
 refine fl_ldW (v := .c (cx_4)) (ws := [.v (.int .i64 x.number), c7, c15, c23, c31, cx_4]) rfl mem0 hw (len1 rfl) rfl ?_
 refine fl_call rfl (copied_sold (by omega) (hx_4.mono (hz7.trans (hz15.trans (hz23.trans hz31)))) (by have := hS.l4; omega) hS.r4) fun v39 z39 hz39 hs39 => ?_
 obtain ⟨c39, hc39, hr39⟩ := SZ.one hs39
 subst hc39
 have hs39 := hs39.mono (zd_anti (hz7.trans (hz15.trans (hz23.trans hz31))))
 refine fl_nilck rfl ?_
 refine fl_fad rfl ?_
 refine fl_stW (ws' := [.v (.int .i64 x.number), c7, c15, c23, c31, c39]) rfl rfl rfl rep0 hw (by kernel_rfl) rfl (len1 rfl) ?_
 refine fl_nil ?_
 refine ret_h (.inr rfl) rn (List.Sublist.refl _) ?_
 exact ⟨_, rfl, rfl, mk_year (hs7.mono (zd_mono (hz15.trans (hz23.trans (hz31.trans hz39))))) (hs15.mono (zd_mono (hz23.trans (hz31.trans hz39)))) (hs23.mono (zd_mono (hz31.trans hz39))) (hs31.mono (zd_mono (hz39))) hs39⟩
theorem copied_year {k : Nat} (hk : 6 ≤ k) {z : Mem} {v : AV} {l : List PYear} (hv : SZ 6 RYear z v l) (hl : l.length ≤ 1000) (hS : ∀ a, a ∈ l → SmY a) : FC (E k) 34 [v, .c (.fn 35 [] [])] z fun v' z' => SZ 6 RYear (zd z z') v' l :=
 copied_fc tS_get34 tS_get84 (by omega) K0lt hv (by omega) (by omega) fun j z' b o cs ws a e hz ha hR hw => cl_year (by omega) (RMono.mono hz hR) (hS a ha) hw
theorem copy_filing {k : Nat} (hk : 7 ≤ k) {z : Mem} {v : AV} {x : PFiling} (hx : AZ RFiling z v x) (hS : SmF x) : FC (E k) 9 [v] z fun v z' => AZ RFiling (zd z z') v x := by
 obtain ⟨_, rfl, cx_0, cx_1, cx_2, cx_3, cx_4, cx_5, cx_6, cx_7, cx_8, cx_9, cx_10, cx_11, rfl, hx_0, hx_1, hx_2, hx_3, hx_4, hx_5, hx_6, hx_7, hx_8, hx_9, hx_10, hx_11⟩ := hx
 refine fc_of (tS_get9) (by omega) (len1 rfl) fun B j hj => ?_
 refine fx_sr ?_
 refine fl_box rfl rfl fun b1 => ?_
 refine fl_alloc fun b2 => ?_
 refine fl_nil ?_
 refine fx_drwS ?_
 refine fg_pure rfl rfl trivial (fl_fad rfl (fl_nil ?_))
 refine fg_load (v := .agg [.v (.bool x.threshold.n), cx_1, .v (.bool x.threshold.d), cx_2]) (i := ⟨_, _, .load _ _ _⟩) rfl rfl trivial rfl (.inr (memS mem0)) rfl (len1 rfl) rfl (by simp [sameA, sameL, sameC_int, sameC_b, sameC_s, hx_1.refl, hx_2.refl]) ?_
 refine fg_call (i := ⟨_, _, .call _ _⟩) rfl rfl trivial rfl rfl rfl (own (by omega) ⟨_, rfl, mk_rat hx_1 hx_2⟩ hS.t) fun v5 z5 hz5 ⟨_, hv5, c5_0, c5_1, hq5, h5_0, h5_1⟩ => ?_
 subst hq5
 subst hv5
 refine fg_pure rfl rfl trivial (fl_fad rfl (fl_nil ?_))
 refine fg_load (v := .agg [.v (.bool x.cap.n), cx_3, .v (.bool x.cap.d), cx_4]) (i := ⟨_, _, .load _ _ _⟩) rfl rfl trivial rfl (.inr (memS mem0)) rfl (len1 rfl) rfl (by simp [sameA, sameL, sameC_int, sameC_b, sameC_s, hx_3.refl, hx_4.refl]) ?_
 refine fg_call (i := ⟨_, _, .call _ _⟩) rfl rfl trivial rfl rfl rfl (own (by omega) ⟨_, rfl, mk_rat (hx_3.mono (hz5)) (hx_4.mono (hz5))⟩ hS.c) fun v8 z8 hz8 ⟨_, hv8, c8_0, c8_1, hq8, h8_0, h8_1⟩ => ?_
 subst hq8
 subst hv8
 have h8_0 := h8_0.mono (zd_anti (hz5))
 have h8_1 := h8_1.mono (zd_anti (hz5))
 refine fg_pure rfl rfl trivial (fl_fad rfl (fl_nil ?_))
 refine fg_load (v := .agg [.v (.bool x.interest.n), cx_5, .v (.bool x.interest.d), cx_6]) (i := ⟨_, _, .load _ _ _⟩) rfl rfl trivial rfl (.inr (memS mem0)) rfl (len1 rfl) rfl (by simp [sameA, sameL, sameC_int, sameC_b, sameC_s, hx_5.refl, hx_6.refl]) ?_
 refine fg_call (i := ⟨_, _, .call _ _⟩) rfl rfl trivial rfl rfl rfl (own (by omega) ⟨_, rfl, mk_rat (hx_5.mono (hz5.trans hz8)) (hx_6.mono (hz5.trans hz8))⟩ hS.i) fun v11 z11 hz11 ⟨_, hv11, c11_0, c11_1, hq11, h11_0, h11_1⟩ => ?_
 subst hq11
 subst hv11
 have h11_0 := h11_0.mono (zd_anti (hz5.trans hz8))
 have h11_1 := h11_1.mono (zd_anti (hz5.trans hz8))
 refine fg_pure rfl rfl trivial (fl_fad rfl (fl_nil ?_))
 refine fg_load (v := .agg [.v (.bool x.floor.n), cx_7, .v (.bool x.floor.d), cx_8]) (i := ⟨_, _, .load _ _ _⟩) rfl rfl trivial rfl (.inr (memS mem0)) rfl (len1 rfl) rfl (by simp [sameA, sameL, sameC_int, sameC_b, sameC_s, hx_7.refl, hx_8.refl]) ?_
 refine fg_call (i := ⟨_, _, .call _ _⟩) rfl rfl trivial rfl rfl rfl (own (by omega) ⟨_, rfl, mk_rat (hx_7.mono (hz5.trans (hz8.trans hz11))) (hx_8.mono (hz5.trans (hz8.trans hz11)))⟩ hS.g) fun v14 z14 hz14 ⟨_, hv14, c14_0, c14_1, hq14, h14_0, h14_1⟩ => ?_
 subst hq14
 subst hv14
 have h14_0 := h14_0.mono (zd_anti (hz5.trans (hz8.trans hz11)))
 have h14_1 := h14_1.mono (zd_anti (hz5.trans (hz8.trans hz11)))
 refine fg_pure rfl rfl trivial (fl_fad rfl (fl_nil ?_))
 refine fg_store (i := ⟨_, _, .store _ _ _⟩) rfl trivial rfl rfl rfl rfl ?_
 refine fl_stE (cs' := [.v (.string x.name), .v (.string x.parent), cx_0, .v (.bool x.threshold.n), c5_0, .v (.bool x.threshold.d), c5_1, .v (.bool x.cap.n), cx_3, .v (.bool x.cap.d), cx_4, .v (.int .i64 x.back), .v (.int .i64 x.forward), .v (.bool x.interest.n), cx_5, .v (.bool x.interest.d), cx_6, .v (.bool x.floor.n), cx_7, .v (.bool x.floor.d), cx_8, .v (.int .i64 x.keep), cx_9, cx_10, cx_11]) rfl rfl rfl (repS rep0) (by kernel_rfl) rfl (len1 rfl) ?_
 refine fl_nil (fg_pure rfl rfl trivial (fl_fad rfl (fl_nil ?_)))
 refine fg_store (i := ⟨_, _, .store _ _ _⟩) rfl trivial rfl rfl rfl rfl ?_
 refine fl_stE (cs' := [.v (.string x.name), .v (.string x.parent), cx_0, .v (.bool x.threshold.n), c5_0, .v (.bool x.threshold.d), c5_1, .v (.bool x.cap.n), c8_0, .v (.bool x.cap.d), c8_1, .v (.int .i64 x.back), .v (.int .i64 x.forward), .v (.bool x.interest.n), cx_5, .v (.bool x.interest.d), cx_6, .v (.bool x.floor.n), cx_7, .v (.bool x.floor.d), cx_8, .v (.int .i64 x.keep), cx_9, cx_10, cx_11]) rfl rfl rfl (repS rep0) (by kernel_rfl) rfl (len1 rfl) ?_
 refine fl_nil (fg_pure rfl rfl trivial (fl_fad rfl (fl_nil ?_)))
 refine fg_store (i := ⟨_, _, .store _ _ _⟩) rfl trivial rfl rfl rfl rfl ?_
 refine fl_stE (cs' := [.v (.string x.name), .v (.string x.parent), cx_0, .v (.bool x.threshold.n), c5_0, .v (.bool x.threshold.d), c5_1, .v (.bool x.cap.n), c8_0, .v (.bool x.cap.d), c8_1, .v (.int .i64 x.back), .v (.int .i64 x.forward), .v (.bool x.interest.n), c11_0, .v (.bool x.interest.d), c11_1, .v (.bool x.floor.n), cx_7, .v (.bool x.floor.d), cx_8, .v (.int .i64 x.keep), cx_9, cx_10, cx_11]) rfl rfl rfl (repS rep0) (by kernel_rfl) rfl (len1 rfl) ?_
 refine fl_nil (fg_pure rfl rfl trivial (fl_fad rfl (fl_nil ?_)))
 refine fg_store (i := ⟨_, _, .store _ _ _⟩) rfl trivial rfl rfl rfl rfl ?_
 refine fl_stE (cs' := [.v (.string x.name), .v (.string x.parent), cx_0, .v (.bool x.threshold.n), c5_0, .v (.bool x.threshold.d), c5_1, .v (.bool x.cap.n), c8_0, .v (.bool x.cap.d), c8_1, .v (.int .i64 x.back), .v (.int .i64 x.forward), .v (.bool x.interest.n), c11_0, .v (.bool x.interest.d), c11_1, .v (.bool x.floor.n), c14_0, .v (.bool x.floor.d), c14_1, .v (.int .i64 x.keep), cx_9, cx_10, cx_11]) rfl rfl rfl (repS rep0) (by kernel_rfl) rfl (len1 rfl) ?_
 refine fl_nil ?_
 refine fg_nil ?_
 refine fx_sr (fl_fad rfl ?_)
 refine fl_ld (v := .c (cx_0)) rfl (memS mem0) (len1 rfl) rfl ?_
 refine fl_call rfl (copied_bracket (by omega) (hx_0.mono (hz5.trans (hz8.trans (hz11.trans hz14)))) (by have := hS.l0; omega) hS.r0 hS.r0') fun v21 z21 hz21 hs21 => ?_
 obtain ⟨c21, hc21, hr21⟩ := SZ.one hs21
 subst hc21
 have hs21 := hs21.mono (zd_anti (hz5.trans (hz8.trans (hz11.trans hz14))))
 refine fl_fad rfl ?_
 refine fl_stE (cs' := [.v (.string x.name), .v (.string x.parent), c21, .v (.bool x.threshold.n), c5_0, .v (.bool x.threshold.d), c5_1, .v (.bool x.cap.n), c8_0, .v (.bool x.cap.d), c8_1, .v (.int .i64 x.back), .v (.int .i64 x.forward), .v (.bool x.interest.n), c11_0, .v (.bool x.interest.d), c11_1, .v (.bool x.floor.n), c14_0, .v (.bool x.floor.d), c14_1, .v (.int .i64 x.keep), cx_9, cx_10, cx_11]) rfl rfl rfl (repS rep0) (by kernel_rfl) rfl (len1 rfl) ?_
 refine fl_nil (fx_sr (fl_fad rfl ?_))
 refine fl_ld (v := .c (cx_9)) rfl (memS mem0) (len1 rfl) rfl ?_
 refine fl_call rfl (copied_class (by omega) (hx_9.mono (hz5.trans (hz8.trans (hz11.trans (hz14.trans hz21))))) (by have := hS.l1; omega) hS.r1) fun v25 z25 hz25 hs25 => ?_
 obtain ⟨c25, hc25, hr25⟩ := SZ.one hs25
 subst hc25
 have hs25 := hs25.mono (zd_anti (hz5.trans (hz8.trans (hz11.trans (hz14.trans hz21)))))
 refine fl_fad rfl ?_
 refine fl_stE (cs' := [.v (.string x.name), .v (.string x.parent), c21, .v (.bool x.threshold.n), c5_0, .v (.bool x.threshold.d), c5_1, .v (.bool x.cap.n), c8_0, .v (.bool x.cap.d), c8_1, .v (.int .i64 x.back), .v (.int .i64 x.forward), .v (.bool x.interest.n), c11_0, .v (.bool x.interest.d), c11_1, .v (.bool x.floor.n), c14_0, .v (.bool x.floor.d), c14_1, .v (.int .i64 x.keep), c25, cx_10, cx_11]) rfl rfl rfl (repS rep0) (by kernel_rfl) rfl (len1 rfl) ?_
 refine fl_nil (fx_sr (fl_fad rfl ?_))
 refine fl_ld (v := .c (cx_10)) rfl (memS mem0) (len1 rfl) rfl ?_
 refine fl_call rfl (clone_str (by omega) (hx_10.mono (hz5.trans (hz8.trans (hz11.trans (hz14.trans (hz21.trans hz25)))))) (by have := hS.l2; omega)) fun v29 z29 hz29 hs29 => ?_
 obtain ⟨c29, hc29, hr29⟩ := SZ.one hs29
 subst hc29
 have hs29 := hs29.mono (zd_anti (hz5.trans (hz8.trans (hz11.trans (hz14.trans (hz21.trans hz25))))))
 refine fl_fad rfl ?_
 refine fl_stE (cs' := [.v (.string x.name), .v (.string x.parent), c21, .v (.bool x.threshold.n), c5_0, .v (.bool x.threshold.d), c5_1, .v (.bool x.cap.n), c8_0, .v (.bool x.cap.d), c8_1, .v (.int .i64 x.back), .v (.int .i64 x.forward), .v (.bool x.interest.n), c11_0, .v (.bool x.interest.d), c11_1, .v (.bool x.floor.n), c14_0, .v (.bool x.floor.d), c14_1, .v (.int .i64 x.keep), c25, c29, cx_11]) rfl rfl rfl (repS rep0) (by kernel_rfl) rfl (len1 rfl) ?_
 refine fl_nil (fx_sr (fl_fad rfl ?_))
 refine fl_ld (v := .c (cx_11)) rfl (memS mem0) (len1 rfl) rfl ?_
 refine fl_call rfl (copied_year (by omega) (hx_11.mono (hz5.trans (hz8.trans (hz11.trans (hz14.trans (hz21.trans (hz25.trans hz29))))))) (by have := hS.l3; omega) hS.y) fun v33 z33 hz33 hs33 => ?_
 obtain ⟨c33, hc33, hr33⟩ := SZ.one hs33
 subst hc33
 have hs33 := hs33.mono (zd_anti (hz5.trans (hz8.trans (hz11.trans (hz14.trans (hz21.trans (hz25.trans hz29)))))))
 refine fl_fad rfl ?_
 refine fl_stE (cs' := [.v (.string x.name), .v (.string x.parent), c21, .v (.bool x.threshold.n), c5_0, .v (.bool x.threshold.d), c5_1, .v (.bool x.cap.n), c8_0, .v (.bool x.cap.d), c8_1, .v (.int .i64 x.back), .v (.int .i64 x.forward), .v (.bool x.interest.n), c11_0, .v (.bool x.interest.d), c11_1, .v (.bool x.floor.n), c14_0, .v (.bool x.floor.d), c14_1, .v (.int .i64 x.keep), c25, c29, c33]) rfl rfl rfl (repS rep0) (by kernel_rfl) rfl (len1 rfl) ?_
 refine fl_nil (fx_sr ?_)
 refine fl_ld (v := .agg [.v (.string x.name), .v (.string x.parent), c21, .v (.bool x.threshold.n), c5_0, .v (.bool x.threshold.d), c5_1, .v (.bool x.cap.n), c8_0, .v (.bool x.cap.d), c8_1, .v (.int .i64 x.back), .v (.int .i64 x.forward), .v (.bool x.interest.n), c11_0, .v (.bool x.interest.d), c11_1, .v (.bool x.floor.n), c14_0, .v (.bool x.floor.d), c14_1, .v (.int .i64 x.keep), c25, c29, c33]) rfl (memS mem0) (len1 rfl) rfl ?_
 refine fl_stE (cs' := [.v (.string x.name), .v (.string x.parent), c21, .v (.bool x.threshold.n), c5_0, .v (.bool x.threshold.d), c5_1, .v (.bool x.cap.n), c8_0, .v (.bool x.cap.d), c8_1, .v (.int .i64 x.back), .v (.int .i64 x.forward), .v (.bool x.interest.n), c11_0, .v (.bool x.interest.d), c11_1, .v (.bool x.floor.n), c14_0, .v (.bool x.floor.d), c14_1, .v (.int .i64 x.keep), c25, c29, c33]) rfl rfl rfl rep0 (by kernel_rfl) rfl (len1 rfl) ?_
 refine fl_nil ?_
 refine fx_ret ?_
 refine ret_q (.inl rfl) (rc rfl mem0 (len1 rfl) rfl rn) ?_
 exact ⟨_, rfl, mk_filing (hs21.mono (zd_mono (hz25.trans (hz29.trans hz33)))) (h5_0.mono (zd_mono (hz8.trans (hz11.trans (hz14.trans (hz21.trans (hz25.trans (hz29.trans hz33)))))))) (h5_1.mono (zd_mono (hz8.trans (hz11.trans (hz14.trans (hz21.trans (hz25.trans (hz29.trans hz33)))))))) (h8_0.mono (zd_mono (hz11.trans (hz14.trans (hz21.trans (hz25.trans (hz29.trans hz33))))))) (h8_1.mono (zd_mono (hz11.trans (hz14.trans (hz21.trans (hz25.trans (hz29.trans hz33))))))) (h11_0.mono (zd_mono (hz14.trans (hz21.trans (hz25.trans (hz29.trans hz33)))))) (h11_1.mono (zd_mono (hz14.trans (hz21.trans (hz25.trans (hz29.trans hz33)))))) (h14_0.mono (zd_mono (hz21.trans (hz25.trans (hz29.trans hz33))))) (h14_1.mono (zd_mono (hz21.trans (hz25.trans (hz29.trans hz33))))) (hs25.mono (zd_mono (hz29.trans hz33))) (hs29.mono (zd_mono (hz33))) hs33⟩
open Go.CE Go.RowKit
abbrev N0 : Mem := fun _ _ => False
theorem memH_tz {z : Mem} {G : List HA} : zle (memH G) (tz z G) := fun _ _ h => .inr h
theorem gs_start {G : List HA} (hG : ∀ b k, memH G b k → k.isRo = false) (hf : ∀ b k k', memH G b k → memH G b k' → k = k') : GS (tz N0 G) G := by
 refine ⟨fun b k0 cs0 h1 h2 => ?_, fun b k k' h1 h2 => hf b k k' (h1.resolve_left id) (h2.resolve_left id)⟩
 have h1 : memH G b k0 := h1.resolve_left id
 have := hG b k0 h1
 cases k0 with
 | cells ty cs =>
  injection h2 with h2
  subst h2
  exact ⟨_, h1, ty, cs, cs, rfl, rfl, SRL.refl _⟩
 | ro cs => cases this
 | sit s p => cases h2
 | mp e c => cases h2
theorem rk_le {U zz : Mem} {v : AV} {l : List PRat} {i : Nat} {a : PRat} (h : SZ 4 (RK U) zz v l) (ha : l[i]? = some a) : a.nm.length ≤ 9223372036854775807 ∧ a.dm.length ≤ 9223372036854775807 := by
 cases h with
 | nil => simp at ha
 | em => simp at ha
 | sl b o n k full l hl hm hz' hk hf hh =>
  obtain ⟨c0, c1, _, g0, g1⟩ := hh i a ha
  exact ⟨g0.le, g1.le⟩
theorem spoil {k : Nat} (hk : 2 ≤ k) {v : AV} {x : PFiling} {G : List HA} (hGb : ∀ a, a ∈ G → ∃ b k, a = .blk b k) (hGr : ∀ b k, memH G b k → k.isRo = false) (hf : ∀ b k k', memH G b k → memH G b k' → k = k') (hx : AZ RFiling (memH G) v x) (hL : LnF x) : FCt (E k) 11 [v] N0 G fun _ _ H' => H' = [] := by
 have hGS := gs_start hGr hf
 have hx := AZ.mono hx (memH_tz (z := N0))
 obtain ⟨_, rfl, cx_0, cx_1, cx_2, cx_3, cx_4, cx_5, cx_6, cx_7, cx_8, cx_9, cx_10, cx_11, rfl, hx_0, hx_1, hx_2, hx_3, hx_4, hx_5, hx_6, hx_7, hx_8, hx_9, hx_10, hx_11⟩ := hx
 have bx0 := hx_0.le
 have bx9 := hx_9.le
 have bx10 := hx_10.le
 have bx11 := hx_11.le
 refine fct_of (tS_get11) (by omega) (len1 rfl) fun B j hj => ?_
 refine fx_sr ?_
 refine fl_box rfl rfl fun b1 => ?_
 refine fl_nil (fx_sr ?_)
 refine fl_ld (v := .agg [.v (.string x.name), .v (.string x.parent), cx_0, .v (.bool x.threshold.n), cx_1, .v (.bool x.threshold.d), cx_2, .v (.bool x.cap.n), cx_3, .v (.bool x.cap.d), cx_4, .v (.int .i64 x.back), .v (.int .i64 x.forward), .v (.bool x.interest.n), cx_5, .v (.bool x.interest.d), cx_6, .v (.bool x.floor.n), cx_7, .v (.bool x.floor.d), cx_8, .v (.int .i64 x.keep), cx_9, cx_10, cx_11]) rfl mem0 (len1 rfl) rfl ?_
 refine fl_swap1 rfl ?_
 refine fl_callL (Hs := G) (Hr := [_]) rfl rfl ((ratsZ (by omega) ⟨_, rfl, mk_filing hx_0 hx_1 hx_2 hx_3 hx_4 hx_5 hx_6 hx_7 hx_8 hx_9 hx_10 hx_11⟩ hL).lent hGb) fun v17 z17 H17 hz17 hp17 => ?_
 obtain ⟨hH17, z1, ⟨cl, l, hv17, hl, _⟩, hzd⟩ := hp17
 have hH17 := hH17.symm
 subst hH17
 subst hv17
 refine fl_swap2 rfl ?_
 have hl := CZ.mono hl hzd
 have hll := hl.le
 refine fl_mv rfl (fl_nil (fx_ss (fx_sr (fl_mv rfl (fl_nil ?_)))))
 refine fx_seq (fx_block ?_)
 refine fx_loop (fun n fs => ∃ (i0 : Nat) (G0 : List HA) (e : Env) (zz : Mem) (Hx : List HA), fs = ⟨e, zz, Hx ++ (.blk b1 (.cells 32 [.v (.string x.name), .v (.string x.parent), cx_0, .v (.bool x.threshold.n), cx_1, .v (.bool x.threshold.d), cx_2, .v (.bool x.cap.n), cx_3, .v (.bool x.cap.d), cx_4, .v (.int .i64 x.back), .v (.int .i64 x.forward), .v (.bool x.interest.n), cx_5, .v (.bool x.interest.d), cx_6, .v (.bool x.floor.n), cx_7, .v (.bool x.floor.d), cx_8, .v (.int .i64 x.keep), cx_9, cx_10, cx_11]) :: G0)⟩ ∧ zle z17 zz ∧ AtL e [(1, .c (.ptr b1 0)), (2, .c cl), (3, .c (.v (.int .i64 (i0 : Int))))] ∧ n = l.length - i0 ∧ i0 ≤ l.length ∧ GS (tz N0 G) G0) ?_ _ ⟨0, _, _, _, [], rfl, zle.refl _, (atc rfl (atc rfl (atc rfl atn))), rfl, Nat.zero_le _, hGS⟩ (by show _ < 18446744073709551616; omega)
 intro n fs hI
 obtain ⟨i0, G0, e, zl0, Hx, rfl, hzl0, hat, rfl, hi0, hG0⟩ := hI
 refine fx_at hat fun e => ?_
 refine fx_sub (List.sublist_append_right _ _) ?_
 refine fx_ss (fx_sr (fl_mv rfl (fl_mv rfl (fl_lenS rfl hl (fl_bin rfl rfl (b_lss _ _ _) (fl_nil ?_))))))
 refine fx_cseq ?_
 refine fx_condB rfl (fun hc21 => ?_) (fun hc21 => ?_)
 ·skip
  have hp21 := dec_iff.1 hc21
  refine fx_kseq ?_
  refine fx_seq (fx_block ?_)
  refine fx_ss (fx_sr ?_)
  obtain ⟨a0, ha0⟩ := at_lt (l := l) (i := i0) (by omega)
  obtain ⟨ba0, ba1⟩ := rk_le hl ha0
  refine fl_mv rfl (fl_nil ?_)
  refine fx_seq (fx_block ?_)
  refine fx_loop (fun n fs => ∃ (i1 : Nat) (G1 : List HA) (e : Env) (zz : Mem) (Hx : List HA), fs = ⟨e, zz, Hx ++ (.blk b1 (.cells 32 [.v (.string x.name), .v (.string x.parent), cx_0, .v (.bool x.threshold.n), cx_1, .v (.bool x.threshold.d), cx_2, .v (.bool x.cap.n), cx_3, .v (.bool x.cap.d), cx_4, .v (.int .i64 x.back), .v (.int .i64 x.forward), .v (.bool x.interest.n), cx_5, .v (.bool x.interest.d), cx_6, .v (.bool x.floor.n), cx_7, .v (.bool x.floor.d), cx_8, .v (.int .i64 x.keep), cx_9, cx_10, cx_11]) :: G1)⟩ ∧ zle zl0 zz ∧ AtL e [(1, .c (.ptr b1 0)), (2, .c cl), (3, .c (.v (.int .i64 (i0 : Int)))), (4, .c (.v (.int .i64 (i1 : Int))))] ∧ n = a0.nm.length - i1 ∧ i1 ≤ a0.nm.length ∧ GS (tz N0 G) G1) ?_ _ ⟨0, _, _, _, [], rfl, zle.refl _, (atc rfl (atc rfl (atc rfl (atc rfl atn)))), rfl, Nat.zero_le _, hG0⟩ (by show _ < 18446744073709551616; omega)
  intro n fs hI
  obtain ⟨i1, G1, e, zl1, Hx, rfl, hzl1, hat, rfl, hi1, hG1⟩ := hI
  refine fx_at hat fun e => ?_
  refine fx_sub (List.sublist_append_right _ _) ?_
  refine fx_ss (fx_sr (fl_mv rfl (fl_mv rfl (fl_mv rfl ?_))))
  refine fl_iadS rfl rfl hl i0 rfl a0 ha0 fun b27 p27 cs27 at27 hR27 => ?_
  obtain ⟨c27_0, c27_1, rfl, h27_0, h27_1⟩ := hR27
  iterate 2 refine fl_fad rfl ?_
  refine fl_ldA (v := .c (c27_0)) (off := 1) rfl (at27.mono (hzl0.trans hzl1)) rfl (len1 rfl) rfl ?_
  refine fl_lenS rfl h27_0 (fl_bin rfl rfl (b_lss _ _ _) (fl_nil ?_))
  refine fx_cseq ?_
  refine fx_condB rfl (fun hc32 => ?_) (fun hc32 => ?_)
  ·skip
   have hp32 := dec_iff.1 hc32
   refine fx_kseq ?_
   refine fx_seq (fx_block ?_)
   refine fx_region ?_
   iterate 2 refine fl_mv rfl ?_
   refine fl_iadS rfl rfl hl i0 rfl a0 ha0 fun b37 p37 cs37 at37 hR37 => ?_
   obtain ⟨c37_0, c37_1, rfl, h37_0, h37_1⟩ := hR37
   iterate 2 refine fl_fad rfl ?_
   refine fl_ldA (v := .c (c37_0)) (off := 1) rfl (at37.mono (hzl0.trans hzl1)) rfl (len1 rfl) rfl ?_
   refine fl_mv rfl ?_
   obtain ⟨a42, ha42⟩ := at_lt (l := a0.nm) (i := i1) (by omega)
   refine fl_iadS rfl rfl h37_0 i1 rfl a42 ha42 fun b42 p42 cs42 at42 hR42 => ?_
   obtain rfl := hR42
   refine fl_stG1 (off := 0) rfl hG1 rfl rfl rfl at42 (len1 rfl) (SRL.cons (.i _ _ _) SRL.nil) fun Gs1 hGs1 => ?_
   refine fl_nil ?_
   refine sq_n ?_
   refine fx_region ?_
   refine fl_mv rfl ?_
   refine fl_bin rfl rfl (b_add' (r := ((i1 + 1 : Nat) : Int)) (wi64 (by omega))) ?_
   refine fl_mv rfl (fl_nil ?_)
   exact lq_n (by omega) ⟨i1 + 1, _, _, _, [], rfl, hzl1, (atc rfl (atc rfl (atc rfl (atc rfl atn)))), rfl, by omega, hGs1⟩
  ·skip
   have hp32 := bn_iff dec_iff hc32
   refine fx_eseq ?_
   refine lq_e ?_
   refine sq_n ?_
   refine fx_sr (fl_mv rfl (fl_nil ?_))
   refine fx_block ?_
   refine fx_loop (fun n fs => ∃ (i2 : Nat) (G2 : List HA) (e : Env) (zz : Mem) (Hx : List HA), fs = ⟨e, zz, Hx ++ (.blk b1 (.cells 32 [.v (.string x.name), .v (.string x.parent), cx_0, .v (.bool x.threshold.n), cx_1, .v (.bool x.threshold.d), cx_2, .v (.bool x.cap.n), cx_3, .v (.bool x.cap.d), cx_4, .v (.int .i64 x.back), .v (.int .i64 x.forward), .v (.bool x.interest.n), cx_5, .v (.bool x.interest.d), cx_6, .v (.bool x.floor.n), cx_7, .v (.bool x.floor.d), cx_8, .v (.int .i64 x.keep), cx_9, cx_10, cx_11]) :: G2)⟩ ∧ zle zl1 zz ∧ AtL e [(1, .c (.ptr b1 0)), (2, .c cl), (3, .c (.v (.int .i64 (i0 : Int)))), (5, .c (.v (.int .i64 (i2 : Int))))] ∧ n = a0.dm.length - i2 ∧ i2 ≤ a0.dm.length ∧ GS (tz N0 G) G2) ?_ _ ⟨0, _, _, _, [], rfl, zle.refl _, (atc rfl (atc rfl (atc rfl (atc rfl atn)))), rfl, Nat.zero_le _, hG1⟩ (by show _ < 18446744073709551616; omega)
   intro n fs hI
   obtain ⟨i2, G2, e, zl2, Hx, rfl, hzl2, hat, rfl, hi2, hG2⟩ := hI
   refine fx_at hat fun e => ?_
   refine fx_sub (List.sublist_append_right _ _) ?_
   refine fx_ss (fx_sr (fl_mv rfl (fl_mv rfl (fl_mv rfl ?_))))
   refine fl_iadS rfl rfl hl i0 rfl a0 ha0 fun b46 p46 cs46 at46 hR46 => ?_
   obtain ⟨c46_0, c46_1, rfl, h46_0, h46_1⟩ := hR46
   iterate 2 refine fl_fad rfl ?_
   refine fl_ldA (v := .c (c46_1)) (off := 3) rfl (at46.mono (hzl0.trans (hzl1.trans hzl2))) rfl (len1 rfl) rfl ?_
   refine fl_lenS rfl h46_1 (fl_bin rfl rfl (b_lss _ _ _) (fl_nil ?_))
   refine fx_cseq ?_
   refine fx_condB rfl (fun hc51 => ?_) (fun hc51 => ?_)
   ·skip
    have hp51 := dec_iff.1 hc51
    refine fx_kseq ?_
    refine fx_seq (fx_block ?_)
    refine fx_region ?_
    iterate 2 refine fl_mv rfl ?_
    refine fl_iadS rfl rfl hl i0 rfl a0 ha0 fun b56 p56 cs56 at56 hR56 => ?_
    obtain ⟨c56_0, c56_1, rfl, h56_0, h56_1⟩ := hR56
    iterate 2 refine fl_fad rfl ?_
    refine fl_ldA (v := .c (c56_1)) (off := 3) rfl (at56.mono (hzl0.trans (hzl1.trans hzl2))) rfl (len1 rfl) rfl ?_
    refine fl_mv rfl ?_
    obtain ⟨a61, ha61⟩ := at_lt (l := a0.dm) (i := i2) (by omega)
    refine fl_iadS rfl rfl h56_1 i2 rfl a61 ha61 fun b61 p61 cs61 at61 hR61 => ?_
    obtain rfl := hR61
    refine fl_stG1 (off := 0) rfl hG2 rfl rfl rfl at61 (len1 rfl) (SRL.cons (.i _ _ _) SRL.nil) fun Gs2 hGs2 => ?_
    refine fl_nil ?_
    refine sq_n ?_
    refine fx_region ?_
    refine fl_mv rfl ?_
    refine fl_bin rfl rfl (b_add' (r := ((i2 + 1 : Nat) : Int)) (wi64 (by omega))) ?_
    refine fl_mv rfl (fl_nil ?_)
    exact lq_n (by omega) ⟨i2 + 1, _, _, _, [], rfl, hzl2, (atc rfl (atc rfl (atc rfl (atc rfl atn)))), rfl, by omega, hGs2⟩
   ·skip
    have hp51 := bn_iff dec_iff hc51
    refine fx_eseq ?_
    refine lq_e ?_
    refine sq_n ?_
    refine fx_region ?_
    refine fl_mv rfl ?_
    refine fl_bin rfl rfl (b_add' (r := ((i0 + 1 : Nat) : Int)) (wi64 (by omega))) ?_
    refine fl_mv rfl (fl_nil ?_)
    exact lq_n (by omega) ⟨i0 + 1, _, _, _, [], rfl, hzl0.trans (hzl1.trans hzl2), (atc rfl (atc rfl (atc rfl atn))), rfl, by omega, hG2⟩
 ·skip
  have hp21 := bn_iff dec_iff hc21
  refine fx_eseq ?_
  refine lq_e ?_
  refine sq_n ?_
  refine fx_ss (fx_sr (fl_mv rfl (fl_nil ?_)))
  refine fx_seq (fx_block ?_)
  refine fx_loop (fun n fs => ∃ (i3 : Nat) (G3 : List HA) (e : Env) (zz : Mem) (Hx : List HA), fs = ⟨e, zz, Hx ++ (.blk b1 (.cells 32 [.v (.string x.name), .v (.string x.parent), cx_0, .v (.bool x.threshold.n), cx_1, .v (.bool x.threshold.d), cx_2, .v (.bool x.cap.n), cx_3, .v (.bool x.cap.d), cx_4, .v (.int .i64 x.back), .v (.int .i64 x.forward), .v (.bool x.interest.n), cx_5, .v (.bool x.interest.d), cx_6, .v (.bool x.floor.n), cx_7, .v (.bool x.floor.d), cx_8, .v (.int .i64 x.keep), cx_9, cx_10, cx_11]) :: G3)⟩ ∧ zle zl0 zz ∧ AtL e [(1, .c (.ptr b1 0)), (6, .c (.v (.int .i64 (i3 : Int))))] ∧ n = x.brackets.length - i3 ∧ i3 ≤ x.brackets.length ∧ GS (tz N0 G) G3) ?_ _ ⟨0, _, _, _, [], rfl, zle.refl _, (atc rfl (atc rfl atn)), rfl, Nat.zero_le _, hG0⟩ (by show _ < 18446744073709551616; omega)
  intro n fs hI
  obtain ⟨i3, G3, e, zl3, Hx, rfl, hzl3, hat, rfl, hi3, hG3⟩ := hI
  refine fx_at hat fun e => ?_
  refine fx_sub (List.sublist_append_right _ _) ?_
  refine fx_ss (fx_sr (fl_mv rfl (fl_fad rfl ?_)))
  refine fl_ld (v := .c (cx_0)) rfl mem0 (len1 rfl) rfl ?_
  refine fl_lenS rfl hx_0 (fl_bin rfl rfl (b_lss _ _ _) (fl_nil ?_))
  refine fx_cseq ?_
  refine fx_condB rfl (fun hc66 => ?_) (fun hc66 => ?_)
  ·skip
   have hp66 := dec_iff.1 hc66
   refine fx_kseq ?_
   refine fx_seq (fx_block ?_)
   refine fx_region ?_
   refine fl_fad rfl ?_
   refine fl_ld (v := .c (cx_0)) rfl mem0 (len1 rfl) rfl ?_
   refine fl_mv rfl ?_
   refine fl_build (cs := [.v (.bool false), .v (.slice none 0 0), .v (.bool false), .v (.slice none 0 0), .v (.bool false), .v (.slice none 0 0), .v (.bool false), .v (.slice none 0 0)]) (by kernel_rfl) ?_
   obtain ⟨a73, ha73⟩ := at_lt (l := x.brackets) (i := i3) (by omega)
   refine fl_iadS rfl rfl hx_0 i3 rfl a73 ha73 fun b73 p73 cs73 at73 hR73 => ?_
   obtain ⟨c73_0, c73_1, c73_2, c73_3, rfl, h73_0, h73_1, h73_2, h73_3⟩ := hR73
   refine fl_stG1 (off := 0) rfl hG3 rfl rfl rfl at73 (len1 rfl) (SRL.cons (.b _ _) (SRL.cons (SR.refl_row h73_0) (SRL.cons (.b _ _) (SRL.cons (SR.refl_row h73_1) (SRL.cons (.b _ _) (SRL.cons (SR.refl_row h73_2) (SRL.cons (.b _ _) (SRL.cons (SR.refl_row h73_3) SRL.nil)))))))) fun Gs3 hGs3 => ?_
   refine fl_nil ?_
   refine sq_n ?_
   refine fx_region ?_
   refine fl_mv rfl ?_
   refine fl_bin rfl rfl (b_add' (r := ((i3 + 1 : Nat) : Int)) (wi64 (by omega))) ?_
   refine fl_mv rfl (fl_nil ?_)
   exact lq_n (by omega) ⟨i3 + 1, _, _, _, [], rfl, hzl3, (atc rfl (atc rfl atn)), rfl, by omega, hGs3⟩
  ·skip
   have hp66 := bn_iff dec_iff hc66
   refine fx_eseq ?_
   refine lq_e ?_
   refine sq_n ?_
   refine fx_ss (fx_sr (fl_mv rfl (fl_nil ?_)))
   refine fx_seq (fx_block ?_)
   refine fx_loop (fun n fs => ∃ (i4 : Nat) (G4 : List HA) (e : Env) (zz : Mem) (Hx : List HA), fs = ⟨e, zz, Hx ++ (.blk b1 (.cells 32 [.v (.string x.name), .v (.string x.parent), cx_0, .v (.bool x.threshold.n), cx_1, .v (.bool x.threshold.d), cx_2, .v (.bool x.cap.n), cx_3, .v (.bool x.cap.d), cx_4, .v (.int .i64 x.back), .v (.int .i64 x.forward), .v (.bool x.interest.n), cx_5, .v (.bool x.interest.d), cx_6, .v (.bool x.floor.n), cx_7, .v (.bool x.floor.d), cx_8, .v (.int .i64 x.keep), cx_9, cx_10, cx_11]) :: G4)⟩ ∧ zle zl3 zz ∧ AtL e [(1, .c (.ptr b1 0)), (7, .c (.v (.int .i64 (i4 : Int))))] ∧ n = x.classes.length - i4 ∧ i4 ≤ x.classes.length ∧ GS (tz N0 G) G4) ?_ _ ⟨0, _, _, _, [], rfl, zle.refl _, (atc rfl (atc rfl atn)), rfl, Nat.zero_le _, hG3⟩ (by show _ < 18446744073709551616; omega)
   intro n fs hI
   obtain ⟨i4, G4, e, zl4, Hx, rfl, hzl4, hat, rfl, hi4, hG4⟩ := hI
   refine fx_at hat fun e => ?_
   refine fx_sub (List.sublist_append_right _ _) ?_
   refine fx_ss (fx_sr (fl_mv rfl (fl_fad rfl ?_)))
   refine fl_ld (v := .c (cx_9)) rfl mem0 (len1 rfl) rfl ?_
   refine fl_lenS rfl hx_9 (fl_bin rfl rfl (b_lss _ _ _) (fl_nil ?_))
   refine fx_cseq ?_
   refine fx_condB rfl (fun hc78 => ?_) (fun hc78 => ?_)
   ·skip
    have hp78 := dec_iff.1 hc78
    refine fx_kseq ?_
    refine fx_seq (fx_block ?_)
    refine fx_region ?_
    refine fl_fad rfl ?_
    refine fl_ld (v := .c (cx_9)) rfl mem0 (len1 rfl) rfl ?_
    refine fl_mv rfl ?_
    refine fl_build rfl ?_
    obtain ⟨a85, ha85⟩ := at_lt (l := x.classes) (i := i4) (by omega)
    refine fl_iadS rfl rfl hx_9 i4 rfl a85 ha85 fun b85 p85 cs85 at85 hR85 => ?_
    obtain ⟨c85_0, c85_1, rfl, h85_0, h85_1⟩ := hR85
    refine fl_stG1 (off := 0) rfl hG4 rfl rfl rfl at85 (len1 rfl) (SRL.cons (.s _ _) (SRL.cons (.i _ _ _) (SRL.cons (.b _ _) (SRL.cons (SR.refl_row h85_0) (SRL.cons (.b _ _) (SRL.cons (SR.refl_row h85_1) SRL.nil)))))) fun Gs4 hGs4 => ?_
    refine fl_nil ?_
    refine sq_n ?_
    refine fx_region ?_
    refine fl_mv rfl ?_
    refine fl_bin rfl rfl (b_add' (r := ((i4 + 1 : Nat) : Int)) (wi64 (by omega))) ?_
    refine fl_mv rfl (fl_nil ?_)
    exact lq_n (by omega) ⟨i4 + 1, _, _, _, [], rfl, hzl4, (atc rfl (atc rfl atn)), rfl, by omega, hGs4⟩
   ·skip
    have hp78 := bn_iff dec_iff hc78
    refine fx_eseq ?_
    refine lq_e ?_
    refine sq_n ?_
    refine fx_ss (fx_sr (fl_mv rfl (fl_nil ?_)))
    refine fx_seq (fx_block ?_)
    refine fx_loop (fun n fs => ∃ (i5 : Nat) (G5 : List HA) (e : Env) (zz : Mem) (Hx : List HA), fs = ⟨e, zz, Hx ++ (.blk b1 (.cells 32 [.v (.string x.name), .v (.string x.parent), cx_0, .v (.bool x.threshold.n), cx_1, .v (.bool x.threshold.d), cx_2, .v (.bool x.cap.n), cx_3, .v (.bool x.cap.d), cx_4, .v (.int .i64 x.back), .v (.int .i64 x.forward), .v (.bool x.interest.n), cx_5, .v (.bool x.interest.d), cx_6, .v (.bool x.floor.n), cx_7, .v (.bool x.floor.d), cx_8, .v (.int .i64 x.keep), cx_9, cx_10, cx_11]) :: G5)⟩ ∧ zle zl4 zz ∧ AtL e [(1, .c (.ptr b1 0)), (8, .c (.v (.int .i64 (i5 : Int))))] ∧ n = x.entities.length - i5 ∧ i5 ≤ x.entities.length ∧ GS (tz N0 G) G5) ?_ _ ⟨0, _, _, _, [], rfl, zle.refl _, (atc rfl (atc rfl atn)), rfl, Nat.zero_le _, hG4⟩ (by show _ < 18446744073709551616; omega)
    intro n fs hI
    obtain ⟨i5, G5, e, zl5, Hx, rfl, hzl5, hat, rfl, hi5, hG5⟩ := hI
    refine fx_at hat fun e => ?_
    refine fx_sub (List.sublist_append_right _ _) ?_
    refine fx_ss (fx_sr (fl_mv rfl (fl_fad rfl ?_)))
    refine fl_ld (v := .c (cx_10)) rfl mem0 (len1 rfl) rfl ?_
    refine fl_lenS rfl hx_10 (fl_bin rfl rfl (b_lss _ _ _) (fl_nil ?_))
    refine fx_cseq ?_
    refine fx_condB rfl (fun hc90 => ?_) (fun hc90 => ?_)
    ·skip
     have hp90 := dec_iff.1 hc90
     refine fx_kseq ?_
     refine fx_seq (fx_block ?_)
     refine fx_region ?_
     refine fl_fad rfl ?_
     refine fl_ld (v := .c (cx_10)) rfl mem0 (len1 rfl) rfl ?_
     refine fl_mv rfl ?_
     obtain ⟨a96, ha96⟩ := at_lt (l := x.entities) (i := i5) (by omega)
     refine fl_iadS rfl rfl hx_10 i5 rfl a96 ha96 fun b96 p96 cs96 at96 hR96 => ?_
     obtain rfl := hR96
     refine fl_stG1 (off := 0) rfl hG5 rfl rfl rfl at96 (len1 rfl) (SRL.cons (.s _ _) SRL.nil) fun Gs5 hGs5 => ?_
     refine fl_nil ?_
     refine sq_n ?_
     refine fx_region ?_
     refine fl_mv rfl ?_
     refine fl_bin rfl rfl (b_add' (r := ((i5 + 1 : Nat) : Int)) (wi64 (by omega))) ?_
     refine fl_mv rfl (fl_nil ?_)
     exact lq_n (by omega) ⟨i5 + 1, _, _, _, [], rfl, hzl5, (atc rfl (atc rfl atn)), rfl, by omega, hGs5⟩
    ·skip
     have hp90 := bn_iff dec_iff hc90
     refine fx_eseq ?_
     refine lq_e ?_
     refine sq_n ?_
     refine fx_sr (fl_mv rfl (fl_nil ?_))
     refine fx_block ?_
     refine fx_loop (fun n fs => ∃ (i6 : Nat) (G6 : List HA) (e : Env) (zz : Mem) (Hx : List HA), fs = ⟨e, zz, Hx ++ (.blk b1 (.cells 32 [.v (.string x.name), .v (.string x.parent), cx_0, .v (.bool x.threshold.n), cx_1, .v (.bool x.threshold.d), cx_2, .v (.bool x.cap.n), cx_3, .v (.bool x.cap.d), cx_4, .v (.int .i64 x.back), .v (.int .i64 x.forward), .v (.bool x.interest.n), cx_5, .v (.bool x.interest.d), cx_6, .v (.bool x.floor.n), cx_7, .v (.bool x.floor.d), cx_8, .v (.int .i64 x.keep), cx_9, cx_10, cx_11]) :: G6)⟩ ∧ zle zl5 zz ∧ AtL e [(1, .c (.ptr b1 0)), (9, .c (.v (.int .i64 (i6 : Int))))] ∧ n = x.years.length - i6 ∧ i6 ≤ x.years.length ∧ GS (tz N0 G) G6) ?_ _ ⟨0, _, _, _, [], rfl, zle.refl _, (atc rfl (atc rfl atn)), rfl, Nat.zero_le _, hG5⟩ (by show _ < 18446744073709551616; omega)
     intro n fs hI
     obtain ⟨i6, G6, e, zl6, Hx, rfl, hzl6, hat, rfl, hi6, hG6⟩ := hI
     refine fx_at hat fun e => ?_
     refine fx_sub (List.sublist_append_right _ _) ?_
     refine fx_ss (fx_sr (fl_mv rfl (fl_fad rfl ?_)))
     refine fl_ld (v := .c (cx_11)) rfl mem0 (len1 rfl) rfl ?_
     refine fl_lenS rfl hx_11 (fl_bin rfl rfl (b_lss _ _ _) (fl_nil ?_))
     refine fx_cseq ?_
     refine fx_condB rfl (fun hc101 => ?_) (fun hc101 => ?_)
     ·skip
      have hp101 := dec_iff.1 hc101
      refine fx_kseq ?_
      refine fx_seq (fx_block ?_)
      refine fx_sr (fl_fad rfl ?_)
      refine fl_ld (v := .c (cx_11)) rfl mem0 (len1 rfl) rfl ?_
      refine fl_mv rfl ?_
      obtain ⟨a107, ha107⟩ := at_lt (l := x.years) (i := i6) (by omega)
      refine fl_iadS rfl rfl hx_11 i6 rfl a107 ha107 fun b107 p107 cs107 at107 hR107 => ?_
      obtain ⟨c107_0, c107_1, c107_2, c107_3, c107_4, rfl, h107_0, h107_1, h107_2, h107_3, h107_4⟩ := hR107
      refine fl_ldG (off := 0) (fun _ h => List.mem_cons_of_mem _ h) hG6 rfl at107 (len1 rfl) fun w108 hs108 => ?_
      obtain ⟨w108_0, t108_0, rfl, s108_0, hs108_0⟩ := hs108.inv
      obtain ⟨m108_0, rfl⟩ := s108_0.int
      obtain ⟨w108_1, t108_1, rfl, s108_1, hs108_1⟩ := hs108_0.inv
      obtain ⟨l108_1, q108_1⟩ := s108_1.row h107_0
      have bq108_1 := q108_1.le
      obtain ⟨w108_2, t108_2, rfl, s108_2, hs108_2⟩ := hs108_1.inv
      obtain ⟨l108_2, q108_2⟩ := s108_2.row h107_1
      have bq108_2 := q108_2.le
      obtain ⟨w108_3, t108_3, rfl, s108_3, hs108_3⟩ := hs108_2.inv
      obtain ⟨l108_3, q108_3⟩ := s108_3.row h107_2
      have bq108_3 := q108_3.le
      obtain ⟨w108_4, t108_4, rfl, s108_4, hs108_4⟩ := hs108_3.inv
      obtain ⟨l108_4, q108_4⟩ := s108_4.row h107_3
      have bq108_4 := q108_4.le
      obtain ⟨w108_5, t108_5, rfl, s108_5, hs108_5⟩ := hs108_4.inv
      obtain ⟨l108_5, q108_5⟩ := s108_5.row h107_4
      have bq108_5 := q108_5.le
      obtain rfl := hs108_5.inv0
      refine fl_alloc fun b10 => ?_
      refine fl_stE (cs' := [.v (.int .i64 m108_0), w108_1, w108_2, w108_3, w108_4, w108_5]) rfl rfl rfl rep0 (by kernel_rfl) rfl (len1 rfl) ?_
      refine fl_nil (fx_ss (fx_sr (fl_mv rfl (fl_nil ?_))))
      refine fx_seq (fx_block ?_)
      refine fx_loop (fun n fs => ∃ (i7 : Nat) (G7 : List HA) (e : Env) (zz : Mem) (Hx : List HA), fs = ⟨e, zz, Hx ++ (.blk b10 (.cells 55 [.v (.int .i64 m108_0), w108_1, w108_2, w108_3, w108_4, w108_5]) :: .blk b1 (.cells 32 [.v (.string x.name), .v (.string x.parent), cx_0, .v (.bool x.threshold.n), cx_1, .v (.bool x.threshold.d), cx_2, .v (.bool x.cap.n), cx_3, .v (.bool x.cap.d), cx_4, .v (.int .i64 x.back), .v (.int .i64 x.forward), .v (.bool x.interest.n), cx_5, .v (.bool x.interest.d), cx_6, .v (.bool x.floor.n), cx_7, .v (.bool x.floor.d), cx_8, .v (.int .i64 x.keep), cx_9, cx_10, cx_11]) :: G7)⟩ ∧ zle zl6 zz ∧ AtL e [(1, .c (.ptr b1 0)), (9, .c (.v (.int .i64 (i6 : Int)))), (10, .c (.ptr b10 0)), (11, .c (.v (.int .i64 (i7 : Int))))] ∧ n = l108_1.length - i7 ∧ i7 ≤ l108_1.length ∧ GS (tz N0 G) G7) ?_ _ ⟨0, _, _, _, [], rfl, zle.refl _, (atc rfl (atc rfl (atc rfl (atc rfl atn)))), rfl, Nat.zero_le _, hG6⟩ (by show _ < 18446744073709551616; omega)
      intro n fs hI
      obtain ⟨i7, G7, e, zl7, Hx, rfl, hzl7, hat, rfl, hi7, hG7⟩ := hI
      refine fx_at hat fun e => ?_
      refine fx_sub (List.sublist_append_right _ _) ?_
      refine fx_ss (fx_sr (fl_mv rfl (fl_fad rfl ?_)))
      refine fl_ld (v := .c (w108_1)) rfl mem0 (len1 rfl) rfl ?_
      refine fl_lenS rfl q108_1 (fl_bin rfl rfl (b_lss _ _ _) (fl_nil ?_))
      refine fx_cseq ?_
      refine fx_condB rfl (fun hc113 => ?_) (fun hc113 => ?_)
      ·skip
       have hp113 := dec_iff.1 hc113
       refine fx_kseq ?_
       refine fx_seq (fx_block ?_)
       refine fx_region ?_
       refine fl_fad rfl ?_
       refine fl_ld (v := .c (w108_1)) rfl mem0 (len1 rfl) rfl ?_
       refine fl_mv rfl ?_
       refine fl_build rfl ?_
       obtain ⟨a120, ha120⟩ := at_lt (l := l108_1) (i := i7) (by omega)
       refine fl_iadS rfl rfl q108_1 i7 rfl a120 ha120 fun b120 p120 cs120 at120 hR120 => ?_
       obtain ⟨c120_0, c120_1, rfl, h120_0, h120_1⟩ := hR120
       refine fl_stG2 (off := 0) rfl hG7 rfl rfl rfl at120 (len1 rfl) (SRL.cons (.s _ _) (SRL.cons (.s _ _) (SRL.cons (.b _ _) (SRL.cons (SR.refl_row h120_0) (SRL.cons (.b _ _) (SRL.cons (SR.refl_row h120_1) SRL.nil)))))) fun Gs6 hGs6 => ?_
       refine fl_nil ?_
       refine sq_n ?_
       refine fx_region ?_
       refine fl_mv rfl ?_
       refine fl_bin rfl rfl (b_add' (r := ((i7 + 1 : Nat) : Int)) (wi64 (by omega))) ?_
       refine fl_mv rfl (fl_nil ?_)
       exact lq_n (by omega) ⟨i7 + 1, _, _, _, [], rfl, hzl7, (atc rfl (atc rfl (atc rfl (atc rfl atn)))), rfl, by omega, hGs6⟩
      ·skip
       have hp113 := bn_iff dec_iff hc113
       refine fx_eseq ?_
       refine lq_e ?_
       refine sq_n ?_
       refine fx_ss (fx_sr (fl_mv rfl (fl_nil ?_)))
       refine fx_seq (fx_block ?_)
       refine fx_loop (fun n fs => ∃ (i8 : Nat) (G8 : List HA) (e : Env) (zz : Mem) (Hx : List HA), fs = ⟨e, zz, Hx ++ (.blk b10 (.cells 55 [.v (.int .i64 m108_0), w108_1, w108_2, w108_3, w108_4, w108_5]) :: .blk b1 (.cells 32 [.v (.string x.name), .v (.string x.parent), cx_0, .v (.bool x.threshold.n), cx_1, .v (.bool x.threshold.d), cx_2, .v (.bool x.cap.n), cx_3, .v (.bool x.cap.d), cx_4, .v (.int .i64 x.back), .v (.int .i64 x.forward), .v (.bool x.interest.n), cx_5, .v (.bool x.interest.d), cx_6, .v (.bool x.floor.n), cx_7, .v (.bool x.floor.d), cx_8, .v (.int .i64 x.keep), cx_9, cx_10, cx_11]) :: G8)⟩ ∧ zle zl7 zz ∧ AtL e [(1, .c (.ptr b1 0)), (9, .c (.v (.int .i64 (i6 : Int)))), (10, .c (.ptr b10 0)), (12, .c (.v (.int .i64 (i8 : Int))))] ∧ n = l108_2.length - i8 ∧ i8 ≤ l108_2.length ∧ GS (tz N0 G) G8) ?_ _ ⟨0, _, _, _, [], rfl, zle.refl _, (atc rfl (atc rfl (atc rfl (atc rfl atn)))), rfl, Nat.zero_le _, hG7⟩ (by show _ < 18446744073709551616; omega)
       intro n fs hI
       obtain ⟨i8, G8, e, zl8, Hx, rfl, hzl8, hat, rfl, hi8, hG8⟩ := hI
       refine fx_at hat fun e => ?_
       refine fx_sub (List.sublist_append_right _ _) ?_
       refine fx_ss (fx_sr (fl_mv rfl (fl_fad rfl ?_)))
       refine fl_ld (v := .c (w108_2)) rfl mem0 (len1 rfl) rfl ?_
       refine fl_lenS rfl q108_2 (fl_bin rfl rfl (b_lss _ _ _) (fl_nil ?_))
       refine fx_cseq ?_
       refine fx_condB rfl (fun hc125 => ?_) (fun hc125 => ?_)
       ·skip
        have hp125 := dec_iff.1 hc125
        refine fx_kseq ?_
        refine fx_seq (fx_block ?_)
        refine fx_region ?_
        refine fl_fad rfl ?_
        refine fl_ld (v := .c (w108_2)) rfl mem0 (len1 rfl) rfl ?_
        refine fl_mv rfl ?_
        refine fl_build rfl ?_
        obtain ⟨a132, ha132⟩ := at_lt (l := l108_2) (i := i8) (by omega)
        refine fl_iadS rfl rfl q108_2 i8 rfl a132 ha132 fun b132 p132 cs132 at132 hR132 => ?_
        obtain ⟨c132_0, c132_1, rfl, h132_0, h132_1⟩ := hR132
        refine fl_stG2 (off := 0) rfl hG8 rfl rfl rfl at132 (len1 rfl) (SRL.cons (.s _ _) (SRL.cons (.s _ _) (SRL.cons (.b _ _) (SRL.cons (SR.refl_row h132_0) (SRL.cons (.b _ _) (SRL.cons (SR.refl_row h132_1) SRL.nil)))))) fun Gs7 hGs7 => ?_
        refine fl_nil ?_
        refine sq_n ?_
        refine fx_region ?_
        refine fl_mv rfl ?_
        refine fl_bin rfl rfl (b_add' (r := ((i8 + 1 : Nat) : Int)) (wi64 (by omega))) ?_
        refine fl_mv rfl (fl_nil ?_)
        exact lq_n (by omega) ⟨i8 + 1, _, _, _, [], rfl, hzl8, (atc rfl (atc rfl (atc rfl (atc rfl atn)))), rfl, by omega, hGs7⟩
       ·skip
        have hp125 := bn_iff dec_iff hc125
        refine fx_eseq ?_
        refine lq_e ?_
        refine sq_n ?_
        refine fx_ss (fx_sr (fl_mv rfl (fl_nil ?_)))
        refine fx_seq (fx_block ?_)
        refine fx_loop (fun n fs => ∃ (i9 : Nat) (G9 : List HA) (e : Env) (zz : Mem) (Hx : List HA), fs = ⟨e, zz, Hx ++ (.blk b10 (.cells 55 [.v (.int .i64 m108_0), w108_1, w108_2, w108_3, w108_4, w108_5]) :: .blk b1 (.cells 32 [.v (.string x.name), .v (.string x.parent), cx_0, .v (.bool x.threshold.n), cx_1, .v (.bool x.threshold.d), cx_2, .v (.bool x.cap.n), cx_3, .v (.bool x.cap.d), cx_4, .v (.int .i64 x.back), .v (.int .i64 x.forward), .v (.bool x.interest.n), cx_5, .v (.bool x.interest.d), cx_6, .v (.bool x.floor.n), cx_7, .v (.bool x.floor.d), cx_8, .v (.int .i64 x.keep), cx_9, cx_10, cx_11]) :: G9)⟩ ∧ zle zl8 zz ∧ AtL e [(1, .c (.ptr b1 0)), (9, .c (.v (.int .i64 (i6 : Int)))), (10, .c (.ptr b10 0)), (13, .c (.v (.int .i64 (i9 : Int))))] ∧ n = l108_3.length - i9 ∧ i9 ≤ l108_3.length ∧ GS (tz N0 G) G9) ?_ _ ⟨0, _, _, _, [], rfl, zle.refl _, (atc rfl (atc rfl (atc rfl (atc rfl atn)))), rfl, Nat.zero_le _, hG8⟩ (by show _ < 18446744073709551616; omega)
        intro n fs hI
        obtain ⟨i9, G9, e, zl9, Hx, rfl, hzl9, hat, rfl, hi9, hG9⟩ := hI
        refine fx_at hat fun e => ?_
        refine fx_sub (List.sublist_append_right _ _) ?_
        refine fx_ss (fx_sr (fl_mv rfl (fl_fad rfl ?_)))
        refine fl_ld (v := .c (w108_3)) rfl mem0 (len1 rfl) rfl ?_
        refine fl_lenS rfl q108_3 (fl_bin rfl rfl (b_lss _ _ _) (fl_nil ?_))
        refine fx_cseq ?_
        refine fx_condB rfl (fun hc137 => ?_) (fun hc137 => ?_)
        ·skip
         have hp137 := dec_iff.1 hc137
         refine fx_kseq ?_
         refine fx_seq (fx_block ?_)
         refine fx_region ?_
         refine fl_fad rfl ?_
         refine fl_ld (v := .c (w108_3)) rfl mem0 (len1 rfl) rfl ?_
         refine fl_mv rfl ?_
         refine fl_build rfl ?_
         obtain ⟨a144, ha144⟩ := at_lt (l := l108_3) (i := i9) (by omega)
         refine fl_iadS rfl rfl q108_3 i9 rfl a144 ha144 fun b144 p144 cs144 at144 hR144 => ?_
         obtain ⟨c144_0, c144_1, rfl, h144_0, h144_1⟩ := hR144
         refine fl_stG2 (off := 0) rfl hG9 rfl rfl rfl at144 (len1 rfl) (SRL.cons (.b _ _) (SRL.cons (.s _ _) (SRL.cons (.i _ _ _) (SRL.cons (.s _ _) (SRL.cons (.s _ _) (SRL.cons (.s _ _) (SRL.cons (.b _ _) (SRL.cons (SR.refl_row h144_0) (SRL.cons (.b _ _) (SRL.cons (SR.refl_row h144_1) SRL.nil)))))))))) fun Gs8 hGs8 => ?_
         refine fl_nil ?_
         refine sq_n ?_
         refine fx_region ?_
         refine fl_mv rfl ?_
         refine fl_bin rfl rfl (b_add' (r := ((i9 + 1 : Nat) : Int)) (wi64 (by omega))) ?_
         refine fl_mv rfl (fl_nil ?_)
         exact lq_n (by omega) ⟨i9 + 1, _, _, _, [], rfl, hzl9, (atc rfl (atc rfl (atc rfl (atc rfl atn)))), rfl, by omega, hGs8⟩
        ·skip
         have hp137 := bn_iff dec_iff hc137
         refine fx_eseq ?_
         refine lq_e ?_
         refine sq_n ?_
         refine fx_ss (fx_sr (fl_mv rfl (fl_nil ?_)))
         refine fx_seq (fx_block ?_)
         refine fx_loop (fun n fs => ∃ (i10 : Nat) (G10 : List HA) (e : Env) (zz : Mem) (Hx : List HA), fs = ⟨e, zz, Hx ++ (.blk b10 (.cells 55 [.v (.int .i64 m108_0), w108_1, w108_2, w108_3, w108_4, w108_5]) :: .blk b1 (.cells 32 [.v (.string x.name), .v (.string x.parent), cx_0, .v (.bool x.threshold.n), cx_1, .v (.bool x.threshold.d), cx_2, .v (.bool x.cap.n), cx_3, .v (.bool x.cap.d), cx_4, .v (.int .i64 x.back), .v (.int .i64 x.forward), .v (.bool x.interest.n), cx_5, .v (.bool x.interest.d), cx_6, .v (.bool x.floor.n), cx_7, .v (.bool x.floor.d), cx_8, .v (.int .i64 x.keep), cx_9, cx_10, cx_11]) :: G10)⟩ ∧ zle zl9 zz ∧ AtL e [(1, .c (.ptr b1 0)), (9, .c (.v (.int .i64 (i6 : Int)))), (10, .c (.ptr b10 0)), (14, .c (.v (.int .i64 (i10 : Int))))] ∧ n = l108_4.length - i10 ∧ i10 ≤ l108_4.length ∧ GS (tz N0 G) G10) ?_ _ ⟨0, _, _, _, [], rfl, zle.refl _, (atc rfl (atc rfl (atc rfl (atc rfl atn)))), rfl, Nat.zero_le _, hG9⟩ (by show _ < 18446744073709551616; omega)
         intro n fs hI
         obtain ⟨i10, G10, e, zl10, Hx, rfl, hzl10, hat, rfl, hi10, hG10⟩ := hI
         refine fx_at hat fun e => ?_
         refine fx_sub (List.sublist_append_right _ _) ?_
         refine fx_ss (fx_sr (fl_mv rfl (fl_fad rfl ?_)))
         refine fl_ld (v := .c (w108_4)) rfl mem0 (len1 rfl) rfl ?_
         refine fl_lenS rfl q108_4 (fl_bin rfl rfl (b_lss _ _ _) (fl_nil ?_))
         refine fx_cseq ?_
         refine fx_condB rfl (fun hc149 => ?_) (fun hc149 => ?_)
         ·skip
          have hp149 := dec_iff.1 hc149
          refine fx_kseq ?_
          refine fx_seq (fx_block ?_)
          refine fx_region ?_
          refine fl_fad rfl ?_
          refine fl_ld (v := .c (w108_4)) rfl mem0 (len1 rfl) rfl ?_
          refine fl_mv rfl ?_
          refine fl_build rfl ?_
          obtain ⟨a156, ha156⟩ := at_lt (l := l108_4) (i := i10) (by omega)
          refine fl_iadS rfl rfl q108_4 i10 rfl a156 ha156 fun b156 p156 cs156 at156 hR156 => ?_
          obtain ⟨c156_0, c156_1, c156_2, c156_3, rfl, h156_0, h156_1, h156_2, h156_3⟩ := hR156
          refine fl_stG2 (off := 0) rfl hG10 rfl rfl rfl at156 (len1 rfl) (SRL.cons (.s _ _) (SRL.cons (.b _ _) (SRL.cons (SR.refl_row h156_0) (SRL.cons (.b _ _) (SRL.cons (SR.refl_row h156_1) (SRL.cons (.b _ _) (SRL.cons (SR.refl_row h156_2) (SRL.cons (.b _ _) (SRL.cons (SR.refl_row h156_3) SRL.nil))))))))) fun Gs9 hGs9 => ?_
          refine fl_nil ?_
          refine sq_n ?_
          refine fx_region ?_
          refine fl_mv rfl ?_
          refine fl_bin rfl rfl (b_add' (r := ((i10 + 1 : Nat) : Int)) (wi64 (by omega))) ?_
          refine fl_mv rfl (fl_nil ?_)
          exact lq_n (by omega) ⟨i10 + 1, _, _, _, [], rfl, hzl10, (atc rfl (atc rfl (atc rfl (atc rfl atn)))), rfl, by omega, hGs9⟩
         ·skip
          have hp149 := bn_iff dec_iff hc149
          refine fx_eseq ?_
          refine lq_e ?_
          refine sq_n ?_
          refine fx_ss (fx_sr (fl_mv rfl (fl_nil ?_)))
          refine fx_seq (fx_block ?_)
          refine fx_loop (fun n fs => ∃ (i11 : Nat) (G11 : List HA) (e : Env) (zz : Mem) (Hx : List HA), fs = ⟨e, zz, Hx ++ (.blk b10 (.cells 55 [.v (.int .i64 m108_0), w108_1, w108_2, w108_3, w108_4, w108_5]) :: .blk b1 (.cells 32 [.v (.string x.name), .v (.string x.parent), cx_0, .v (.bool x.threshold.n), cx_1, .v (.bool x.threshold.d), cx_2, .v (.bool x.cap.n), cx_3, .v (.bool x.cap.d), cx_4, .v (.int .i64 x.back), .v (.int .i64 x.forward), .v (.bool x.interest.n), cx_5, .v (.bool x.interest.d), cx_6, .v (.bool x.floor.n), cx_7, .v (.bool x.floor.d), cx_8, .v (.int .i64 x.keep), cx_9, cx_10, cx_11]) :: G11)⟩ ∧ zle zl10 zz ∧ AtL e [(1, .c (.ptr b1 0)), (9, .c (.v (.int .i64 (i6 : Int)))), (10, .c (.ptr b10 0)), (15, .c (.v (.int .i64 (i11 : Int))))] ∧ n = l108_5.length - i11 ∧ i11 ≤ l108_5.length ∧ GS (tz N0 G) G11) ?_ _ ⟨0, _, _, _, [], rfl, zle.refl _, (atc rfl (atc rfl (atc rfl (atc rfl atn)))), rfl, Nat.zero_le _, hG10⟩ (by show _ < 18446744073709551616; omega)
          intro n fs hI
          obtain ⟨i11, G11, e, zl11, Hx, rfl, hzl11, hat, rfl, hi11, hG11⟩ := hI
          refine fx_at hat fun e => ?_
          refine fx_sub (List.sublist_append_right _ _) ?_
          refine fx_ss (fx_sr (fl_mv rfl (fl_fad rfl ?_)))
          refine fl_ld (v := .c (w108_5)) rfl mem0 (len1 rfl) rfl ?_
          refine fl_lenS rfl q108_5 (fl_bin rfl rfl (b_lss _ _ _) (fl_nil ?_))
          refine fx_cseq ?_
          refine fx_condB rfl (fun hc161 => ?_) (fun hc161 => ?_)
          ·skip
           have hp161 := dec_iff.1 hc161
           refine fx_kseq ?_
           refine fx_seq (fx_block ?_)
           refine fx_region ?_
           refine fl_fad rfl ?_
           refine fl_ld (v := .c (w108_5)) rfl mem0 (len1 rfl) rfl ?_
           refine fl_mv rfl ?_
           refine fl_build rfl ?_
           obtain ⟨a168, ha168⟩ := at_lt (l := l108_5) (i := i11) (by omega)
           refine fl_iadS rfl rfl q108_5 i11 rfl a168 ha168 fun b168 p168 cs168 at168 hR168 => ?_
           obtain ⟨c168_0, c168_1, rfl, h168_0, h168_1⟩ := hR168
           refine fl_stG2 (off := 0) rfl hG11 rfl rfl rfl at168 (len1 rfl) (SRL.cons (.s _ _) (SRL.cons (.b _ _) (SRL.cons (SR.refl_row h168_0) (SRL.cons (.b _ _) (SRL.cons (SR.refl_row h168_1) SRL.nil))))) fun Gs10 hGs10 => ?_
           refine fl_nil ?_
           refine sq_n ?_
           refine fx_region ?_
           refine fl_mv rfl ?_
           refine fl_bin rfl rfl (b_add' (r := ((i11 + 1 : Nat) : Int)) (wi64 (by omega))) ?_
           refine fl_mv rfl (fl_nil ?_)
           exact lq_n (by omega) ⟨i11 + 1, _, _, _, [], rfl, hzl11, (atc rfl (atc rfl (atc rfl (atc rfl atn)))), rfl, by omega, hGs10⟩
          ·skip
           have hp161 := bn_iff dec_iff hc161
           refine fx_eseq ?_
           refine lq_e ?_
           refine sq_n ?_
           refine fx_region ?_
           refine fl_fad rfl ?_
           refine fl_ld (v := .c (cx_11)) rfl (memS mem0) (len1 rfl) rfl ?_
           refine fl_mv rfl ?_
           refine fl_build rfl ?_
           refine fl_iadS rfl rfl hx_11 i6 rfl a107 ha107 fun b173 p173 cs173 at173 hR173 => ?_
           obtain ⟨c173_0, c173_1, c173_2, c173_3, c173_4, rfl, h173_0, h173_1, h173_2, h173_3, h173_4⟩ := hR173
           refine fl_stG2 (off := 0) rfl hG11 rfl rfl rfl at173 (len1 rfl) (SRL.cons (.i _ _ _) (SRL.cons (SR.refl_row h173_0) (SRL.cons (SR.refl_row h173_1) (SRL.cons (SR.refl_row h173_2) (SRL.cons (SR.refl_row h173_3) (SRL.cons (SR.refl_row h173_4) SRL.nil)))))) fun Gs11 hGs11 => ?_
           refine fl_nil ?_
           refine sq_n ?_
           refine fx_region ?_
           refine fl_mv rfl ?_
           refine fl_bin rfl rfl (b_add' (r := ((i6 + 1 : Nat) : Int)) (wi64 (by omega))) ?_
           refine fl_mv rfl (fl_nil ?_)
           exact lq_n (by omega) ⟨i6 + 1, _, _, _, [_], rfl, hzl6.trans (hzl7.trans (hzl8.trans (hzl9.trans (hzl10.trans hzl11)))), (atc rfl (atc rfl atn)), rfl, by omega, hGs11⟩
     ·skip
      have hp101 := bn_iff dec_iff hc101
      refine fx_eseq ?_
      refine lq_e ?_
      refine ret_h (.inr rfl) rn (List.nil_sublist _) ?_
      rfl
open Go.CE Go.RowKit
theorem get7 : (mkT tS).get 7 = none := by kernel_rfl
theorem hand7 (mem : Tr Blk) (nx : Nat) : handL [W.e838] noHand 7 [] mem nx = some (.c (.v (.bool true)), mem, nx) := rfl
theorem works_fc {k : Nat} (hk : 1 ≤ k) {z : Mem} : FC (E k) 7 [] z fun v _ => v = .c (.v (.bool true)) := fun mem nx hh => by
 obtain ⟨j, rfl⟩ : ∃ j, k = j + 1 := ⟨k - 1, by omega⟩
 refine ⟨_, mem, nx, z, [], ?_, Nat.le_refl _, fun _ _ _ => rfl, hh, zle.refl _, fun b k h => .inl h, fun b h => (by simp [fps] at h), rfl, rfl⟩
 show evF (mkT tS) (handL [W.e838] noHand) K0 (j + 1) 7 [] mem nx = _
 rw [evF, get7]
 exact hand7 mem nx
theorem SmF.ln {x : PFiling} (h : SmF x) : LnF x := ⟨h.l0, h.l1, h.l2, h.l3, fun a ha => ⟨(h.y a ha).l0, (h.y a ha).l1, (h.y a ha).l2, (h.y a ha).l3, (h.y a ha).l4⟩⟩
theorem AstCopies_fc {k : Nat} (hk : 9 ≤ k) {z : Mem} {v : AV} {x : PFiling} (hx : AZ RFiling z v x) : FC (E k) 3 [v] z fun v _ => v = .c (.v (.bool true)) := by
 obtain ⟨_, rfl, cx_0, cx_1, cx_2, cx_3, cx_4, cx_5, cx_6, cx_7, cx_8, cx_9, cx_10, cx_11, rfl, hx_0, hx_1, hx_2, hx_3, hx_4, hx_5, hx_6, hx_7, hx_8, hx_9, hx_10, hx_11⟩ := hx
 refine fc_of (tS_get3) (by omega) (len1 rfl) fun B j hj => ?_
 have h2j : 2 ≤ j := by omega
 have h4j : 4 ≤ j := by omega
 have h7j : 7 ≤ j := by omega
 refine fx_base fun hB0 => ?_
 refine fx_sr ?_
 refine fl_box rfl rfl fun b1 => ?_
 refine fl_mv rfl (fl_nil (fx_ss (fx_sr ?_)))
 refine fl_ld (v := .agg [.v (.string x.name), .v (.string x.parent), cx_0, .v (.bool x.threshold.n), cx_1, .v (.bool x.threshold.d), cx_2, .v (.bool x.cap.n), cx_3, .v (.bool x.cap.d), cx_4, .v (.int .i64 x.back), .v (.int .i64 x.forward), .v (.bool x.interest.n), cx_5, .v (.bool x.interest.d), cx_6, .v (.bool x.floor.n), cx_7, .v (.bool x.floor.d), cx_8, .v (.int .i64 x.keep), cx_9, cx_10, cx_11]) rfl mem0 (len1 rfl) rfl ?_
 refine fl_call rfl (Few (by omega) ⟨_, rfl, mk_filing hx_0 hx_1 hx_2 hx_3 hx_4 hx_5 hx_6 hx_7 hx_8 hx_9 hx_10 hx_11⟩) fun v8 z8 hz8 ⟨r8, hv8, hf8⟩ => ?_
 subst hv8
 refine fl_un rfl (u_not _) ?_
 refine fl_nil ?_
 refine fx_cseq ?_
 refine fx_condB rfl (fun hc9 => ?_) (fun hc9 => ?_)
 ·skip
  have hp9 := (not_iffB Iff.rfl).1 hc9
  refine fx_ss (fx_sr ?_)
  refine fl_call rfl (works_fc (by omega)) fun v10 z10 hz10 hv10 => ?_
  subst hv10
  refine fl_mv rfl (fl_nil ?_)
  refine fx_rseq ?_
  refine ret_q (.inl rfl) (rt rfl rn) ?_
  rfl
 ·skip
  have hp9 := bn_iff (not_iffB Iff.rfl) hc9
  refine fx_kseq (fx_sr ?_)
  have hS := hf8 (Classical.not_not.1 hp9)
  refine fl_ld (v := .agg [.v (.string x.name), .v (.string x.parent), cx_0, .v (.bool x.threshold.n), cx_1, .v (.bool x.threshold.d), cx_2, .v (.bool x.cap.n), cx_3, .v (.bool x.cap.d), cx_4, .v (.int .i64 x.back), .v (.int .i64 x.forward), .v (.bool x.interest.n), cx_5, .v (.bool x.interest.d), cx_6, .v (.bool x.floor.n), cx_7, .v (.bool x.floor.d), cx_8, .v (.int .i64 x.keep), cx_9, cx_10, cx_11]) rfl mem0 (len1 rfl) rfl ?_
  refine fl_call rfl (ref_filing (z := z8) h4j ⟨_, rfl, mk_filing (hx_0.mono (hz8)) (hx_1.mono (hz8)) (hx_2.mono (hz8)) (hx_3.mono (hz8)) (hx_4.mono (hz8)) (hx_5.mono (hz8)) (hx_6.mono (hz8)) (hx_7.mono (hz8)) (hx_8.mono (hz8)) (hx_9.mono (hz8)) (hx_10.mono (hz8)) (hx_11.mono (hz8))⟩ hS) fun v12 z12 hz12 ⟨_, hv12, c12_0, c12_1, c12_2, c12_3, c12_4, c12_5, c12_6, c12_7, c12_8, c12_9, c12_10, c12_11, hq12, h12_0, h12_1, h12_2, h12_3, h12_4, h12_5, h12_6, h12_7, h12_8, h12_9, h12_10, h12_11⟩ => ?_
  subst hq12
  subst hv12
  refine fl_alloc fun b3 => ?_
  refine fl_stE (cs' := [.v (.string x.name), .v (.string x.parent), c12_0, .v (.bool x.threshold.n), c12_1, .v (.bool x.threshold.d), c12_2, .v (.bool x.cap.n), c12_3, .v (.bool x.cap.d), c12_4, .v (.int .i64 x.back), .v (.int .i64 x.forward), .v (.bool x.interest.n), c12_5, .v (.bool x.interest.d), c12_6, .v (.bool x.floor.n), c12_7, .v (.bool x.floor.d), c12_8, .v (.int .i64 x.keep), c12_9, c12_10, c12_11]) rfl rfl rfl rep0 (by kernel_rfl) rfl (len1 rfl) ?_
  refine fl_nil (fx_sr ?_)
  refine fl_ld (v := .agg [.v (.string x.name), .v (.string x.parent), cx_0, .v (.bool x.threshold.n), cx_1, .v (.bool x.threshold.d), cx_2, .v (.bool x.cap.n), cx_3, .v (.bool x.cap.d), cx_4, .v (.int .i64 x.back), .v (.int .i64 x.forward), .v (.bool x.interest.n), cx_5, .v (.bool x.interest.d), cx_6, .v (.bool x.floor.n), cx_7, .v (.bool x.floor.d), cx_8, .v (.int .i64 x.keep), cx_9, cx_10, cx_11]) rfl (memS mem0) (len1 rfl) rfl ?_
  refine fl_call rfl (copy_filing (z := z12) h7j ⟨_, rfl, mk_filing (hx_0.mono (hz8.trans hz12)) (hx_1.mono (hz8.trans hz12)) (hx_2.mono (hz8.trans hz12)) (hx_3.mono (hz8.trans hz12)) (hx_4.mono (hz8.trans hz12)) (hx_5.mono (hz8.trans hz12)) (hx_6.mono (hz8.trans hz12)) (hx_7.mono (hz8.trans hz12)) (hx_8.mono (hz8.trans hz12)) (hx_9.mono (hz8.trans hz12)) (hx_10.mono (hz8.trans hz12)) (hx_11.mono (hz8.trans hz12))⟩ hS) fun v14 z14 hz14 ⟨_, hv14, c14_0, c14_1, c14_2, c14_3, c14_4, c14_5, c14_6, c14_7, c14_8, c14_9, c14_10, c14_11, hq14, h14_0, h14_1, h14_2, h14_3, h14_4, h14_5, h14_6, h14_7, h14_8, h14_9, h14_10, h14_11⟩ => ?_
  subst hq14
  subst hv14
  refine fl_alloc fun b4 => ?_
  refine fl_stE (cs' := [.v (.string x.name), .v (.string x.parent), c14_0, .v (.bool x.threshold.n), c14_1, .v (.bool x.threshold.d), c14_2, .v (.bool x.cap.n), c14_3, .v (.bool x.cap.d), c14_4, .v (.int .i64 x.back), .v (.int .i64 x.forward), .v (.bool x.interest.n), c14_5, .v (.bool x.interest.d), c14_6, .v (.bool x.floor.n), c14_7, .v (.bool x.floor.d), c14_8, .v (.int .i64 x.keep), c14_9, c14_10, c14_11]) rfl rfl rfl rep0 (by kernel_rfl) rfl (len1 rfl) ?_
  refine fl_nil (fx_sr ?_)
  refine fl_ld (v := .agg [.v (.string x.name), .v (.string x.parent), c14_0, .v (.bool x.threshold.n), c14_1, .v (.bool x.threshold.d), c14_2, .v (.bool x.cap.n), c14_3, .v (.bool x.cap.d), c14_4, .v (.int .i64 x.back), .v (.int .i64 x.forward), .v (.bool x.interest.n), c14_5, .v (.bool x.interest.d), c14_6, .v (.bool x.floor.n), c14_7, .v (.bool x.floor.d), c14_8, .v (.int .i64 x.keep), c14_9, c14_10, c14_11]) rfl mem0 (len1 rfl) rfl ?_
  refine fl_call rfl (copy_filing (z := z14) h7j ⟨_, rfl, mk_filing (h14_0.mono zd_le) (h14_1.mono zd_le) (h14_2.mono zd_le) (h14_3.mono zd_le) (h14_4.mono zd_le) (h14_5.mono zd_le) (h14_6.mono zd_le) (h14_7.mono zd_le) (h14_8.mono zd_le) (h14_9.mono zd_le) (h14_10.mono zd_le) (h14_11.mono zd_le)⟩ hS) fun v16 z16 hz16 ⟨_, hv16, c16_0, c16_1, c16_2, c16_3, c16_4, c16_5, c16_6, c16_7, c16_8, c16_9, c16_10, c16_11, hq16, h16_0, h16_1, h16_2, h16_3, h16_4, h16_5, h16_6, h16_7, h16_8, h16_9, h16_10, h16_11⟩ => ?_
  subst hq16
  subst hv16
  refine fl_alloc fun b5 => ?_
  refine fl_stE (cs' := [.v (.string x.name), .v (.string x.parent), c16_0, .v (.bool x.threshold.n), c16_1, .v (.bool x.threshold.d), c16_2, .v (.bool x.cap.n), c16_3, .v (.bool x.cap.d), c16_4, .v (.int .i64 x.back), .v (.int .i64 x.forward), .v (.bool x.interest.n), c16_5, .v (.bool x.interest.d), c16_6, .v (.bool x.floor.n), c16_7, .v (.bool x.floor.d), c16_8, .v (.int .i64 x.keep), c16_9, c16_10, c16_11]) rfl rfl rfl rep0 (by kernel_rfl) rfl (len1 rfl) ?_
  refine fl_nil (fx_ss ?_)
  refine fx_drwS ?_
  refine fg_load (v := .agg [.v (.string x.name), .v (.string x.parent), c14_0, .v (.bool x.threshold.n), c14_1, .v (.bool x.threshold.d), c14_2, .v (.bool x.cap.n), c14_3, .v (.bool x.cap.d), c14_4, .v (.int .i64 x.back), .v (.int .i64 x.forward), .v (.bool x.interest.n), c14_5, .v (.bool x.interest.d), c14_6, .v (.bool x.floor.n), c14_7, .v (.bool x.floor.d), c14_8, .v (.int .i64 x.keep), c14_9, c14_10, c14_11]) (i := ⟨_, _, .load _ _ _⟩) rfl rfl trivial rfl (.inr (memS mem0)) rfl (len1 rfl) rfl (by simp [sameA, sameL, sameC_int, sameC_b, sameC_s, h14_0.refl, h14_1.refl, h14_2.refl, h14_3.refl, h14_4.refl, h14_5.refl, h14_6.refl, h14_7.refl, h14_8.refl, h14_9.refl, h14_10.refl, h14_11.refl]) ?_
  refine fg_call (i := ⟨_, _, .call _ _⟩) rfl rfl trivial rfl rfl rfl (ref_filing (z := z16) h4j ⟨_, rfl, mk_filing (h14_0.mono (zd_le.trans (hz16))) (h14_1.mono (zd_le.trans (hz16))) (h14_2.mono (zd_le.trans (hz16))) (h14_3.mono (zd_le.trans (hz16))) (h14_4.mono (zd_le.trans (hz16))) (h14_5.mono (zd_le.trans (hz16))) (h14_6.mono (zd_le.trans (hz16))) (h14_7.mono (zd_le.trans (hz16))) (h14_8.mono (zd_le.trans (hz16))) (h14_9.mono (zd_le.trans (hz16))) (h14_10.mono (zd_le.trans (hz16))) (h14_11.mono (zd_le.trans (hz16)))⟩ hS) fun v18 z18 hz18 ⟨_, hv18, c18_0, c18_1, c18_2, c18_3, c18_4, c18_5, c18_6, c18_7, c18_8, c18_9, c18_10, c18_11, hq18, h18_0, h18_1, h18_2, h18_3, h18_4, h18_5, h18_6, h18_7, h18_8, h18_9, h18_10, h18_11⟩ => ?_
  subst hq18
  subst hv18
  refine fg_load (v := .agg [.v (.string x.name), .v (.string x.parent), c12_0, .v (.bool x.threshold.n), c12_1, .v (.bool x.threshold.d), c12_2, .v (.bool x.cap.n), c12_3, .v (.bool x.cap.d), c12_4, .v (.int .i64 x.back), .v (.int .i64 x.forward), .v (.bool x.interest.n), c12_5, .v (.bool x.interest.d), c12_6, .v (.bool x.floor.n), c12_7, .v (.bool x.floor.d), c12_8, .v (.int .i64 x.keep), c12_9, c12_10, c12_11]) (i := ⟨_, _, .load _ _ _⟩) rfl rfl trivial rfl (.inr (memS (memS mem0))) rfl (len1 rfl) rfl (by simp [sameA, sameL, sameC_int, sameC_b, sameC_s, h12_0.refl, h12_1.refl, h12_2.refl, h12_3.refl, h12_4.refl, h12_5.refl, h12_6.refl, h12_7.refl, h12_8.refl, h12_9.refl, h12_10.refl, h12_11.refl]) ?_
  refine fg_call (i := ⟨_, _, .call _ _⟩) rfl rfl trivial rfl rfl rfl (same_filing h4j ⟨_, rfl, mk_filing h18_0 h18_1 h18_2 h18_3 h18_4 h18_5 h18_6 h18_7 h18_8 h18_9 h18_10 h18_11⟩ ⟨_, rfl, mk_filing (h12_0.mono (hz14.trans (hz16.trans hz18))) (h12_1.mono (hz14.trans (hz16.trans hz18))) (h12_2.mono (hz14.trans (hz16.trans hz18))) (h12_3.mono (hz14.trans (hz16.trans hz18))) (h12_4.mono (hz14.trans (hz16.trans hz18))) (h12_5.mono (hz14.trans (hz16.trans hz18))) (h12_6.mono (hz14.trans (hz16.trans hz18))) (h12_7.mono (hz14.trans (hz16.trans hz18))) (h12_8.mono (hz14.trans (hz16.trans hz18))) (h12_9.mono (hz14.trans (hz16.trans hz18))) (h12_10.mono (hz14.trans (hz16.trans hz18))) (h12_11.mono (hz14.trans (hz16.trans hz18)))⟩) fun v20 z20 hz20 ⟨r20, hv20, hr20⟩ => ?_
  subst hv20
  refine fg_pure rfl rfl trivial ?_
  refine fl_un rfl (u_not _) ?_
  refine fl_nil (fg_pure rfl rfl trivial (fl_mv rfl (fl_nil ?_)))
  refine fg_splitB 22 rfl (fun hg22 => ?_) (fun hg22 => ?_)
  ·skip
   have hp22 := (not_iffB hr20).1 hg22
   refine fg_off rfl rfl (.inl rfl) (fg_off rfl rfl (.inl rfl) (fg_off rfl rfl (.inl rfl) (fg_off rfl rfl (.inl rfl) (fg_off rfl rfl (.inl rfl) (fg_pure rfl rfl trivial (fl_pick rfl rfl (fl_nil ?_)))))))
   refine fg_nil ?_
   refine fx_cseq ?_
   refine fx_condT rfl ?_
   refine fx_ss (fx_sr (fl_mv rfl (fl_nil ?_)))
   refine fx_rseq ?_
   refine ret_q (.inl rfl) (rt rfl rn) ?_
   exact absurd rfl hp22
  ·skip
   have hp22 := bn_iff (not_iffB hr20) hg22
   refine fg_load (v := .agg [.v (.string x.name), .v (.string x.parent), c16_0, .v (.bool x.threshold.n), c16_1, .v (.bool x.threshold.d), c16_2, .v (.bool x.cap.n), c16_3, .v (.bool x.cap.d), c16_4, .v (.int .i64 x.back), .v (.int .i64 x.forward), .v (.bool x.interest.n), c16_5, .v (.bool x.interest.d), c16_6, .v (.bool x.floor.n), c16_7, .v (.bool x.floor.d), c16_8, .v (.int .i64 x.keep), c16_9, c16_10, c16_11]) (i := ⟨_, _, .load _ _ _⟩) rfl rfl rfl rfl (.inr mem0) rfl (len1 rfl) rfl (by simp [sameA, sameL, sameC_int, sameC_b, sameC_s, h16_0.refl, h16_1.refl, h16_2.refl, h16_3.refl, h16_4.refl, h16_5.refl, h16_6.refl, h16_7.refl, h16_8.refl, h16_9.refl, h16_10.refl, h16_11.refl]) ?_
   refine fg_call (i := ⟨_, _, .call _ _⟩) rfl rfl rfl rfl rfl rfl (ref_filing (z := z20) h4j ⟨_, rfl, mk_filing (h16_0.mono (zd_le.trans (hz18.trans hz20))) (h16_1.mono (zd_le.trans (hz18.trans hz20))) (h16_2.mono (zd_le.trans (hz18.trans hz20))) (h16_3.mono (zd_le.trans (hz18.trans hz20))) (h16_4.mono (zd_le.trans (hz18.trans hz20))) (h16_5.mono (zd_le.trans (hz18.trans hz20))) (h16_6.mono (zd_le.trans (hz18.trans hz20))) (h16_7.mono (zd_le.trans (hz18.trans hz20))) (h16_8.mono (zd_le.trans (hz18.trans hz20))) (h16_9.mono (zd_le.trans (hz18.trans hz20))) (h16_10.mono (zd_le.trans (hz18.trans hz20))) (h16_11.mono (zd_le.trans (hz18.trans hz20)))⟩ hS) fun v24 z24 hz24 ⟨_, hv24, c24_0, c24_1, c24_2, c24_3, c24_4, c24_5, c24_6, c24_7, c24_8, c24_9, c24_10, c24_11, hq24, h24_0, h24_1, h24_2, h24_3, h24_4, h24_5, h24_6, h24_7, h24_8, h24_9, h24_10, h24_11⟩ => ?_
   subst hq24
   subst hv24
   refine fg_load (v := .agg [.v (.string x.name), .v (.string x.parent), c12_0, .v (.bool x.threshold.n), c12_1, .v (.bool x.threshold.d), c12_2, .v (.bool x.cap.n), c12_3, .v (.bool x.cap.d), c12_4, .v (.int .i64 x.back), .v (.int .i64 x.forward), .v (.bool x.interest.n), c12_5, .v (.bool x.interest.d), c12_6, .v (.bool x.floor.n), c12_7, .v (.bool x.floor.d), c12_8, .v (.int .i64 x.keep), c12_9, c12_10, c12_11]) (i := ⟨_, _, .load _ _ _⟩) rfl rfl rfl rfl (.inr (memS (memS mem0))) rfl (len1 rfl) rfl (by simp [sameA, sameL, sameC_int, sameC_b, sameC_s, h12_0.refl, h12_1.refl, h12_2.refl, h12_3.refl, h12_4.refl, h12_5.refl, h12_6.refl, h12_7.refl, h12_8.refl, h12_9.refl, h12_10.refl, h12_11.refl]) ?_
   refine fg_call (i := ⟨_, _, .call _ _⟩) rfl rfl rfl rfl rfl rfl (same_filing h4j ⟨_, rfl, mk_filing h24_0 h24_1 h24_2 h24_3 h24_4 h24_5 h24_6 h24_7 h24_8 h24_9 h24_10 h24_11⟩ ⟨_, rfl, mk_filing (h12_0.mono (hz14.trans (hz16.trans (hz18.trans (hz20.trans hz24))))) (h12_1.mono (hz14.trans (hz16.trans (hz18.trans (hz20.trans hz24))))) (h12_2.mono (hz14.trans (hz16.trans (hz18.trans (hz20.trans hz24))))) (h12_3.mono (hz14.trans (hz16.trans (hz18.trans (hz20.trans hz24))))) (h12_4.mono (hz14.trans (hz16.trans (hz18.trans (hz20.trans hz24))))) (h12_5.mono (hz14.trans (hz16.trans (hz18.trans (hz20.trans hz24))))) (h12_6.mono (hz14.trans (hz16.trans (hz18.trans (hz20.trans hz24))))) (h12_7.mono (hz14.trans (hz16.trans (hz18.trans (hz20.trans hz24))))) (h12_8.mono (hz14.trans (hz16.trans (hz18.trans (hz20.trans hz24))))) (h12_9.mono (hz14.trans (hz16.trans (hz18.trans (hz20.trans hz24))))) (h12_10.mono (hz14.trans (hz16.trans (hz18.trans (hz20.trans hz24))))) (h12_11.mono (hz14.trans (hz16.trans (hz18.trans (hz20.trans hz24)))))⟩) fun v26 z26 hz26 ⟨r26, hv26, hr26⟩ => ?_
   subst hv26
   refine fg_pure rfl rfl rfl ?_
   refine fl_un rfl (u_not _) ?_
   refine fl_nil (fg_pure rfl rfl trivial (fl_pick rfl rfl (fl_nil ?_)))
   refine fg_nil ?_
   refine fx_cseq ?_
   refine fx_condB rfl (fun hc28 => ?_) (fun hc28 => ?_)
   ·skip
    have hp28 := (not_iffB hr26).1 hc28
    refine fx_ss (fx_sr (fl_mv rfl (fl_nil ?_)))
    refine fx_rseq ?_
    refine ret_q (.inl rfl) (rt rfl rn) ?_
    exact absurd rfl hp28
   ·skip
    have hp28 := bn_iff (not_iffB hr26) hc28
    refine fx_kseq (fx_sr ?_)
    refine fl_ld (v := .agg [.v (.string x.name), .v (.string x.parent), c14_0, .v (.bool x.threshold.n), c14_1, .v (.bool x.threshold.d), c14_2, .v (.bool x.cap.n), c14_3, .v (.bool x.cap.d), c14_4, .v (.int .i64 x.back), .v (.int .i64 x.forward), .v (.bool x.interest.n), c14_5, .v (.bool x.interest.d), c14_6, .v (.bool x.floor.n), c14_7, .v (.bool x.floor.d), c14_8, .v (.int .i64 x.keep), c14_9, c14_10, c14_11]) rfl (memS mem0) (len1 rfl) rfl ?_
    refine fl_thaw (zA := z12) (zB := z14) (hB0.trans (hz8.trans (hz12))) (hz14) (hz16.trans (hz18.trans (hz20.trans (hz24.trans (hz26))))) fun G30 zt30 hG30 hb30 hf30 hzt30 hzb30 => ?_
    have hzb30 : zle (zd z14 z26) zt30 := hzb30
    have g30_0 := h14_0.mono (fun b k h => (hG30 b k).2 h)
    have g30_1 := h14_1.mono (fun b k h => (hG30 b k).2 h)
    have g30_2 := h14_2.mono (fun b k h => (hG30 b k).2 h)
    have g30_3 := h14_3.mono (fun b k h => (hG30 b k).2 h)
    have g30_4 := h14_4.mono (fun b k h => (hG30 b k).2 h)
    have g30_5 := h14_5.mono (fun b k h => (hG30 b k).2 h)
    have g30_6 := h14_6.mono (fun b k h => (hG30 b k).2 h)
    have g30_7 := h14_7.mono (fun b k h => (hG30 b k).2 h)
    have g30_8 := h14_8.mono (fun b k h => (hG30 b k).2 h)
    have g30_9 := h14_9.mono (fun b k h => (hG30 b k).2 h)
    have g30_10 := h14_10.mono (fun b k h => (hG30 b k).2 h)
    have g30_11 := h14_11.mono (fun b k h => (hG30 b k).2 h)
    have hkb := (zd_mono (hz18.trans (hz20.trans (hz24.trans (hz26))))).trans hzb30
    have kh16_0 := h16_0.mono ((zd_mono (hz18.trans (hz20.trans (hz24.trans (hz26))))).trans hzb30)
    have kh16_1 := h16_1.mono ((zd_mono (hz18.trans (hz20.trans (hz24.trans (hz26))))).trans hzb30)
    have kh16_2 := h16_2.mono ((zd_mono (hz18.trans (hz20.trans (hz24.trans (hz26))))).trans hzb30)
    have kh16_3 := h16_3.mono ((zd_mono (hz18.trans (hz20.trans (hz24.trans (hz26))))).trans hzb30)
    have kh16_4 := h16_4.mono ((zd_mono (hz18.trans (hz20.trans (hz24.trans (hz26))))).trans hzb30)
    have kh16_5 := h16_5.mono ((zd_mono (hz18.trans (hz20.trans (hz24.trans (hz26))))).trans hzb30)
    have kh16_6 := h16_6.mono ((zd_mono (hz18.trans (hz20.trans (hz24.trans (hz26))))).trans hzb30)
    have kh16_7 := h16_7.mono ((zd_mono (hz18.trans (hz20.trans (hz24.trans (hz26))))).trans hzb30)
    have kh16_8 := h16_8.mono ((zd_mono (hz18.trans (hz20.trans (hz24.trans (hz26))))).trans hzb30)
    have kh16_9 := h16_9.mono ((zd_mono (hz18.trans (hz20.trans (hz24.trans (hz26))))).trans hzb30)
    have kh16_10 := h16_10.mono ((zd_mono (hz18.trans (hz20.trans (hz24.trans (hz26))))).trans hzb30)
    have kh16_11 := h16_11.mono ((zd_mono (hz18.trans (hz20.trans (hz24.trans (hz26))))).trans hzb30)
    have hsp30 : FCt (E j) 11 [.agg [.v (.string x.name), .v (.string x.parent), c14_0, .v (.bool x.threshold.n), c14_1, .v (.bool x.threshold.d), c14_2, .v (.bool x.cap.n), c14_3, .v (.bool x.cap.d), c14_4, .v (.int .i64 x.back), .v (.int .i64 x.forward), .v (.bool x.interest.n), c14_5, .v (.bool x.interest.d), c14_6, .v (.bool x.floor.n), c14_7, .v (.bool x.floor.d), c14_8, .v (.int .i64 x.keep), c14_9, c14_10, c14_11]] zt30 G30 (fun _ z' H' => z' = zt30 ∧ H' = []) := (spoil h2j hb30 (fun b k h => ((hG30 b k).1 h).2.2) hf30 ⟨_, rfl, mk_filing g30_0 g30_1 g30_2 g30_3 g30_4 g30_5 g30_6 g30_7 g30_8 g30_9 g30_10 g30_11⟩ hS.ln).frame
    refine fl_callL (Hs := G30) rfl rfl hsp30 fun v30 z30 H30 hz30 ⟨_, hH30⟩ => ?_
    subst hH30
    refine fl_nil (fx_ss ?_)
    refine fx_drwS ?_
    refine fg_load (v := .agg [.v (.string x.name), .v (.string x.parent), cx_0, .v (.bool x.threshold.n), cx_1, .v (.bool x.threshold.d), cx_2, .v (.bool x.cap.n), cx_3, .v (.bool x.cap.d), cx_4, .v (.int .i64 x.back), .v (.int .i64 x.forward), .v (.bool x.interest.n), cx_5, .v (.bool x.interest.d), cx_6, .v (.bool x.floor.n), cx_7, .v (.bool x.floor.d), cx_8, .v (.int .i64 x.keep), cx_9, cx_10, cx_11]) (i := ⟨_, _, .load _ _ _⟩) rfl rfl trivial rfl (.inr (memS (memS (memS mem0)))) rfl (len1 rfl) rfl (by simp [sameA, sameL, sameC_int, sameC_b, sameC_s, hx_0.refl, hx_1.refl, hx_2.refl, hx_3.refl, hx_4.refl, hx_5.refl, hx_6.refl, hx_7.refl, hx_8.refl, hx_9.refl, hx_10.refl, hx_11.refl]) ?_
    refine fg_call (i := ⟨_, _, .call _ _⟩) rfl rfl trivial rfl rfl rfl (ref_filing (z := z30) h4j ⟨_, rfl, mk_filing (hx_0.mono (hz8.trans (hz12.trans (hzt30.trans hz30)))) (hx_1.mono (hz8.trans (hz12.trans (hzt30.trans hz30)))) (hx_2.mono (hz8.trans (hz12.trans (hzt30.trans hz30)))) (hx_3.mono (hz8.trans (hz12.trans (hzt30.trans hz30)))) (hx_4.mono (hz8.trans (hz12.trans (hzt30.trans hz30)))) (hx_5.mono (hz8.trans (hz12.trans (hzt30.trans hz30)))) (hx_6.mono (hz8.trans (hz12.trans (hzt30.trans hz30)))) (hx_7.mono (hz8.trans (hz12.trans (hzt30.trans hz30)))) (hx_8.mono (hz8.trans (hz12.trans (hzt30.trans hz30)))) (hx_9.mono (hz8.trans (hz12.trans (hzt30.trans hz30)))) (hx_10.mono (hz8.trans (hz12.trans (hzt30.trans hz30)))) (hx_11.mono (hz8.trans (hz12.trans (hzt30.trans hz30))))⟩ hS) fun v32 z32 hz32 ⟨_, hv32, c32_0, c32_1, c32_2, c32_3, c32_4, c32_5, c32_6, c32_7, c32_8, c32_9, c32_10, c32_11, hq32, h32_0, h32_1, h32_2, h32_3, h32_4, h32_5, h32_6, h32_7, h32_8, h32_9, h32_10, h32_11⟩ => ?_
    subst hq32
    subst hv32
    refine fg_load (v := .agg [.v (.string x.name), .v (.string x.parent), c12_0, .v (.bool x.threshold.n), c12_1, .v (.bool x.threshold.d), c12_2, .v (.bool x.cap.n), c12_3, .v (.bool x.cap.d), c12_4, .v (.int .i64 x.back), .v (.int .i64 x.forward), .v (.bool x.interest.n), c12_5, .v (.bool x.interest.d), c12_6, .v (.bool x.floor.n), c12_7, .v (.bool x.floor.d), c12_8, .v (.int .i64 x.keep), c12_9, c12_10, c12_11]) (i := ⟨_, _, .load _ _ _⟩) rfl rfl trivial rfl (.inr (memS (memS mem0))) rfl (len1 rfl) rfl (by simp [sameA, sameL, sameC_int, sameC_b, sameC_s, h12_0.refl, h12_1.refl, h12_2.refl, h12_3.refl, h12_4.refl, h12_5.refl, h12_6.refl, h12_7.refl, h12_8.refl, h12_9.refl, h12_10.refl, h12_11.refl]) ?_
    refine fg_call (i := ⟨_, _, .call _ _⟩) rfl rfl trivial rfl rfl rfl (same_filing h4j ⟨_, rfl, mk_filing h32_0 h32_1 h32_2 h32_3 h32_4 h32_5 h32_6 h32_7 h32_8 h32_9 h32_10 h32_11⟩ ⟨_, rfl, mk_filing (h12_0.mono (hzt30.trans (hz30.trans hz32))) (h12_1.mono (hzt30.trans (hz30.trans hz32))) (h12_2.mono (hzt30.trans (hz30.trans hz32))) (h12_3.mono (hzt30.trans (hz30.trans hz32))) (h12_4.mono (hzt30.trans (hz30.trans hz32))) (h12_5.mono (hzt30.trans (hz30.trans hz32))) (h12_6.mono (hzt30.trans (hz30.trans hz32))) (h12_7.mono (hzt30.trans (hz30.trans hz32))) (h12_8.mono (hzt30.trans (hz30.trans hz32))) (h12_9.mono (hzt30.trans (hz30.trans hz32))) (h12_10.mono (hzt30.trans (hz30.trans hz32))) (h12_11.mono (hzt30.trans (hz30.trans hz32)))⟩) fun v34 z34 hz34 ⟨r34, hv34, hr34⟩ => ?_
    subst hv34
    refine fg_pure rfl rfl trivial ?_
    refine fl_un rfl (u_not _) ?_
    refine fl_nil (fg_pure rfl rfl trivial (fl_mv rfl (fl_nil ?_)))
    refine fg_splitB 36 rfl (fun hg36 => ?_) (fun hg36 => ?_)
    ·skip
     have hp36 := (not_iffB hr34).1 hg36
     refine fg_off rfl rfl (.inl rfl) (fg_off rfl rfl (.inl rfl) (fg_off rfl rfl (.inl rfl) (fg_off rfl rfl (.inl rfl) (fg_off rfl rfl (.inl rfl) (fg_pure rfl rfl trivial (fl_pick rfl rfl (fl_nil ?_)))))))
     refine fg_nil ?_
     refine fx_cseq ?_
     refine fx_condT rfl ?_
     refine fx_ss (fx_sr (fl_mv rfl (fl_nil ?_)))
     refine fx_rseq ?_
     refine ret_q (.inl rfl) (rt rfl rn) ?_
     exact absurd rfl hp36
    ·skip
     have hp36 := bn_iff (not_iffB hr34) hg36
     refine fg_load (v := .agg [.v (.string x.name), .v (.string x.parent), c16_0, .v (.bool x.threshold.n), c16_1, .v (.bool x.threshold.d), c16_2, .v (.bool x.cap.n), c16_3, .v (.bool x.cap.d), c16_4, .v (.int .i64 x.back), .v (.int .i64 x.forward), .v (.bool x.interest.n), c16_5, .v (.bool x.interest.d), c16_6, .v (.bool x.floor.n), c16_7, .v (.bool x.floor.d), c16_8, .v (.int .i64 x.keep), c16_9, c16_10, c16_11]) (i := ⟨_, _, .load _ _ _⟩) rfl rfl rfl rfl (.inr mem0) rfl (len1 rfl) rfl (by simp [sameA, sameL, sameC_int, sameC_b, sameC_s, kh16_0.refl, kh16_1.refl, kh16_2.refl, kh16_3.refl, kh16_4.refl, kh16_5.refl, kh16_6.refl, kh16_7.refl, kh16_8.refl, kh16_9.refl, kh16_10.refl, kh16_11.refl]) ?_
     refine fg_call (i := ⟨_, _, .call _ _⟩) rfl rfl rfl rfl rfl rfl (ref_filing (z := z34) h4j ⟨_, rfl, mk_filing (kh16_0.mono (hz30.trans (hz32.trans hz34))) (kh16_1.mono (hz30.trans (hz32.trans hz34))) (kh16_2.mono (hz30.trans (hz32.trans hz34))) (kh16_3.mono (hz30.trans (hz32.trans hz34))) (kh16_4.mono (hz30.trans (hz32.trans hz34))) (kh16_5.mono (hz30.trans (hz32.trans hz34))) (kh16_6.mono (hz30.trans (hz32.trans hz34))) (kh16_7.mono (hz30.trans (hz32.trans hz34))) (kh16_8.mono (hz30.trans (hz32.trans hz34))) (kh16_9.mono (hz30.trans (hz32.trans hz34))) (kh16_10.mono (hz30.trans (hz32.trans hz34))) (kh16_11.mono (hz30.trans (hz32.trans hz34)))⟩ hS) fun v38 z38 hz38 ⟨_, hv38, c38_0, c38_1, c38_2, c38_3, c38_4, c38_5, c38_6, c38_7, c38_8, c38_9, c38_10, c38_11, hq38, h38_0, h38_1, h38_2, h38_3, h38_4, h38_5, h38_6, h38_7, h38_8, h38_9, h38_10, h38_11⟩ => ?_
     subst hq38
     subst hv38
     refine fg_load (v := .agg [.v (.string x.name), .v (.string x.parent), c12_0, .v (.bool x.threshold.n), c12_1, .v (.bool x.threshold.d), c12_2, .v (.bool x.cap.n), c12_3, .v (.bool x.cap.d), c12_4, .v (.int .i64 x.back), .v (.int .i64 x.forward), .v (.bool x.interest.n), c12_5, .v (.bool x.interest.d), c12_6, .v (.bool x.floor.n), c12_7, .v (.bool x.floor.d), c12_8, .v (.int .i64 x.keep), c12_9, c12_10, c12_11]) (i := ⟨_, _, .load _ _ _⟩) rfl rfl rfl rfl (.inr (memS (memS mem0))) rfl (len1 rfl) rfl (by simp [sameA, sameL, sameC_int, sameC_b, sameC_s, h12_0.refl, h12_1.refl, h12_2.refl, h12_3.refl, h12_4.refl, h12_5.refl, h12_6.refl, h12_7.refl, h12_8.refl, h12_9.refl, h12_10.refl, h12_11.refl]) ?_
     refine fg_call (i := ⟨_, _, .call _ _⟩) rfl rfl rfl rfl rfl rfl (same_filing h4j ⟨_, rfl, mk_filing h38_0 h38_1 h38_2 h38_3 h38_4 h38_5 h38_6 h38_7 h38_8 h38_9 h38_10 h38_11⟩ ⟨_, rfl, mk_filing (h12_0.mono (hzt30.trans (hz30.trans (hz32.trans (hz34.trans hz38))))) (h12_1.mono (hzt30.trans (hz30.trans (hz32.trans (hz34.trans hz38))))) (h12_2.mono (hzt30.trans (hz30.trans (hz32.trans (hz34.trans hz38))))) (h12_3.mono (hzt30.trans (hz30.trans (hz32.trans (hz34.trans hz38))))) (h12_4.mono (hzt30.trans (hz30.trans (hz32.trans (hz34.trans hz38))))) (h12_5.mono (hzt30.trans (hz30.trans (hz32.trans (hz34.trans hz38))))) (h12_6.mono (hzt30.trans (hz30.trans (hz32.trans (hz34.trans hz38))))) (h12_7.mono (hzt30.trans (hz30.trans (hz32.trans (hz34.trans hz38))))) (h12_8.mono (hzt30.trans (hz30.trans (hz32.trans (hz34.trans hz38))))) (h12_9.mono (hzt30.trans (hz30.trans (hz32.trans (hz34.trans hz38))))) (h12_10.mono (hzt30.trans (hz30.trans (hz32.trans (hz34.trans hz38))))) (h12_11.mono (hzt30.trans (hz30.trans (hz32.trans (hz34.trans hz38)))))⟩) fun v40 z40 hz40 ⟨r40, hv40, hr40⟩ => ?_
     subst hv40
     refine fg_pure rfl rfl rfl ?_
     refine fl_un rfl (u_not _) ?_
     refine fl_nil (fg_pure rfl rfl trivial (fl_pick rfl rfl (fl_nil ?_)))
     refine fg_nil ?_
     refine fx_cseq ?_
     refine fx_condB rfl (fun hc42 => ?_) (fun hc42 => ?_)
     ·skip
      have hp42 := (not_iffB hr40).1 hc42
      refine fx_ss (fx_sr (fl_mv rfl (fl_nil ?_)))
      refine fx_rseq ?_
      refine ret_q (.inl rfl) (rt rfl rn) ?_
      exact absurd rfl hp42
     ·skip
      have hp42 := bn_iff (not_iffB hr40) hc42
      refine fx_kseq (fx_sr ?_)
      refine fl_ld (v := .agg [.v (.string x.name), .v (.string x.parent), c16_0, .v (.bool x.threshold.n), c16_1, .v (.bool x.threshold.d), c16_2, .v (.bool x.cap.n), c16_3, .v (.bool x.cap.d), c16_4, .v (.int .i64 x.back), .v (.int .i64 x.forward), .v (.bool x.interest.n), c16_5, .v (.bool x.interest.d), c16_6, .v (.bool x.floor.n), c16_7, .v (.bool x.floor.d), c16_8, .v (.int .i64 x.keep), c16_9, c16_10, c16_11]) rfl mem0 (len1 rfl) rfl ?_
      refine fl_call rfl (copy_filing (z := z40) h7j ⟨_, rfl, mk_filing (kh16_0.mono (hz30.trans (hz32.trans (hz34.trans (hz38.trans hz40))))) (kh16_1.mono (hz30.trans (hz32.trans (hz34.trans (hz38.trans hz40))))) (kh16_2.mono (hz30.trans (hz32.trans (hz34.trans (hz38.trans hz40))))) (kh16_3.mono (hz30.trans (hz32.trans (hz34.trans (hz38.trans hz40))))) (kh16_4.mono (hz30.trans (hz32.trans (hz34.trans (hz38.trans hz40))))) (kh16_5.mono (hz30.trans (hz32.trans (hz34.trans (hz38.trans hz40))))) (kh16_6.mono (hz30.trans (hz32.trans (hz34.trans (hz38.trans hz40))))) (kh16_7.mono (hz30.trans (hz32.trans (hz34.trans (hz38.trans hz40))))) (kh16_8.mono (hz30.trans (hz32.trans (hz34.trans (hz38.trans hz40))))) (kh16_9.mono (hz30.trans (hz32.trans (hz34.trans (hz38.trans hz40))))) (kh16_10.mono (hz30.trans (hz32.trans (hz34.trans (hz38.trans hz40))))) (kh16_11.mono (hz30.trans (hz32.trans (hz34.trans (hz38.trans hz40)))))⟩ hS) fun v44 z44 hz44 ⟨_, hv44, c44_0, c44_1, c44_2, c44_3, c44_4, c44_5, c44_6, c44_7, c44_8, c44_9, c44_10, c44_11, hq44, h44_0, h44_1, h44_2, h44_3, h44_4, h44_5, h44_6, h44_7, h44_8, h44_9, h44_10, h44_11⟩ => ?_
      subst hq44
      subst hv44
      refine fl_alloc fun b6 => ?_
      refine fl_stE (cs' := [.v (.string x.name), .v (.string x.parent), c44_0, .v (.bool x.threshold.n), c44_1, .v (.bool x.threshold.d), c44_2, .v (.bool x.cap.n), c44_3, .v (.bool x.cap.d), c44_4, .v (.int .i64 x.back), .v (.int .i64 x.forward), .v (.bool x.interest.n), c44_5, .v (.bool x.interest.d), c44_6, .v (.bool x.floor.n), c44_7, .v (.bool x.floor.d), c44_8, .v (.int .i64 x.keep), c44_9, c44_10, c44_11]) rfl rfl rfl rep0 (by kernel_rfl) rfl (len1 rfl) ?_
      refine fl_nil (fx_sr ?_)
      refine fl_ld (v := .agg [.v (.string x.name), .v (.string x.parent), c16_0, .v (.bool x.threshold.n), c16_1, .v (.bool x.threshold.d), c16_2, .v (.bool x.cap.n), c16_3, .v (.bool x.cap.d), c16_4, .v (.int .i64 x.back), .v (.int .i64 x.forward), .v (.bool x.interest.n), c16_5, .v (.bool x.interest.d), c16_6, .v (.bool x.floor.n), c16_7, .v (.bool x.floor.d), c16_8, .v (.int .i64 x.keep), c16_9, c16_10, c16_11]) rfl (memS mem0) (len1 rfl) rfl ?_
      refine fl_thaw (zA := z12) (zB := z40) (hB0.trans (hz8.trans (hz12))) (hzt30.trans (hz30.trans (hz32.trans (hz34.trans (hz38.trans (hz40)))))) (hz44) fun G46 zt46 hG46 hb46 hf46 hzt46 hzb46 => ?_
      have hzb46 : zle (zd z40 z44) zt46 := hzb46
      have hin := zd_in (zA := z12) (z' := z40) (hkb.trans (hz30.trans (hz32.trans (hz34.trans (hz38.trans (hz40)))))) (hz14)
      have g46_0 := h16_0.mono (fun b k h => (hG46 b k).2 (hin b k h))
      have g46_1 := h16_1.mono (fun b k h => (hG46 b k).2 (hin b k h))
      have g46_2 := h16_2.mono (fun b k h => (hG46 b k).2 (hin b k h))
      have g46_3 := h16_3.mono (fun b k h => (hG46 b k).2 (hin b k h))
      have g46_4 := h16_4.mono (fun b k h => (hG46 b k).2 (hin b k h))
      have g46_5 := h16_5.mono (fun b k h => (hG46 b k).2 (hin b k h))
      have g46_6 := h16_6.mono (fun b k h => (hG46 b k).2 (hin b k h))
      have g46_7 := h16_7.mono (fun b k h => (hG46 b k).2 (hin b k h))
      have g46_8 := h16_8.mono (fun b k h => (hG46 b k).2 (hin b k h))
      have g46_9 := h16_9.mono (fun b k h => (hG46 b k).2 (hin b k h))
      have g46_10 := h16_10.mono (fun b k h => (hG46 b k).2 (hin b k h))
      have g46_11 := h16_11.mono (fun b k h => (hG46 b k).2 (hin b k h))
      have kh44_0 := h44_0.mono ((zd_mono (zle.refl _)).trans hzb46)
      have kh44_1 := h44_1.mono ((zd_mono (zle.refl _)).trans hzb46)
      have kh44_2 := h44_2.mono ((zd_mono (zle.refl _)).trans hzb46)
      have kh44_3 := h44_3.mono ((zd_mono (zle.refl _)).trans hzb46)
      have kh44_4 := h44_4.mono ((zd_mono (zle.refl _)).trans hzb46)
      have kh44_5 := h44_5.mono ((zd_mono (zle.refl _)).trans hzb46)
      have kh44_6 := h44_6.mono ((zd_mono (zle.refl _)).trans hzb46)
      have kh44_7 := h44_7.mono ((zd_mono (zle.refl _)).trans hzb46)
      have kh44_8 := h44_8.mono ((zd_mono (zle.refl _)).trans hzb46)
      have kh44_9 := h44_9.mono ((zd_mono (zle.refl _)).trans hzb46)
      have kh44_10 := h44_10.mono ((zd_mono (zle.refl _)).trans hzb46)
      have kh44_11 := h44_11.mono ((zd_mono (zle.refl _)).trans hzb46)
      have hsp46 : FCt (E j) 11 [.agg [.v (.string x.name), .v (.string x.parent), c16_0, .v (.bool x.threshold.n), c16_1, .v (.bool x.threshold.d), c16_2, .v (.bool x.cap.n), c16_3, .v (.bool x.cap.d), c16_4, .v (.int .i64 x.back), .v (.int .i64 x.forward), .v (.bool x.interest.n), c16_5, .v (.bool x.interest.d), c16_6, .v (.bool x.floor.n), c16_7, .v (.bool x.floor.d), c16_8, .v (.int .i64 x.keep), c16_9, c16_10, c16_11]] zt46 G46 (fun _ z' H' => z' = zt46 ∧ H' = []) := (spoil h2j hb46 (fun b k h => ((hG46 b k).1 h).2.2) hf46 ⟨_, rfl, mk_filing g46_0 g46_1 g46_2 g46_3 g46_4 g46_5 g46_6 g46_7 g46_8 g46_9 g46_10 g46_11⟩ hS.ln).frame
      refine fl_callL (Hs := G46) rfl rfl hsp46 fun v46 z46 H46 hz46 ⟨_, hH46⟩ => ?_
      subst hH46
      refine fl_nil ?_
      refine fx_drwS ?_
      refine fg_load (v := .agg [.v (.string x.name), .v (.string x.parent), c44_0, .v (.bool x.threshold.n), c44_1, .v (.bool x.threshold.d), c44_2, .v (.bool x.cap.n), c44_3, .v (.bool x.cap.d), c44_4, .v (.int .i64 x.back), .v (.int .i64 x.forward), .v (.bool x.interest.n), c44_5, .v (.bool x.interest.d), c44_6, .v (.bool x.floor.n), c44_7, .v (.bool x.floor.d), c44_8, .v (.int .i64 x.keep), c44_9, c44_10, c44_11]) (i := ⟨_, _, .load _ _ _⟩) rfl rfl trivial rfl (.inr mem0) rfl (len1 rfl) rfl (by simp [sameA, sameL, sameC_int, sameC_b, sameC_s, kh44_0.refl, kh44_1.refl, kh44_2.refl, kh44_3.refl, kh44_4.refl, kh44_5.refl, kh44_6.refl, kh44_7.refl, kh44_8.refl, kh44_9.refl, kh44_10.refl, kh44_11.refl]) ?_
      refine fg_call (i := ⟨_, _, .call _ _⟩) rfl rfl trivial rfl rfl rfl (ref_filing (z := z46) h4j ⟨_, rfl, mk_filing (kh44_0.mono (hz46)) (kh44_1.mono (hz46)) (kh44_2.mono (hz46)) (kh44_3.mono (hz46)) (kh44_4.mono (hz46)) (kh44_5.mono (hz46)) (kh44_6.mono (hz46)) (kh44_7.mono (hz46)) (kh44_8.mono (hz46)) (kh44_9.mono (hz46)) (kh44_10.mono (hz46)) (kh44_11.mono (hz46))⟩ hS) fun v48 z48 hz48 ⟨_, hv48, c48_0, c48_1, c48_2, c48_3, c48_4, c48_5, c48_6, c48_7, c48_8, c48_9, c48_10, c48_11, hq48, h48_0, h48_1, h48_2, h48_3, h48_4, h48_5, h48_6, h48_7, h48_8, h48_9, h48_10, h48_11⟩ => ?_
      subst hq48
      subst hv48
      refine fg_load (v := .agg [.v (.string x.name), .v (.string x.parent), c12_0, .v (.bool x.threshold.n), c12_1, .v (.bool x.threshold.d), c12_2, .v (.bool x.cap.n), c12_3, .v (.bool x.cap.d), c12_4, .v (.int .i64 x.back), .v (.int .i64 x.forward), .v (.bool x.interest.n), c12_5, .v (.bool x.interest.d), c12_6, .v (.bool x.floor.n), c12_7, .v (.bool x.floor.d), c12_8, .v (.int .i64 x.keep), c12_9, c12_10, c12_11]) (i := ⟨_, _, .load _ _ _⟩) rfl rfl trivial rfl (.inr (memS (memS (memS mem0)))) rfl (len1 rfl) rfl (by simp [sameA, sameL, sameC_int, sameC_b, sameC_s, h12_0.refl, h12_1.refl, h12_2.refl, h12_3.refl, h12_4.refl, h12_5.refl, h12_6.refl, h12_7.refl, h12_8.refl, h12_9.refl, h12_10.refl, h12_11.refl]) ?_
      refine fg_call (i := ⟨_, _, .call _ _⟩) rfl rfl trivial rfl rfl rfl (same_filing h4j ⟨_, rfl, mk_filing h48_0 h48_1 h48_2 h48_3 h48_4 h48_5 h48_6 h48_7 h48_8 h48_9 h48_10 h48_11⟩ ⟨_, rfl, mk_filing (h12_0.mono (hzt46.trans (hz46.trans hz48))) (h12_1.mono (hzt46.trans (hz46.trans hz48))) (h12_2.mono (hzt46.trans (hz46.trans hz48))) (h12_3.mono (hzt46.trans (hz46.trans hz48))) (h12_4.mono (hzt46.trans (hz46.trans hz48))) (h12_5.mono (hzt46.trans (hz46.trans hz48))) (h12_6.mono (hzt46.trans (hz46.trans hz48))) (h12_7.mono (hzt46.trans (hz46.trans hz48))) (h12_8.mono (hzt46.trans (hz46.trans hz48))) (h12_9.mono (hzt46.trans (hz46.trans hz48))) (h12_10.mono (hzt46.trans (hz46.trans hz48))) (h12_11.mono (hzt46.trans (hz46.trans hz48)))⟩) fun v50 z50 hz50 ⟨r50, hv50, hr50⟩ => ?_
      subst hv50
      refine fg_pure rfl rfl trivial (fl_mv rfl (fl_nil ?_))
      refine fg_splitB 51 rfl (fun hg51 => ?_) (fun hg51 => ?_)
      ·skip
       have hp51 := hr50.1 hg51
       refine fg_call (i := ⟨_, _, .call _ _⟩) rfl rfl rfl rfl rfl rfl (works_fc (by omega)) fun v52 z52 hz52 hv52 => ?_
       subst hv52
       refine fg_pure rfl rfl trivial (fl_pick rfl rfl (fl_nil (fg_pure rfl rfl trivial (fl_mv rfl (fl_nil ?_)))))
       refine fg_nil ?_
       refine fx_ret ?_
       refine ret_q (.inl rfl) (rt rfl rn) ?_
       rfl
      ·skip
       have hp51 := bn_iff hr50 hg51
       refine fg_off rfl rfl (.inl rfl) (fg_pure rfl rfl trivial (fl_pick rfl rfl (fl_nil (fg_pure rfl rfl trivial (fl_mv rfl (fl_nil ?_))))))
       refine fg_nil ?_
       refine fx_ret ?_
       refine ret_q (.inl rfl) (rt rfl rn) ?_
       exact absurd rfl hp51
end Go.Proofs.YtlhgffgfigkghaaGreatDoor
