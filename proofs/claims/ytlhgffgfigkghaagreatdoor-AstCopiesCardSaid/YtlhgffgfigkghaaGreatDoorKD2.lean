/- The references' functions that tell whether two filings are the same, walked. -/
import Derived.WalkKit
import Derived.Orders
import Derived.Test.YtlhgffgfigkghaaGreatDoorKD1
set_option linter.unusedVariables false
set_option linter.unusedSimpArgs false
set_option maxRecDepth 100000
set_option maxHeartbeats 1000000
namespace Go.Proofs.YtlhgffgfigkghaaGreatDoor
open Go.CE Go.RowKit
theorem same_year {k : Nat} (hk : 3 ≤ k) {z : Mem} {u v : AV} {x y : PYear} (hx : AZ RYear z u x) (hy : AZ RYear z v y) : FC (E k) 37 [u, v] z (EqP x y) := by
 obtain ⟨_, rfl, cx_0, cx_1, cx_2, cx_3, cx_4, rfl, hx_0, hx_1, hx_2, hx_3, hx_4⟩ := hx
 obtain ⟨_, rfl, cy_0, cy_1, cy_2, cy_3, cy_4, rfl, hy_0, hy_1, hy_2, hy_3, hy_4⟩ := hy
 have bx0 := hx_0.le
 have by0 := hy_0.le
 have bx1 := hx_1.le
 have by1 := hy_1.le
 have bx2 := hx_2.le
 have by2 := hy_2.le
 have bx3 := hx_3.le
 have by3 := hy_3.le
 have bx4 := hx_4.le
 have by4 := hy_4.le
 refine fc_of (tS_get37) (by omega) (len1 rfl) fun B j hj => ?_
 refine fx_sr ?_
 refine fl_box rfl rfl fun b2 => ?_
 refine fl_box rfl rfl fun b3 => ?_
 refine fl_mv rfl (fl_nil (fx_ss (fx_sr (fl_fad rfl ?_))))
 refine fl_ld (v := .c (.v (.int .i64 x.number))) rfl (memS mem0) (len1 rfl) rfl ?_
 refine fl_fad rfl ?_
 refine fl_ld (v := .c (.v (.int .i64 y.number))) rfl mem0 (len1 rfl) rfl ?_
 refine fl_bin rfl rfl (b_neq _ _ _) (fl_mv rfl ?_)
 refine fl_join 8 21 (fun r => [(2, .c (.ptr b2 0)), (3, .c (.ptr b3 0)), (29, .c (.v (.bool r)))]) ((¬ (x.number = y.number)) ∨ (¬ ((x.holds.length : Int) = (y.holds.length : Int)))) rfl (fun hg => ?_) (fun hg => ?_) (fun e z29 r29 hz29 hr29 => ?_)
 ·skip
  refine fl_gx rfl (fl_gx rfl (fl_gx rfl (fl_gx rfl (fl_gx rfl (fl_gx rfl (fl_gx rfl (fl_pick rfl rfl ?_)))))))
  exact fl_done true rfl (zle.refl _) (atc rfl (atc rfl (atc rfl atn))) (join_ot dec_not hg)
 ·skip
  refine fl_gd rfl (fl_fad rfl (fl_gd rfl ?_))
  refine fl_ld (v := .c (cx_0)) rfl (memS mem0) (len1 rfl) rfl ?_
  refine fl_gd rfl (fl_lenS rfl hx_0 (fl_gd rfl (fl_fad rfl (fl_gd rfl ?_))))
  refine fl_ld (v := .c (cy_0)) rfl mem0 (len1 rfl) rfl ?_
  refine fl_gd rfl (fl_lenS rfl hy_0 (fl_gd rfl (fl_bin rfl rfl (b_neq _ _ _) (fl_pick rfl rfl ?_))))
  exact fl_done (!decide ((x.holds.length : Int) = (y.holds.length : Int))) rfl (zle.refl _) (atc rfl (atc rfl (atc rfl atn))) (join_of dec_not hg dec_not)
 refine fl_mv rfl ?_
 refine fl_join 8 30 (fun r => [(2, .c (.ptr b2 0)), (3, .c (.ptr b3 0)), (38, .c (.v (.bool r)))]) (((¬ (x.number = y.number)) ∨ (¬ ((x.holds.length : Int) = (y.holds.length : Int)))) ∨ (¬ ((x.books.length : Int) = (y.books.length : Int)))) rfl (fun hg => ?_) (fun hg => ?_) (fun e z38 r38 hz38 hr38 => ?_)
 ·skip
  refine fl_gx rfl (fl_gx rfl (fl_gx rfl (fl_gx rfl (fl_gx rfl (fl_gx rfl (fl_gx rfl (fl_pick rfl rfl ?_)))))))
  exact fl_done true rfl (zle.refl _) (atc rfl (atc rfl (atc rfl atn))) (join_ot hr29 hg)
 ·skip
  refine fl_gd rfl (fl_fad rfl (fl_gd rfl ?_))
  refine fl_ld (v := .c (cx_1)) rfl (memS mem0) (len1 rfl) rfl ?_
  refine fl_gd rfl (fl_lenS rfl hx_1 (fl_gd rfl (fl_fad rfl (fl_gd rfl ?_))))
  refine fl_ld (v := .c (cy_1)) rfl mem0 (len1 rfl) rfl ?_
  refine fl_gd rfl (fl_lenS rfl hy_1 (fl_gd rfl (fl_bin rfl rfl (b_neq _ _ _) (fl_pick rfl rfl ?_))))
  exact fl_done (!decide ((x.books.length : Int) = (y.books.length : Int))) rfl (zle.refl _) (atc rfl (atc rfl (atc rfl atn))) (join_of hr29 hg dec_not)
 refine fl_mv rfl ?_
 refine fl_join 8 39 (fun r => [(2, .c (.ptr b2 0)), (3, .c (.ptr b3 0)), (47, .c (.v (.bool r)))]) ((((¬ (x.number = y.number)) ∨ (¬ ((x.holds.length : Int) = (y.holds.length : Int)))) ∨ (¬ ((x.books.length : Int) = (y.books.length : Int)))) ∨ (¬ ((x.deals.length : Int) = (y.deals.length : Int)))) rfl (fun hg => ?_) (fun hg => ?_) (fun e z47 r47 hz47 hr47 => ?_)
 ·skip
  refine fl_gx rfl (fl_gx rfl (fl_gx rfl (fl_gx rfl (fl_gx rfl (fl_gx rfl (fl_gx rfl (fl_pick rfl rfl ?_)))))))
  exact fl_done true rfl (zle.refl _) (atc rfl (atc rfl (atc rfl atn))) (join_ot hr38 hg)
 ·skip
  refine fl_gd rfl (fl_fad rfl (fl_gd rfl ?_))
  refine fl_ld (v := .c (cx_2)) rfl (memS mem0) (len1 rfl) rfl ?_
  refine fl_gd rfl (fl_lenS rfl hx_2 (fl_gd rfl (fl_fad rfl (fl_gd rfl ?_))))
  refine fl_ld (v := .c (cy_2)) rfl mem0 (len1 rfl) rfl ?_
  refine fl_gd rfl (fl_lenS rfl hy_2 (fl_gd rfl (fl_bin rfl rfl (b_neq _ _ _) (fl_pick rfl rfl ?_))))
  exact fl_done (!decide ((x.deals.length : Int) = (y.deals.length : Int))) rfl (zle.refl _) (atc rfl (atc rfl (atc rfl atn))) (join_of hr38 hg dec_not)
 refine fl_mv rfl ?_
 refine fl_join 8 48 (fun r => [(2, .c (.ptr b2 0)), (3, .c (.ptr b3 0)), (56, .c (.v (.bool r)))]) (((((¬ (x.number = y.number)) ∨ (¬ ((x.holds.length : Int) = (y.holds.length : Int)))) ∨ (¬ ((x.books.length : Int) = (y.books.length : Int)))) ∨ (¬ ((x.deals.length : Int) = (y.deals.length : Int)))) ∨ (¬ ((x.stocks.length : Int) = (y.stocks.length : Int)))) rfl (fun hg => ?_) (fun hg => ?_) (fun e z56 r56 hz56 hr56 => ?_)
 ·skip
  refine fl_gx rfl (fl_gx rfl (fl_gx rfl (fl_gx rfl (fl_gx rfl (fl_gx rfl (fl_gx rfl (fl_pick rfl rfl ?_)))))))
  exact fl_done true rfl (zle.refl _) (atc rfl (atc rfl (atc rfl atn))) (join_ot hr47 hg)
 ·skip
  refine fl_gd rfl (fl_fad rfl (fl_gd rfl ?_))
  refine fl_ld (v := .c (cx_3)) rfl (memS mem0) (len1 rfl) rfl ?_
  refine fl_gd rfl (fl_lenS rfl hx_3 (fl_gd rfl (fl_fad rfl (fl_gd rfl ?_))))
  refine fl_ld (v := .c (cy_3)) rfl mem0 (len1 rfl) rfl ?_
  refine fl_gd rfl (fl_lenS rfl hy_3 (fl_gd rfl (fl_bin rfl rfl (b_neq _ _ _) (fl_pick rfl rfl ?_))))
  exact fl_done (!decide ((x.stocks.length : Int) = (y.stocks.length : Int))) rfl (zle.refl _) (atc rfl (atc rfl (atc rfl atn))) (join_of hr47 hg dec_not)
 refine fl_mv rfl ?_
 refine fl_join 8 57 (fun r => [(2, .c (.ptr b2 0)), (3, .c (.ptr b3 0)), (65, .c (.v (.bool r)))]) ((((((¬ (x.number = y.number)) ∨ (¬ ((x.holds.length : Int) = (y.holds.length : Int)))) ∨ (¬ ((x.books.length : Int) = (y.books.length : Int)))) ∨ (¬ ((x.deals.length : Int) = (y.deals.length : Int)))) ∨ (¬ ((x.stocks.length : Int) = (y.stocks.length : Int)))) ∨ (¬ ((x.solds.length : Int) = (y.solds.length : Int)))) rfl (fun hg => ?_) (fun hg => ?_) (fun e z65 r65 hz65 hr65 => ?_)
 ·skip
  refine fl_gx rfl (fl_gx rfl (fl_gx rfl (fl_gx rfl (fl_gx rfl (fl_gx rfl (fl_gx rfl (fl_pick rfl rfl ?_)))))))
  exact fl_done true rfl (zle.refl _) (atc rfl (atc rfl (atc rfl atn))) (join_ot hr56 hg)
 ·skip
  refine fl_gd rfl (fl_fad rfl (fl_gd rfl ?_))
  refine fl_ld (v := .c (cx_4)) rfl (memS mem0) (len1 rfl) rfl ?_
  refine fl_gd rfl (fl_lenS rfl hx_4 (fl_gd rfl (fl_fad rfl (fl_gd rfl ?_))))
  refine fl_ld (v := .c (cy_4)) rfl mem0 (len1 rfl) rfl ?_
  refine fl_gd rfl (fl_lenS rfl hy_4 (fl_gd rfl (fl_bin rfl rfl (b_neq _ _ _) (fl_pick rfl rfl ?_))))
  exact fl_done (!decide ((x.solds.length : Int) = (y.solds.length : Int))) rfl (zle.refl _) (atc rfl (atc rfl (atc rfl atn))) (join_of hr56 hg dec_not)
 refine fl_nil ?_
 refine fx_cseq ?_
 refine fx_condB rfl (fun hc65 => ?_) (fun hc65 => ?_)
 ·skip
  have hp65 := hr65.1 hc65
  refine fx_ss (fx_sr (fl_mv rfl (fl_nil ?_)))
  refine fx_rseq ?_
  refine ret_q (.inl rfl) (rt rfl rn) ?_
  exact ⟨false, rfl, ⟨fun h => (by cases h), fun h => by subst h; simp at hp65⟩⟩
 ·skip
  have hp65 := bn_iff hr65 hc65
  simp only [not_or, Classical.not_not] at hp65
  refine fx_kseq (fx_ss (fx_sr (fl_mv rfl (fl_nil ?_))))
  refine fx_seq (fx_block ?_)
  refine fx_loop (fun n fs => ∃ (i0 : Nat) (e : Env) (zz : Mem) (Hx : List HA), fs = ⟨e, zz, Hx ++ [.blk b3 (.cells 85 [.v (.int .i64 y.number), cy_0, cy_1, cy_2, cy_3, cy_4]), .blk b2 (.cells 85 [.v (.int .i64 x.number), cx_0, cx_1, cx_2, cx_3, cx_4])]⟩ ∧ zle z65 zz ∧ AtL e [(2, .c (.ptr b2 0)), (3, .c (.ptr b3 0)), (5, .c (.v (.int .i64 (i0 : Int))))] ∧ n = x.holds.length - i0 ∧ i0 ≤ x.holds.length ∧ ∀ j, j < i0 → x.holds[j]? = y.holds[j]?) ?_ _ ⟨0, _, _, [], rfl, zle.refl _, (atc rfl (atc rfl (atc rfl atn))), rfl, Nat.zero_le _, fun j hj => absurd hj (Nat.not_lt_zero _)⟩ (by show _ < 18446744073709551616; omega)
  intro n fs hI
  obtain ⟨i0, e, zl0, Hx, rfl, hzl0, hat, rfl, hi0, hp_0⟩ := hI
  refine fx_at hat fun e => ?_
  refine fx_sub (List.sublist_append_right _ _) ?_
  refine fx_ss (fx_sr (fl_mv rfl (fl_fad rfl ?_)))
  refine fl_ld (v := .c (cx_0)) rfl (memS mem0) (len1 rfl) rfl ?_
  refine fl_lenS rfl hx_0 (fl_bin rfl rfl (b_lss _ _ _) (fl_nil ?_))
  refine fx_cseq ?_
  refine fx_condB rfl (fun hc70 => ?_) (fun hc70 => ?_)
  ·skip
   have hp70 := dec_iff.1 hc70
   refine fx_kseq ?_
   refine fx_seq (fx_block ?_)
   refine fx_drwS ?_
   refine fg_pure rfl rfl trivial (fl_fad rfl (fl_nil ?_))
   refine fg_load (v := .c (cx_0)) (i := ⟨_, _, .load _ _ _⟩) rfl rfl trivial rfl (.inr (memS mem0)) rfl (len1 rfl) rfl (by simp [sameA, sameL, sameC_int, sameC_b, sameC_s, hx_0.refl]) ?_
   refine fg_pure rfl rfl trivial (fl_mv rfl (fl_nil ?_))
   obtain ⟨a76, ha76⟩ := at_lt (l := x.holds) (i := i0) (by omega)
   refine fg_pure rfl rfl trivial ?_
   refine fl_iadS rfl rfl hx_0 i0 rfl a76 ha76 fun b76 p76 cs76 at76 hR76 => ?_
   refine fl_nil ?_
   obtain ⟨c76_0, c76_1, rfl, h76_0, h76_1⟩ := hR76
   refine fg_ldA (v := .agg [.v (.string a76.owner), .v (.string a76.owned), .v (.bool a76.share.n), c76_0, .v (.bool a76.share.d), c76_1]) (off := 0) (i := ⟨_, _, .load _ _ _⟩) rfl rfl trivial rfl at76 (fun _ _ h => .inl ((hz29.trans (hz38.trans (hz47.trans (hz56.trans (hz65.trans (hzl0)))))) _ _ h)) rfl (len1 rfl) rfl (by simp [sameA, sameL, sameC_int, sameC_b, sameC_s, h76_0.refl, h76_1.refl]) ?_
   refine fg_pure rfl rfl trivial (fl_fad rfl (fl_nil ?_))
   refine fg_load (v := .c (cy_0)) (i := ⟨_, _, .load _ _ _⟩) rfl rfl trivial rfl (.inr mem0) rfl (len1 rfl) rfl (by simp [sameA, sameL, sameC_int, sameC_b, sameC_s, hy_0.refl]) ?_
   refine fg_pure rfl rfl trivial (fl_mv rfl (fl_nil ?_))
   obtain ⟨a81, ha81⟩ := at_lt (l := y.holds) (i := i0) (by omega)
   refine fg_pure rfl rfl trivial ?_
   refine fl_iadS rfl rfl hy_0 i0 rfl a81 ha81 fun b81 p81 cs81 at81 hR81 => ?_
   refine fl_nil ?_
   obtain ⟨c81_0, c81_1, rfl, h81_0, h81_1⟩ := hR81
   refine fg_ldA (v := .agg [.v (.string a81.owner), .v (.string a81.owned), .v (.bool a81.share.n), c81_0, .v (.bool a81.share.d), c81_1]) (off := 0) (i := ⟨_, _, .load _ _ _⟩) rfl rfl trivial rfl at81 (fun _ _ h => .inl ((hz29.trans (hz38.trans (hz47.trans (hz56.trans (hz65.trans (hzl0)))))) _ _ h)) rfl (len1 rfl) rfl (by simp [sameA, sameL, sameC_int, sameC_b, sameC_s, h81_0.refl, h81_1.refl]) ?_
   refine fg_own (k := .cells 161 [(.v (.string ⟨#[]⟩)), (.v (.string ⟨#[]⟩)), .v (.bool false), .v (.slice none 0 0), .v (.bool false), .v (.slice none 0 0)]) (w := fun b => .c (.ptr b 0)) rfl trivial rfl (fun _ => rfl) (fun st hst => ?_) (fun b6 hT6 => ?_)
   ·simp only [stepE, fillS, AS.ev]; rfl
   refine fg_own (k := .cells 161 [(.v (.string ⟨#[]⟩)), (.v (.string ⟨#[]⟩)), .v (.bool false), .v (.slice none 0 0), .v (.bool false), .v (.slice none 0 0)]) (w := fun b => .c (.ptr b 0)) rfl trivial rfl (fun _ => rfl) (fun st hst => ?_) (fun b7 hT7 => ?_)
   ·simp only [stepE, fillS, AS.ev]; rfl
   refine fg_storeT (i := ⟨_, _, .store _ _ _⟩) rfl trivial rfl rfl rfl hT6 ?_
   refine fl_stE (cs' := [.v (.string a76.owner), .v (.string a76.owned), .v (.bool a76.share.n), c76_0, .v (.bool a76.share.d), c76_1]) rfl rfl rfl (repS rep0) rfl rfl (len1 rfl) ?_
   refine fl_nil ?_
   refine fg_store (i := ⟨_, _, .store _ _ _⟩) rfl trivial rfl rfl rfl rfl ?_
   refine fl_stE (cs' := [.v (.string a81.owner), .v (.string a81.owned), .v (.bool a81.share.n), c81_0, .v (.bool a81.share.d), c81_1]) rfl rfl rfl rep0 rfl rfl (len1 rfl) ?_
   refine fl_nil ?_
   refine fg_nil ?_
   refine fx_sr (fl_fad rfl ?_)
   refine fl_ld (v := .c (.v (.string a76.owner))) rfl (memS mem0) (len1 rfl) rfl ?_
   refine fl_fad rfl ?_
   refine fl_ld (v := .c (.v (.string a81.owner))) rfl mem0 (len1 rfl) rfl ?_
   refine fl_bin rfl rfl (b_neqS _ _) ?_
   refine fl_mv rfl ?_
   refine fl_join 6 88 (fun r => [(2, .c (.ptr b2 0)), (3, .c (.ptr b3 0)), (5, .c (.v (.int .i64 (i0 : Int)))), (6, .c (.ptr b6 0)), (7, .c (.ptr b7 0)), (94, .c (.v (.bool r)))]) ((¬ (a76.owner = a81.owner)) ∨ (¬ (a76.owned = a81.owned))) rfl (fun hg => ?_) (fun hg => ?_) (fun e z94 r94 hz94 hr94 => ?_)
   ·skip
    refine fl_gx rfl (fl_gx rfl (fl_gx rfl (fl_gx rfl (fl_gx rfl (fl_pick rfl rfl ?_)))))
    exact fl_done true rfl (zle.refl _) (atc rfl (atc rfl (atc rfl (atc rfl (atc rfl (atc rfl atn)))))) (join_ot dec_not hg)
   ·skip
    refine fl_gd rfl (fl_fad rfl (fl_gd rfl ?_))
    refine fl_ld (v := .c (.v (.string a76.owned))) rfl (memS mem0) (len1 rfl) rfl ?_
    refine fl_gd rfl (fl_fad rfl (fl_gd rfl ?_))
    refine fl_ld (v := .c (.v (.string a81.owned))) rfl mem0 (len1 rfl) rfl ?_
    refine fl_gd rfl ?_
    refine fl_bin rfl rfl (b_neqS _ _) ?_
    refine fl_pick rfl rfl ?_
    exact fl_done (!decide (a76.owned = a81.owned)) rfl (zle.refl _) (atc rfl (atc rfl (atc rfl (atc rfl (atc rfl (atc rfl atn)))))) (join_of dec_not hg dec_not)
   refine fl_mv rfl ?_
   refine fl_join 7 95 (fun r => [(2, .c (.ptr b2 0)), (3, .c (.ptr b3 0)), (5, .c (.v (.int .i64 (i0 : Int)))), (102, .c (.v (.bool r)))]) (((¬ (a76.owner = a81.owner)) ∨ (¬ (a76.owned = a81.owned))) ∨ (¬ (a76.share = a81.share))) rfl (fun hg => ?_) (fun hg => ?_) (fun e z102 r102 hz102 hr102 => ?_)
   ·skip
    refine fl_gx rfl (fl_gx rfl (fl_gx rfl (fl_gx rfl (fl_gx rfl (fl_gx rfl (fl_pick rfl rfl ?_))))))
    exact fl_done true rfl (zle.refl _) (atc rfl (atc rfl (atc rfl (atc rfl atn)))) (join_ot hr94 hg)
   ·skip
    refine fl_gd rfl (fl_fad rfl (fl_gd rfl ?_))
    refine fl_ld (v := .agg [.v (.bool a76.share.n), c76_0, .v (.bool a76.share.d), c76_1]) rfl (memS mem0) (len1 rfl) rfl ?_
    refine fl_gd rfl (fl_fad rfl (fl_gd rfl ?_))
    refine fl_ld (v := .agg [.v (.bool a81.share.n), c81_0, .v (.bool a81.share.d), c81_1]) rfl mem0 (len1 rfl) rfl ?_
    refine fl_gd rfl ?_
    refine fl_call rfl (same_rat (by omega) ⟨_, rfl, mk_rat (h76_0.mono (hz29.trans (hz38.trans (hz47.trans (hz56.trans (hz65.trans (hzl0.trans hz94))))))) (h76_1.mono (hz29.trans (hz38.trans (hz47.trans (hz56.trans (hz65.trans (hzl0.trans hz94)))))))⟩ ⟨_, rfl, mk_rat (h81_0.mono (hz29.trans (hz38.trans (hz47.trans (hz56.trans (hz65.trans (hzl0.trans hz94))))))) (h81_1.mono (hz29.trans (hz38.trans (hz47.trans (hz56.trans (hz65.trans (hzl0.trans hz94)))))))⟩) fun v100 z100 hz100 ⟨r100, hv100, hr100⟩ => ?_
    subst hv100
    refine fl_gd rfl ?_
    refine fl_un rfl (u_not _) ?_
    refine fl_pick rfl rfl ?_
    exact fl_done (!r100) rfl (hz100) (atc rfl (atc rfl (atc rfl (atc rfl atn)))) (join_of hr94 hg (not_iffB hr100))
   refine fl_nil ?_
   refine fx_condB rfl (fun hc102 => ?_) (fun hc102 => ?_)
   ·skip
    have hp102 := hr102.1 hc102
    refine fx_sr (fl_mv rfl (fl_nil ?_))
    refine fx_ret ?_
    refine sq_r ?_
    refine lq_r ?_
    refine sq_r ?_
    refine ret_q (.inl rfl) (rt rfl rn) ?_
    exact ⟨false, rfl, ⟨fun h => (by cases h), fun h => absurd (by rw [h] : x.holds = y.holds) (ne_at ha76 ha81 fun e => by subst e; simp at hp102)⟩⟩
   ·skip
    have hp102 := bn_iff hr102 hc102
    simp only [not_or, Classical.not_not] at hp102
    refine fx_skip ?_
    refine sq_n ?_
    refine fx_region ?_
    refine fl_mv rfl ?_
    refine fl_bin rfl rfl (b_add' (r := ((i0 + 1 : Nat) : Int)) (wi64 (by omega))) ?_
    refine fl_mv rfl (fl_nil ?_)
    exact lq_n (by omega) ⟨i0 + 1, _, _, [_, _], rfl, hzl0.trans (hz94.trans hz102), (atc rfl (atc rfl (atc rfl atn))), rfl, by omega, fun j hj => eq_step hp_0 ha76 ha81 (PHold.ext_iff.2 ⟨hp102.1.1, hp102.1.2, hp102.2⟩) hj⟩
  ·skip
   have hp70 := bn_iff dec_iff hc70
   refine fx_eseq ?_
   refine lq_e ?_
   refine sq_n ?_
   refine fx_ss (fx_sr (fl_mv rfl (fl_nil ?_)))
   refine fx_seq (fx_block ?_)
   refine fx_loop (fun n fs => ∃ (i1 : Nat) (e : Env) (zz : Mem) (Hx : List HA), fs = ⟨e, zz, Hx ++ [.blk b3 (.cells 85 [.v (.int .i64 y.number), cy_0, cy_1, cy_2, cy_3, cy_4]), .blk b2 (.cells 85 [.v (.int .i64 x.number), cx_0, cx_1, cx_2, cx_3, cx_4])]⟩ ∧ zle zl0 zz ∧ AtL e [(2, .c (.ptr b2 0)), (3, .c (.ptr b3 0)), (8, .c (.v (.int .i64 (i1 : Int))))] ∧ n = x.books.length - i1 ∧ i1 ≤ x.books.length ∧ ∀ j, j < i1 → x.books[j]? = y.books[j]?) ?_ _ ⟨0, _, _, [], rfl, zle.refl _, (atc rfl (atc rfl (atc rfl atn))), rfl, Nat.zero_le _, fun j hj => absurd hj (Nat.not_lt_zero _)⟩ (by show _ < 18446744073709551616; omega)
   intro n fs hI
   obtain ⟨i1, e, zl1, Hx, rfl, hzl1, hat, rfl, hi1, hp_1⟩ := hI
   refine fx_at hat fun e => ?_
   refine fx_sub (List.sublist_append_right _ _) ?_
   refine fx_ss (fx_sr (fl_mv rfl (fl_fad rfl ?_)))
   refine fl_ld (v := .c (cx_1)) rfl (memS mem0) (len1 rfl) rfl ?_
   refine fl_lenS rfl hx_1 (fl_bin rfl rfl (b_lss _ _ _) (fl_nil ?_))
   refine fx_cseq ?_
   refine fx_condB rfl (fun hc107 => ?_) (fun hc107 => ?_)
   ·skip
    have hp107 := dec_iff.1 hc107
    refine fx_kseq ?_
    refine fx_seq (fx_block ?_)
    refine fx_drwS ?_
    refine fg_pure rfl rfl trivial (fl_fad rfl (fl_nil ?_))
    refine fg_load (v := .c (cx_1)) (i := ⟨_, _, .load _ _ _⟩) rfl rfl trivial rfl (.inr (memS mem0)) rfl (len1 rfl) rfl (by simp [sameA, sameL, sameC_int, sameC_b, sameC_s, hx_1.refl]) ?_
    refine fg_pure rfl rfl trivial (fl_mv rfl (fl_nil ?_))
    obtain ⟨a113, ha113⟩ := at_lt (l := x.books) (i := i1) (by omega)
    refine fg_pure rfl rfl trivial ?_
    refine fl_iadS rfl rfl hx_1 i1 rfl a113 ha113 fun b113 p113 cs113 at113 hR113 => ?_
    refine fl_nil ?_
    obtain ⟨c113_0, c113_1, rfl, h113_0, h113_1⟩ := hR113
    refine fg_ldA (v := .agg [.v (.string a113.entity), .v (.string a113.cls), .v (.bool a113.amount.n), c113_0, .v (.bool a113.amount.d), c113_1]) (off := 0) (i := ⟨_, _, .load _ _ _⟩) rfl rfl trivial rfl at113 (fun _ _ h => .inl ((hz29.trans (hz38.trans (hz47.trans (hz56.trans (hz65.trans (hzl0.trans (hzl1))))))) _ _ h)) rfl (len1 rfl) rfl (by simp [sameA, sameL, sameC_int, sameC_b, sameC_s, h113_0.refl, h113_1.refl]) ?_
    refine fg_pure rfl rfl trivial (fl_fad rfl (fl_nil ?_))
    refine fg_load (v := .c (cy_1)) (i := ⟨_, _, .load _ _ _⟩) rfl rfl trivial rfl (.inr mem0) rfl (len1 rfl) rfl (by simp [sameA, sameL, sameC_int, sameC_b, sameC_s, hy_1.refl]) ?_
    refine fg_pure rfl rfl trivial (fl_mv rfl (fl_nil ?_))
    obtain ⟨a118, ha118⟩ := at_lt (l := y.books) (i := i1) (by omega)
    refine fg_pure rfl rfl trivial ?_
    refine fl_iadS rfl rfl hy_1 i1 rfl a118 ha118 fun b118 p118 cs118 at118 hR118 => ?_
    refine fl_nil ?_
    obtain ⟨c118_0, c118_1, rfl, h118_0, h118_1⟩ := hR118
    refine fg_ldA (v := .agg [.v (.string a118.entity), .v (.string a118.cls), .v (.bool a118.amount.n), c118_0, .v (.bool a118.amount.d), c118_1]) (off := 0) (i := ⟨_, _, .load _ _ _⟩) rfl rfl trivial rfl at118 (fun _ _ h => .inl ((hz29.trans (hz38.trans (hz47.trans (hz56.trans (hz65.trans (hzl0.trans (hzl1))))))) _ _ h)) rfl (len1 rfl) rfl (by simp [sameA, sameL, sameC_int, sameC_b, sameC_s, h118_0.refl, h118_1.refl]) ?_
    refine fg_own (k := .cells 163 [(.v (.string ⟨#[]⟩)), (.v (.string ⟨#[]⟩)), .v (.bool false), .v (.slice none 0 0), .v (.bool false), .v (.slice none 0 0)]) (w := fun b => .c (.ptr b 0)) rfl trivial rfl (fun _ => rfl) (fun st hst => ?_) (fun b9 hT9 => ?_)
    ·simp only [stepE, fillS, AS.ev]; rfl
    refine fg_own (k := .cells 163 [(.v (.string ⟨#[]⟩)), (.v (.string ⟨#[]⟩)), .v (.bool false), .v (.slice none 0 0), .v (.bool false), .v (.slice none 0 0)]) (w := fun b => .c (.ptr b 0)) rfl trivial rfl (fun _ => rfl) (fun st hst => ?_) (fun b10 hT10 => ?_)
    ·simp only [stepE, fillS, AS.ev]; rfl
    refine fg_storeT (i := ⟨_, _, .store _ _ _⟩) rfl trivial rfl rfl rfl hT9 ?_
    refine fl_stE (cs' := [.v (.string a113.entity), .v (.string a113.cls), .v (.bool a113.amount.n), c113_0, .v (.bool a113.amount.d), c113_1]) rfl rfl rfl (repS rep0) rfl rfl (len1 rfl) ?_
    refine fl_nil ?_
    refine fg_store (i := ⟨_, _, .store _ _ _⟩) rfl trivial rfl rfl rfl rfl ?_
    refine fl_stE (cs' := [.v (.string a118.entity), .v (.string a118.cls), .v (.bool a118.amount.n), c118_0, .v (.bool a118.amount.d), c118_1]) rfl rfl rfl rep0 rfl rfl (len1 rfl) ?_
    refine fl_nil ?_
    refine fg_nil ?_
    refine fx_sr (fl_fad rfl ?_)
    refine fl_ld (v := .c (.v (.string a113.entity))) rfl (memS mem0) (len1 rfl) rfl ?_
    refine fl_fad rfl ?_
    refine fl_ld (v := .c (.v (.string a118.entity))) rfl mem0 (len1 rfl) rfl ?_
    refine fl_bin rfl rfl (b_neqS _ _) ?_
    refine fl_mv rfl ?_
    refine fl_join 6 125 (fun r => [(2, .c (.ptr b2 0)), (3, .c (.ptr b3 0)), (8, .c (.v (.int .i64 (i1 : Int)))), (9, .c (.ptr b9 0)), (10, .c (.ptr b10 0)), (131, .c (.v (.bool r)))]) ((¬ (a113.entity = a118.entity)) ∨ (¬ (a113.cls = a118.cls))) rfl (fun hg => ?_) (fun hg => ?_) (fun e z131 r131 hz131 hr131 => ?_)
    ·skip
     refine fl_gx rfl (fl_gx rfl (fl_gx rfl (fl_gx rfl (fl_gx rfl (fl_pick rfl rfl ?_)))))
     exact fl_done true rfl (zle.refl _) (atc rfl (atc rfl (atc rfl (atc rfl (atc rfl (atc rfl atn)))))) (join_ot dec_not hg)
    ·skip
     refine fl_gd rfl (fl_fad rfl (fl_gd rfl ?_))
     refine fl_ld (v := .c (.v (.string a113.cls))) rfl (memS mem0) (len1 rfl) rfl ?_
     refine fl_gd rfl (fl_fad rfl (fl_gd rfl ?_))
     refine fl_ld (v := .c (.v (.string a118.cls))) rfl mem0 (len1 rfl) rfl ?_
     refine fl_gd rfl ?_
     refine fl_bin rfl rfl (b_neqS _ _) ?_
     refine fl_pick rfl rfl ?_
     exact fl_done (!decide (a113.cls = a118.cls)) rfl (zle.refl _) (atc rfl (atc rfl (atc rfl (atc rfl (atc rfl (atc rfl atn)))))) (join_of dec_not hg dec_not)
    refine fl_mv rfl ?_
    refine fl_join 7 132 (fun r => [(2, .c (.ptr b2 0)), (3, .c (.ptr b3 0)), (8, .c (.v (.int .i64 (i1 : Int)))), (139, .c (.v (.bool r)))]) (((¬ (a113.entity = a118.entity)) ∨ (¬ (a113.cls = a118.cls))) ∨ (¬ (a113.amount = a118.amount))) rfl (fun hg => ?_) (fun hg => ?_) (fun e z139 r139 hz139 hr139 => ?_)
    ·skip
     refine fl_gx rfl (fl_gx rfl (fl_gx rfl (fl_gx rfl (fl_gx rfl (fl_gx rfl (fl_pick rfl rfl ?_))))))
     exact fl_done true rfl (zle.refl _) (atc rfl (atc rfl (atc rfl (atc rfl atn)))) (join_ot hr131 hg)
    ·skip
     refine fl_gd rfl (fl_fad rfl (fl_gd rfl ?_))
     refine fl_ld (v := .agg [.v (.bool a113.amount.n), c113_0, .v (.bool a113.amount.d), c113_1]) rfl (memS mem0) (len1 rfl) rfl ?_
     refine fl_gd rfl (fl_fad rfl (fl_gd rfl ?_))
     refine fl_ld (v := .agg [.v (.bool a118.amount.n), c118_0, .v (.bool a118.amount.d), c118_1]) rfl mem0 (len1 rfl) rfl ?_
     refine fl_gd rfl ?_
     refine fl_call rfl (same_rat (by omega) ⟨_, rfl, mk_rat (h113_0.mono (hz29.trans (hz38.trans (hz47.trans (hz56.trans (hz65.trans (hzl0.trans (hzl1.trans hz131)))))))) (h113_1.mono (hz29.trans (hz38.trans (hz47.trans (hz56.trans (hz65.trans (hzl0.trans (hzl1.trans hz131))))))))⟩ ⟨_, rfl, mk_rat (h118_0.mono (hz29.trans (hz38.trans (hz47.trans (hz56.trans (hz65.trans (hzl0.trans (hzl1.trans hz131)))))))) (h118_1.mono (hz29.trans (hz38.trans (hz47.trans (hz56.trans (hz65.trans (hzl0.trans (hzl1.trans hz131))))))))⟩) fun v137 z137 hz137 ⟨r137, hv137, hr137⟩ => ?_
     subst hv137
     refine fl_gd rfl ?_
     refine fl_un rfl (u_not _) ?_
     refine fl_pick rfl rfl ?_
     exact fl_done (!r137) rfl (hz137) (atc rfl (atc rfl (atc rfl (atc rfl atn)))) (join_of hr131 hg (not_iffB hr137))
    refine fl_nil ?_
    refine fx_condB rfl (fun hc139 => ?_) (fun hc139 => ?_)
    ·skip
     have hp139 := hr139.1 hc139
     refine fx_sr (fl_mv rfl (fl_nil ?_))
     refine fx_ret ?_
     refine sq_r ?_
     refine lq_r ?_
     refine sq_r ?_
     refine ret_q (.inl rfl) (rt rfl rn) ?_
     exact ⟨false, rfl, ⟨fun h => (by cases h), fun h => absurd (by rw [h] : x.books = y.books) (ne_at ha113 ha118 fun e => by subst e; simp at hp139)⟩⟩
    ·skip
     have hp139 := bn_iff hr139 hc139
     simp only [not_or, Classical.not_not] at hp139
     refine fx_skip ?_
     refine sq_n ?_
     refine fx_region ?_
     refine fl_mv rfl ?_
     refine fl_bin rfl rfl (b_add' (r := ((i1 + 1 : Nat) : Int)) (wi64 (by omega))) ?_
     refine fl_mv rfl (fl_nil ?_)
     exact lq_n (by omega) ⟨i1 + 1, _, _, [_, _], rfl, hzl1.trans (hz131.trans hz139), (atc rfl (atc rfl (atc rfl atn))), rfl, by omega, fun j hj => eq_step hp_1 ha113 ha118 (PBook.ext_iff.2 ⟨hp139.1.1, hp139.1.2, hp139.2⟩) hj⟩
   ·skip
    have hp107 := bn_iff dec_iff hc107
    refine fx_eseq ?_
    refine lq_e ?_
    refine sq_n ?_
    refine fx_ss (fx_sr (fl_mv rfl (fl_nil ?_)))
    refine fx_seq (fx_block ?_)
    refine fx_loop (fun n fs => ∃ (i2 : Nat) (e : Env) (zz : Mem) (Hx : List HA), fs = ⟨e, zz, Hx ++ [.blk b3 (.cells 85 [.v (.int .i64 y.number), cy_0, cy_1, cy_2, cy_3, cy_4]), .blk b2 (.cells 85 [.v (.int .i64 x.number), cx_0, cx_1, cx_2, cx_3, cx_4])]⟩ ∧ zle zl1 zz ∧ AtL e [(2, .c (.ptr b2 0)), (3, .c (.ptr b3 0)), (11, .c (.v (.int .i64 (i2 : Int))))] ∧ n = x.deals.length - i2 ∧ i2 ≤ x.deals.length ∧ ∀ j, j < i2 → x.deals[j]? = y.deals[j]?) ?_ _ ⟨0, _, _, [], rfl, zle.refl _, (atc rfl (atc rfl (atc rfl atn))), rfl, Nat.zero_le _, fun j hj => absurd hj (Nat.not_lt_zero _)⟩ (by show _ < 18446744073709551616; omega)
    intro n fs hI
    obtain ⟨i2, e, zl2, Hx, rfl, hzl2, hat, rfl, hi2, hp_2⟩ := hI
    refine fx_at hat fun e => ?_
    refine fx_sub (List.sublist_append_right _ _) ?_
    refine fx_ss (fx_sr (fl_mv rfl (fl_fad rfl ?_)))
    refine fl_ld (v := .c (cx_2)) rfl (memS mem0) (len1 rfl) rfl ?_
    refine fl_lenS rfl hx_2 (fl_bin rfl rfl (b_lss _ _ _) (fl_nil ?_))
    refine fx_cseq ?_
    refine fx_condB rfl (fun hc144 => ?_) (fun hc144 => ?_)
    ·skip
     have hp144 := dec_iff.1 hc144
     refine fx_kseq ?_
     refine fx_seq (fx_block ?_)
     refine fx_drwS ?_
     refine fg_pure rfl rfl trivial (fl_fad rfl (fl_nil ?_))
     refine fg_load (v := .c (cx_2)) (i := ⟨_, _, .load _ _ _⟩) rfl rfl trivial rfl (.inr (memS mem0)) rfl (len1 rfl) rfl (by simp [sameA, sameL, sameC_int, sameC_b, sameC_s, hx_2.refl]) ?_
     refine fg_pure rfl rfl trivial (fl_mv rfl (fl_nil ?_))
     obtain ⟨a150, ha150⟩ := at_lt (l := x.deals) (i := i2) (by omega)
     refine fg_pure rfl rfl trivial ?_
     refine fl_iadS rfl rfl hx_2 i2 rfl a150 ha150 fun b150 p150 cs150 at150 hR150 => ?_
     refine fl_nil ?_
     obtain ⟨c150_0, c150_1, rfl, h150_0, h150_1⟩ := hR150
     refine fg_ldA (v := .agg [.v (.bool a150.give), .v (.string a150.id), .v (.int .u8 a150.kind), .v (.string a150.payee), .v (.string a150.payer), .v (.string a150.cls), .v (.bool a150.amount.n), c150_0, .v (.bool a150.amount.d), c150_1]) (off := 0) (i := ⟨_, _, .load _ _ _⟩) rfl rfl trivial rfl at150 (fun _ _ h => .inl ((hz29.trans (hz38.trans (hz47.trans (hz56.trans (hz65.trans (hzl0.trans (hzl1.trans (hzl2)))))))) _ _ h)) rfl (len1 rfl) rfl (by simp [sameA, sameL, sameC_int, sameC_b, sameC_s, h150_0.refl, h150_1.refl]) ?_
     refine fg_pure rfl rfl trivial (fl_fad rfl (fl_nil ?_))
     refine fg_load (v := .c (cy_2)) (i := ⟨_, _, .load _ _ _⟩) rfl rfl trivial rfl (.inr mem0) rfl (len1 rfl) rfl (by simp [sameA, sameL, sameC_int, sameC_b, sameC_s, hy_2.refl]) ?_
     refine fg_pure rfl rfl trivial (fl_mv rfl (fl_nil ?_))
     obtain ⟨a155, ha155⟩ := at_lt (l := y.deals) (i := i2) (by omega)
     refine fg_pure rfl rfl trivial ?_
     refine fl_iadS rfl rfl hy_2 i2 rfl a155 ha155 fun b155 p155 cs155 at155 hR155 => ?_
     refine fl_nil ?_
     obtain ⟨c155_0, c155_1, rfl, h155_0, h155_1⟩ := hR155
     refine fg_ldA (v := .agg [.v (.bool a155.give), .v (.string a155.id), .v (.int .u8 a155.kind), .v (.string a155.payee), .v (.string a155.payer), .v (.string a155.cls), .v (.bool a155.amount.n), c155_0, .v (.bool a155.amount.d), c155_1]) (off := 0) (i := ⟨_, _, .load _ _ _⟩) rfl rfl trivial rfl at155 (fun _ _ h => .inl ((hz29.trans (hz38.trans (hz47.trans (hz56.trans (hz65.trans (hzl0.trans (hzl1.trans (hzl2)))))))) _ _ h)) rfl (len1 rfl) rfl (by simp [sameA, sameL, sameC_int, sameC_b, sameC_s, h155_0.refl, h155_1.refl]) ?_
     refine fg_own (k := .cells 165 [.v (.bool false), (.v (.string ⟨#[]⟩)), .v (.int .u8 0), (.v (.string ⟨#[]⟩)), (.v (.string ⟨#[]⟩)), (.v (.string ⟨#[]⟩)), .v (.bool false), .v (.slice none 0 0), .v (.bool false), .v (.slice none 0 0)]) (w := fun b => .c (.ptr b 0)) rfl trivial rfl (fun _ => rfl) (fun st hst => ?_) (fun b12 hT12 => ?_)
     ·simp only [stepE, fillS, AS.ev]; rfl
     refine fg_own (k := .cells 165 [.v (.bool false), (.v (.string ⟨#[]⟩)), .v (.int .u8 0), (.v (.string ⟨#[]⟩)), (.v (.string ⟨#[]⟩)), (.v (.string ⟨#[]⟩)), .v (.bool false), .v (.slice none 0 0), .v (.bool false), .v (.slice none 0 0)]) (w := fun b => .c (.ptr b 0)) rfl trivial rfl (fun _ => rfl) (fun st hst => ?_) (fun b13 hT13 => ?_)
     ·simp only [stepE, fillS, AS.ev]; rfl
     refine fg_storeT (i := ⟨_, _, .store _ _ _⟩) rfl trivial rfl rfl rfl hT12 ?_
     refine fl_stE (cs' := [.v (.bool a150.give), .v (.string a150.id), .v (.int .u8 a150.kind), .v (.string a150.payee), .v (.string a150.payer), .v (.string a150.cls), .v (.bool a150.amount.n), c150_0, .v (.bool a150.amount.d), c150_1]) rfl rfl rfl (repS rep0) rfl rfl (len1 rfl) ?_
     refine fl_nil ?_
     refine fg_store (i := ⟨_, _, .store _ _ _⟩) rfl trivial rfl rfl rfl rfl ?_
     refine fl_stE (cs' := [.v (.bool a155.give), .v (.string a155.id), .v (.int .u8 a155.kind), .v (.string a155.payee), .v (.string a155.payer), .v (.string a155.cls), .v (.bool a155.amount.n), c155_0, .v (.bool a155.amount.d), c155_1]) rfl rfl rfl rep0 rfl rfl (len1 rfl) ?_
     refine fl_nil ?_
     refine fg_nil ?_
     refine fx_sr (fl_fad rfl ?_)
     refine fl_ld (v := .c (.v (.bool a150.give))) rfl (memS mem0) (len1 rfl) rfl ?_
     refine fl_fad rfl ?_
     refine fl_ld (v := .c (.v (.bool a155.give))) rfl mem0 (len1 rfl) rfl ?_
     refine fl_binB rfl rfl (b_neqB _ _) ?_
     refine fl_mv rfl ?_
     refine fl_join 6 162 (fun r => [(2, .c (.ptr b2 0)), (3, .c (.ptr b3 0)), (11, .c (.v (.int .i64 (i2 : Int)))), (12, .c (.ptr b12 0)), (13, .c (.ptr b13 0)), (168, .c (.v (.bool r)))]) ((¬ (a150.give = a155.give)) ∨ (¬ (a150.id = a155.id))) rfl (fun hg => ?_) (fun hg => ?_) (fun e z168 r168 hz168 hr168 => ?_)
     ·skip
      refine fl_gx rfl (fl_gx rfl (fl_gx rfl (fl_gx rfl (fl_gx rfl (fl_pick rfl rfl ?_)))))
      exact fl_done true rfl (zle.refl _) (atc rfl (atc rfl (atc rfl (atc rfl (atc rfl (atc rfl atn)))))) (join_ot dec_not hg)
     ·skip
      refine fl_gd rfl (fl_fad rfl (fl_gd rfl ?_))
      refine fl_ld (v := .c (.v (.string a150.id))) rfl (memS mem0) (len1 rfl) rfl ?_
      refine fl_gd rfl (fl_fad rfl (fl_gd rfl ?_))
      refine fl_ld (v := .c (.v (.string a155.id))) rfl mem0 (len1 rfl) rfl ?_
      refine fl_gd rfl ?_
      refine fl_bin rfl rfl (b_neqS _ _) ?_
      refine fl_pick rfl rfl ?_
      exact fl_done (!decide (a150.id = a155.id)) rfl (zle.refl _) (atc rfl (atc rfl (atc rfl (atc rfl (atc rfl (atc rfl atn)))))) (join_of dec_not hg dec_not)
     refine fl_mv rfl ?_
     refine fl_join 6 169 (fun r => [(2, .c (.ptr b2 0)), (3, .c (.ptr b3 0)), (11, .c (.v (.int .i64 (i2 : Int)))), (12, .c (.ptr b12 0)), (13, .c (.ptr b13 0)), (175, .c (.v (.bool r)))]) (((¬ (a150.give = a155.give)) ∨ (¬ (a150.id = a155.id))) ∨ (¬ (a150.kind = a155.kind))) rfl (fun hg => ?_) (fun hg => ?_) (fun e z175 r175 hz175 hr175 => ?_)
     ·skip
      refine fl_gx rfl (fl_gx rfl (fl_gx rfl (fl_gx rfl (fl_gx rfl (fl_pick rfl rfl ?_)))))
      exact fl_done true rfl (zle.refl _) (atc rfl (atc rfl (atc rfl (atc rfl (atc rfl (atc rfl atn)))))) (join_ot hr168 hg)
     ·skip
      refine fl_gd rfl (fl_fad rfl (fl_gd rfl ?_))
      refine fl_ld (v := .c (.v (.int .u8 a150.kind))) rfl (memS mem0) (len1 rfl) rfl ?_
      refine fl_gd rfl (fl_fad rfl (fl_gd rfl ?_))
      refine fl_ld (v := .c (.v (.int .u8 a155.kind))) rfl mem0 (len1 rfl) rfl ?_
      refine fl_gd rfl (fl_bin rfl rfl (b_neq _ _ _) (fl_pick rfl rfl ?_))
      exact fl_done (!decide (a150.kind = a155.kind)) rfl (zle.refl _) (atc rfl (atc rfl (atc rfl (atc rfl (atc rfl (atc rfl atn)))))) (join_of hr168 hg dec_not)
     refine fl_mv rfl ?_
     refine fl_join 6 176 (fun r => [(2, .c (.ptr b2 0)), (3, .c (.ptr b3 0)), (11, .c (.v (.int .i64 (i2 : Int)))), (12, .c (.ptr b12 0)), (13, .c (.ptr b13 0)), (182, .c (.v (.bool r)))]) ((((¬ (a150.give = a155.give)) ∨ (¬ (a150.id = a155.id))) ∨ (¬ (a150.kind = a155.kind))) ∨ (¬ (a150.payee = a155.payee))) rfl (fun hg => ?_) (fun hg => ?_) (fun e z182 r182 hz182 hr182 => ?_)
     ·skip
      refine fl_gx rfl (fl_gx rfl (fl_gx rfl (fl_gx rfl (fl_gx rfl (fl_pick rfl rfl ?_)))))
      exact fl_done true rfl (zle.refl _) (atc rfl (atc rfl (atc rfl (atc rfl (atc rfl (atc rfl atn)))))) (join_ot hr175 hg)
     ·skip
      refine fl_gd rfl (fl_fad rfl (fl_gd rfl ?_))
      refine fl_ld (v := .c (.v (.string a150.payee))) rfl (memS mem0) (len1 rfl) rfl ?_
      refine fl_gd rfl (fl_fad rfl (fl_gd rfl ?_))
      refine fl_ld (v := .c (.v (.string a155.payee))) rfl mem0 (len1 rfl) rfl ?_
      refine fl_gd rfl ?_
      refine fl_bin rfl rfl (b_neqS _ _) ?_
      refine fl_pick rfl rfl ?_
      exact fl_done (!decide (a150.payee = a155.payee)) rfl (zle.refl _) (atc rfl (atc rfl (atc rfl (atc rfl (atc rfl (atc rfl atn)))))) (join_of hr175 hg dec_not)
     refine fl_mv rfl ?_
     refine fl_join 6 183 (fun r => [(2, .c (.ptr b2 0)), (3, .c (.ptr b3 0)), (11, .c (.v (.int .i64 (i2 : Int)))), (12, .c (.ptr b12 0)), (13, .c (.ptr b13 0)), (189, .c (.v (.bool r)))]) (((((¬ (a150.give = a155.give)) ∨ (¬ (a150.id = a155.id))) ∨ (¬ (a150.kind = a155.kind))) ∨ (¬ (a150.payee = a155.payee))) ∨ (¬ (a150.payer = a155.payer))) rfl (fun hg => ?_) (fun hg => ?_) (fun e z189 r189 hz189 hr189 => ?_)
     ·skip
      refine fl_gx rfl (fl_gx rfl (fl_gx rfl (fl_gx rfl (fl_gx rfl (fl_pick rfl rfl ?_)))))
      exact fl_done true rfl (zle.refl _) (atc rfl (atc rfl (atc rfl (atc rfl (atc rfl (atc rfl atn)))))) (join_ot hr182 hg)
     ·skip
      refine fl_gd rfl (fl_fad rfl (fl_gd rfl ?_))
      refine fl_ld (v := .c (.v (.string a150.payer))) rfl (memS mem0) (len1 rfl) rfl ?_
      refine fl_gd rfl (fl_fad rfl (fl_gd rfl ?_))
      refine fl_ld (v := .c (.v (.string a155.payer))) rfl mem0 (len1 rfl) rfl ?_
      refine fl_gd rfl ?_
      refine fl_bin rfl rfl (b_neqS _ _) ?_
      refine fl_pick rfl rfl ?_
      exact fl_done (!decide (a150.payer = a155.payer)) rfl (zle.refl _) (atc rfl (atc rfl (atc rfl (atc rfl (atc rfl (atc rfl atn)))))) (join_of hr182 hg dec_not)
     refine fl_mv rfl ?_
     refine fl_join 6 190 (fun r => [(2, .c (.ptr b2 0)), (3, .c (.ptr b3 0)), (11, .c (.v (.int .i64 (i2 : Int)))), (12, .c (.ptr b12 0)), (13, .c (.ptr b13 0)), (196, .c (.v (.bool r)))]) ((((((¬ (a150.give = a155.give)) ∨ (¬ (a150.id = a155.id))) ∨ (¬ (a150.kind = a155.kind))) ∨ (¬ (a150.payee = a155.payee))) ∨ (¬ (a150.payer = a155.payer))) ∨ (¬ (a150.cls = a155.cls))) rfl (fun hg => ?_) (fun hg => ?_) (fun e z196 r196 hz196 hr196 => ?_)
     ·skip
      refine fl_gx rfl (fl_gx rfl (fl_gx rfl (fl_gx rfl (fl_gx rfl (fl_pick rfl rfl ?_)))))
      exact fl_done true rfl (zle.refl _) (atc rfl (atc rfl (atc rfl (atc rfl (atc rfl (atc rfl atn)))))) (join_ot hr189 hg)
     ·skip
      refine fl_gd rfl (fl_fad rfl (fl_gd rfl ?_))
      refine fl_ld (v := .c (.v (.string a150.cls))) rfl (memS mem0) (len1 rfl) rfl ?_
      refine fl_gd rfl (fl_fad rfl (fl_gd rfl ?_))
      refine fl_ld (v := .c (.v (.string a155.cls))) rfl mem0 (len1 rfl) rfl ?_
      refine fl_gd rfl ?_
      refine fl_bin rfl rfl (b_neqS _ _) ?_
      refine fl_pick rfl rfl ?_
      exact fl_done (!decide (a150.cls = a155.cls)) rfl (zle.refl _) (atc rfl (atc rfl (atc rfl (atc rfl (atc rfl (atc rfl atn)))))) (join_of hr189 hg dec_not)
     refine fl_mv rfl ?_
     refine fl_join 7 197 (fun r => [(2, .c (.ptr b2 0)), (3, .c (.ptr b3 0)), (11, .c (.v (.int .i64 (i2 : Int)))), (204, .c (.v (.bool r)))]) (((((((¬ (a150.give = a155.give)) ∨ (¬ (a150.id = a155.id))) ∨ (¬ (a150.kind = a155.kind))) ∨ (¬ (a150.payee = a155.payee))) ∨ (¬ (a150.payer = a155.payer))) ∨ (¬ (a150.cls = a155.cls))) ∨ (¬ (a150.amount = a155.amount))) rfl (fun hg => ?_) (fun hg => ?_) (fun e z204 r204 hz204 hr204 => ?_)
     ·skip
      refine fl_gx rfl (fl_gx rfl (fl_gx rfl (fl_gx rfl (fl_gx rfl (fl_gx rfl (fl_pick rfl rfl ?_))))))
      exact fl_done true rfl (zle.refl _) (atc rfl (atc rfl (atc rfl (atc rfl atn)))) (join_ot hr196 hg)
     ·skip
      refine fl_gd rfl (fl_fad rfl (fl_gd rfl ?_))
      refine fl_ld (v := .agg [.v (.bool a150.amount.n), c150_0, .v (.bool a150.amount.d), c150_1]) rfl (memS mem0) (len1 rfl) rfl ?_
      refine fl_gd rfl (fl_fad rfl (fl_gd rfl ?_))
      refine fl_ld (v := .agg [.v (.bool a155.amount.n), c155_0, .v (.bool a155.amount.d), c155_1]) rfl mem0 (len1 rfl) rfl ?_
      refine fl_gd rfl ?_
      refine fl_call rfl (same_rat (by omega) ⟨_, rfl, mk_rat (h150_0.mono (hz29.trans (hz38.trans (hz47.trans (hz56.trans (hz65.trans (hzl0.trans (hzl1.trans (hzl2.trans (hz168.trans (hz175.trans (hz182.trans (hz189.trans hz196))))))))))))) (h150_1.mono (hz29.trans (hz38.trans (hz47.trans (hz56.trans (hz65.trans (hzl0.trans (hzl1.trans (hzl2.trans (hz168.trans (hz175.trans (hz182.trans (hz189.trans hz196)))))))))))))⟩ ⟨_, rfl, mk_rat (h155_0.mono (hz29.trans (hz38.trans (hz47.trans (hz56.trans (hz65.trans (hzl0.trans (hzl1.trans (hzl2.trans (hz168.trans (hz175.trans (hz182.trans (hz189.trans hz196))))))))))))) (h155_1.mono (hz29.trans (hz38.trans (hz47.trans (hz56.trans (hz65.trans (hzl0.trans (hzl1.trans (hzl2.trans (hz168.trans (hz175.trans (hz182.trans (hz189.trans hz196)))))))))))))⟩) fun v202 z202 hz202 ⟨r202, hv202, hr202⟩ => ?_
      subst hv202
      refine fl_gd rfl ?_
      refine fl_un rfl (u_not _) ?_
      refine fl_pick rfl rfl ?_
      exact fl_done (!r202) rfl (hz202) (atc rfl (atc rfl (atc rfl (atc rfl atn)))) (join_of hr196 hg (not_iffB hr202))
     refine fl_nil ?_
     refine fx_condB rfl (fun hc204 => ?_) (fun hc204 => ?_)
     ·skip
      have hp204 := hr204.1 hc204
      refine fx_sr (fl_mv rfl (fl_nil ?_))
      refine fx_ret ?_
      refine sq_r ?_
      refine lq_r ?_
      refine sq_r ?_
      refine ret_q (.inl rfl) (rt rfl rn) ?_
      exact ⟨false, rfl, ⟨fun h => (by cases h), fun h => absurd (by rw [h] : x.deals = y.deals) (ne_at ha150 ha155 fun e => by subst e; simp at hp204)⟩⟩
     ·skip
      have hp204 := bn_iff hr204 hc204
      simp only [not_or, Classical.not_not] at hp204
      refine fx_skip ?_
      refine sq_n ?_
      refine fx_region ?_
      refine fl_mv rfl ?_
      refine fl_bin rfl rfl (b_add' (r := ((i2 + 1 : Nat) : Int)) (wi64 (by omega))) ?_
      refine fl_mv rfl (fl_nil ?_)
      exact lq_n (by omega) ⟨i2 + 1, _, _, [_, _], rfl, hzl2.trans (hz168.trans (hz175.trans (hz182.trans (hz189.trans (hz196.trans hz204))))), (atc rfl (atc rfl (atc rfl atn))), rfl, by omega, fun j hj => eq_step hp_2 ha150 ha155 (PDeal.ext_iff.2 ⟨hp204.1.1.1.1.1.1, hp204.1.1.1.1.1.2, hp204.1.1.1.1.2, hp204.1.1.1.2, hp204.1.1.2, hp204.1.2, hp204.2⟩) hj⟩
    ·skip
     have hp144 := bn_iff dec_iff hc144
     refine fx_eseq ?_
     refine lq_e ?_
     refine sq_n ?_
     refine fx_ss (fx_sr (fl_mv rfl (fl_nil ?_)))
     refine fx_seq (fx_block ?_)
     refine fx_loop (fun n fs => ∃ (i3 : Nat) (e : Env) (zz : Mem) (Hx : List HA), fs = ⟨e, zz, Hx ++ [.blk b3 (.cells 85 [.v (.int .i64 y.number), cy_0, cy_1, cy_2, cy_3, cy_4]), .blk b2 (.cells 85 [.v (.int .i64 x.number), cx_0, cx_1, cx_2, cx_3, cx_4])]⟩ ∧ zle zl2 zz ∧ AtL e [(2, .c (.ptr b2 0)), (3, .c (.ptr b3 0)), (14, .c (.v (.int .i64 (i3 : Int))))] ∧ n = x.stocks.length - i3 ∧ i3 ≤ x.stocks.length ∧ ∀ j, j < i3 → x.stocks[j]? = y.stocks[j]?) ?_ _ ⟨0, _, _, [], rfl, zle.refl _, (atc rfl (atc rfl (atc rfl atn))), rfl, Nat.zero_le _, fun j hj => absurd hj (Nat.not_lt_zero _)⟩ (by show _ < 18446744073709551616; omega)
     intro n fs hI
     obtain ⟨i3, e, zl3, Hx, rfl, hzl3, hat, rfl, hi3, hp_3⟩ := hI
     refine fx_at hat fun e => ?_
     refine fx_sub (List.sublist_append_right _ _) ?_
     refine fx_ss (fx_sr (fl_mv rfl (fl_fad rfl ?_)))
     refine fl_ld (v := .c (cx_3)) rfl (memS mem0) (len1 rfl) rfl ?_
     refine fl_lenS rfl hx_3 (fl_bin rfl rfl (b_lss _ _ _) (fl_nil ?_))
     refine fx_cseq ?_
     refine fx_condB rfl (fun hc209 => ?_) (fun hc209 => ?_)
     ·skip
      have hp209 := dec_iff.1 hc209
      refine fx_kseq ?_
      refine fx_seq (fx_block ?_)
      refine fx_drwS ?_
      refine fg_pure rfl rfl trivial (fl_fad rfl (fl_nil ?_))
      refine fg_load (v := .c (cx_3)) (i := ⟨_, _, .load _ _ _⟩) rfl rfl trivial rfl (.inr (memS mem0)) rfl (len1 rfl) rfl (by simp [sameA, sameL, sameC_int, sameC_b, sameC_s, hx_3.refl]) ?_
      refine fg_pure rfl rfl trivial (fl_mv rfl (fl_nil ?_))
      obtain ⟨a215, ha215⟩ := at_lt (l := x.stocks) (i := i3) (by omega)
      refine fg_pure rfl rfl trivial ?_
      refine fl_iadS rfl rfl hx_3 i3 rfl a215 ha215 fun b215 p215 cs215 at215 hR215 => ?_
      refine fl_nil ?_
      obtain ⟨c215_0, c215_1, c215_2, c215_3, rfl, h215_0, h215_1, h215_2, h215_3⟩ := hR215
      refine fg_pure rfl rfl trivial (fl_fad rfl (fl_nil ?_))
      refine fg_ldA (v := .c (.v (.string a215.id))) (off := 0) (i := ⟨_, _, .load _ _ _⟩) rfl rfl trivial rfl at215 (fun _ _ h => .inl ((hz29.trans (hz38.trans (hz47.trans (hz56.trans (hz65.trans (hzl0.trans (hzl1.trans (hzl2.trans (hzl3))))))))) _ _ h)) rfl (len1 rfl) rfl (by simp [sameA, sameL, sameC_int, sameC_b, sameC_s]) ?_
      refine fg_pure rfl rfl trivial (fl_fad rfl (fl_nil ?_))
      refine fg_load (v := .c (cy_3)) (i := ⟨_, _, .load _ _ _⟩) rfl rfl trivial rfl (.inr mem0) rfl (len1 rfl) rfl (by simp [sameA, sameL, sameC_int, sameC_b, sameC_s, hy_3.refl]) ?_
      refine fg_pure rfl rfl trivial (fl_mv rfl (fl_nil ?_))
      obtain ⟨a221, ha221⟩ := at_lt (l := y.stocks) (i := i3) (by omega)
      refine fg_pure rfl rfl trivial ?_
      refine fl_iadS rfl rfl hy_3 i3 rfl a221 ha221 fun b221 p221 cs221 at221 hR221 => ?_
      refine fl_nil ?_
      obtain ⟨c221_0, c221_1, c221_2, c221_3, rfl, h221_0, h221_1, h221_2, h221_3⟩ := hR221
      refine fg_pure rfl rfl trivial (fl_fad rfl (fl_nil ?_))
      refine fg_ldA (v := .c (.v (.string a221.id))) (off := 0) (i := ⟨_, _, .load _ _ _⟩) rfl rfl trivial rfl at221 (fun _ _ h => .inl ((hz29.trans (hz38.trans (hz47.trans (hz56.trans (hz65.trans (hzl0.trans (hzl1.trans (hzl2.trans (hzl3))))))))) _ _ h)) rfl (len1 rfl) rfl (by simp [sameA, sameL, sameC_int, sameC_b, sameC_s]) ?_
      refine fg_pure rfl rfl trivial ?_
      refine fl_bin rfl rfl (b_neqS _ _) ?_
      refine fl_nil (fg_pure rfl rfl trivial (fl_mv rfl (fl_nil ?_)))
      refine fg_splitB 225 rfl (fun hg225 => ?_) (fun hg225 => ?_)
      ·skip
       have hp225 := dec_not.1 hg225
       iterate 10 refine fg_off rfl rfl (.inl rfl) ?_
       refine fg_off rfl rfl (.inl rfl) (fg_off rfl rfl (.inl rfl) (fg_off rfl rfl (.inl rfl) (fg_off rfl rfl (.inl rfl) (fg_pure rfl rfl trivial (fl_pick rfl rfl (fl_nil (fg_pure rfl rfl trivial (fl_mv rfl (fl_nil ?_)))))))))
       iterate 10 refine fg_off rfl rfl (.inl rfl) ?_
       refine fg_off rfl rfl (.inl rfl) (fg_off rfl rfl (.inl rfl) (fg_off rfl rfl (.inl rfl) (fg_off rfl rfl (.inl rfl) (fg_pure rfl rfl trivial (fl_pick rfl rfl (fl_nil ?_))))))
       refine fg_nil ?_
       refine fx_condT rfl ?_
       refine fx_sr (fl_mv rfl (fl_nil ?_))
       refine fx_ret ?_
       refine sq_r ?_
       refine lq_r ?_
       refine sq_r ?_
       refine ret_q (.inl rfl) (rt rfl rn) ?_
       exact ⟨false, rfl, ⟨fun h => (by cases h), fun h => absurd (by rw [h] : x.stocks = y.stocks) (ne_at ha215 ha221 fun e => by subst e; simp at hp225)⟩⟩
      ·skip
       have hp225 := bn_iff dec_not hg225
       refine fg_pure rfl rfl rfl (fl_fad rfl (fl_nil ?_))
       refine fg_load (v := .c (cx_3)) (i := ⟨_, _, .load _ _ _⟩) rfl rfl rfl rfl (.inr (memS mem0)) rfl (len1 rfl) rfl (by simp [sameA, sameL, sameC_int, sameC_b, sameC_s, hx_3.refl]) ?_
       refine fg_pure rfl rfl rfl (fl_mv rfl (fl_nil (fg_pure rfl rfl rfl ?_)))
       refine fl_iadS rfl rfl hx_3 i3 rfl a215 ha215 fun b229 p229 cs229 at229 hR229 => ?_
       refine fl_nil ?_
       obtain ⟨c229_0, c229_1, c229_2, c229_3, rfl, h229_0, h229_1, h229_2, h229_3⟩ := hR229
       refine fg_pure rfl rfl rfl (fl_fad rfl (fl_nil ?_))
       refine fg_ldA (v := .agg [.v (.bool a215.margin.n), c229_0, .v (.bool a215.margin.d), c229_1]) (off := 1) (i := ⟨_, _, .load _ _ _⟩) rfl rfl rfl rfl at229 (fun _ _ h => .inl ((hz29.trans (hz38.trans (hz47.trans (hz56.trans (hz65.trans (hzl0.trans (hzl1.trans (hzl2.trans (hzl3))))))))) _ _ h)) rfl (len1 rfl) rfl (by simp [sameA, sameL, sameC_int, sameC_b, sameC_s, h229_0.refl, h229_1.refl]) ?_
       refine fg_pure rfl rfl rfl (fl_fad rfl (fl_nil ?_))
       refine fg_load (v := .c (cy_3)) (i := ⟨_, _, .load _ _ _⟩) rfl rfl rfl rfl (.inr mem0) rfl (len1 rfl) rfl (by simp [sameA, sameL, sameC_int, sameC_b, sameC_s, hy_3.refl]) ?_
       refine fg_pure rfl rfl rfl (fl_mv rfl (fl_nil (fg_pure rfl rfl rfl ?_)))
       refine fl_iadS rfl rfl hy_3 i3 rfl a221 ha221 fun b235 p235 cs235 at235 hR235 => ?_
       refine fl_nil ?_
       obtain ⟨c235_0, c235_1, c235_2, c235_3, rfl, h235_0, h235_1, h235_2, h235_3⟩ := hR235
       refine fg_pure rfl rfl rfl (fl_fad rfl (fl_nil ?_))
       refine fg_ldA (v := .agg [.v (.bool a221.margin.n), c235_0, .v (.bool a221.margin.d), c235_1]) (off := 1) (i := ⟨_, _, .load _ _ _⟩) rfl rfl rfl rfl at235 (fun _ _ h => .inl ((hz29.trans (hz38.trans (hz47.trans (hz56.trans (hz65.trans (hzl0.trans (hzl1.trans (hzl2.trans (hzl3))))))))) _ _ h)) rfl (len1 rfl) rfl (by simp [sameA, sameL, sameC_int, sameC_b, sameC_s, h235_0.refl, h235_1.refl]) ?_
       refine fg_call (i := ⟨_, _, .call _ _⟩) rfl rfl rfl rfl rfl rfl (same_rat (by omega) ⟨_, rfl, mk_rat (h229_0.mono (hz29.trans (hz38.trans (hz47.trans (hz56.trans (hz65.trans (hzl0.trans (hzl1.trans (hzl2.trans hzl3))))))))) (h229_1.mono (hz29.trans (hz38.trans (hz47.trans (hz56.trans (hz65.trans (hzl0.trans (hzl1.trans (hzl2.trans hzl3)))))))))⟩ ⟨_, rfl, mk_rat (h235_0.mono (hz29.trans (hz38.trans (hz47.trans (hz56.trans (hz65.trans (hzl0.trans (hzl1.trans (hzl2.trans hzl3))))))))) (h235_1.mono (hz29.trans (hz38.trans (hz47.trans (hz56.trans (hz65.trans (hzl0.trans (hzl1.trans (hzl2.trans hzl3)))))))))⟩) fun v238 z238 hz238 ⟨r238, hv238, hr238⟩ => ?_
       subst hv238
       refine fg_pure rfl rfl rfl ?_
       refine fl_un rfl (u_not _) ?_
       refine fl_nil (fg_pure rfl rfl trivial (fl_pick rfl rfl (fl_nil (fg_pure rfl rfl trivial (fl_mv rfl (fl_nil ?_))))))
       refine fg_splitB 241 rfl (fun hg241 => ?_) (fun hg241 => ?_)
       ·skip
        have hp241 := (not_iffB hr238).1 hg241
        iterate 10 refine fg_off rfl rfl (.inl rfl) ?_
        refine fg_off rfl rfl (.inl rfl) (fg_off rfl rfl (.inl rfl) (fg_off rfl rfl (.inl rfl) (fg_off rfl rfl (.inl rfl) (fg_pure rfl rfl trivial (fl_pick rfl rfl (fl_nil ?_))))))
        refine fg_nil ?_
        refine fx_condT rfl ?_
        refine fx_sr (fl_mv rfl (fl_nil ?_))
        refine fx_ret ?_
        refine sq_r ?_
        refine lq_r ?_
        refine sq_r ?_
        refine ret_q (.inl rfl) (rt rfl rn) ?_
        exact ⟨false, rfl, ⟨fun h => (by cases h), fun h => absurd (by rw [h] : x.stocks = y.stocks) (ne_at ha215 ha221 fun e => by subst e; simp at hp241)⟩⟩
       ·skip
        have hp241 := bn_iff (not_iffB hr238) hg241
        refine fg_pure rfl rfl rfl (fl_fad rfl (fl_nil ?_))
        refine fg_load (v := .c (cx_3)) (i := ⟨_, _, .load _ _ _⟩) rfl rfl rfl rfl (.inr (memS mem0)) rfl (len1 rfl) rfl (by simp [sameA, sameL, sameC_int, sameC_b, sameC_s, hx_3.refl]) ?_
        refine fg_pure rfl rfl rfl (fl_mv rfl (fl_nil (fg_pure rfl rfl rfl ?_)))
        refine fl_iadS rfl rfl hx_3 i3 rfl a215 ha215 fun b245 p245 cs245 at245 hR245 => ?_
        refine fl_nil ?_
        obtain ⟨c245_0, c245_1, c245_2, c245_3, rfl, h245_0, h245_1, h245_2, h245_3⟩ := hR245
        refine fg_pure rfl rfl rfl (fl_fad rfl (fl_nil ?_))
        refine fg_ldA (v := .agg [.v (.bool a215.unsold.n), c245_2, .v (.bool a215.unsold.d), c245_3]) (off := 5) (i := ⟨_, _, .load _ _ _⟩) rfl rfl rfl rfl at245 (fun _ _ h => .inl ((hz29.trans (hz38.trans (hz47.trans (hz56.trans (hz65.trans (hzl0.trans (hzl1.trans (hzl2.trans (hzl3))))))))) _ _ h)) rfl (len1 rfl) rfl (by simp [sameA, sameL, sameC_int, sameC_b, sameC_s, h245_2.refl, h245_3.refl]) ?_
        refine fg_pure rfl rfl rfl (fl_fad rfl (fl_nil ?_))
        refine fg_load (v := .c (cy_3)) (i := ⟨_, _, .load _ _ _⟩) rfl rfl rfl rfl (.inr mem0) rfl (len1 rfl) rfl (by simp [sameA, sameL, sameC_int, sameC_b, sameC_s, hy_3.refl]) ?_
        refine fg_pure rfl rfl rfl (fl_mv rfl (fl_nil (fg_pure rfl rfl rfl ?_)))
        refine fl_iadS rfl rfl hy_3 i3 rfl a221 ha221 fun b251 p251 cs251 at251 hR251 => ?_
        refine fl_nil ?_
        obtain ⟨c251_0, c251_1, c251_2, c251_3, rfl, h251_0, h251_1, h251_2, h251_3⟩ := hR251
        refine fg_pure rfl rfl rfl (fl_fad rfl (fl_nil ?_))
        refine fg_ldA (v := .agg [.v (.bool a221.unsold.n), c251_2, .v (.bool a221.unsold.d), c251_3]) (off := 5) (i := ⟨_, _, .load _ _ _⟩) rfl rfl rfl rfl at251 (fun _ _ h => .inl ((hz29.trans (hz38.trans (hz47.trans (hz56.trans (hz65.trans (hzl0.trans (hzl1.trans (hzl2.trans (hzl3))))))))) _ _ h)) rfl (len1 rfl) rfl (by simp [sameA, sameL, sameC_int, sameC_b, sameC_s, h251_2.refl, h251_3.refl]) ?_
        refine fg_call (i := ⟨_, _, .call _ _⟩) rfl rfl rfl rfl rfl rfl (same_rat (by omega) ⟨_, rfl, mk_rat (h245_2.mono (hz29.trans (hz38.trans (hz47.trans (hz56.trans (hz65.trans (hzl0.trans (hzl1.trans (hzl2.trans (hzl3.trans hz238)))))))))) (h245_3.mono (hz29.trans (hz38.trans (hz47.trans (hz56.trans (hz65.trans (hzl0.trans (hzl1.trans (hzl2.trans (hzl3.trans hz238))))))))))⟩ ⟨_, rfl, mk_rat (h251_2.mono (hz29.trans (hz38.trans (hz47.trans (hz56.trans (hz65.trans (hzl0.trans (hzl1.trans (hzl2.trans (hzl3.trans hz238)))))))))) (h251_3.mono (hz29.trans (hz38.trans (hz47.trans (hz56.trans (hz65.trans (hzl0.trans (hzl1.trans (hzl2.trans (hzl3.trans hz238))))))))))⟩) fun v254 z254 hz254 ⟨r254, hv254, hr254⟩ => ?_
        subst hv254
        refine fg_pure rfl rfl rfl ?_
        refine fl_un rfl (u_not _) ?_
        refine fl_nil (fg_pure rfl rfl trivial (fl_pick rfl rfl (fl_nil ?_)))
        refine fg_nil ?_
        refine fx_condB rfl (fun hc256 => ?_) (fun hc256 => ?_)
        ·skip
         have hp256 := (not_iffB hr254).1 hc256
         refine fx_sr (fl_mv rfl (fl_nil ?_))
         refine fx_ret ?_
         refine sq_r ?_
         refine lq_r ?_
         refine sq_r ?_
         refine ret_q (.inl rfl) (rt rfl rn) ?_
         exact ⟨false, rfl, ⟨fun h => (by cases h), fun h => absurd (by rw [h] : x.stocks = y.stocks) (ne_at ha215 ha221 fun e => by subst e; simp at hp256)⟩⟩
        ·skip
         have hp256 := bn_iff (not_iffB hr254) hc256
         refine fx_skip ?_
         refine sq_n ?_
         refine fx_region ?_
         refine fl_mv rfl ?_
         refine fl_bin rfl rfl (b_add' (r := ((i3 + 1 : Nat) : Int)) (wi64 (by omega))) ?_
         refine fl_mv rfl (fl_nil ?_)
         exact lq_n (by omega) ⟨i3 + 1, _, _, [], rfl, hzl3.trans (hz238.trans hz254), (atc rfl (atc rfl (atc rfl atn))), rfl, by omega, fun j hj => eq_step hp_3 ha215 ha221 (PStock.ext_iff.2 ⟨Classical.not_not.1 hp225, Classical.not_not.1 hp241, Classical.not_not.1 hp256⟩) hj⟩
     ·skip
      have hp209 := bn_iff dec_iff hc209
      refine fx_eseq ?_
      refine lq_e ?_
      refine sq_n ?_
      refine fx_ss (fx_sr (fl_mv rfl (fl_nil ?_)))
      refine fx_seq (fx_block ?_)
      refine fx_loop (fun n fs => ∃ (i4 : Nat) (e : Env) (zz : Mem) (Hx : List HA), fs = ⟨e, zz, Hx ++ [.blk b3 (.cells 85 [.v (.int .i64 y.number), cy_0, cy_1, cy_2, cy_3, cy_4]), .blk b2 (.cells 85 [.v (.int .i64 x.number), cx_0, cx_1, cx_2, cx_3, cx_4])]⟩ ∧ zle zl3 zz ∧ AtL e [(2, .c (.ptr b2 0)), (3, .c (.ptr b3 0)), (15, .c (.v (.int .i64 (i4 : Int))))] ∧ n = x.solds.length - i4 ∧ i4 ≤ x.solds.length ∧ ∀ j, j < i4 → x.solds[j]? = y.solds[j]?) ?_ _ ⟨0, _, _, [], rfl, zle.refl _, (atc rfl (atc rfl (atc rfl atn))), rfl, Nat.zero_le _, fun j hj => absurd hj (Nat.not_lt_zero _)⟩ (by show _ < 18446744073709551616; omega)
      intro n fs hI
      obtain ⟨i4, e, zl4, Hx, rfl, hzl4, hat, rfl, hi4, hp_4⟩ := hI
      refine fx_at hat fun e => ?_
      refine fx_sub (List.sublist_append_right _ _) ?_
      refine fx_ss (fx_sr (fl_mv rfl (fl_fad rfl ?_)))
      refine fl_ld (v := .c (cx_4)) rfl (memS mem0) (len1 rfl) rfl ?_
      refine fl_lenS rfl hx_4 (fl_bin rfl rfl (b_lss _ _ _) (fl_nil ?_))
      refine fx_cseq ?_
      refine fx_condB rfl (fun hc261 => ?_) (fun hc261 => ?_)
      ·skip
       have hp261 := dec_iff.1 hc261
       refine fx_kseq ?_
       refine fx_seq (fx_block ?_)
       refine fx_drwS ?_
       refine fg_pure rfl rfl trivial (fl_fad rfl (fl_nil ?_))
       refine fg_load (v := .c (cx_4)) (i := ⟨_, _, .load _ _ _⟩) rfl rfl trivial rfl (.inr (memS mem0)) rfl (len1 rfl) rfl (by simp [sameA, sameL, sameC_int, sameC_b, sameC_s, hx_4.refl]) ?_
       refine fg_pure rfl rfl trivial (fl_mv rfl (fl_nil ?_))
       obtain ⟨a267, ha267⟩ := at_lt (l := x.solds) (i := i4) (by omega)
       refine fg_pure rfl rfl trivial ?_
       refine fl_iadS rfl rfl hx_4 i4 rfl a267 ha267 fun b267 p267 cs267 at267 hR267 => ?_
       refine fl_nil ?_
       obtain ⟨c267_0, c267_1, rfl, h267_0, h267_1⟩ := hR267
       refine fg_pure rfl rfl trivial (fl_fad rfl (fl_nil ?_))
       refine fg_ldA (v := .c (.v (.string a267.id))) (off := 0) (i := ⟨_, _, .load _ _ _⟩) rfl rfl trivial rfl at267 (fun _ _ h => .inl ((hz29.trans (hz38.trans (hz47.trans (hz56.trans (hz65.trans (hzl0.trans (hzl1.trans (hzl2.trans (hzl3.trans (hzl4)))))))))) _ _ h)) rfl (len1 rfl) rfl (by simp [sameA, sameL, sameC_int, sameC_b, sameC_s]) ?_
       refine fg_pure rfl rfl trivial (fl_fad rfl (fl_nil ?_))
       refine fg_load (v := .c (cy_4)) (i := ⟨_, _, .load _ _ _⟩) rfl rfl trivial rfl (.inr mem0) rfl (len1 rfl) rfl (by simp [sameA, sameL, sameC_int, sameC_b, sameC_s, hy_4.refl]) ?_
       refine fg_pure rfl rfl trivial (fl_mv rfl (fl_nil ?_))
       obtain ⟨a273, ha273⟩ := at_lt (l := y.solds) (i := i4) (by omega)
       refine fg_pure rfl rfl trivial ?_
       refine fl_iadS rfl rfl hy_4 i4 rfl a273 ha273 fun b273 p273 cs273 at273 hR273 => ?_
       refine fl_nil ?_
       obtain ⟨c273_0, c273_1, rfl, h273_0, h273_1⟩ := hR273
       refine fg_pure rfl rfl trivial (fl_fad rfl (fl_nil ?_))
       refine fg_ldA (v := .c (.v (.string a273.id))) (off := 0) (i := ⟨_, _, .load _ _ _⟩) rfl rfl trivial rfl at273 (fun _ _ h => .inl ((hz29.trans (hz38.trans (hz47.trans (hz56.trans (hz65.trans (hzl0.trans (hzl1.trans (hzl2.trans (hzl3.trans (hzl4)))))))))) _ _ h)) rfl (len1 rfl) rfl (by simp [sameA, sameL, sameC_int, sameC_b, sameC_s]) ?_
       refine fg_pure rfl rfl trivial ?_
       refine fl_bin rfl rfl (b_neqS _ _) ?_
       refine fl_nil (fg_pure rfl rfl trivial (fl_mv rfl (fl_nil ?_)))
       refine fg_splitB 277 rfl (fun hg277 => ?_) (fun hg277 => ?_)
       ·skip
        have hp277 := dec_not.1 hg277
        iterate 10 refine fg_off rfl rfl (.inl rfl) ?_
        refine fg_off rfl rfl (.inl rfl) (fg_off rfl rfl (.inl rfl) (fg_off rfl rfl (.inl rfl) (fg_off rfl rfl (.inl rfl) (fg_pure rfl rfl trivial (fl_pick rfl rfl (fl_nil ?_))))))
        refine fg_nil ?_
        refine fx_condT rfl ?_
        refine fx_sr (fl_mv rfl (fl_nil ?_))
        refine fx_ret ?_
        refine sq_r ?_
        refine lq_r ?_
        refine sq_r ?_
        refine ret_q (.inl rfl) (rt rfl rn) ?_
        exact ⟨false, rfl, ⟨fun h => (by cases h), fun h => absurd (by rw [h] : x.solds = y.solds) (ne_at ha267 ha273 fun e => by subst e; simp at hp277)⟩⟩
       ·skip
        have hp277 := bn_iff dec_not hg277
        refine fg_pure rfl rfl rfl (fl_fad rfl (fl_nil ?_))
        refine fg_load (v := .c (cx_4)) (i := ⟨_, _, .load _ _ _⟩) rfl rfl rfl rfl (.inr (memS mem0)) rfl (len1 rfl) rfl (by simp [sameA, sameL, sameC_int, sameC_b, sameC_s, hx_4.refl]) ?_
        refine fg_pure rfl rfl rfl (fl_mv rfl (fl_nil (fg_pure rfl rfl rfl ?_)))
        refine fl_iadS rfl rfl hx_4 i4 rfl a267 ha267 fun b281 p281 cs281 at281 hR281 => ?_
        refine fl_nil ?_
        obtain ⟨c281_0, c281_1, rfl, h281_0, h281_1⟩ := hR281
        refine fg_pure rfl rfl rfl (fl_fad rfl (fl_nil ?_))
        refine fg_ldA (v := .agg [.v (.bool a267.share.n), c281_0, .v (.bool a267.share.d), c281_1]) (off := 1) (i := ⟨_, _, .load _ _ _⟩) rfl rfl rfl rfl at281 (fun _ _ h => .inl ((hz29.trans (hz38.trans (hz47.trans (hz56.trans (hz65.trans (hzl0.trans (hzl1.trans (hzl2.trans (hzl3.trans (hzl4)))))))))) _ _ h)) rfl (len1 rfl) rfl (by simp [sameA, sameL, sameC_int, sameC_b, sameC_s, h281_0.refl, h281_1.refl]) ?_
        refine fg_pure rfl rfl rfl (fl_fad rfl (fl_nil ?_))
        refine fg_load (v := .c (cy_4)) (i := ⟨_, _, .load _ _ _⟩) rfl rfl rfl rfl (.inr mem0) rfl (len1 rfl) rfl (by simp [sameA, sameL, sameC_int, sameC_b, sameC_s, hy_4.refl]) ?_
        refine fg_pure rfl rfl rfl (fl_mv rfl (fl_nil (fg_pure rfl rfl rfl ?_)))
        refine fl_iadS rfl rfl hy_4 i4 rfl a273 ha273 fun b287 p287 cs287 at287 hR287 => ?_
        refine fl_nil ?_
        obtain ⟨c287_0, c287_1, rfl, h287_0, h287_1⟩ := hR287
        refine fg_pure rfl rfl rfl (fl_fad rfl (fl_nil ?_))
        refine fg_ldA (v := .agg [.v (.bool a273.share.n), c287_0, .v (.bool a273.share.d), c287_1]) (off := 1) (i := ⟨_, _, .load _ _ _⟩) rfl rfl rfl rfl at287 (fun _ _ h => .inl ((hz29.trans (hz38.trans (hz47.trans (hz56.trans (hz65.trans (hzl0.trans (hzl1.trans (hzl2.trans (hzl3.trans (hzl4)))))))))) _ _ h)) rfl (len1 rfl) rfl (by simp [sameA, sameL, sameC_int, sameC_b, sameC_s, h287_0.refl, h287_1.refl]) ?_
        refine fg_call (i := ⟨_, _, .call _ _⟩) rfl rfl rfl rfl rfl rfl (same_rat (by omega) ⟨_, rfl, mk_rat (h281_0.mono (hz29.trans (hz38.trans (hz47.trans (hz56.trans (hz65.trans (hzl0.trans (hzl1.trans (hzl2.trans (hzl3.trans hzl4)))))))))) (h281_1.mono (hz29.trans (hz38.trans (hz47.trans (hz56.trans (hz65.trans (hzl0.trans (hzl1.trans (hzl2.trans (hzl3.trans hzl4))))))))))⟩ ⟨_, rfl, mk_rat (h287_0.mono (hz29.trans (hz38.trans (hz47.trans (hz56.trans (hz65.trans (hzl0.trans (hzl1.trans (hzl2.trans (hzl3.trans hzl4)))))))))) (h287_1.mono (hz29.trans (hz38.trans (hz47.trans (hz56.trans (hz65.trans (hzl0.trans (hzl1.trans (hzl2.trans (hzl3.trans hzl4))))))))))⟩) fun v290 z290 hz290 ⟨r290, hv290, hr290⟩ => ?_
        subst hv290
        refine fg_pure rfl rfl rfl ?_
        refine fl_un rfl (u_not _) ?_
        refine fl_nil (fg_pure rfl rfl trivial (fl_pick rfl rfl (fl_nil ?_)))
        refine fg_nil ?_
        refine fx_condB rfl (fun hc292 => ?_) (fun hc292 => ?_)
        ·skip
         have hp292 := (not_iffB hr290).1 hc292
         refine fx_sr (fl_mv rfl (fl_nil ?_))
         refine fx_ret ?_
         refine sq_r ?_
         refine lq_r ?_
         refine sq_r ?_
         refine ret_q (.inl rfl) (rt rfl rn) ?_
         exact ⟨false, rfl, ⟨fun h => (by cases h), fun h => absurd (by rw [h] : x.solds = y.solds) (ne_at ha267 ha273 fun e => by subst e; simp at hp292)⟩⟩
        ·skip
         have hp292 := bn_iff (not_iffB hr290) hc292
         refine fx_skip ?_
         refine sq_n ?_
         refine fx_region ?_
         refine fl_mv rfl ?_
         refine fl_bin rfl rfl (b_add' (r := ((i4 + 1 : Nat) : Int)) (wi64 (by omega))) ?_
         refine fl_mv rfl (fl_nil ?_)
         exact lq_n (by omega) ⟨i4 + 1, _, _, [], rfl, hzl4.trans hz290, (atc rfl (atc rfl (atc rfl atn))), rfl, by omega, fun j hj => eq_step hp_4 ha267 ha273 (PSold.ext_iff.2 ⟨Classical.not_not.1 hp277, Classical.not_not.1 hp292⟩) hj⟩
      ·skip
       have hp261 := bn_iff dec_iff hc261
       refine fx_eseq ?_
       refine lq_e ?_
       refine sq_n ?_
       refine fx_sr (fl_mv rfl (fl_nil ?_))
       refine fx_ret ?_
       refine ret_q (.inl rfl) (rt rfl rn) ?_
       refine ⟨true, rfl, ⟨fun _ => PYear.ext_iff.2 ⟨hp65.1.1.1.1.1, eq_end (by omega) hp_0 (by omega), eq_end (by omega) hp_1 (by omega), eq_end (by omega) hp_2 (by omega), eq_end (by omega) hp_3 (by omega), eq_end (by omega) hp_4 (by omega)⟩, fun _ => rfl⟩⟩
theorem same_filing {k : Nat} (hk : 4 ≤ k) {z : Mem} {u v : AV} {x y : PFiling} (hx : AZ RFiling z u x) (hy : AZ RFiling z v y) : FC (E k) 10 [u, v] z (EqP x y) := by
 obtain ⟨_, rfl, cx_0, cx_1, cx_2, cx_3, cx_4, cx_5, cx_6, cx_7, cx_8, cx_9, cx_10, cx_11, rfl, hx_0, hx_1, hx_2, hx_3, hx_4, hx_5, hx_6, hx_7, hx_8, hx_9, hx_10, hx_11⟩ := hx
 obtain ⟨_, rfl, cy_0, cy_1, cy_2, cy_3, cy_4, cy_5, cy_6, cy_7, cy_8, cy_9, cy_10, cy_11, rfl, hy_0, hy_1, hy_2, hy_3, hy_4, hy_5, hy_6, hy_7, hy_8, hy_9, hy_10, hy_11⟩ := hy
 have bx0 := hx_0.le
 have by0 := hy_0.le
 have bx9 := hx_9.le
 have by9 := hy_9.le
 have bx10 := hx_10.le
 have by10 := hy_10.le
 have bx11 := hx_11.le
 have by11 := hy_11.le
 refine fc_of (tS_get10) (by omega) (len1 rfl) fun B j hj => ?_
 refine fx_sr ?_
 refine fl_box rfl rfl fun b2 => ?_
 refine fl_box rfl rfl fun b3 => ?_
 refine fl_mv rfl (fl_nil (fx_ss (fx_sr (fl_fad rfl ?_))))
 refine fl_ld (v := .c (.v (.string x.name))) rfl (memS mem0) (len1 rfl) rfl ?_
 refine fl_fad rfl ?_
 refine fl_ld (v := .c (.v (.string y.name))) rfl mem0 (len1 rfl) rfl ?_
 refine fl_bin rfl rfl (b_neqS _ _) ?_
 refine fl_mv rfl ?_
 refine fl_join 6 14 (fun r => [(2, .c (.ptr b2 0)), (3, .c (.ptr b3 0)), (20, .c (.v (.bool r)))]) ((¬ (x.name = y.name)) ∨ (¬ (x.parent = y.parent))) rfl (fun hg => ?_) (fun hg => ?_) (fun e z20 r20 hz20 hr20 => ?_)
 ·skip
  refine fl_gx rfl (fl_gx rfl (fl_gx rfl (fl_gx rfl (fl_gx rfl (fl_pick rfl rfl ?_)))))
  exact fl_done true rfl (zle.refl _) (atc rfl (atc rfl (atc rfl atn))) (join_ot dec_not hg)
 ·skip
  refine fl_gd rfl (fl_fad rfl (fl_gd rfl ?_))
  refine fl_ld (v := .c (.v (.string x.parent))) rfl (memS mem0) (len1 rfl) rfl ?_
  refine fl_gd rfl (fl_fad rfl (fl_gd rfl ?_))
  refine fl_ld (v := .c (.v (.string y.parent))) rfl mem0 (len1 rfl) rfl ?_
  refine fl_gd rfl ?_
  refine fl_bin rfl rfl (b_neqS _ _) ?_
  refine fl_pick rfl rfl ?_
  exact fl_done (!decide (x.parent = y.parent)) rfl (zle.refl _) (atc rfl (atc rfl (atc rfl atn))) (join_of dec_not hg dec_not)
 refine fl_mv rfl ?_
 refine fl_join 8 21 (fun r => [(2, .c (.ptr b2 0)), (3, .c (.ptr b3 0)), (29, .c (.v (.bool r)))]) (((¬ (x.name = y.name)) ∨ (¬ (x.parent = y.parent))) ∨ (¬ ((x.brackets.length : Int) = (y.brackets.length : Int)))) rfl (fun hg => ?_) (fun hg => ?_) (fun e z29 r29 hz29 hr29 => ?_)
 ·skip
  refine fl_gx rfl (fl_gx rfl (fl_gx rfl (fl_gx rfl (fl_gx rfl (fl_gx rfl (fl_gx rfl (fl_pick rfl rfl ?_)))))))
  exact fl_done true rfl (zle.refl _) (atc rfl (atc rfl (atc rfl atn))) (join_ot hr20 hg)
 ·skip
  refine fl_gd rfl (fl_fad rfl (fl_gd rfl ?_))
  refine fl_ld (v := .c (cx_0)) rfl (memS mem0) (len1 rfl) rfl ?_
  refine fl_gd rfl (fl_lenS rfl hx_0 (fl_gd rfl (fl_fad rfl (fl_gd rfl ?_))))
  refine fl_ld (v := .c (cy_0)) rfl mem0 (len1 rfl) rfl ?_
  refine fl_gd rfl (fl_lenS rfl hy_0 (fl_gd rfl (fl_bin rfl rfl (b_neq _ _ _) (fl_pick rfl rfl ?_))))
  exact fl_done (!decide ((x.brackets.length : Int) = (y.brackets.length : Int))) rfl (zle.refl _) (atc rfl (atc rfl (atc rfl atn))) (join_of hr20 hg dec_not)
 refine fl_mv rfl ?_
 refine fl_join 8 30 (fun r => [(2, .c (.ptr b2 0)), (3, .c (.ptr b3 0)), (38, .c (.v (.bool r)))]) ((((¬ (x.name = y.name)) ∨ (¬ (x.parent = y.parent))) ∨ (¬ ((x.brackets.length : Int) = (y.brackets.length : Int)))) ∨ (¬ ((x.classes.length : Int) = (y.classes.length : Int)))) rfl (fun hg => ?_) (fun hg => ?_) (fun e z38 r38 hz38 hr38 => ?_)
 ·skip
  refine fl_gx rfl (fl_gx rfl (fl_gx rfl (fl_gx rfl (fl_gx rfl (fl_gx rfl (fl_gx rfl (fl_pick rfl rfl ?_)))))))
  exact fl_done true rfl (zle.refl _) (atc rfl (atc rfl (atc rfl atn))) (join_ot hr29 hg)
 ·skip
  refine fl_gd rfl (fl_fad rfl (fl_gd rfl ?_))
  refine fl_ld (v := .c (cx_9)) rfl (memS mem0) (len1 rfl) rfl ?_
  refine fl_gd rfl (fl_lenS rfl hx_9 (fl_gd rfl (fl_fad rfl (fl_gd rfl ?_))))
  refine fl_ld (v := .c (cy_9)) rfl mem0 (len1 rfl) rfl ?_
  refine fl_gd rfl (fl_lenS rfl hy_9 (fl_gd rfl (fl_bin rfl rfl (b_neq _ _ _) (fl_pick rfl rfl ?_))))
  exact fl_done (!decide ((x.classes.length : Int) = (y.classes.length : Int))) rfl (zle.refl _) (atc rfl (atc rfl (atc rfl atn))) (join_of hr29 hg dec_not)
 refine fl_mv rfl ?_
 refine fl_join 8 39 (fun r => [(2, .c (.ptr b2 0)), (3, .c (.ptr b3 0)), (47, .c (.v (.bool r)))]) (((((¬ (x.name = y.name)) ∨ (¬ (x.parent = y.parent))) ∨ (¬ ((x.brackets.length : Int) = (y.brackets.length : Int)))) ∨ (¬ ((x.classes.length : Int) = (y.classes.length : Int)))) ∨ (¬ ((x.entities.length : Int) = (y.entities.length : Int)))) rfl (fun hg => ?_) (fun hg => ?_) (fun e z47 r47 hz47 hr47 => ?_)
 ·skip
  refine fl_gx rfl (fl_gx rfl (fl_gx rfl (fl_gx rfl (fl_gx rfl (fl_gx rfl (fl_gx rfl (fl_pick rfl rfl ?_)))))))
  exact fl_done true rfl (zle.refl _) (atc rfl (atc rfl (atc rfl atn))) (join_ot hr38 hg)
 ·skip
  refine fl_gd rfl (fl_fad rfl (fl_gd rfl ?_))
  refine fl_ld (v := .c (cx_10)) rfl (memS mem0) (len1 rfl) rfl ?_
  refine fl_gd rfl (fl_lenS rfl hx_10 (fl_gd rfl (fl_fad rfl (fl_gd rfl ?_))))
  refine fl_ld (v := .c (cy_10)) rfl mem0 (len1 rfl) rfl ?_
  refine fl_gd rfl (fl_lenS rfl hy_10 (fl_gd rfl (fl_bin rfl rfl (b_neq _ _ _) (fl_pick rfl rfl ?_))))
  exact fl_done (!decide ((x.entities.length : Int) = (y.entities.length : Int))) rfl (zle.refl _) (atc rfl (atc rfl (atc rfl atn))) (join_of hr38 hg dec_not)
 refine fl_mv rfl ?_
 refine fl_join 8 48 (fun r => [(2, .c (.ptr b2 0)), (3, .c (.ptr b3 0)), (56, .c (.v (.bool r)))]) ((((((¬ (x.name = y.name)) ∨ (¬ (x.parent = y.parent))) ∨ (¬ ((x.brackets.length : Int) = (y.brackets.length : Int)))) ∨ (¬ ((x.classes.length : Int) = (y.classes.length : Int)))) ∨ (¬ ((x.entities.length : Int) = (y.entities.length : Int)))) ∨ (¬ ((x.years.length : Int) = (y.years.length : Int)))) rfl (fun hg => ?_) (fun hg => ?_) (fun e z56 r56 hz56 hr56 => ?_)
 ·skip
  refine fl_gx rfl (fl_gx rfl (fl_gx rfl (fl_gx rfl (fl_gx rfl (fl_gx rfl (fl_gx rfl (fl_pick rfl rfl ?_)))))))
  exact fl_done true rfl (zle.refl _) (atc rfl (atc rfl (atc rfl atn))) (join_ot hr47 hg)
 ·skip
  refine fl_gd rfl (fl_fad rfl (fl_gd rfl ?_))
  refine fl_ld (v := .c (cx_11)) rfl (memS mem0) (len1 rfl) rfl ?_
  refine fl_gd rfl (fl_lenS rfl hx_11 (fl_gd rfl (fl_fad rfl (fl_gd rfl ?_))))
  refine fl_ld (v := .c (cy_11)) rfl mem0 (len1 rfl) rfl ?_
  refine fl_gd rfl (fl_lenS rfl hy_11 (fl_gd rfl (fl_bin rfl rfl (b_neq _ _ _) (fl_pick rfl rfl ?_))))
  exact fl_done (!decide ((x.years.length : Int) = (y.years.length : Int))) rfl (zle.refl _) (atc rfl (atc rfl (atc rfl atn))) (join_of hr47 hg dec_not)
 refine fl_nil ?_
 refine fx_cseq ?_
 refine fx_condB rfl (fun hc56 => ?_) (fun hc56 => ?_)
 ·skip
  have hp56 := hr56.1 hc56
  refine fx_ss (fx_sr (fl_mv rfl (fl_nil ?_)))
  refine fx_rseq ?_
  refine ret_q (.inl rfl) (rt rfl rn) ?_
  exact ⟨false, rfl, ⟨fun h => (by cases h), fun h => by subst h; simp at hp56⟩⟩
 ·skip
  have hp56 := bn_iff hr56 hc56
  simp only [not_or, Classical.not_not] at hp56
  refine fx_kseq (fx_ss (fx_sr (fl_fad rfl ?_)))
  refine fl_ld (v := .agg [.v (.bool x.threshold.n), cx_1, .v (.bool x.threshold.d), cx_2]) rfl (memS mem0) (len1 rfl) rfl ?_
  refine fl_fad rfl ?_
  refine fl_ld (v := .agg [.v (.bool y.threshold.n), cy_1, .v (.bool y.threshold.d), cy_2]) rfl mem0 (len1 rfl) rfl ?_
  refine fl_call rfl (same_rat (by omega) ⟨_, rfl, mk_rat (hx_1.mono (hz20.trans (hz29.trans (hz38.trans (hz47.trans hz56))))) (hx_2.mono (hz20.trans (hz29.trans (hz38.trans (hz47.trans hz56)))))⟩ ⟨_, rfl, mk_rat (hy_1.mono (hz20.trans (hz29.trans (hz38.trans (hz47.trans hz56))))) (hy_2.mono (hz20.trans (hz29.trans (hz38.trans (hz47.trans hz56)))))⟩) fun v61 z61 hz61 ⟨r61, hv61, hr61⟩ => ?_
  subst hv61
  refine fl_un rfl (u_not _) ?_
  refine fl_mv rfl ?_
  refine fl_join 7 63 (fun r => [(2, .c (.ptr b2 0)), (3, .c (.ptr b3 0)), (70, .c (.v (.bool r)))]) ((¬ (x.threshold = y.threshold)) ∨ (¬ (x.cap = y.cap))) rfl (fun hg => ?_) (fun hg => ?_) (fun e z70 r70 hz70 hr70 => ?_)
  ·skip
   refine fl_gx rfl (fl_gx rfl (fl_gx rfl (fl_gx rfl (fl_gx rfl (fl_gx rfl (fl_pick rfl rfl ?_))))))
   exact fl_done true rfl (zle.refl _) (atc rfl (atc rfl (atc rfl atn))) (join_ot (not_iffB hr61) hg)
  ·skip
   refine fl_gd rfl (fl_fad rfl (fl_gd rfl ?_))
   refine fl_ld (v := .agg [.v (.bool x.cap.n), cx_3, .v (.bool x.cap.d), cx_4]) rfl (memS mem0) (len1 rfl) rfl ?_
   refine fl_gd rfl (fl_fad rfl (fl_gd rfl ?_))
   refine fl_ld (v := .agg [.v (.bool y.cap.n), cy_3, .v (.bool y.cap.d), cy_4]) rfl mem0 (len1 rfl) rfl ?_
   refine fl_gd rfl ?_
   refine fl_call rfl (same_rat (by omega) ⟨_, rfl, mk_rat (hx_3.mono (hz20.trans (hz29.trans (hz38.trans (hz47.trans (hz56.trans hz61)))))) (hx_4.mono (hz20.trans (hz29.trans (hz38.trans (hz47.trans (hz56.trans hz61))))))⟩ ⟨_, rfl, mk_rat (hy_3.mono (hz20.trans (hz29.trans (hz38.trans (hz47.trans (hz56.trans hz61)))))) (hy_4.mono (hz20.trans (hz29.trans (hz38.trans (hz47.trans (hz56.trans hz61))))))⟩) fun v68 z68 hz68 ⟨r68, hv68, hr68⟩ => ?_
   subst hv68
   refine fl_gd rfl ?_
   refine fl_un rfl (u_not _) ?_
   refine fl_pick rfl rfl ?_
   exact fl_done (!r68) rfl (hz68) (atc rfl (atc rfl (atc rfl atn))) (join_of (not_iffB hr61) hg (not_iffB hr68))
  refine fl_mv rfl ?_
  refine fl_join 6 71 (fun r => [(2, .c (.ptr b2 0)), (3, .c (.ptr b3 0)), (77, .c (.v (.bool r)))]) (((¬ (x.threshold = y.threshold)) ∨ (¬ (x.cap = y.cap))) ∨ (¬ (x.back = y.back))) rfl (fun hg => ?_) (fun hg => ?_) (fun e z77 r77 hz77 hr77 => ?_)
  ·skip
   refine fl_gx rfl (fl_gx rfl (fl_gx rfl (fl_gx rfl (fl_gx rfl (fl_pick rfl rfl ?_)))))
   exact fl_done true rfl (zle.refl _) (atc rfl (atc rfl (atc rfl atn))) (join_ot hr70 hg)
  ·skip
   refine fl_gd rfl (fl_fad rfl (fl_gd rfl ?_))
   refine fl_ld (v := .c (.v (.int .i64 x.back))) rfl (memS mem0) (len1 rfl) rfl ?_
   refine fl_gd rfl (fl_fad rfl (fl_gd rfl ?_))
   refine fl_ld (v := .c (.v (.int .i64 y.back))) rfl mem0 (len1 rfl) rfl ?_
   refine fl_gd rfl (fl_bin rfl rfl (b_neq _ _ _) (fl_pick rfl rfl ?_))
   exact fl_done (!decide (x.back = y.back)) rfl (zle.refl _) (atc rfl (atc rfl (atc rfl atn))) (join_of hr70 hg dec_not)
  refine fl_mv rfl ?_
  refine fl_join 6 78 (fun r => [(2, .c (.ptr b2 0)), (3, .c (.ptr b3 0)), (84, .c (.v (.bool r)))]) ((((¬ (x.threshold = y.threshold)) ∨ (¬ (x.cap = y.cap))) ∨ (¬ (x.back = y.back))) ∨ (¬ (x.forward = y.forward))) rfl (fun hg => ?_) (fun hg => ?_) (fun e z84 r84 hz84 hr84 => ?_)
  ·skip
   refine fl_gx rfl (fl_gx rfl (fl_gx rfl (fl_gx rfl (fl_gx rfl (fl_pick rfl rfl ?_)))))
   exact fl_done true rfl (zle.refl _) (atc rfl (atc rfl (atc rfl atn))) (join_ot hr77 hg)
  ·skip
   refine fl_gd rfl (fl_fad rfl (fl_gd rfl ?_))
   refine fl_ld (v := .c (.v (.int .i64 x.forward))) rfl (memS mem0) (len1 rfl) rfl ?_
   refine fl_gd rfl (fl_fad rfl (fl_gd rfl ?_))
   refine fl_ld (v := .c (.v (.int .i64 y.forward))) rfl mem0 (len1 rfl) rfl ?_
   refine fl_gd rfl (fl_bin rfl rfl (b_neq _ _ _) (fl_pick rfl rfl ?_))
   exact fl_done (!decide (x.forward = y.forward)) rfl (zle.refl _) (atc rfl (atc rfl (atc rfl atn))) (join_of hr77 hg dec_not)
  refine fl_mv rfl ?_
  refine fl_join 7 85 (fun r => [(2, .c (.ptr b2 0)), (3, .c (.ptr b3 0)), (92, .c (.v (.bool r)))]) (((((¬ (x.threshold = y.threshold)) ∨ (¬ (x.cap = y.cap))) ∨ (¬ (x.back = y.back))) ∨ (¬ (x.forward = y.forward))) ∨ (¬ (x.interest = y.interest))) rfl (fun hg => ?_) (fun hg => ?_) (fun e z92 r92 hz92 hr92 => ?_)
  ·skip
   refine fl_gx rfl (fl_gx rfl (fl_gx rfl (fl_gx rfl (fl_gx rfl (fl_gx rfl (fl_pick rfl rfl ?_))))))
   exact fl_done true rfl (zle.refl _) (atc rfl (atc rfl (atc rfl atn))) (join_ot hr84 hg)
  ·skip
   refine fl_gd rfl (fl_fad rfl (fl_gd rfl ?_))
   refine fl_ld (v := .agg [.v (.bool x.interest.n), cx_5, .v (.bool x.interest.d), cx_6]) rfl (memS mem0) (len1 rfl) rfl ?_
   refine fl_gd rfl (fl_fad rfl (fl_gd rfl ?_))
   refine fl_ld (v := .agg [.v (.bool y.interest.n), cy_5, .v (.bool y.interest.d), cy_6]) rfl mem0 (len1 rfl) rfl ?_
   refine fl_gd rfl ?_
   refine fl_call rfl (same_rat (by omega) ⟨_, rfl, mk_rat (hx_5.mono (hz20.trans (hz29.trans (hz38.trans (hz47.trans (hz56.trans (hz61.trans (hz70.trans (hz77.trans hz84))))))))) (hx_6.mono (hz20.trans (hz29.trans (hz38.trans (hz47.trans (hz56.trans (hz61.trans (hz70.trans (hz77.trans hz84)))))))))⟩ ⟨_, rfl, mk_rat (hy_5.mono (hz20.trans (hz29.trans (hz38.trans (hz47.trans (hz56.trans (hz61.trans (hz70.trans (hz77.trans hz84))))))))) (hy_6.mono (hz20.trans (hz29.trans (hz38.trans (hz47.trans (hz56.trans (hz61.trans (hz70.trans (hz77.trans hz84)))))))))⟩) fun v90 z90 hz90 ⟨r90, hv90, hr90⟩ => ?_
   subst hv90
   refine fl_gd rfl ?_
   refine fl_un rfl (u_not _) ?_
   refine fl_pick rfl rfl ?_
   exact fl_done (!r90) rfl (hz90) (atc rfl (atc rfl (atc rfl atn))) (join_of hr84 hg (not_iffB hr90))
  refine fl_mv rfl ?_
  refine fl_join 7 93 (fun r => [(2, .c (.ptr b2 0)), (3, .c (.ptr b3 0)), (100, .c (.v (.bool r)))]) ((((((¬ (x.threshold = y.threshold)) ∨ (¬ (x.cap = y.cap))) ∨ (¬ (x.back = y.back))) ∨ (¬ (x.forward = y.forward))) ∨ (¬ (x.interest = y.interest))) ∨ (¬ (x.floor = y.floor))) rfl (fun hg => ?_) (fun hg => ?_) (fun e z100 r100 hz100 hr100 => ?_)
  ·skip
   refine fl_gx rfl (fl_gx rfl (fl_gx rfl (fl_gx rfl (fl_gx rfl (fl_gx rfl (fl_pick rfl rfl ?_))))))
   exact fl_done true rfl (zle.refl _) (atc rfl (atc rfl (atc rfl atn))) (join_ot hr92 hg)
  ·skip
   refine fl_gd rfl (fl_fad rfl (fl_gd rfl ?_))
   refine fl_ld (v := .agg [.v (.bool x.floor.n), cx_7, .v (.bool x.floor.d), cx_8]) rfl (memS mem0) (len1 rfl) rfl ?_
   refine fl_gd rfl (fl_fad rfl (fl_gd rfl ?_))
   refine fl_ld (v := .agg [.v (.bool y.floor.n), cy_7, .v (.bool y.floor.d), cy_8]) rfl mem0 (len1 rfl) rfl ?_
   refine fl_gd rfl ?_
   refine fl_call rfl (same_rat (by omega) ⟨_, rfl, mk_rat (hx_7.mono (hz20.trans (hz29.trans (hz38.trans (hz47.trans (hz56.trans (hz61.trans (hz70.trans (hz77.trans (hz84.trans hz92)))))))))) (hx_8.mono (hz20.trans (hz29.trans (hz38.trans (hz47.trans (hz56.trans (hz61.trans (hz70.trans (hz77.trans (hz84.trans hz92))))))))))⟩ ⟨_, rfl, mk_rat (hy_7.mono (hz20.trans (hz29.trans (hz38.trans (hz47.trans (hz56.trans (hz61.trans (hz70.trans (hz77.trans (hz84.trans hz92)))))))))) (hy_8.mono (hz20.trans (hz29.trans (hz38.trans (hz47.trans (hz56.trans (hz61.trans (hz70.trans (hz77.trans (hz84.trans hz92))))))))))⟩) fun v98 z98 hz98 ⟨r98, hv98, hr98⟩ => ?_
   subst hv98
   refine fl_gd rfl ?_
   refine fl_un rfl (u_not _) ?_
   refine fl_pick rfl rfl ?_
   exact fl_done (!r98) rfl (hz98) (atc rfl (atc rfl (atc rfl atn))) (join_of hr92 hg (not_iffB hr98))
  refine fl_mv rfl ?_
  refine fl_join 6 101 (fun r => [(2, .c (.ptr b2 0)), (3, .c (.ptr b3 0)), (107, .c (.v (.bool r)))]) (((((((¬ (x.threshold = y.threshold)) ∨ (¬ (x.cap = y.cap))) ∨ (¬ (x.back = y.back))) ∨ (¬ (x.forward = y.forward))) ∨ (¬ (x.interest = y.interest))) ∨ (¬ (x.floor = y.floor))) ∨ (¬ (x.keep = y.keep))) rfl (fun hg => ?_) (fun hg => ?_) (fun e z107 r107 hz107 hr107 => ?_)
  ·skip
   refine fl_gx rfl (fl_gx rfl (fl_gx rfl (fl_gx rfl (fl_gx rfl (fl_pick rfl rfl ?_)))))
   exact fl_done true rfl (zle.refl _) (atc rfl (atc rfl (atc rfl atn))) (join_ot hr100 hg)
  ·skip
   refine fl_gd rfl (fl_fad rfl (fl_gd rfl ?_))
   refine fl_ld (v := .c (.v (.int .i64 x.keep))) rfl (memS mem0) (len1 rfl) rfl ?_
   refine fl_gd rfl (fl_fad rfl (fl_gd rfl ?_))
   refine fl_ld (v := .c (.v (.int .i64 y.keep))) rfl mem0 (len1 rfl) rfl ?_
   refine fl_gd rfl (fl_bin rfl rfl (b_neq _ _ _) (fl_pick rfl rfl ?_))
   exact fl_done (!decide (x.keep = y.keep)) rfl (zle.refl _) (atc rfl (atc rfl (atc rfl atn))) (join_of hr100 hg dec_not)
  refine fl_nil ?_
  refine fx_cseq ?_
  refine fx_condB rfl (fun hc107 => ?_) (fun hc107 => ?_)
  ·skip
   have hp107 := hr107.1 hc107
   refine fx_ss (fx_sr (fl_mv rfl (fl_nil ?_)))
   refine fx_rseq ?_
   refine ret_q (.inl rfl) (rt rfl rn) ?_
   exact ⟨false, rfl, ⟨fun h => (by cases h), fun h => by subst h; simp at hp107⟩⟩
  ·skip
   have hp107 := bn_iff hr107 hc107
   simp only [not_or, Classical.not_not] at hp107
   refine fx_kseq (fx_ss (fx_sr (fl_mv rfl (fl_nil ?_))))
   refine fx_seq (fx_block ?_)
   refine fx_loop (fun n fs => ∃ (i0 : Nat) (e : Env) (zz : Mem) (Hx : List HA), fs = ⟨e, zz, Hx ++ [.blk b3 (.cells 42 [.v (.string y.name), .v (.string y.parent), cy_0, .v (.bool y.threshold.n), cy_1, .v (.bool y.threshold.d), cy_2, .v (.bool y.cap.n), cy_3, .v (.bool y.cap.d), cy_4, .v (.int .i64 y.back), .v (.int .i64 y.forward), .v (.bool y.interest.n), cy_5, .v (.bool y.interest.d), cy_6, .v (.bool y.floor.n), cy_7, .v (.bool y.floor.d), cy_8, .v (.int .i64 y.keep), cy_9, cy_10, cy_11]), .blk b2 (.cells 42 [.v (.string x.name), .v (.string x.parent), cx_0, .v (.bool x.threshold.n), cx_1, .v (.bool x.threshold.d), cx_2, .v (.bool x.cap.n), cx_3, .v (.bool x.cap.d), cx_4, .v (.int .i64 x.back), .v (.int .i64 x.forward), .v (.bool x.interest.n), cx_5, .v (.bool x.interest.d), cx_6, .v (.bool x.floor.n), cx_7, .v (.bool x.floor.d), cx_8, .v (.int .i64 x.keep), cx_9, cx_10, cx_11])]⟩ ∧ zle z107 zz ∧ AtL e [(2, .c (.ptr b2 0)), (3, .c (.ptr b3 0)), (5, .c (.v (.int .i64 (i0 : Int))))] ∧ n = x.brackets.length - i0 ∧ i0 ≤ x.brackets.length ∧ ∀ j, j < i0 → x.brackets[j]? = y.brackets[j]?) ?_ _ ⟨0, _, _, [], rfl, zle.refl _, (atc rfl (atc rfl (atc rfl atn))), rfl, Nat.zero_le _, fun j hj => absurd hj (Nat.not_lt_zero _)⟩ (by show _ < 18446744073709551616; omega)
   intro n fs hI
   obtain ⟨i0, e, zl0, Hx, rfl, hzl0, hat, rfl, hi0, hp_0⟩ := hI
   refine fx_at hat fun e => ?_
   refine fx_sub (List.sublist_append_right _ _) ?_
   refine fx_ss (fx_sr (fl_mv rfl (fl_fad rfl ?_)))
   refine fl_ld (v := .c (cx_0)) rfl (memS mem0) (len1 rfl) rfl ?_
   refine fl_lenS rfl hx_0 (fl_bin rfl rfl (b_lss _ _ _) (fl_nil ?_))
   refine fx_cseq ?_
   refine fx_condB rfl (fun hc112 => ?_) (fun hc112 => ?_)
   ·skip
    have hp112 := dec_iff.1 hc112
    refine fx_kseq ?_
    refine fx_seq (fx_block ?_)
    refine fx_drwS ?_
    refine fg_pure rfl rfl trivial (fl_fad rfl (fl_nil ?_))
    refine fg_load (v := .c (cx_0)) (i := ⟨_, _, .load _ _ _⟩) rfl rfl trivial rfl (.inr (memS mem0)) rfl (len1 rfl) rfl (by simp [sameA, sameL, sameC_int, sameC_b, sameC_s, hx_0.refl]) ?_
    refine fg_pure rfl rfl trivial (fl_mv rfl (fl_nil ?_))
    obtain ⟨a118, ha118⟩ := at_lt (l := x.brackets) (i := i0) (by omega)
    refine fg_pure rfl rfl trivial ?_
    refine fl_iadS rfl rfl hx_0 i0 rfl a118 ha118 fun b118 p118 cs118 at118 hR118 => ?_
    refine fl_nil ?_
    obtain ⟨c118_0, c118_1, c118_2, c118_3, rfl, h118_0, h118_1, h118_2, h118_3⟩ := hR118
    refine fg_pure rfl rfl trivial (fl_fad rfl (fl_nil ?_))
    refine fg_ldA (v := .agg [.v (.bool a118.frm.n), c118_0, .v (.bool a118.frm.d), c118_1]) (off := 0) (i := ⟨_, _, .load _ _ _⟩) rfl rfl trivial rfl at118 (fun _ _ h => .inl ((hz20.trans (hz29.trans (hz38.trans (hz47.trans (hz56.trans (hz61.trans (hz70.trans (hz77.trans (hz84.trans (hz92.trans (hz100.trans (hz107.trans (hzl0))))))))))))) _ _ h)) rfl (len1 rfl) rfl (by simp [sameA, sameL, sameC_int, sameC_b, sameC_s, h118_0.refl, h118_1.refl]) ?_
    refine fg_pure rfl rfl trivial (fl_fad rfl (fl_nil ?_))
    refine fg_load (v := .c (cy_0)) (i := ⟨_, _, .load _ _ _⟩) rfl rfl trivial rfl (.inr mem0) rfl (len1 rfl) rfl (by simp [sameA, sameL, sameC_int, sameC_b, sameC_s, hy_0.refl]) ?_
    refine fg_pure rfl rfl trivial (fl_mv rfl (fl_nil ?_))
    obtain ⟨a124, ha124⟩ := at_lt (l := y.brackets) (i := i0) (by omega)
    refine fg_pure rfl rfl trivial ?_
    refine fl_iadS rfl rfl hy_0 i0 rfl a124 ha124 fun b124 p124 cs124 at124 hR124 => ?_
    refine fl_nil ?_
    obtain ⟨c124_0, c124_1, c124_2, c124_3, rfl, h124_0, h124_1, h124_2, h124_3⟩ := hR124
    refine fg_pure rfl rfl trivial (fl_fad rfl (fl_nil ?_))
    refine fg_ldA (v := .agg [.v (.bool a124.frm.n), c124_0, .v (.bool a124.frm.d), c124_1]) (off := 0) (i := ⟨_, _, .load _ _ _⟩) rfl rfl trivial rfl at124 (fun _ _ h => .inl ((hz20.trans (hz29.trans (hz38.trans (hz47.trans (hz56.trans (hz61.trans (hz70.trans (hz77.trans (hz84.trans (hz92.trans (hz100.trans (hz107.trans (hzl0))))))))))))) _ _ h)) rfl (len1 rfl) rfl (by simp [sameA, sameL, sameC_int, sameC_b, sameC_s, h124_0.refl, h124_1.refl]) ?_
    refine fg_call (i := ⟨_, _, .call _ _⟩) rfl rfl trivial rfl rfl rfl (same_rat (by omega) ⟨_, rfl, mk_rat (h118_0.mono (hz20.trans (hz29.trans (hz38.trans (hz47.trans (hz56.trans (hz61.trans (hz70.trans (hz77.trans (hz84.trans (hz92.trans (hz100.trans (hz107.trans hzl0))))))))))))) (h118_1.mono (hz20.trans (hz29.trans (hz38.trans (hz47.trans (hz56.trans (hz61.trans (hz70.trans (hz77.trans (hz84.trans (hz92.trans (hz100.trans (hz107.trans hzl0)))))))))))))⟩ ⟨_, rfl, mk_rat (h124_0.mono (hz20.trans (hz29.trans (hz38.trans (hz47.trans (hz56.trans (hz61.trans (hz70.trans (hz77.trans (hz84.trans (hz92.trans (hz100.trans (hz107.trans hzl0))))))))))))) (h124_1.mono (hz20.trans (hz29.trans (hz38.trans (hz47.trans (hz56.trans (hz61.trans (hz70.trans (hz77.trans (hz84.trans (hz92.trans (hz100.trans (hz107.trans hzl0)))))))))))))⟩) fun v127 z127 hz127 ⟨r127, hv127, hr127⟩ => ?_
    subst hv127
    refine fg_pure rfl rfl trivial ?_
    refine fl_un rfl (u_not _) ?_
    refine fl_nil (fg_pure rfl rfl trivial (fl_mv rfl (fl_nil ?_)))
    refine fg_splitB 129 rfl (fun hg129 => ?_) (fun hg129 => ?_)
    ·skip
     have hp129 := (not_iffB hr127).1 hg129
     iterate 10 refine fg_off rfl rfl (.inl rfl) ?_
     refine fg_off rfl rfl (.inl rfl) (fg_off rfl rfl (.inl rfl) (fg_off rfl rfl (.inl rfl) (fg_off rfl rfl (.inl rfl) (fg_pure rfl rfl trivial (fl_pick rfl rfl (fl_nil ?_))))))
     refine fg_nil ?_
     refine fx_condT rfl ?_
     refine fx_sr (fl_mv rfl (fl_nil ?_))
     refine fx_ret ?_
     refine sq_r ?_
     refine lq_r ?_
     refine sq_r ?_
     refine ret_q (.inl rfl) (rt rfl rn) ?_
     exact ⟨false, rfl, ⟨fun h => (by cases h), fun h => absurd (by rw [h] : x.brackets = y.brackets) (ne_at ha118 ha124 fun e => by subst e; simp at hp129)⟩⟩
    ·skip
     have hp129 := bn_iff (not_iffB hr127) hg129
     refine fg_pure rfl rfl rfl (fl_fad rfl (fl_nil ?_))
     refine fg_load (v := .c (cx_0)) (i := ⟨_, _, .load _ _ _⟩) rfl rfl rfl rfl (.inr (memS mem0)) rfl (len1 rfl) rfl (by simp [sameA, sameL, sameC_int, sameC_b, sameC_s, hx_0.refl]) ?_
     refine fg_pure rfl rfl rfl (fl_mv rfl (fl_nil (fg_pure rfl rfl rfl ?_)))
     refine fl_iadS rfl rfl hx_0 i0 rfl a118 ha118 fun b133 p133 cs133 at133 hR133 => ?_
     refine fl_nil ?_
     obtain ⟨c133_0, c133_1, c133_2, c133_3, rfl, h133_0, h133_1, h133_2, h133_3⟩ := hR133
     refine fg_pure rfl rfl rfl (fl_fad rfl (fl_nil ?_))
     refine fg_ldA (v := .agg [.v (.bool a118.rate.n), c133_2, .v (.bool a118.rate.d), c133_3]) (off := 4) (i := ⟨_, _, .load _ _ _⟩) rfl rfl rfl rfl at133 (fun _ _ h => .inl ((hz20.trans (hz29.trans (hz38.trans (hz47.trans (hz56.trans (hz61.trans (hz70.trans (hz77.trans (hz84.trans (hz92.trans (hz100.trans (hz107.trans (hzl0))))))))))))) _ _ h)) rfl (len1 rfl) rfl (by simp [sameA, sameL, sameC_int, sameC_b, sameC_s, h133_2.refl, h133_3.refl]) ?_
     refine fg_pure rfl rfl rfl (fl_fad rfl (fl_nil ?_))
     refine fg_load (v := .c (cy_0)) (i := ⟨_, _, .load _ _ _⟩) rfl rfl rfl rfl (.inr mem0) rfl (len1 rfl) rfl (by simp [sameA, sameL, sameC_int, sameC_b, sameC_s, hy_0.refl]) ?_
     refine fg_pure rfl rfl rfl (fl_mv rfl (fl_nil (fg_pure rfl rfl rfl ?_)))
     refine fl_iadS rfl rfl hy_0 i0 rfl a124 ha124 fun b139 p139 cs139 at139 hR139 => ?_
     refine fl_nil ?_
     obtain ⟨c139_0, c139_1, c139_2, c139_3, rfl, h139_0, h139_1, h139_2, h139_3⟩ := hR139
     refine fg_pure rfl rfl rfl (fl_fad rfl (fl_nil ?_))
     refine fg_ldA (v := .agg [.v (.bool a124.rate.n), c139_2, .v (.bool a124.rate.d), c139_3]) (off := 4) (i := ⟨_, _, .load _ _ _⟩) rfl rfl rfl rfl at139 (fun _ _ h => .inl ((hz20.trans (hz29.trans (hz38.trans (hz47.trans (hz56.trans (hz61.trans (hz70.trans (hz77.trans (hz84.trans (hz92.trans (hz100.trans (hz107.trans (hzl0))))))))))))) _ _ h)) rfl (len1 rfl) rfl (by simp [sameA, sameL, sameC_int, sameC_b, sameC_s, h139_2.refl, h139_3.refl]) ?_
     refine fg_call (i := ⟨_, _, .call _ _⟩) rfl rfl rfl rfl rfl rfl (same_rat (by omega) ⟨_, rfl, mk_rat (h133_2.mono (hz20.trans (hz29.trans (hz38.trans (hz47.trans (hz56.trans (hz61.trans (hz70.trans (hz77.trans (hz84.trans (hz92.trans (hz100.trans (hz107.trans (hzl0.trans hz127)))))))))))))) (h133_3.mono (hz20.trans (hz29.trans (hz38.trans (hz47.trans (hz56.trans (hz61.trans (hz70.trans (hz77.trans (hz84.trans (hz92.trans (hz100.trans (hz107.trans (hzl0.trans hz127))))))))))))))⟩ ⟨_, rfl, mk_rat (h139_2.mono (hz20.trans (hz29.trans (hz38.trans (hz47.trans (hz56.trans (hz61.trans (hz70.trans (hz77.trans (hz84.trans (hz92.trans (hz100.trans (hz107.trans (hzl0.trans hz127)))))))))))))) (h139_3.mono (hz20.trans (hz29.trans (hz38.trans (hz47.trans (hz56.trans (hz61.trans (hz70.trans (hz77.trans (hz84.trans (hz92.trans (hz100.trans (hz107.trans (hzl0.trans hz127))))))))))))))⟩) fun v142 z142 hz142 ⟨r142, hv142, hr142⟩ => ?_
     subst hv142
     refine fg_pure rfl rfl rfl ?_
     refine fl_un rfl (u_not _) ?_
     refine fl_nil (fg_pure rfl rfl trivial (fl_pick rfl rfl (fl_nil ?_)))
     refine fg_nil ?_
     refine fx_condB rfl (fun hc144 => ?_) (fun hc144 => ?_)
     ·skip
      have hp144 := (not_iffB hr142).1 hc144
      refine fx_sr (fl_mv rfl (fl_nil ?_))
      refine fx_ret ?_
      refine sq_r ?_
      refine lq_r ?_
      refine sq_r ?_
      refine ret_q (.inl rfl) (rt rfl rn) ?_
      exact ⟨false, rfl, ⟨fun h => (by cases h), fun h => absurd (by rw [h] : x.brackets = y.brackets) (ne_at ha118 ha124 fun e => by subst e; simp at hp144)⟩⟩
     ·skip
      have hp144 := bn_iff (not_iffB hr142) hc144
      refine fx_skip ?_
      refine sq_n ?_
      refine fx_region ?_
      refine fl_mv rfl ?_
      refine fl_bin rfl rfl (b_add' (r := ((i0 + 1 : Nat) : Int)) (wi64 (by omega))) ?_
      refine fl_mv rfl (fl_nil ?_)
      exact lq_n (by omega) ⟨i0 + 1, _, _, [], rfl, hzl0.trans (hz127.trans hz142), (atc rfl (atc rfl (atc rfl atn))), rfl, by omega, fun j hj => eq_step hp_0 ha118 ha124 (PBracket.ext_iff.2 ⟨Classical.not_not.1 hp129, Classical.not_not.1 hp144⟩) hj⟩
   ·skip
    have hp112 := bn_iff dec_iff hc112
    refine fx_eseq ?_
    refine lq_e ?_
    refine sq_n ?_
    refine fx_ss (fx_sr (fl_mv rfl (fl_nil ?_)))
    refine fx_seq (fx_block ?_)
    refine fx_loop (fun n fs => ∃ (i1 : Nat) (e : Env) (zz : Mem) (Hx : List HA), fs = ⟨e, zz, Hx ++ [.blk b3 (.cells 42 [.v (.string y.name), .v (.string y.parent), cy_0, .v (.bool y.threshold.n), cy_1, .v (.bool y.threshold.d), cy_2, .v (.bool y.cap.n), cy_3, .v (.bool y.cap.d), cy_4, .v (.int .i64 y.back), .v (.int .i64 y.forward), .v (.bool y.interest.n), cy_5, .v (.bool y.interest.d), cy_6, .v (.bool y.floor.n), cy_7, .v (.bool y.floor.d), cy_8, .v (.int .i64 y.keep), cy_9, cy_10, cy_11]), .blk b2 (.cells 42 [.v (.string x.name), .v (.string x.parent), cx_0, .v (.bool x.threshold.n), cx_1, .v (.bool x.threshold.d), cx_2, .v (.bool x.cap.n), cx_3, .v (.bool x.cap.d), cx_4, .v (.int .i64 x.back), .v (.int .i64 x.forward), .v (.bool x.interest.n), cx_5, .v (.bool x.interest.d), cx_6, .v (.bool x.floor.n), cx_7, .v (.bool x.floor.d), cx_8, .v (.int .i64 x.keep), cx_9, cx_10, cx_11])]⟩ ∧ zle zl0 zz ∧ AtL e [(2, .c (.ptr b2 0)), (3, .c (.ptr b3 0)), (6, .c (.v (.int .i64 (i1 : Int))))] ∧ n = x.classes.length - i1 ∧ i1 ≤ x.classes.length ∧ ∀ j, j < i1 → x.classes[j]? = y.classes[j]?) ?_ _ ⟨0, _, _, [], rfl, zle.refl _, (atc rfl (atc rfl (atc rfl atn))), rfl, Nat.zero_le _, fun j hj => absurd hj (Nat.not_lt_zero _)⟩ (by show _ < 18446744073709551616; omega)
    intro n fs hI
    obtain ⟨i1, e, zl1, Hx, rfl, hzl1, hat, rfl, hi1, hp_1⟩ := hI
    refine fx_at hat fun e => ?_
    refine fx_sub (List.sublist_append_right _ _) ?_
    refine fx_ss (fx_sr (fl_mv rfl (fl_fad rfl ?_)))
    refine fl_ld (v := .c (cx_9)) rfl (memS mem0) (len1 rfl) rfl ?_
    refine fl_lenS rfl hx_9 (fl_bin rfl rfl (b_lss _ _ _) (fl_nil ?_))
    refine fx_cseq ?_
    refine fx_condB rfl (fun hc149 => ?_) (fun hc149 => ?_)
    ·skip
     have hp149 := dec_iff.1 hc149
     refine fx_kseq ?_
     refine fx_seq (fx_block ?_)
     refine fx_drwS ?_
     refine fg_pure rfl rfl trivial (fl_fad rfl (fl_nil ?_))
     refine fg_load (v := .c (cx_9)) (i := ⟨_, _, .load _ _ _⟩) rfl rfl trivial rfl (.inr (memS mem0)) rfl (len1 rfl) rfl (by simp [sameA, sameL, sameC_int, sameC_b, sameC_s, hx_9.refl]) ?_
     refine fg_pure rfl rfl trivial (fl_mv rfl (fl_nil ?_))
     obtain ⟨a155, ha155⟩ := at_lt (l := x.classes) (i := i1) (by omega)
     refine fg_pure rfl rfl trivial ?_
     refine fl_iadS rfl rfl hx_9 i1 rfl a155 ha155 fun b155 p155 cs155 at155 hR155 => ?_
     refine fl_nil ?_
     obtain ⟨c155_0, c155_1, rfl, h155_0, h155_1⟩ := hR155
     refine fg_pure rfl rfl trivial (fl_fad rfl (fl_nil ?_))
     refine fg_ldA (v := .c (.v (.string a155.name))) (off := 0) (i := ⟨_, _, .load _ _ _⟩) rfl rfl trivial rfl at155 (fun _ _ h => .inl ((hz20.trans (hz29.trans (hz38.trans (hz47.trans (hz56.trans (hz61.trans (hz70.trans (hz77.trans (hz84.trans (hz92.trans (hz100.trans (hz107.trans (hzl0.trans (hzl1)))))))))))))) _ _ h)) rfl (len1 rfl) rfl (by simp [sameA, sameL, sameC_int, sameC_b, sameC_s]) ?_
     refine fg_pure rfl rfl trivial (fl_fad rfl (fl_nil ?_))
     refine fg_load (v := .c (cy_9)) (i := ⟨_, _, .load _ _ _⟩) rfl rfl trivial rfl (.inr mem0) rfl (len1 rfl) rfl (by simp [sameA, sameL, sameC_int, sameC_b, sameC_s, hy_9.refl]) ?_
     refine fg_pure rfl rfl trivial (fl_mv rfl (fl_nil ?_))
     obtain ⟨a161, ha161⟩ := at_lt (l := y.classes) (i := i1) (by omega)
     refine fg_pure rfl rfl trivial ?_
     refine fl_iadS rfl rfl hy_9 i1 rfl a161 ha161 fun b161 p161 cs161 at161 hR161 => ?_
     refine fl_nil ?_
     obtain ⟨c161_0, c161_1, rfl, h161_0, h161_1⟩ := hR161
     refine fg_pure rfl rfl trivial (fl_fad rfl (fl_nil ?_))
     refine fg_ldA (v := .c (.v (.string a161.name))) (off := 0) (i := ⟨_, _, .load _ _ _⟩) rfl rfl trivial rfl at161 (fun _ _ h => .inl ((hz20.trans (hz29.trans (hz38.trans (hz47.trans (hz56.trans (hz61.trans (hz70.trans (hz77.trans (hz84.trans (hz92.trans (hz100.trans (hz107.trans (hzl0.trans (hzl1)))))))))))))) _ _ h)) rfl (len1 rfl) rfl (by simp [sameA, sameL, sameC_int, sameC_b, sameC_s]) ?_
     refine fg_pure rfl rfl trivial ?_
     refine fl_bin rfl rfl (b_neqS _ _) ?_
     refine fl_nil (fg_pure rfl rfl trivial (fl_mv rfl (fl_nil ?_)))
     refine fg_splitB 165 rfl (fun hg165 => ?_) (fun hg165 => ?_)
     ·skip
      have hp165 := dec_not.1 hg165
      iterate 10 refine fg_off rfl rfl (.inl rfl) ?_
      refine fg_off rfl rfl (.inl rfl) (fg_off rfl rfl (.inl rfl) (fg_off rfl rfl (.inl rfl) (fg_pure rfl rfl trivial (fl_pick rfl rfl (fl_nil (fg_pure rfl rfl trivial (fl_mv rfl (fl_nil (fg_off rfl rfl (.inl rfl) ?_)))))))))
      iterate 10 refine fg_off rfl rfl (.inl rfl) ?_
      refine fg_off rfl rfl (.inl rfl) (fg_off rfl rfl (.inl rfl) (fg_off rfl rfl (.inl rfl) (fg_pure rfl rfl trivial (fl_pick rfl rfl (fl_nil ?_)))))
      refine fg_nil ?_
      refine fx_condT rfl ?_
      refine fx_sr (fl_mv rfl (fl_nil ?_))
      refine fx_ret ?_
      refine sq_r ?_
      refine lq_r ?_
      refine sq_r ?_
      refine ret_q (.inl rfl) (rt rfl rn) ?_
      exact ⟨false, rfl, ⟨fun h => (by cases h), fun h => absurd (by rw [h] : x.classes = y.classes) (ne_at ha155 ha161 fun e => by subst e; simp at hp165)⟩⟩
     ·skip
      have hp165 := bn_iff dec_not hg165
      refine fg_pure rfl rfl rfl (fl_fad rfl (fl_nil ?_))
      refine fg_load (v := .c (cx_9)) (i := ⟨_, _, .load _ _ _⟩) rfl rfl rfl rfl (.inr (memS mem0)) rfl (len1 rfl) rfl (by simp [sameA, sameL, sameC_int, sameC_b, sameC_s, hx_9.refl]) ?_
      refine fg_pure rfl rfl rfl (fl_mv rfl (fl_nil (fg_pure rfl rfl rfl ?_)))
      refine fl_iadS rfl rfl hx_9 i1 rfl a155 ha155 fun b169 p169 cs169 at169 hR169 => ?_
      refine fl_nil ?_
      obtain ⟨c169_0, c169_1, rfl, h169_0, h169_1⟩ := hR169
      refine fg_pure rfl rfl rfl (fl_fad rfl (fl_nil ?_))
      refine fg_ldA (v := .c (.v (.int .u8 a155.kind))) (off := 1) (i := ⟨_, _, .load _ _ _⟩) rfl rfl rfl rfl at169 (fun _ _ h => .inl ((hz20.trans (hz29.trans (hz38.trans (hz47.trans (hz56.trans (hz61.trans (hz70.trans (hz77.trans (hz84.trans (hz92.trans (hz100.trans (hz107.trans (hzl0.trans (hzl1)))))))))))))) _ _ h)) rfl (len1 rfl) rfl (by simp [sameA, sameL, sameC_int, sameC_b, sameC_s]) ?_
      refine fg_pure rfl rfl rfl (fl_fad rfl (fl_nil ?_))
      refine fg_load (v := .c (cy_9)) (i := ⟨_, _, .load _ _ _⟩) rfl rfl rfl rfl (.inr mem0) rfl (len1 rfl) rfl (by simp [sameA, sameL, sameC_int, sameC_b, sameC_s, hy_9.refl]) ?_
      refine fg_pure rfl rfl rfl (fl_mv rfl (fl_nil (fg_pure rfl rfl rfl ?_)))
      refine fl_iadS rfl rfl hy_9 i1 rfl a161 ha161 fun b175 p175 cs175 at175 hR175 => ?_
      refine fl_nil ?_
      obtain ⟨c175_0, c175_1, rfl, h175_0, h175_1⟩ := hR175
      refine fg_pure rfl rfl rfl (fl_fad rfl (fl_nil ?_))
      refine fg_ldA (v := .c (.v (.int .u8 a161.kind))) (off := 1) (i := ⟨_, _, .load _ _ _⟩) rfl rfl rfl rfl at175 (fun _ _ h => .inl ((hz20.trans (hz29.trans (hz38.trans (hz47.trans (hz56.trans (hz61.trans (hz70.trans (hz77.trans (hz84.trans (hz92.trans (hz100.trans (hz107.trans (hzl0.trans (hzl1)))))))))))))) _ _ h)) rfl (len1 rfl) rfl (by simp [sameA, sameL, sameC_int, sameC_b, sameC_s]) ?_
      refine fg_pure rfl rfl rfl (fl_bin rfl rfl (b_neq _ _ _) (fl_nil (fg_pure rfl rfl trivial (fl_pick rfl rfl (fl_nil (fg_pure rfl rfl trivial (fl_mv rfl (fl_nil ?_))))))))
      refine fg_splitB 180 rfl (fun hg180 => ?_) (fun hg180 => ?_)
      ·skip
       have hp180 := dec_not.1 hg180
       iterate 10 refine fg_off rfl rfl (.inl rfl) ?_
       refine fg_off rfl rfl (.inl rfl) (fg_off rfl rfl (.inl rfl) (fg_off rfl rfl (.inl rfl) (fg_off rfl rfl (.inl rfl) (fg_pure rfl rfl trivial (fl_pick rfl rfl (fl_nil ?_))))))
       refine fg_nil ?_
       refine fx_condT rfl ?_
       refine fx_sr (fl_mv rfl (fl_nil ?_))
       refine fx_ret ?_
       refine sq_r ?_
       refine lq_r ?_
       refine sq_r ?_
       refine ret_q (.inl rfl) (rt rfl rn) ?_
       exact ⟨false, rfl, ⟨fun h => (by cases h), fun h => absurd (by rw [h] : x.classes = y.classes) (ne_at ha155 ha161 fun e => by subst e; simp at hp180)⟩⟩
      ·skip
       have hp180 := bn_iff dec_not hg180
       refine fg_pure rfl rfl rfl (fl_fad rfl (fl_nil ?_))
       refine fg_load (v := .c (cx_9)) (i := ⟨_, _, .load _ _ _⟩) rfl rfl rfl rfl (.inr (memS mem0)) rfl (len1 rfl) rfl (by simp [sameA, sameL, sameC_int, sameC_b, sameC_s, hx_9.refl]) ?_
       refine fg_pure rfl rfl rfl (fl_mv rfl (fl_nil (fg_pure rfl rfl rfl ?_)))
       refine fl_iadS rfl rfl hx_9 i1 rfl a155 ha155 fun b184 p184 cs184 at184 hR184 => ?_
       refine fl_nil ?_
       obtain ⟨c184_0, c184_1, rfl, h184_0, h184_1⟩ := hR184
       refine fg_pure rfl rfl rfl (fl_fad rfl (fl_nil ?_))
       refine fg_ldA (v := .agg [.v (.bool a155.arg.n), c184_0, .v (.bool a155.arg.d), c184_1]) (off := 2) (i := ⟨_, _, .load _ _ _⟩) rfl rfl rfl rfl at184 (fun _ _ h => .inl ((hz20.trans (hz29.trans (hz38.trans (hz47.trans (hz56.trans (hz61.trans (hz70.trans (hz77.trans (hz84.trans (hz92.trans (hz100.trans (hz107.trans (hzl0.trans (hzl1)))))))))))))) _ _ h)) rfl (len1 rfl) rfl (by simp [sameA, sameL, sameC_int, sameC_b, sameC_s, h184_0.refl, h184_1.refl]) ?_
       refine fg_pure rfl rfl rfl (fl_fad rfl (fl_nil ?_))
       refine fg_load (v := .c (cy_9)) (i := ⟨_, _, .load _ _ _⟩) rfl rfl rfl rfl (.inr mem0) rfl (len1 rfl) rfl (by simp [sameA, sameL, sameC_int, sameC_b, sameC_s, hy_9.refl]) ?_
       refine fg_pure rfl rfl rfl (fl_mv rfl (fl_nil (fg_pure rfl rfl rfl ?_)))
       refine fl_iadS rfl rfl hy_9 i1 rfl a161 ha161 fun b190 p190 cs190 at190 hR190 => ?_
       refine fl_nil ?_
       obtain ⟨c190_0, c190_1, rfl, h190_0, h190_1⟩ := hR190
       refine fg_pure rfl rfl rfl (fl_fad rfl (fl_nil ?_))
       refine fg_ldA (v := .agg [.v (.bool a161.arg.n), c190_0, .v (.bool a161.arg.d), c190_1]) (off := 2) (i := ⟨_, _, .load _ _ _⟩) rfl rfl rfl rfl at190 (fun _ _ h => .inl ((hz20.trans (hz29.trans (hz38.trans (hz47.trans (hz56.trans (hz61.trans (hz70.trans (hz77.trans (hz84.trans (hz92.trans (hz100.trans (hz107.trans (hzl0.trans (hzl1)))))))))))))) _ _ h)) rfl (len1 rfl) rfl (by simp [sameA, sameL, sameC_int, sameC_b, sameC_s, h190_0.refl, h190_1.refl]) ?_
       refine fg_call (i := ⟨_, _, .call _ _⟩) rfl rfl rfl rfl rfl rfl (same_rat (by omega) ⟨_, rfl, mk_rat (h184_0.mono (hz20.trans (hz29.trans (hz38.trans (hz47.trans (hz56.trans (hz61.trans (hz70.trans (hz77.trans (hz84.trans (hz92.trans (hz100.trans (hz107.trans (hzl0.trans hzl1)))))))))))))) (h184_1.mono (hz20.trans (hz29.trans (hz38.trans (hz47.trans (hz56.trans (hz61.trans (hz70.trans (hz77.trans (hz84.trans (hz92.trans (hz100.trans (hz107.trans (hzl0.trans hzl1))))))))))))))⟩ ⟨_, rfl, mk_rat (h190_0.mono (hz20.trans (hz29.trans (hz38.trans (hz47.trans (hz56.trans (hz61.trans (hz70.trans (hz77.trans (hz84.trans (hz92.trans (hz100.trans (hz107.trans (hzl0.trans hzl1)))))))))))))) (h190_1.mono (hz20.trans (hz29.trans (hz38.trans (hz47.trans (hz56.trans (hz61.trans (hz70.trans (hz77.trans (hz84.trans (hz92.trans (hz100.trans (hz107.trans (hzl0.trans hzl1))))))))))))))⟩) fun v193 z193 hz193 ⟨r193, hv193, hr193⟩ => ?_
       subst hv193
       refine fg_pure rfl rfl rfl ?_
       refine fl_un rfl (u_not _) ?_
       refine fl_nil (fg_pure rfl rfl trivial (fl_pick rfl rfl (fl_nil ?_)))
       refine fg_nil ?_
       refine fx_condB rfl (fun hc195 => ?_) (fun hc195 => ?_)
       ·skip
        have hp195 := (not_iffB hr193).1 hc195
        refine fx_sr (fl_mv rfl (fl_nil ?_))
        refine fx_ret ?_
        refine sq_r ?_
        refine lq_r ?_
        refine sq_r ?_
        refine ret_q (.inl rfl) (rt rfl rn) ?_
        exact ⟨false, rfl, ⟨fun h => (by cases h), fun h => absurd (by rw [h] : x.classes = y.classes) (ne_at ha155 ha161 fun e => by subst e; simp at hp195)⟩⟩
       ·skip
        have hp195 := bn_iff (not_iffB hr193) hc195
        refine fx_skip ?_
        refine sq_n ?_
        refine fx_region ?_
        refine fl_mv rfl ?_
        refine fl_bin rfl rfl (b_add' (r := ((i1 + 1 : Nat) : Int)) (wi64 (by omega))) ?_
        refine fl_mv rfl (fl_nil ?_)
        exact lq_n (by omega) ⟨i1 + 1, _, _, [], rfl, hzl1.trans hz193, (atc rfl (atc rfl (atc rfl atn))), rfl, by omega, fun j hj => eq_step hp_1 ha155 ha161 (PClass.ext_iff.2 ⟨Classical.not_not.1 hp165, Classical.not_not.1 hp180, Classical.not_not.1 hp195⟩) hj⟩
    ·skip
     have hp149 := bn_iff dec_iff hc149
     refine fx_eseq ?_
     refine lq_e ?_
     refine sq_n ?_
     refine fx_ss (fx_sr (fl_mv rfl (fl_nil ?_)))
     refine fx_seq (fx_block ?_)
     refine fx_loop (fun n fs => ∃ (i2 : Nat) (e : Env) (zz : Mem) (Hx : List HA), fs = ⟨e, zz, Hx ++ [.blk b3 (.cells 42 [.v (.string y.name), .v (.string y.parent), cy_0, .v (.bool y.threshold.n), cy_1, .v (.bool y.threshold.d), cy_2, .v (.bool y.cap.n), cy_3, .v (.bool y.cap.d), cy_4, .v (.int .i64 y.back), .v (.int .i64 y.forward), .v (.bool y.interest.n), cy_5, .v (.bool y.interest.d), cy_6, .v (.bool y.floor.n), cy_7, .v (.bool y.floor.d), cy_8, .v (.int .i64 y.keep), cy_9, cy_10, cy_11]), .blk b2 (.cells 42 [.v (.string x.name), .v (.string x.parent), cx_0, .v (.bool x.threshold.n), cx_1, .v (.bool x.threshold.d), cx_2, .v (.bool x.cap.n), cx_3, .v (.bool x.cap.d), cx_4, .v (.int .i64 x.back), .v (.int .i64 x.forward), .v (.bool x.interest.n), cx_5, .v (.bool x.interest.d), cx_6, .v (.bool x.floor.n), cx_7, .v (.bool x.floor.d), cx_8, .v (.int .i64 x.keep), cx_9, cx_10, cx_11])]⟩ ∧ zle zl1 zz ∧ AtL e [(2, .c (.ptr b2 0)), (3, .c (.ptr b3 0)), (7, .c (.v (.int .i64 (i2 : Int))))] ∧ n = x.entities.length - i2 ∧ i2 ≤ x.entities.length ∧ ∀ j, j < i2 → x.entities[j]? = y.entities[j]?) ?_ _ ⟨0, _, _, [], rfl, zle.refl _, (atc rfl (atc rfl (atc rfl atn))), rfl, Nat.zero_le _, fun j hj => absurd hj (Nat.not_lt_zero _)⟩ (by show _ < 18446744073709551616; omega)
     intro n fs hI
     obtain ⟨i2, e, zl2, Hx, rfl, hzl2, hat, rfl, hi2, hp_2⟩ := hI
     refine fx_at hat fun e => ?_
     refine fx_sub (List.sublist_append_right _ _) ?_
     refine fx_ss (fx_sr (fl_mv rfl (fl_fad rfl ?_)))
     refine fl_ld (v := .c (cx_10)) rfl (memS mem0) (len1 rfl) rfl ?_
     refine fl_lenS rfl hx_10 (fl_bin rfl rfl (b_lss _ _ _) (fl_nil ?_))
     refine fx_cseq ?_
     refine fx_condB rfl (fun hc200 => ?_) (fun hc200 => ?_)
     ·skip
      have hp200 := dec_iff.1 hc200
      refine fx_kseq ?_
      refine fx_seq (fx_block ?_)
      refine fx_drwS ?_
      refine fg_pure rfl rfl trivial (fl_fad rfl (fl_nil ?_))
      refine fg_load (v := .c (cx_10)) (i := ⟨_, _, .load _ _ _⟩) rfl rfl trivial rfl (.inr (memS mem0)) rfl (len1 rfl) rfl (by simp [sameA, sameL, sameC_int, sameC_b, sameC_s, hx_10.refl]) ?_
      refine fg_pure rfl rfl trivial (fl_mv rfl (fl_nil ?_))
      obtain ⟨a206, ha206⟩ := at_lt (l := x.entities) (i := i2) (by omega)
      refine fg_pure rfl rfl trivial ?_
      refine fl_iadS rfl rfl hx_10 i2 rfl a206 ha206 fun b206 p206 cs206 at206 hR206 => ?_
      refine fl_nil ?_
      obtain rfl := hR206
      refine fg_ldA (v := .c (.v (.string a206))) (off := 0) (i := ⟨_, _, .load _ _ _⟩) rfl rfl trivial rfl at206 (fun _ _ h => .inl ((hz20.trans (hz29.trans (hz38.trans (hz47.trans (hz56.trans (hz61.trans (hz70.trans (hz77.trans (hz84.trans (hz92.trans (hz100.trans (hz107.trans (hzl0.trans (hzl1.trans (hzl2))))))))))))))) _ _ h)) rfl (len1 rfl) rfl (by simp [sameA, sameL, sameC_int, sameC_b, sameC_s]) ?_
      refine fg_pure rfl rfl trivial (fl_fad rfl (fl_nil ?_))
      refine fg_load (v := .c (cy_10)) (i := ⟨_, _, .load _ _ _⟩) rfl rfl trivial rfl (.inr mem0) rfl (len1 rfl) rfl (by simp [sameA, sameL, sameC_int, sameC_b, sameC_s, hy_10.refl]) ?_
      refine fg_pure rfl rfl trivial (fl_mv rfl (fl_nil ?_))
      obtain ⟨a211, ha211⟩ := at_lt (l := y.entities) (i := i2) (by omega)
      refine fg_pure rfl rfl trivial ?_
      refine fl_iadS rfl rfl hy_10 i2 rfl a211 ha211 fun b211 p211 cs211 at211 hR211 => ?_
      refine fl_nil ?_
      obtain rfl := hR211
      refine fg_ldA (v := .c (.v (.string a211))) (off := 0) (i := ⟨_, _, .load _ _ _⟩) rfl rfl trivial rfl at211 (fun _ _ h => .inl ((hz20.trans (hz29.trans (hz38.trans (hz47.trans (hz56.trans (hz61.trans (hz70.trans (hz77.trans (hz84.trans (hz92.trans (hz100.trans (hz107.trans (hzl0.trans (hzl1.trans (hzl2))))))))))))))) _ _ h)) rfl (len1 rfl) rfl (by simp [sameA, sameL, sameC_int, sameC_b, sameC_s]) ?_
      refine fg_pure rfl rfl trivial ?_
      refine fl_bin rfl rfl (b_neqS _ _) ?_
      refine fl_nil ?_
      refine fg_nil ?_
      refine fx_condB rfl (fun hc213 => ?_) (fun hc213 => ?_)
      ·skip
       have hp213 := dec_not.1 hc213
       refine fx_sr (fl_mv rfl (fl_nil ?_))
       refine fx_ret ?_
       refine sq_r ?_
       refine lq_r ?_
       refine sq_r ?_
       refine ret_q (.inl rfl) (rt rfl rn) ?_
       exact ⟨false, rfl, ⟨fun h => (by cases h), fun h => absurd (by rw [h] : x.entities = y.entities) (ne_at ha206 ha211 fun e => by subst e; simp at hp213)⟩⟩
      ·skip
       have hp213 := bn_iff dec_not hc213
       refine fx_skip ?_
       refine sq_n ?_
       refine fx_region ?_
       refine fl_mv rfl ?_
       refine fl_bin rfl rfl (b_add' (r := ((i2 + 1 : Nat) : Int)) (wi64 (by omega))) ?_
       refine fl_mv rfl (fl_nil ?_)
       exact lq_n (by omega) ⟨i2 + 1, _, _, [], rfl, hzl2, (atc rfl (atc rfl (atc rfl atn))), rfl, by omega, fun j hj => eq_step hp_2 ha206 ha211 (Classical.not_not.1 hp213) hj⟩
     ·skip
      have hp200 := bn_iff dec_iff hc200
      refine fx_eseq ?_
      refine lq_e ?_
      refine sq_n ?_
      refine fx_ss (fx_sr (fl_mv rfl (fl_nil ?_)))
      refine fx_seq (fx_block ?_)
      refine fx_loop (fun n fs => ∃ (i3 : Nat) (e : Env) (zz : Mem) (Hx : List HA), fs = ⟨e, zz, Hx ++ [.blk b3 (.cells 42 [.v (.string y.name), .v (.string y.parent), cy_0, .v (.bool y.threshold.n), cy_1, .v (.bool y.threshold.d), cy_2, .v (.bool y.cap.n), cy_3, .v (.bool y.cap.d), cy_4, .v (.int .i64 y.back), .v (.int .i64 y.forward), .v (.bool y.interest.n), cy_5, .v (.bool y.interest.d), cy_6, .v (.bool y.floor.n), cy_7, .v (.bool y.floor.d), cy_8, .v (.int .i64 y.keep), cy_9, cy_10, cy_11]), .blk b2 (.cells 42 [.v (.string x.name), .v (.string x.parent), cx_0, .v (.bool x.threshold.n), cx_1, .v (.bool x.threshold.d), cx_2, .v (.bool x.cap.n), cx_3, .v (.bool x.cap.d), cx_4, .v (.int .i64 x.back), .v (.int .i64 x.forward), .v (.bool x.interest.n), cx_5, .v (.bool x.interest.d), cx_6, .v (.bool x.floor.n), cx_7, .v (.bool x.floor.d), cx_8, .v (.int .i64 x.keep), cx_9, cx_10, cx_11])]⟩ ∧ zle zl2 zz ∧ AtL e [(2, .c (.ptr b2 0)), (3, .c (.ptr b3 0)), (8, .c (.v (.int .i64 (i3 : Int))))] ∧ n = x.years.length - i3 ∧ i3 ≤ x.years.length ∧ ∀ j, j < i3 → x.years[j]? = y.years[j]?) ?_ _ ⟨0, _, _, [], rfl, zle.refl _, (atc rfl (atc rfl (atc rfl atn))), rfl, Nat.zero_le _, fun j hj => absurd hj (Nat.not_lt_zero _)⟩ (by show _ < 18446744073709551616; omega)
      intro n fs hI
      obtain ⟨i3, e, zl3, Hx, rfl, hzl3, hat, rfl, hi3, hp_3⟩ := hI
      refine fx_at hat fun e => ?_
      refine fx_sub (List.sublist_append_right _ _) ?_
      refine fx_ss (fx_sr (fl_mv rfl (fl_fad rfl ?_)))
      refine fl_ld (v := .c (cx_11)) rfl (memS mem0) (len1 rfl) rfl ?_
      refine fl_lenS rfl hx_11 (fl_bin rfl rfl (b_lss _ _ _) (fl_nil ?_))
      refine fx_cseq ?_
      refine fx_condB rfl (fun hc218 => ?_) (fun hc218 => ?_)
      ·skip
       have hp218 := dec_iff.1 hc218
       refine fx_kseq ?_
       refine fx_seq (fx_block ?_)
       refine fx_drwS ?_
       refine fg_pure rfl rfl trivial (fl_fad rfl (fl_nil ?_))
       refine fg_load (v := .c (cx_11)) (i := ⟨_, _, .load _ _ _⟩) rfl rfl trivial rfl (.inr (memS mem0)) rfl (len1 rfl) rfl (by simp [sameA, sameL, sameC_int, sameC_b, sameC_s, hx_11.refl]) ?_
       refine fg_pure rfl rfl trivial (fl_mv rfl (fl_nil ?_))
       obtain ⟨a224, ha224⟩ := at_lt (l := x.years) (i := i3) (by omega)
       refine fg_pure rfl rfl trivial ?_
       refine fl_iadS rfl rfl hx_11 i3 rfl a224 ha224 fun b224 p224 cs224 at224 hR224 => ?_
       refine fl_nil ?_
       obtain ⟨c224_0, c224_1, c224_2, c224_3, c224_4, rfl, h224_0, h224_1, h224_2, h224_3, h224_4⟩ := hR224
       refine fg_ldA (v := .agg [.v (.int .i64 a224.number), c224_0, c224_1, c224_2, c224_3, c224_4]) (off := 0) (i := ⟨_, _, .load _ _ _⟩) rfl rfl trivial rfl at224 (fun _ _ h => .inl ((hz20.trans (hz29.trans (hz38.trans (hz47.trans (hz56.trans (hz61.trans (hz70.trans (hz77.trans (hz84.trans (hz92.trans (hz100.trans (hz107.trans (hzl0.trans (hzl1.trans (hzl2.trans (hzl3)))))))))))))))) _ _ h)) rfl (len1 rfl) rfl (by simp [sameA, sameL, sameC_int, sameC_b, sameC_s, h224_0.refl, h224_1.refl, h224_2.refl, h224_3.refl, h224_4.refl]) ?_
       refine fg_pure rfl rfl trivial (fl_fad rfl (fl_nil ?_))
       refine fg_load (v := .c (cy_11)) (i := ⟨_, _, .load _ _ _⟩) rfl rfl trivial rfl (.inr mem0) rfl (len1 rfl) rfl (by simp [sameA, sameL, sameC_int, sameC_b, sameC_s, hy_11.refl]) ?_
       refine fg_pure rfl rfl trivial (fl_mv rfl (fl_nil ?_))
       obtain ⟨a229, ha229⟩ := at_lt (l := y.years) (i := i3) (by omega)
       refine fg_pure rfl rfl trivial ?_
       refine fl_iadS rfl rfl hy_11 i3 rfl a229 ha229 fun b229 p229 cs229 at229 hR229 => ?_
       refine fl_nil ?_
       obtain ⟨c229_0, c229_1, c229_2, c229_3, c229_4, rfl, h229_0, h229_1, h229_2, h229_3, h229_4⟩ := hR229
       refine fg_ldA (v := .agg [.v (.int .i64 a229.number), c229_0, c229_1, c229_2, c229_3, c229_4]) (off := 0) (i := ⟨_, _, .load _ _ _⟩) rfl rfl trivial rfl at229 (fun _ _ h => .inl ((hz20.trans (hz29.trans (hz38.trans (hz47.trans (hz56.trans (hz61.trans (hz70.trans (hz77.trans (hz84.trans (hz92.trans (hz100.trans (hz107.trans (hzl0.trans (hzl1.trans (hzl2.trans (hzl3)))))))))))))))) _ _ h)) rfl (len1 rfl) rfl (by simp [sameA, sameL, sameC_int, sameC_b, sameC_s, h229_0.refl, h229_1.refl, h229_2.refl, h229_3.refl, h229_4.refl]) ?_
       refine fg_call (i := ⟨_, _, .call _ _⟩) rfl rfl trivial rfl rfl rfl (same_year (by omega) ⟨_, rfl, mk_year (h224_0.mono (hz20.trans (hz29.trans (hz38.trans (hz47.trans (hz56.trans (hz61.trans (hz70.trans (hz77.trans (hz84.trans (hz92.trans (hz100.trans (hz107.trans (hzl0.trans (hzl1.trans (hzl2.trans hzl3)))))))))))))))) (h224_1.mono (hz20.trans (hz29.trans (hz38.trans (hz47.trans (hz56.trans (hz61.trans (hz70.trans (hz77.trans (hz84.trans (hz92.trans (hz100.trans (hz107.trans (hzl0.trans (hzl1.trans (hzl2.trans hzl3)))))))))))))))) (h224_2.mono (hz20.trans (hz29.trans (hz38.trans (hz47.trans (hz56.trans (hz61.trans (hz70.trans (hz77.trans (hz84.trans (hz92.trans (hz100.trans (hz107.trans (hzl0.trans (hzl1.trans (hzl2.trans hzl3)))))))))))))))) (h224_3.mono (hz20.trans (hz29.trans (hz38.trans (hz47.trans (hz56.trans (hz61.trans (hz70.trans (hz77.trans (hz84.trans (hz92.trans (hz100.trans (hz107.trans (hzl0.trans (hzl1.trans (hzl2.trans hzl3)))))))))))))))) (h224_4.mono (hz20.trans (hz29.trans (hz38.trans (hz47.trans (hz56.trans (hz61.trans (hz70.trans (hz77.trans (hz84.trans (hz92.trans (hz100.trans (hz107.trans (hzl0.trans (hzl1.trans (hzl2.trans hzl3))))))))))))))))⟩ ⟨_, rfl, mk_year (h229_0.mono (hz20.trans (hz29.trans (hz38.trans (hz47.trans (hz56.trans (hz61.trans (hz70.trans (hz77.trans (hz84.trans (hz92.trans (hz100.trans (hz107.trans (hzl0.trans (hzl1.trans (hzl2.trans hzl3)))))))))))))))) (h229_1.mono (hz20.trans (hz29.trans (hz38.trans (hz47.trans (hz56.trans (hz61.trans (hz70.trans (hz77.trans (hz84.trans (hz92.trans (hz100.trans (hz107.trans (hzl0.trans (hzl1.trans (hzl2.trans hzl3)))))))))))))))) (h229_2.mono (hz20.trans (hz29.trans (hz38.trans (hz47.trans (hz56.trans (hz61.trans (hz70.trans (hz77.trans (hz84.trans (hz92.trans (hz100.trans (hz107.trans (hzl0.trans (hzl1.trans (hzl2.trans hzl3)))))))))))))))) (h229_3.mono (hz20.trans (hz29.trans (hz38.trans (hz47.trans (hz56.trans (hz61.trans (hz70.trans (hz77.trans (hz84.trans (hz92.trans (hz100.trans (hz107.trans (hzl0.trans (hzl1.trans (hzl2.trans hzl3)))))))))))))))) (h229_4.mono (hz20.trans (hz29.trans (hz38.trans (hz47.trans (hz56.trans (hz61.trans (hz70.trans (hz77.trans (hz84.trans (hz92.trans (hz100.trans (hz107.trans (hzl0.trans (hzl1.trans (hzl2.trans hzl3))))))))))))))))⟩) fun v231 z231 hz231 ⟨r231, hv231, hr231⟩ => ?_
       subst hv231
       refine fg_pure rfl rfl trivial ?_
       refine fl_un rfl (u_not _) ?_
       refine fl_nil ?_
       refine fg_nil ?_
       refine fx_condB rfl (fun hc232 => ?_) (fun hc232 => ?_)
       ·skip
        have hp232 := (not_iffB hr231).1 hc232
        refine fx_sr (fl_mv rfl (fl_nil ?_))
        refine fx_ret ?_
        refine sq_r ?_
        refine lq_r ?_
        refine sq_r ?_
        refine ret_q (.inl rfl) (rt rfl rn) ?_
        exact ⟨false, rfl, ⟨fun h => (by cases h), fun h => absurd (by rw [h] : x.years = y.years) (ne_at ha224 ha229 fun e => by subst e; simp at hp232)⟩⟩
       ·skip
        have hp232 := bn_iff (not_iffB hr231) hc232
        refine fx_skip ?_
        refine sq_n ?_
        refine fx_region ?_
        refine fl_mv rfl ?_
        refine fl_bin rfl rfl (b_add' (r := ((i3 + 1 : Nat) : Int)) (wi64 (by omega))) ?_
        refine fl_mv rfl (fl_nil ?_)
        exact lq_n (by omega) ⟨i3 + 1, _, _, [], rfl, hzl3.trans hz231, (atc rfl (atc rfl (atc rfl atn))), rfl, by omega, fun j hj => eq_step hp_3 ha224 ha229 (Classical.not_not.1 hp232) hj⟩
      ·skip
       have hp218 := bn_iff dec_iff hc218
       refine fx_eseq ?_
       refine lq_e ?_
       refine sq_n ?_
       refine fx_sr (fl_mv rfl (fl_nil ?_))
       refine fx_ret ?_
       refine ret_q (.inl rfl) (rt rfl rn) ?_
       refine ⟨true, rfl, ⟨fun _ => PFiling.ext_iff.2 ⟨hp56.1.1.1.1.1, hp56.1.1.1.1.2, eq_end (by omega) hp_0 (by omega), hp107.1.1.1.1.1.1, hp107.1.1.1.1.1.2, hp107.1.1.1.1.2, hp107.1.1.1.2, hp107.1.1.2, hp107.1.2, hp107.2, eq_end (by omega) hp_1 (by omega), eq_end (by omega) hp_2 (by omega), eq_end (by omega) hp_3 (by omega)⟩, fun _ => rfl⟩⟩
open Go.CE Go.RowKit
theorem limbs {k : Nat} (hk : 1 ≤ k) {z : Mem} {v : AV} {l : List Int} (hx : SZ 1 (RU .u32) z v l) (hb : l.length ≤ 6) : FC (E k) 80 [v] z fun v z => ∃ c, v = .c c ∧ CZ 1 (RU .u32) z c l := by
 refine fc_of (tS_get80) (by omega) (len1 rfl) fun B j hj => ?_
 refine fx_sr (fl_mv rfl (fl_nil (fx_sr (fl_mv rfl (fl_nil (fx_sr (fl_mv rfl (fl_mv rfl ?_))))))))
 refine fl_row0 100 1 ?_
 refine fl_appS rfl rfl hx (fun _ _ => rep0) (by omega) (by omega) fun w6 hw6 nw6 hn6 => ?_
 have cl6 : CL 1 (RU .u32) _ _ ([] ++ l) := CL.append CL.nil hn6
 refine fl_mv rfl (fl_nil ?_)
 refine fx_frzR (p := []) rfl cl6 (by simp) (by omega) fun zfr1 hzfr1 hszfr1 => ?_
 refine fx_ret ?_
 refine ret_q (.inl rfl) (rt rfl rn) ?_
 exact ⟨_, rfl, hszfr1⟩
theorem ref_rat {k : Nat} (hk : 2 ≤ k) {z : Mem} {v : AV} {x : PRat} (hx : AZ RRat z v x) (hb : Sm x) : FC (E k) 26 [v] z fun v z => AZ RRat z v x := by
 obtain ⟨hb1, hb2⟩ := hb
 obtain ⟨_, rfl, cx_0, cx_1, rfl, hx_0, hx_1⟩ := hx
 refine fc_of (tS_get26) (by omega) (len1 rfl) fun B j hj => ?_
 refine fx_sr ?_
 refine fl_box rfl rfl fun b1 => ?_
 refine fl_alloc fun b2 => ?_
 refine fl_nil ?_
 refine fx_drwS ?_
 refine fg_pure rfl rfl trivial (fl_fad rfl (fl_nil (fg_pure rfl rfl trivial (fl_fad rfl (fl_nil ?_)))))
 refine fg_load (v := .c (.v (.bool x.n))) (i := ⟨_, _, .load _ _ _⟩) rfl rfl trivial rfl (.inr (memS mem0)) rfl (len1 rfl) rfl (by simp [sameA, sameL, sameC_int, sameC_b, sameC_s]) ?_
 refine fg_pure rfl rfl trivial (fl_fad rfl (fl_nil (fg_pure rfl rfl trivial (fl_fad rfl (fl_nil ?_)))))
 refine fg_load (v := .c (cx_0)) (i := ⟨_, _, .load _ _ _⟩) rfl rfl trivial rfl (.inr (memS mem0)) rfl (len1 rfl) rfl (by simp [sameA, sameL, sameC_int, sameC_b, sameC_s, hx_0.refl]) ?_
 refine fg_call (i := ⟨_, _, .call _ _⟩) rfl rfl trivial rfl rfl rfl (limbs (by omega) hx_0 (by omega)) fun v9 z9 hz9 ⟨c9, hv9, hc9⟩ => ?_
 subst hv9
 refine fg_pure rfl rfl trivial ?_
 refine fl_build (cs := [(.v (.bool x.n)), c9]) rfl ?_
 refine fl_nil (fg_pure rfl rfl trivial (fl_fad rfl (fl_nil (fg_pure rfl rfl trivial (fl_fad rfl (fl_nil ?_))))))
 refine fg_load (v := .c (.v (.bool x.d))) (i := ⟨_, _, .load _ _ _⟩) rfl rfl trivial rfl (.inr (memS mem0)) rfl (len1 rfl) rfl (by simp [sameA, sameL, sameC_int, sameC_b, sameC_s]) ?_
 refine fg_pure rfl rfl trivial (fl_fad rfl (fl_nil (fg_pure rfl rfl trivial (fl_fad rfl (fl_nil ?_)))))
 refine fg_load (v := .c (cx_1)) (i := ⟨_, _, .load _ _ _⟩) rfl rfl trivial rfl (.inr (memS mem0)) rfl (len1 rfl) rfl (by simp [sameA, sameL, sameC_int, sameC_b, sameC_s, hx_1.refl]) ?_
 refine fg_call (i := ⟨_, _, .call _ _⟩) rfl rfl trivial rfl rfl rfl (limbs (by omega) (hx_1.mono (hz9)) (by omega)) fun v17 z17 hz17 ⟨c17, hv17, hc17⟩ => ?_
 subst hv17
 refine fg_pure rfl rfl trivial ?_
 refine fl_build (cs := [(.v (.bool x.d)), c17]) rfl ?_
 refine fl_nil (fg_pure rfl rfl trivial ?_)
 refine fl_build (cs := [(.v (.bool x.n)), c9, (.v (.bool x.d)), c17]) rfl ?_
 refine fl_nil ?_
 refine fg_store (i := ⟨_, _, .store _ _ _⟩) rfl trivial rfl rfl rfl rfl ?_
 refine fl_stE (cs' := [(.v (.bool x.n)), c9, (.v (.bool x.d)), c17]) rfl rfl rfl rep0 rfl rfl (len1 rfl) ?_
 refine fl_nil ?_
 refine fg_nil ?_
 refine fx_ret ?_
 refine ret_q (.inl rfl) (rc rfl mem0 (len1 rfl) rfl rn) ?_
 exact ⟨_, rfl, mk_rat (hc9.mono (hz17)) hc17⟩
theorem ref_year {k : Nat} (hk : 3 ≤ k) {z : Mem} {v : AV} {x : PYear} (hx : AZ RYear z v x) (hS : SmY x) : FC (E k) 27 [v] z fun v z => AZ RYear z v x := by
 have e0 := hS.l0
 have e1 := hS.l1
 have e2 := hS.l2
 have e3 := hS.l3
 have e4 := hS.l4
 obtain ⟨_, rfl, cx_0, cx_1, cx_2, cx_3, cx_4, rfl, hx_0, hx_1, hx_2, hx_3, hx_4⟩ := hx
 refine fc_of (tS_get27) (by omega) (len1 rfl) fun B j hj => ?_
 refine fx_sr ?_
 refine fl_box rfl rfl fun b1 => ?_
 refine fl_alloc fun b2 => ?_
 refine fl_nil (fx_sr ?_)
 refine fl_row0 169 5 ?_
 refine fl_row0 167 9 ?_
 refine fl_row0 165 10 ?_
 refine fl_row0 163 6 ?_
 refine fl_row0 161 6 ?_
 refine fl_fad rfl ?_
 refine fl_ld (v := .c (.v (.int .i64 x.number))) rfl (memS (memS (memS (memS (memS (memS mem0)))))) (len1 rfl) rfl ?_
 refine fl_build (cs := [(.v (.int .i64 x.number)), .v (.slice none 0 0), .v (.slice none 0 0), .v (.slice none 0 0), .v (.slice none 0 0), .v (.slice none 0 0)]) rfl ?_
 refine fl_alloc fun b3 => ?_
 refine fl_stE (cs' := [(.v (.int .i64 x.number)), .v (.slice none 0 0), .v (.slice none 0 0), .v (.slice none 0 0), .v (.slice none 0 0), .v (.slice none 0 0)]) rfl rfl rfl rep0 rfl rfl (len1 rfl) ?_
 refine fl_nil (fx_ss (fx_sr (fl_mv rfl (fl_nil ?_))))
 refine fx_seq (fx_block ?_)
 refine fx_loop (fun n fs => ∃ (i0 : Nat) (w0 : C) (cs0 : List C) (e : Env) (zz : Mem) (Hx : List HA), fs = ⟨e, zz, Hx ++ [.blk b3 (.cells 85 [(.v (.int .i64 x.number)), w0, .v (.slice none 0 0), .v (.slice none 0 0), .v (.slice none 0 0), .v (.slice none 0 0)]), .row (.c w0) 161 6 i0 cs0, .row (nilv) 163 6 0 [], .row (nilv) 165 10 0 [], .row (nilv) 167 9 0 [], .row (nilv) 169 5 0 [], .blk b2 (.cells 85 [.v (.int .i64 0), .v (.slice none 0 0), .v (.slice none 0 0), .v (.slice none 0 0), .v (.slice none 0 0), .v (.slice none 0 0)]), .blk b1 (.cells 55 [.v (.int .i64 x.number), cx_0, cx_1, cx_2, cx_3, cx_4])]⟩ ∧ zle z zz ∧ AtL e [(1, .c (.ptr b1 0)), (2, .c (.ptr b2 0)), (3, .c (.ptr b3 0)), (4, .c (.v (.int .i64 (i0 : Int))))] ∧ n = x.holds.length - i0 ∧ i0 ≤ x.holds.length ∧ CL 6 RHold zz cs0 (x.holds.take i0) ∧ sameC w0 w0 = true) ?_ _ ⟨0, _, _, _, _, [], rfl, zle.refl _, (atc rfl (atc rfl (atc rfl (atc rfl atn)))), rfl, Nat.zero_le _, CL.nil, rfl⟩ (by show _ < 18446744073709551616; omega)
 intro n fs hI
 obtain ⟨i0, w0, cs0, e, zl0, Hx, rfl, hzl0, hat, rfl, hi0, hcl0, hw0⟩ := hI
 refine fx_at hat fun e => ?_
 refine fx_sub (List.sublist_append_right _ _) ?_
 refine fx_ss (fx_sr (fl_mv rfl (fl_fad rfl ?_)))
 refine fl_ld (v := .c (cx_0)) rfl (memS (memS (memS (memS (memS (memS (memS mem0))))))) (len1 rfl) rfl ?_
 refine fl_lenS rfl hx_0 (fl_bin rfl rfl (b_lss _ _ _) (fl_nil ?_))
 refine fx_cseq ?_
 refine fx_condB rfl (fun hc20 => ?_) (fun hc20 => ?_)
 ·skip
  have hp20 := dec_iff.1 hc20
  refine fx_kseq ?_
  refine fx_seq (fx_block ?_)
  refine fx_sr (fl_fad rfl ?_)
  refine fl_ld (v := .c (cx_0)) rfl (memS (memS (memS (memS (memS (memS (memS mem0))))))) (len1 rfl) rfl ?_
  refine fl_mv rfl ?_
  obtain ⟨a26, ha26⟩ := at_lt (l := x.holds) (i := i0) (by omega)
  refine fl_iadS rfl rfl hx_0 i0 rfl a26 ha26 fun b26 p26 cs26 at26 hR26 => ?_
  obtain ⟨c26_0, c26_1, rfl, h26_0, h26_1⟩ := hR26
  refine fl_ldA (v := .agg [.v (.string a26.owner), .v (.string a26.owned), .v (.bool a26.share.n), c26_0, .v (.bool a26.share.d), c26_1]) (off := 0) rfl (at26.mono (hzl0)) rfl (len1 rfl) rfl ?_
  refine fl_alloc fun b5 => ?_
  refine fl_stE (cs' := [.v (.string a26.owner), .v (.string a26.owned), .v (.bool a26.share.n), c26_0, .v (.bool a26.share.d), c26_1]) rfl rfl rfl rep0 rfl rfl (len1 rfl) ?_
  refine fl_nil ?_
  refine fx_drw ?_
  refine fg_pure rfl rfl trivial (fl_fad rfl (fl_nil ?_))
  refine fg_load (v := .c (w0)) (i := ⟨_, _, .load _ _ _⟩) rfl rfl trivial rfl (.inr (memS mem0)) rfl (len1 rfl) rfl (by simp [sameA, sameL, sameC_int, sameC_b, sameC_s, hw0]) ?_
  refine fg_pure rfl rfl trivial (fl_fad rfl (fl_nil ?_))
  refine fg_load (v := .c (.v (.string a26.owner))) (i := ⟨_, _, .load _ _ _⟩) rfl rfl trivial rfl (.inr mem0) rfl (len1 rfl) rfl (by simp [sameA, sameL, sameC_int, sameC_b, sameC_s]) ?_
  refine fg_pure rfl rfl trivial (fl_fad rfl (fl_nil ?_))
  refine fg_load (v := .c (.v (.string a26.owned))) (i := ⟨_, _, .load _ _ _⟩) rfl rfl trivial rfl (.inr mem0) rfl (len1 rfl) rfl (by simp [sameA, sameL, sameC_int, sameC_b, sameC_s]) ?_
  refine fg_pure rfl rfl trivial (fl_fad rfl (fl_nil ?_))
  refine fg_load (v := .agg [.v (.bool a26.share.n), c26_0, .v (.bool a26.share.d), c26_1]) (i := ⟨_, _, .load _ _ _⟩) rfl rfl trivial rfl (.inr mem0) rfl (len1 rfl) rfl (by simp [sameA, sameL, sameC_int, sameC_b, sameC_s, h26_0.refl, h26_1.refl]) ?_
  refine fg_call (i := ⟨_, _, .call _ _⟩) rfl rfl trivial rfl rfl rfl (ref_rat (by omega) ⟨_, rfl, mk_rat (h26_0.mono (hzl0)) (h26_1.mono (hzl0))⟩ (hS.r0 _ (List.mem_of_getElem? ha26))) fun v36 z36 hz36 ⟨_, hv36, c36_0, c36_1, hq36, h36_0, h36_1⟩ => ?_
  subst hq36
  subst hv36
  refine fg_pure rfl rfl trivial ?_
  refine fl_build (cs := [(.v (.string a26.owner)), (.v (.string a26.owned)), .v (.bool a26.share.n), c36_0, .v (.bool a26.share.d), c36_1]) rfl ?_
  refine fl_nil ?_
  refine fg_own (k := .cells 161 [(.v (.string a26.owner)), (.v (.string a26.owned)), .v (.bool a26.share.n), c36_0, .v (.bool a26.share.d), c36_1]) (w := fun b => .c (.sl b 0 1 6)) rfl trivial rfl (fun _ => rfl) (fun st hst => ?_) (fun b38 hT38 => ?_)
  ·simp only [stepE, fillS, AS.ev, hst 37 (by simp [Ins.sl, Od.sls, Od.sl])]; rfl
  refine fg_app (i := ⟨_, _, .app _ _ _ _ _ _⟩) rfl trivial rfl rfl rfl rfl ?_
  refine fl_appB rfl rfl mem0 rfl (fun _ => (repS (repS (repS rep0)))) (by omega) (by omega) fun w39 hw39 => ?_
  have cl39 : CL 6 RHold _ _ ((x.holds.take i0) ++ [a26]) := CL.append (hcl0.mono (hz36)) (CL.one rfl (mk_hold h36_0 h36_1))
  refine fl_nil (fg_pure rfl rfl trivial (fl_fad rfl (fl_nil ?_)))
  refine fg_store (i := ⟨_, _, .store _ _ _⟩) rfl trivial rfl rfl rfl rfl ?_
  refine fl_stE (cs' := [(.v (.int .i64 x.number)), w39, .v (.slice none 0 0), .v (.slice none 0 0), .v (.slice none 0 0), .v (.slice none 0 0)]) rfl rfl rfl (repS (repS rep0)) rfl rfl (len1 rfl) ?_
  refine fl_nil ?_
  refine fg_nil ?_
  refine sq_n ?_
  refine fx_region ?_
  refine fl_mv rfl ?_
  refine fl_bin rfl rfl (b_add' (r := ((i0 + 1 : Nat) : Int)) (wi64 (by omega))) ?_
  refine fl_mv rfl (fl_nil ?_)
  exact lq_n (by omega) ⟨i0 + 1, _, _, _, _, [_, _], rfl, hzl0.trans hz36, (atc rfl (atc rfl (atc rfl (atc rfl atn)))), rfl, by omega, (by rw [← take_snoc ha26]; exact cl39), hw39⟩
 ·skip
  have hp20 := bn_iff dec_iff hc20
  refine fx_eseq ?_
  refine lq_e ?_
  refine sq_n ?_
  refine fx_ss (fx_sr (fl_mv rfl (fl_nil ?_)))
  refine fx_seq (fx_block ?_)
  refine fx_loop (fun n fs => ∃ (i1 : Nat) (w1 : C) (cs1 : List C) (e : Env) (zz : Mem) (Hx : List HA), fs = ⟨e, zz, Hx ++ [.blk b3 (.cells 85 [(.v (.int .i64 x.number)), w0, w1, .v (.slice none 0 0), .v (.slice none 0 0), .v (.slice none 0 0)]), .row (.c w0) 161 6 i0 cs0, .row (.c w1) 163 6 i1 cs1, .row (nilv) 165 10 0 [], .row (nilv) 167 9 0 [], .row (nilv) 169 5 0 [], .blk b2 (.cells 85 [.v (.int .i64 0), .v (.slice none 0 0), .v (.slice none 0 0), .v (.slice none 0 0), .v (.slice none 0 0), .v (.slice none 0 0)]), .blk b1 (.cells 55 [.v (.int .i64 x.number), cx_0, cx_1, cx_2, cx_3, cx_4])]⟩ ∧ zle zl0 zz ∧ AtL e [(1, .c (.ptr b1 0)), (2, .c (.ptr b2 0)), (3, .c (.ptr b3 0)), (6, .c (.v (.int .i64 (i1 : Int))))] ∧ n = x.books.length - i1 ∧ i1 ≤ x.books.length ∧ CL 6 RBook zz cs1 (x.books.take i1) ∧ sameC w1 w1 = true) ?_ _ ⟨0, _, _, _, _, [], rfl, zle.refl _, (atc rfl (atc rfl (atc rfl (atc rfl atn)))), rfl, Nat.zero_le _, CL.nil, rfl⟩ (by show _ < 18446744073709551616; omega)
  intro n fs hI
  obtain ⟨i1, w1, cs1, e, zl1, Hx, rfl, hzl1, hat, rfl, hi1, hcl1, hw1⟩ := hI
  refine fx_at hat fun e => ?_
  refine fx_sub (List.sublist_append_right _ _) ?_
  refine fx_ss (fx_sr (fl_mv rfl (fl_fad rfl ?_)))
  refine fl_ld (v := .c (cx_1)) rfl (memS (memS (memS (memS (memS (memS (memS mem0))))))) (len1 rfl) rfl ?_
  refine fl_lenS rfl hx_1 (fl_bin rfl rfl (b_lss _ _ _) (fl_nil ?_))
  refine fx_cseq ?_
  refine fx_condB rfl (fun hc45 => ?_) (fun hc45 => ?_)
  ·skip
   have hp45 := dec_iff.1 hc45
   refine fx_kseq ?_
   refine fx_seq (fx_block ?_)
   refine fx_sr (fl_fad rfl ?_)
   refine fl_ld (v := .c (cx_1)) rfl (memS (memS (memS (memS (memS (memS (memS mem0))))))) (len1 rfl) rfl ?_
   refine fl_mv rfl ?_
   obtain ⟨a51, ha51⟩ := at_lt (l := x.books) (i := i1) (by omega)
   refine fl_iadS rfl rfl hx_1 i1 rfl a51 ha51 fun b51 p51 cs51 at51 hR51 => ?_
   obtain ⟨c51_0, c51_1, rfl, h51_0, h51_1⟩ := hR51
   refine fl_ldA (v := .agg [.v (.string a51.entity), .v (.string a51.cls), .v (.bool a51.amount.n), c51_0, .v (.bool a51.amount.d), c51_1]) (off := 0) rfl (at51.mono (hzl0.trans hzl1)) rfl (len1 rfl) rfl ?_
   refine fl_alloc fun b7 => ?_
   refine fl_stE (cs' := [.v (.string a51.entity), .v (.string a51.cls), .v (.bool a51.amount.n), c51_0, .v (.bool a51.amount.d), c51_1]) rfl rfl rfl rep0 rfl rfl (len1 rfl) ?_
   refine fl_nil ?_
   refine fx_drw ?_
   refine fg_pure rfl rfl trivial (fl_fad rfl (fl_nil ?_))
   refine fg_load (v := .c (w1)) (i := ⟨_, _, .load _ _ _⟩) rfl rfl trivial rfl (.inr (memS mem0)) rfl (len1 rfl) rfl (by simp [sameA, sameL, sameC_int, sameC_b, sameC_s, hw1]) ?_
   refine fg_pure rfl rfl trivial (fl_fad rfl (fl_nil ?_))
   refine fg_load (v := .c (.v (.string a51.entity))) (i := ⟨_, _, .load _ _ _⟩) rfl rfl trivial rfl (.inr mem0) rfl (len1 rfl) rfl (by simp [sameA, sameL, sameC_int, sameC_b, sameC_s]) ?_
   refine fg_pure rfl rfl trivial (fl_fad rfl (fl_nil ?_))
   refine fg_load (v := .c (.v (.string a51.cls))) (i := ⟨_, _, .load _ _ _⟩) rfl rfl trivial rfl (.inr mem0) rfl (len1 rfl) rfl (by simp [sameA, sameL, sameC_int, sameC_b, sameC_s]) ?_
   refine fg_pure rfl rfl trivial (fl_fad rfl (fl_nil ?_))
   refine fg_load (v := .agg [.v (.bool a51.amount.n), c51_0, .v (.bool a51.amount.d), c51_1]) (i := ⟨_, _, .load _ _ _⟩) rfl rfl trivial rfl (.inr mem0) rfl (len1 rfl) rfl (by simp [sameA, sameL, sameC_int, sameC_b, sameC_s, h51_0.refl, h51_1.refl]) ?_
   refine fg_call (i := ⟨_, _, .call _ _⟩) rfl rfl trivial rfl rfl rfl (ref_rat (by omega) ⟨_, rfl, mk_rat (h51_0.mono (hzl0.trans hzl1)) (h51_1.mono (hzl0.trans hzl1))⟩ (hS.r1 _ (List.mem_of_getElem? ha51))) fun v61 z61 hz61 ⟨_, hv61, c61_0, c61_1, hq61, h61_0, h61_1⟩ => ?_
   subst hq61
   subst hv61
   refine fg_pure rfl rfl trivial ?_
   refine fl_build (cs := [(.v (.string a51.entity)), (.v (.string a51.cls)), .v (.bool a51.amount.n), c61_0, .v (.bool a51.amount.d), c61_1]) rfl ?_
   refine fl_nil ?_
   refine fg_own (k := .cells 163 [(.v (.string a51.entity)), (.v (.string a51.cls)), .v (.bool a51.amount.n), c61_0, .v (.bool a51.amount.d), c61_1]) (w := fun b => .c (.sl b 0 1 6)) rfl trivial rfl (fun _ => rfl) (fun st hst => ?_) (fun b63 hT63 => ?_)
   ·simp only [stepE, fillS, AS.ev, hst 62 (by simp [Ins.sl, Od.sls, Od.sl])]; rfl
   refine fg_app (i := ⟨_, _, .app _ _ _ _ _ _⟩) rfl trivial rfl rfl rfl rfl ?_
   refine fl_appB rfl rfl mem0 rfl (fun _ => (repS (repS (repS (repS rep0))))) (by omega) (by omega) fun w64 hw64 => ?_
   have cl64 : CL 6 RBook _ _ ((x.books.take i1) ++ [a51]) := CL.append (hcl1.mono (hz61)) (CL.one rfl (mk_book h61_0 h61_1))
   refine fl_nil (fg_pure rfl rfl trivial (fl_fad rfl (fl_nil ?_)))
   refine fg_store (i := ⟨_, _, .store _ _ _⟩) rfl trivial rfl rfl rfl rfl ?_
   refine fl_stE (cs' := [(.v (.int .i64 x.number)), w0, w64, .v (.slice none 0 0), .v (.slice none 0 0), .v (.slice none 0 0)]) rfl rfl rfl (repS (repS rep0)) rfl rfl (len1 rfl) ?_
   refine fl_nil ?_
   refine fg_nil ?_
   refine sq_n ?_
   refine fx_region ?_
   refine fl_mv rfl ?_
   refine fl_bin rfl rfl (b_add' (r := ((i1 + 1 : Nat) : Int)) (wi64 (by omega))) ?_
   refine fl_mv rfl (fl_nil ?_)
   exact lq_n (by omega) ⟨i1 + 1, _, _, _, _, [_, _], rfl, hzl1.trans hz61, (atc rfl (atc rfl (atc rfl (atc rfl atn)))), rfl, by omega, (by rw [← take_snoc ha51]; exact cl64), hw64⟩
  ·skip
   have hp45 := bn_iff dec_iff hc45
   refine fx_eseq ?_
   refine lq_e ?_
   refine sq_n ?_
   refine fx_ss (fx_sr (fl_mv rfl (fl_nil ?_)))
   refine fx_seq (fx_block ?_)
   refine fx_loop (fun n fs => ∃ (i2 : Nat) (w2 : C) (cs2 : List C) (e : Env) (zz : Mem) (Hx : List HA), fs = ⟨e, zz, Hx ++ [.blk b3 (.cells 85 [(.v (.int .i64 x.number)), w0, w1, w2, .v (.slice none 0 0), .v (.slice none 0 0)]), .row (.c w0) 161 6 i0 cs0, .row (.c w1) 163 6 i1 cs1, .row (.c w2) 165 10 i2 cs2, .row (nilv) 167 9 0 [], .row (nilv) 169 5 0 [], .blk b2 (.cells 85 [.v (.int .i64 0), .v (.slice none 0 0), .v (.slice none 0 0), .v (.slice none 0 0), .v (.slice none 0 0), .v (.slice none 0 0)]), .blk b1 (.cells 55 [.v (.int .i64 x.number), cx_0, cx_1, cx_2, cx_3, cx_4])]⟩ ∧ zle zl1 zz ∧ AtL e [(1, .c (.ptr b1 0)), (2, .c (.ptr b2 0)), (3, .c (.ptr b3 0)), (8, .c (.v (.int .i64 (i2 : Int))))] ∧ n = x.deals.length - i2 ∧ i2 ≤ x.deals.length ∧ CL 10 RDeal zz cs2 (x.deals.take i2) ∧ sameC w2 w2 = true) ?_ _ ⟨0, _, _, _, _, [], rfl, zle.refl _, (atc rfl (atc rfl (atc rfl (atc rfl atn)))), rfl, Nat.zero_le _, CL.nil, rfl⟩ (by show _ < 18446744073709551616; omega)
   intro n fs hI
   obtain ⟨i2, w2, cs2, e, zl2, Hx, rfl, hzl2, hat, rfl, hi2, hcl2, hw2⟩ := hI
   refine fx_at hat fun e => ?_
   refine fx_sub (List.sublist_append_right _ _) ?_
   refine fx_ss (fx_sr (fl_mv rfl (fl_fad rfl ?_)))
   refine fl_ld (v := .c (cx_2)) rfl (memS (memS (memS (memS (memS (memS (memS mem0))))))) (len1 rfl) rfl ?_
   refine fl_lenS rfl hx_2 (fl_bin rfl rfl (b_lss _ _ _) (fl_nil ?_))
   refine fx_cseq ?_
   refine fx_condB rfl (fun hc70 => ?_) (fun hc70 => ?_)
   ·skip
    have hp70 := dec_iff.1 hc70
    refine fx_kseq ?_
    refine fx_seq (fx_block ?_)
    refine fx_sr (fl_fad rfl ?_)
    refine fl_ld (v := .c (cx_2)) rfl (memS (memS (memS (memS (memS (memS (memS mem0))))))) (len1 rfl) rfl ?_
    refine fl_mv rfl ?_
    obtain ⟨a76, ha76⟩ := at_lt (l := x.deals) (i := i2) (by omega)
    refine fl_iadS rfl rfl hx_2 i2 rfl a76 ha76 fun b76 p76 cs76 at76 hR76 => ?_
    obtain ⟨c76_0, c76_1, rfl, h76_0, h76_1⟩ := hR76
    refine fl_ldA (v := .agg [.v (.bool a76.give), .v (.string a76.id), .v (.int .u8 a76.kind), .v (.string a76.payee), .v (.string a76.payer), .v (.string a76.cls), .v (.bool a76.amount.n), c76_0, .v (.bool a76.amount.d), c76_1]) (off := 0) rfl (at76.mono (hzl0.trans (hzl1.trans hzl2))) rfl (len1 rfl) rfl ?_
    refine fl_alloc fun b9 => ?_
    refine fl_stE (cs' := [.v (.bool a76.give), .v (.string a76.id), .v (.int .u8 a76.kind), .v (.string a76.payee), .v (.string a76.payer), .v (.string a76.cls), .v (.bool a76.amount.n), c76_0, .v (.bool a76.amount.d), c76_1]) rfl rfl rfl rep0 rfl rfl (len1 rfl) ?_
    refine fl_nil ?_
    refine fx_drw ?_
    refine fg_pure rfl rfl trivial (fl_fad rfl (fl_nil ?_))
    refine fg_load (v := .c (w2)) (i := ⟨_, _, .load _ _ _⟩) rfl rfl trivial rfl (.inr (memS mem0)) rfl (len1 rfl) rfl (by simp [sameA, sameL, sameC_int, sameC_b, sameC_s, hw2]) ?_
    refine fg_pure rfl rfl trivial (fl_fad rfl (fl_nil ?_))
    refine fg_load (v := .c (.v (.bool a76.give))) (i := ⟨_, _, .load _ _ _⟩) rfl rfl trivial rfl (.inr mem0) rfl (len1 rfl) rfl (by simp [sameA, sameL, sameC_int, sameC_b, sameC_s]) ?_
    refine fg_pure rfl rfl trivial (fl_fad rfl (fl_nil ?_))
    refine fg_load (v := .c (.v (.string a76.id))) (i := ⟨_, _, .load _ _ _⟩) rfl rfl trivial rfl (.inr mem0) rfl (len1 rfl) rfl (by simp [sameA, sameL, sameC_int, sameC_b, sameC_s]) ?_
    refine fg_pure rfl rfl trivial (fl_fad rfl (fl_nil ?_))
    refine fg_load (v := .c (.v (.int .u8 a76.kind))) (i := ⟨_, _, .load _ _ _⟩) rfl rfl trivial rfl (.inr mem0) rfl (len1 rfl) rfl (by simp [sameA, sameL, sameC_int, sameC_b, sameC_s]) ?_
    refine fg_pure rfl rfl trivial (fl_fad rfl (fl_nil ?_))
    refine fg_load (v := .c (.v (.string a76.payee))) (i := ⟨_, _, .load _ _ _⟩) rfl rfl trivial rfl (.inr mem0) rfl (len1 rfl) rfl (by simp [sameA, sameL, sameC_int, sameC_b, sameC_s]) ?_
    refine fg_pure rfl rfl trivial (fl_fad rfl (fl_nil ?_))
    refine fg_load (v := .c (.v (.string a76.payer))) (i := ⟨_, _, .load _ _ _⟩) rfl rfl trivial rfl (.inr mem0) rfl (len1 rfl) rfl (by simp [sameA, sameL, sameC_int, sameC_b, sameC_s]) ?_
    refine fg_pure rfl rfl trivial (fl_fad rfl (fl_nil ?_))
    refine fg_load (v := .c (.v (.string a76.cls))) (i := ⟨_, _, .load _ _ _⟩) rfl rfl trivial rfl (.inr mem0) rfl (len1 rfl) rfl (by simp [sameA, sameL, sameC_int, sameC_b, sameC_s]) ?_
    refine fg_pure rfl rfl trivial (fl_fad rfl (fl_nil ?_))
    refine fg_load (v := .agg [.v (.bool a76.amount.n), c76_0, .v (.bool a76.amount.d), c76_1]) (i := ⟨_, _, .load _ _ _⟩) rfl rfl trivial rfl (.inr mem0) rfl (len1 rfl) rfl (by simp [sameA, sameL, sameC_int, sameC_b, sameC_s, h76_0.refl, h76_1.refl]) ?_
    refine fg_call (i := ⟨_, _, .call _ _⟩) rfl rfl trivial rfl rfl rfl (ref_rat (by omega) ⟨_, rfl, mk_rat (h76_0.mono (hzl0.trans (hzl1.trans hzl2))) (h76_1.mono (hzl0.trans (hzl1.trans hzl2)))⟩ (hS.r2 _ (List.mem_of_getElem? ha76))) fun v94 z94 hz94 ⟨_, hv94, c94_0, c94_1, hq94, h94_0, h94_1⟩ => ?_
    subst hq94
    subst hv94
    refine fg_pure rfl rfl trivial ?_
    refine fl_build (cs := [(.v (.bool a76.give)), (.v (.string a76.id)), (.v (.int .u8 a76.kind)), (.v (.string a76.payee)), (.v (.string a76.payer)), (.v (.string a76.cls)), .v (.bool a76.amount.n), c94_0, .v (.bool a76.amount.d), c94_1]) rfl ?_
    refine fl_nil ?_
    refine fg_own (k := .cells 165 [(.v (.bool a76.give)), (.v (.string a76.id)), (.v (.int .u8 a76.kind)), (.v (.string a76.payee)), (.v (.string a76.payer)), (.v (.string a76.cls)), .v (.bool a76.amount.n), c94_0, .v (.bool a76.amount.d), c94_1]) (w := fun b => .c (.sl b 0 1 10)) rfl trivial rfl (fun _ => rfl) (fun st hst => ?_) (fun b96 hT96 => ?_)
    ·simp only [stepE, fillS, AS.ev, hst 95 (by simp [Ins.sl, Od.sls, Od.sl])]; rfl
    refine fg_app (i := ⟨_, _, .app _ _ _ _ _ _⟩) rfl trivial rfl rfl rfl rfl ?_
    refine fl_appB rfl rfl mem0 rfl (fun _ => (repS (repS (repS (repS (repS rep0)))))) (by omega) (by omega) fun w97 hw97 => ?_
    have cl97 : CL 10 RDeal _ _ ((x.deals.take i2) ++ [a76]) := CL.append (hcl2.mono (hz94)) (CL.one rfl (mk_deal h94_0 h94_1))
    refine fl_nil (fg_pure rfl rfl trivial (fl_fad rfl (fl_nil ?_)))
    refine fg_store (i := ⟨_, _, .store _ _ _⟩) rfl trivial rfl rfl rfl rfl ?_
    refine fl_stE (cs' := [(.v (.int .i64 x.number)), w0, w1, w97, .v (.slice none 0 0), .v (.slice none 0 0)]) rfl rfl rfl (repS (repS rep0)) rfl rfl (len1 rfl) ?_
    refine fl_nil ?_
    refine fg_nil ?_
    refine sq_n ?_
    refine fx_region ?_
    refine fl_mv rfl ?_
    refine fl_bin rfl rfl (b_add' (r := ((i2 + 1 : Nat) : Int)) (wi64 (by omega))) ?_
    refine fl_mv rfl (fl_nil ?_)
    exact lq_n (by omega) ⟨i2 + 1, _, _, _, _, [_, _], rfl, hzl2.trans hz94, (atc rfl (atc rfl (atc rfl (atc rfl atn)))), rfl, by omega, (by rw [← take_snoc ha76]; exact cl97), hw97⟩
   ·skip
    have hp70 := bn_iff dec_iff hc70
    refine fx_eseq ?_
    refine lq_e ?_
    refine sq_n ?_
    refine fx_ss (fx_sr (fl_mv rfl (fl_nil ?_)))
    refine fx_seq (fx_block ?_)
    refine fx_loop (fun n fs => ∃ (i3 : Nat) (w3 : C) (cs3 : List C) (e : Env) (zz : Mem) (Hx : List HA), fs = ⟨e, zz, Hx ++ [.blk b3 (.cells 85 [(.v (.int .i64 x.number)), w0, w1, w2, w3, .v (.slice none 0 0)]), .row (.c w0) 161 6 i0 cs0, .row (.c w1) 163 6 i1 cs1, .row (.c w2) 165 10 i2 cs2, .row (.c w3) 167 9 i3 cs3, .row (nilv) 169 5 0 [], .blk b2 (.cells 85 [.v (.int .i64 0), .v (.slice none 0 0), .v (.slice none 0 0), .v (.slice none 0 0), .v (.slice none 0 0), .v (.slice none 0 0)]), .blk b1 (.cells 55 [.v (.int .i64 x.number), cx_0, cx_1, cx_2, cx_3, cx_4])]⟩ ∧ zle zl2 zz ∧ AtL e [(1, .c (.ptr b1 0)), (2, .c (.ptr b2 0)), (3, .c (.ptr b3 0)), (10, .c (.v (.int .i64 (i3 : Int))))] ∧ n = x.stocks.length - i3 ∧ i3 ≤ x.stocks.length ∧ CL 9 RStock zz cs3 (x.stocks.take i3) ∧ sameC w3 w3 = true) ?_ _ ⟨0, _, _, _, _, [], rfl, zle.refl _, (atc rfl (atc rfl (atc rfl (atc rfl atn)))), rfl, Nat.zero_le _, CL.nil, rfl⟩ (by show _ < 18446744073709551616; omega)
    intro n fs hI
    obtain ⟨i3, w3, cs3, e, zl3, Hx, rfl, hzl3, hat, rfl, hi3, hcl3, hw3⟩ := hI
    refine fx_at hat fun e => ?_
    refine fx_sub (List.sublist_append_right _ _) ?_
    refine fx_ss (fx_sr (fl_mv rfl (fl_fad rfl ?_)))
    refine fl_ld (v := .c (cx_3)) rfl (memS (memS (memS (memS (memS (memS (memS mem0))))))) (len1 rfl) rfl ?_
    refine fl_lenS rfl hx_3 (fl_bin rfl rfl (b_lss _ _ _) (fl_nil ?_))
    refine fx_cseq ?_
    refine fx_condB rfl (fun hc103 => ?_) (fun hc103 => ?_)
    ·skip
     have hp103 := dec_iff.1 hc103
     refine fx_kseq ?_
     refine fx_seq (fx_block ?_)
     refine fx_sr (fl_fad rfl ?_)
     refine fl_ld (v := .c (cx_3)) rfl (memS (memS (memS (memS (memS (memS (memS mem0))))))) (len1 rfl) rfl ?_
     refine fl_mv rfl ?_
     obtain ⟨a109, ha109⟩ := at_lt (l := x.stocks) (i := i3) (by omega)
     refine fl_iadS rfl rfl hx_3 i3 rfl a109 ha109 fun b109 p109 cs109 at109 hR109 => ?_
     obtain ⟨c109_0, c109_1, c109_2, c109_3, rfl, h109_0, h109_1, h109_2, h109_3⟩ := hR109
     refine fl_ldA (v := .agg [.v (.string a109.id), .v (.bool a109.margin.n), c109_0, .v (.bool a109.margin.d), c109_1, .v (.bool a109.unsold.n), c109_2, .v (.bool a109.unsold.d), c109_3]) (off := 0) rfl (at109.mono (hzl0.trans (hzl1.trans (hzl2.trans hzl3)))) rfl (len1 rfl) rfl ?_
     refine fl_alloc fun b11 => ?_
     refine fl_stE (cs' := [.v (.string a109.id), .v (.bool a109.margin.n), c109_0, .v (.bool a109.margin.d), c109_1, .v (.bool a109.unsold.n), c109_2, .v (.bool a109.unsold.d), c109_3]) rfl rfl rfl rep0 rfl rfl (len1 rfl) ?_
     refine fl_nil ?_
     refine fx_drw ?_
     refine fg_pure rfl rfl trivial (fl_fad rfl (fl_nil ?_))
     refine fg_load (v := .c (w3)) (i := ⟨_, _, .load _ _ _⟩) rfl rfl trivial rfl (.inr (memS mem0)) rfl (len1 rfl) rfl (by simp [sameA, sameL, sameC_int, sameC_b, sameC_s, hw3]) ?_
     refine fg_pure rfl rfl trivial (fl_fad rfl (fl_nil ?_))
     refine fg_load (v := .c (.v (.string a109.id))) (i := ⟨_, _, .load _ _ _⟩) rfl rfl trivial rfl (.inr mem0) rfl (len1 rfl) rfl (by simp [sameA, sameL, sameC_int, sameC_b, sameC_s]) ?_
     refine fg_pure rfl rfl trivial (fl_fad rfl (fl_nil ?_))
     refine fg_load (v := .agg [.v (.bool a109.margin.n), c109_0, .v (.bool a109.margin.d), c109_1]) (i := ⟨_, _, .load _ _ _⟩) rfl rfl trivial rfl (.inr mem0) rfl (len1 rfl) rfl (by simp [sameA, sameL, sameC_int, sameC_b, sameC_s, h109_0.refl, h109_1.refl]) ?_
     refine fg_call (i := ⟨_, _, .call _ _⟩) rfl rfl trivial rfl rfl rfl (ref_rat (by omega) ⟨_, rfl, mk_rat (h109_0.mono (hzl0.trans (hzl1.trans (hzl2.trans hzl3)))) (h109_1.mono (hzl0.trans (hzl1.trans (hzl2.trans hzl3))))⟩ (hS.r3 _ (List.mem_of_getElem? ha109))) fun v117 z117 hz117 ⟨_, hv117, c117_0, c117_1, hq117, h117_0, h117_1⟩ => ?_
     subst hq117
     subst hv117
     refine fg_pure rfl rfl trivial (fl_fad rfl (fl_nil ?_))
     refine fg_load (v := .agg [.v (.bool a109.unsold.n), c109_2, .v (.bool a109.unsold.d), c109_3]) (i := ⟨_, _, .load _ _ _⟩) rfl rfl trivial rfl (.inr mem0) rfl (len1 rfl) rfl (by simp [sameA, sameL, sameC_int, sameC_b, sameC_s, h109_2.refl, h109_3.refl]) ?_
     refine fg_call (i := ⟨_, _, .call _ _⟩) rfl rfl trivial rfl rfl rfl (ref_rat (by omega) ⟨_, rfl, mk_rat (h109_2.mono (hzl0.trans (hzl1.trans (hzl2.trans (hzl3.trans hz117))))) (h109_3.mono (hzl0.trans (hzl1.trans (hzl2.trans (hzl3.trans hz117)))))⟩ (hS.r3' _ (List.mem_of_getElem? ha109))) fun v120 z120 hz120 ⟨_, hv120, c120_0, c120_1, hq120, h120_0, h120_1⟩ => ?_
     subst hq120
     subst hv120
     refine fg_pure rfl rfl trivial ?_
     refine fl_build (cs := [(.v (.string a109.id)), .v (.bool a109.margin.n), c117_0, .v (.bool a109.margin.d), c117_1, .v (.bool a109.unsold.n), c120_0, .v (.bool a109.unsold.d), c120_1]) rfl ?_
     refine fl_nil ?_
     refine fg_own (k := .cells 167 [(.v (.string a109.id)), .v (.bool a109.margin.n), c117_0, .v (.bool a109.margin.d), c117_1, .v (.bool a109.unsold.n), c120_0, .v (.bool a109.unsold.d), c120_1]) (w := fun b => .c (.sl b 0 1 9)) rfl trivial rfl (fun _ => rfl) (fun st hst => ?_) (fun b122 hT122 => ?_)
     ·simp only [stepE, fillS, AS.ev, hst 121 (by simp [Ins.sl, Od.sls, Od.sl])]; rfl
     refine fg_app (i := ⟨_, _, .app _ _ _ _ _ _⟩) rfl trivial rfl rfl rfl rfl ?_
     refine fl_appB rfl rfl mem0 rfl (fun _ => (repS (repS (repS (repS (repS (repS rep0))))))) (by omega) (by omega) fun w123 hw123 => ?_
     have cl123 : CL 9 RStock _ _ ((x.stocks.take i3) ++ [a109]) := CL.append (hcl3.mono (hz117.trans hz120)) (CL.one rfl (mk_stock (h117_0.mono (hz120)) (h117_1.mono (hz120)) h120_0 h120_1))
     refine fl_nil (fg_pure rfl rfl trivial (fl_fad rfl (fl_nil ?_)))
     refine fg_store (i := ⟨_, _, .store _ _ _⟩) rfl trivial rfl rfl rfl rfl ?_
     refine fl_stE (cs' := [(.v (.int .i64 x.number)), w0, w1, w2, w123, .v (.slice none 0 0)]) rfl rfl rfl (repS (repS rep0)) rfl rfl (len1 rfl) ?_
     refine fl_nil ?_
     refine fg_nil ?_
     refine sq_n ?_
     refine fx_region ?_
     refine fl_mv rfl ?_
     refine fl_bin rfl rfl (b_add' (r := ((i3 + 1 : Nat) : Int)) (wi64 (by omega))) ?_
     refine fl_mv rfl (fl_nil ?_)
     exact lq_n (by omega) ⟨i3 + 1, _, _, _, _, [_, _], rfl, hzl3.trans (hz117.trans hz120), (atc rfl (atc rfl (atc rfl (atc rfl atn)))), rfl, by omega, (by rw [← take_snoc ha109]; exact cl123), hw123⟩
    ·skip
     have hp103 := bn_iff dec_iff hc103
     refine fx_eseq ?_
     refine lq_e ?_
     refine sq_n ?_
     refine fx_ss (fx_sr (fl_mv rfl (fl_nil ?_)))
     refine fx_seq (fx_block ?_)
     refine fx_loop (fun n fs => ∃ (i4 : Nat) (w4 : C) (cs4 : List C) (e : Env) (zz : Mem) (Hx : List HA), fs = ⟨e, zz, Hx ++ [.blk b3 (.cells 85 [(.v (.int .i64 x.number)), w0, w1, w2, w3, w4]), .row (.c w0) 161 6 i0 cs0, .row (.c w1) 163 6 i1 cs1, .row (.c w2) 165 10 i2 cs2, .row (.c w3) 167 9 i3 cs3, .row (.c w4) 169 5 i4 cs4, .blk b2 (.cells 85 [.v (.int .i64 0), .v (.slice none 0 0), .v (.slice none 0 0), .v (.slice none 0 0), .v (.slice none 0 0), .v (.slice none 0 0)]), .blk b1 (.cells 55 [.v (.int .i64 x.number), cx_0, cx_1, cx_2, cx_3, cx_4])]⟩ ∧ zle zl3 zz ∧ AtL e [(1, .c (.ptr b1 0)), (2, .c (.ptr b2 0)), (3, .c (.ptr b3 0)), (12, .c (.v (.int .i64 (i4 : Int))))] ∧ n = x.solds.length - i4 ∧ i4 ≤ x.solds.length ∧ CL 5 RSold zz cs4 (x.solds.take i4) ∧ sameC w4 w4 = true) ?_ _ ⟨0, _, _, _, _, [], rfl, zle.refl _, (atc rfl (atc rfl (atc rfl (atc rfl atn)))), rfl, Nat.zero_le _, CL.nil, rfl⟩ (by show _ < 18446744073709551616; omega)
     intro n fs hI
     obtain ⟨i4, w4, cs4, e, zl4, Hx, rfl, hzl4, hat, rfl, hi4, hcl4, hw4⟩ := hI
     refine fx_at hat fun e => ?_
     refine fx_sub (List.sublist_append_right _ _) ?_
     refine fx_ss (fx_sr (fl_mv rfl (fl_fad rfl ?_)))
     refine fl_ld (v := .c (cx_4)) rfl (memS (memS (memS (memS (memS (memS (memS mem0))))))) (len1 rfl) rfl ?_
     refine fl_lenS rfl hx_4 (fl_bin rfl rfl (b_lss _ _ _) (fl_nil ?_))
     refine fx_cseq ?_
     refine fx_condB rfl (fun hc129 => ?_) (fun hc129 => ?_)
     ·skip
      have hp129 := dec_iff.1 hc129
      refine fx_kseq ?_
      refine fx_seq (fx_block ?_)
      refine fx_drw ?_
      refine fg_pure rfl rfl trivial (fl_fad rfl (fl_nil ?_))
      refine fg_load (v := .c (w4)) (i := ⟨_, _, .load _ _ _⟩) rfl rfl trivial rfl (.inr mem0) rfl (len1 rfl) rfl (by simp [sameA, sameL, sameC_int, sameC_b, sameC_s, hw4]) ?_
      refine fg_pure rfl rfl trivial (fl_fad rfl (fl_nil ?_))
      refine fg_load (v := .c (cx_4)) (i := ⟨_, _, .load _ _ _⟩) rfl rfl trivial rfl (.inr (memS (memS (memS (memS (memS (memS (memS mem0)))))))) rfl (len1 rfl) rfl (by simp [sameA, sameL, sameC_int, sameC_b, sameC_s, hx_4.refl]) ?_
      refine fg_pure rfl rfl trivial (fl_mv rfl (fl_nil ?_))
      obtain ⟨a137, ha137⟩ := at_lt (l := x.solds) (i := i4) (by omega)
      refine fg_pure rfl rfl trivial ?_
      refine fl_iadS rfl rfl hx_4 i4 rfl a137 ha137 fun b137 p137 cs137 at137 hR137 => ?_
      refine fl_nil ?_
      obtain ⟨c137_0, c137_1, rfl, h137_0, h137_1⟩ := hR137
      refine fg_pure rfl rfl trivial (fl_fad rfl (fl_nil ?_))
      refine fg_ldA (v := .c (.v (.string a137.id))) (off := 0) (i := ⟨_, _, .load _ _ _⟩) rfl rfl trivial rfl at137 (fun _ _ h => .inl ((hzl0.trans (hzl1.trans (hzl2.trans (hzl3.trans (hzl4))))) _ _ h)) rfl (len1 rfl) rfl (by simp [sameA, sameL, sameC_int, sameC_b, sameC_s]) ?_
      refine fg_pure rfl rfl trivial (fl_fad rfl (fl_nil ?_))
      refine fg_load (v := .c (cx_4)) (i := ⟨_, _, .load _ _ _⟩) rfl rfl trivial rfl (.inr (memS (memS (memS (memS (memS (memS (memS mem0)))))))) rfl (len1 rfl) rfl (by simp [sameA, sameL, sameC_int, sameC_b, sameC_s, hx_4.refl]) ?_
      refine fg_pure rfl rfl trivial (fl_mv rfl (fl_nil (fg_pure rfl rfl trivial ?_)))
      refine fl_iadS rfl rfl hx_4 i4 rfl a137 ha137 fun b143 p143 cs143 at143 hR143 => ?_
      refine fl_nil ?_
      obtain ⟨c143_0, c143_1, rfl, h143_0, h143_1⟩ := hR143
      refine fg_pure rfl rfl trivial (fl_fad rfl (fl_nil ?_))
      refine fg_ldA (v := .agg [.v (.bool a137.share.n), c143_0, .v (.bool a137.share.d), c143_1]) (off := 1) (i := ⟨_, _, .load _ _ _⟩) rfl rfl trivial rfl at143 (fun _ _ h => .inl ((hzl0.trans (hzl1.trans (hzl2.trans (hzl3.trans (hzl4))))) _ _ h)) rfl (len1 rfl) rfl (by simp [sameA, sameL, sameC_int, sameC_b, sameC_s, h143_0.refl, h143_1.refl]) ?_
      refine fg_call (i := ⟨_, _, .call _ _⟩) rfl rfl trivial rfl rfl rfl (ref_rat (by omega) ⟨_, rfl, mk_rat (h143_0.mono (hzl0.trans (hzl1.trans (hzl2.trans (hzl3.trans hzl4))))) (h143_1.mono (hzl0.trans (hzl1.trans (hzl2.trans (hzl3.trans hzl4)))))⟩ (hS.r4 _ (List.mem_of_getElem? ha137))) fun v146 z146 hz146 ⟨_, hv146, c146_0, c146_1, hq146, h146_0, h146_1⟩ => ?_
      subst hq146
      subst hv146
      refine fg_pure rfl rfl trivial ?_
      refine fl_build (cs := [(.v (.string a137.id)), .v (.bool a137.share.n), c146_0, .v (.bool a137.share.d), c146_1]) rfl ?_
      refine fl_nil ?_
      refine fg_own (k := .cells 169 [(.v (.string a137.id)), .v (.bool a137.share.n), c146_0, .v (.bool a137.share.d), c146_1]) (w := fun b => .c (.sl b 0 1 5)) rfl trivial rfl (fun _ => rfl) (fun st hst => ?_) (fun b148 hT148 => ?_)
      ·simp only [stepE, fillS, AS.ev, hst 147 (by simp [Ins.sl, Od.sls, Od.sl])]; rfl
      refine fg_app (i := ⟨_, _, .app _ _ _ _ _ _⟩) rfl trivial rfl rfl rfl rfl ?_
      refine fl_appB rfl rfl mem0 rfl (fun _ => (repS (repS (repS (repS (repS (repS rep0))))))) (by omega) (by omega) fun w149 hw149 => ?_
      have cl149 : CL 5 RSold _ _ ((x.solds.take i4) ++ [a137]) := CL.append (hcl4.mono (hz146)) (CL.one rfl (mk_sold h146_0 h146_1))
      refine fl_nil (fg_pure rfl rfl trivial (fl_fad rfl (fl_nil ?_)))
      refine fg_store (i := ⟨_, _, .store _ _ _⟩) rfl trivial rfl rfl rfl rfl ?_
      refine fl_stE (cs' := [(.v (.int .i64 x.number)), w0, w1, w2, w3, w149]) rfl rfl rfl (repS rep0) rfl rfl (len1 rfl) ?_
      refine fl_nil ?_
      refine fg_nil ?_
      refine sq_n ?_
      refine fx_region ?_
      refine fl_mv rfl ?_
      refine fl_bin rfl rfl (b_add' (r := ((i4 + 1 : Nat) : Int)) (wi64 (by omega))) ?_
      refine fl_mv rfl (fl_nil ?_)
      exact lq_n (by omega) ⟨i4 + 1, _, _, _, _, [_], rfl, hzl4.trans hz146, (atc rfl (atc rfl (atc rfl (atc rfl atn)))), rfl, by omega, (by rw [← take_snoc ha137]; exact cl149), hw149⟩
     ·skip
      have hp129 := bn_iff dec_iff hc129
      refine fx_eseq ?_
      refine lq_e ?_
      refine sq_n ?_
      refine fx_sr ?_
      refine fl_ld (v := .agg [(.v (.int .i64 x.number)), w0, w1, w2, w3, w4]) rfl mem0 (len1 rfl) rfl ?_
      refine fl_stE (cs' := [(.v (.int .i64 x.number)), w0, w1, w2, w3, w4]) rfl rfl rfl (repS (repS (repS (repS (repS (repS rep0)))))) rfl rfl (len1 rfl) ?_
      refine fl_nil ?_
      refine fx_frzR (p := [_]) rfl (hcl0.mono (hzl1.trans (hzl2.trans (hzl3.trans hzl4)))) (by rw [List.length_take]; omega) (by omega) fun zfr06 hzfr06 hszfr06 => ?_
      rw [take_all (l := x.holds) (by omega)] at hszfr06
      refine fx_frzR (p := [_]) rfl (hcl1.mono (hzl2.trans (hzl3.trans (hzl4.trans hzfr06)))) (by rw [List.length_take]; omega) (by omega) fun zfr17 hzfr17 hszfr17 => ?_
      rw [take_all (l := x.books) (by omega)] at hszfr17
      refine fx_frzR (p := [_]) rfl (hcl2.mono (hzl3.trans (hzl4.trans (hzfr06.trans hzfr17)))) (by rw [List.length_take]; omega) (by omega) fun zfr28 hzfr28 hszfr28 => ?_
      rw [take_all (l := x.deals) (by omega)] at hszfr28
      refine fx_frzR (p := [_]) rfl (hcl3.mono (hzl4.trans (hzfr06.trans (hzfr17.trans hzfr28)))) (by rw [List.length_take]; omega) (by omega) fun zfr39 hzfr39 hszfr39 => ?_
      rw [take_all (l := x.stocks) (by omega)] at hszfr39
      refine fx_frzR (p := [_]) rfl (hcl4.mono (hzfr06.trans (hzfr17.trans (hzfr28.trans hzfr39)))) (by rw [List.length_take]; omega) (by omega) fun zfr410 hzfr410 hszfr410 => ?_
      rw [take_all (l := x.solds) (by omega)] at hszfr410
      refine fx_ret ?_
      refine ret_q (.inl rfl) (rc rfl (memS mem0) (len1 rfl) rfl rn) ?_
      exact ⟨_, rfl, mk_year (hszfr06.mono (hzfr17.trans (hzfr28.trans (hzfr39.trans hzfr410)))) (hszfr17.mono (hzfr28.trans (hzfr39.trans hzfr410))) (hszfr28.mono (hzfr39.trans hzfr410)) (hszfr39.mono (hzfr410)) hszfr410⟩
end Go.Proofs.YtlhgffgfigkghaaGreatDoor
