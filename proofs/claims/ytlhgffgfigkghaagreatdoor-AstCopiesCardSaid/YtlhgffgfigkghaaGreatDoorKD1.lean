/- Functions that tell whether two filings are the same, walked. -/
import Derived.WalkKit
import Derived.Orders
import Derived.Test.YtlhgffgfigkghaaGreatDoorKC2
set_option linter.unusedVariables false
set_option linter.unusedSimpArgs false
set_option maxRecDepth 100000
set_option maxHeartbeats 1000000
namespace Go.Proofs.YtlhgffgfigkghaaGreatDoor
open Go.CE Go.RowKit
theorem whole {k : Nat} (hk : 1 ≤ k) {z : Mem} {n1 n2 : Bool} {c1 c2 : C} {l1 l2 : List Int} (h1 : CZ 1 (RU .u32) z c1 l1) (h2 : CZ 1 (RU .u32) z c2 l2) : FC (E k) 95 [.agg [.v (.bool n1), c1], .agg [.v (.bool n2), c2]] z fun v _ => ∃ r : Bool, v = .c (.v (.bool r)) ∧ (r = true ↔ n1 = n2 ∧ l1 = l2) := by
 have hb1 := h1.le
 have hb2 := h2.le
 refine fc_of (tS_get95) (by omega) (len1 rfl) fun B j hj => ?_
 refine fx_sr ?_
 refine fl_box rfl rfl fun b2 => ?_
 refine fl_box rfl rfl fun b3 => ?_
 refine fl_mv rfl (fl_nil (fx_ss (fx_sr (fl_fad rfl ?_))))
 refine fl_ld (v := .c (.v (.bool n1))) rfl (memS mem0) (len1 rfl) rfl ?_
 refine fl_fad rfl ?_
 refine fl_ld (v := .c (.v (.bool n2))) rfl mem0 (len1 rfl) rfl ?_
 refine fl_binB rfl rfl (b_neqB _ _) ?_
 refine fl_mv rfl ?_
 refine fl_join 8 11 (fun r => [(2, .c (.ptr b2 0)), (3, .c (.ptr b3 0)), (19, .c (.v (.bool r)))]) ((¬ (n1 = n2)) ∨ (¬ ((l1.length : Int) = (l2.length : Int)))) rfl (fun hg => ?_) (fun hg => ?_) (fun e z19 r19 hz19 hr19 => ?_)
 ·skip
  refine fl_gx rfl (fl_gx rfl (fl_gx rfl (fl_gx rfl (fl_gx rfl (fl_gx rfl (fl_gx rfl (fl_pick rfl rfl ?_)))))))
  exact fl_done true rfl (zle.refl _) (atc rfl (atc rfl (atc rfl atn))) (join_ot dec_not hg)
 ·skip
  refine fl_gd rfl (fl_fad rfl (fl_gd rfl ?_))
  refine fl_ld (v := .c (c1)) rfl (memS mem0) (len1 rfl) rfl ?_
  refine fl_gd rfl (fl_lenS rfl h1 (fl_gd rfl (fl_fad rfl (fl_gd rfl ?_))))
  refine fl_ld (v := .c (c2)) rfl mem0 (len1 rfl) rfl ?_
  refine fl_gd rfl (fl_lenS rfl h2 (fl_gd rfl (fl_bin rfl rfl (b_neq _ _ _) (fl_pick rfl rfl ?_))))
  exact fl_done (!decide ((l1.length : Int) = (l2.length : Int))) rfl (zle.refl _) (atc rfl (atc rfl (atc rfl atn))) (join_of dec_not hg dec_not)
 refine fl_nil ?_
 refine fx_cseq ?_
 refine fx_condB rfl (fun hc19 => ?_) (fun hc19 => ?_)
 ·skip
  have hp19 := hr19.1 hc19
  refine fx_ss (fx_sr (fl_mv rfl (fl_nil ?_)))
  refine fx_rseq ?_
  refine ret_q (.inl rfl) (rt rfl rn) ?_
  exact ⟨false, rfl, ⟨fun h => (by cases h), fun h => by obtain ⟨h1, h2⟩ := h; subst h1 h2; simp at hp19⟩⟩
 ·skip
  have hp19 := bn_iff hr19 hc19
  simp only [not_or, Classical.not_not] at hp19
  refine fx_kseq (fx_ss (fx_sr (fl_mv rfl (fl_nil ?_))))
  refine fx_seq (fx_block ?_)
  refine fx_loop (fun n fs => ∃ (i0 : Nat) (e : Env) (zz : Mem) (Hx : List HA), fs = ⟨e, zz, Hx ++ [.blk b3 (.cells 36 [.v (.bool n2), c2]), .blk b2 (.cells 36 [.v (.bool n1), c1])]⟩ ∧ zle z19 zz ∧ AtL e [(2, .c (.ptr b2 0)), (3, .c (.ptr b3 0)), (5, .c (.v (.int .i64 (i0 : Int))))] ∧ n = l1.length - i0 ∧ i0 ≤ l1.length ∧ ∀ j, j < i0 → l1[j]? = l2[j]?) ?_ _ ⟨0, _, _, [], rfl, zle.refl _, (atc rfl (atc rfl (atc rfl atn))), rfl, Nat.zero_le _, fun j hj => absurd hj (Nat.not_lt_zero _)⟩ (by show _ < 18446744073709551616; omega)
  intro n fs hI
  obtain ⟨i0, e, zl0, Hx, rfl, hzl0, hat, rfl, hi0, hp_0⟩ := hI
  refine fx_at hat fun e => ?_
  refine fx_sub (List.sublist_append_right _ _) ?_
  refine fx_ss (fx_sr (fl_mv rfl (fl_fad rfl ?_)))
  refine fl_ld (v := .c (c1)) rfl (memS mem0) (len1 rfl) rfl ?_
  refine fl_lenS rfl h1 (fl_bin rfl rfl (b_lss _ _ _) (fl_nil ?_))
  refine fx_cseq ?_
  refine fx_condB rfl (fun hc24 => ?_) (fun hc24 => ?_)
  ·skip
   have hp24 := dec_iff.1 hc24
   refine fx_kseq ?_
   refine fx_seq (fx_block ?_)
   refine fx_drwS ?_
   refine fg_pure rfl rfl trivial (fl_fad rfl (fl_nil ?_))
   refine fg_load (v := .c (c1)) (i := ⟨_, _, .load _ _ _⟩) rfl rfl trivial rfl (.inr (memS mem0)) rfl (len1 rfl) rfl (by simp [sameA, sameL, sameC_int, sameC_b, sameC_s, h1.refl]) ?_
   refine fg_pure rfl rfl trivial (fl_mv rfl (fl_nil ?_))
   obtain ⟨a30, ha30⟩ := at_lt (l := l1) (i := i0) (by omega)
   refine fg_pure rfl rfl trivial ?_
   refine fl_iadS rfl rfl h1 i0 rfl a30 ha30 fun b30 p30 cs30 at30 hR30 => ?_
   refine fl_nil ?_
   obtain rfl := hR30
   refine fg_ldA (v := .c (.v (.int .u32 a30))) (off := 0) (i := ⟨_, _, .load _ _ _⟩) rfl rfl trivial rfl at30 (fun _ _ h => .inl ((hz19.trans (hzl0)) _ _ h)) rfl (len1 rfl) rfl (by simp [sameA, sameL, sameC_int, sameC_b, sameC_s]) ?_
   refine fg_pure rfl rfl trivial (fl_fad rfl (fl_nil ?_))
   refine fg_load (v := .c (c2)) (i := ⟨_, _, .load _ _ _⟩) rfl rfl trivial rfl (.inr mem0) rfl (len1 rfl) rfl (by simp [sameA, sameL, sameC_int, sameC_b, sameC_s, h2.refl]) ?_
   refine fg_pure rfl rfl trivial (fl_mv rfl (fl_nil ?_))
   obtain ⟨a35, ha35⟩ := at_lt (l := l2) (i := i0) (by omega)
   refine fg_pure rfl rfl trivial ?_
   refine fl_iadS rfl rfl h2 i0 rfl a35 ha35 fun b35 p35 cs35 at35 hR35 => ?_
   refine fl_nil ?_
   obtain rfl := hR35
   refine fg_ldA (v := .c (.v (.int .u32 a35))) (off := 0) (i := ⟨_, _, .load _ _ _⟩) rfl rfl trivial rfl at35 (fun _ _ h => .inl ((hz19.trans (hzl0)) _ _ h)) rfl (len1 rfl) rfl (by simp [sameA, sameL, sameC_int, sameC_b, sameC_s]) ?_
   refine fg_pure rfl rfl trivial (fl_bin rfl rfl (b_neq _ _ _) (fl_nil ?_))
   refine fg_nil ?_
   refine fx_condB rfl (fun hc37 => ?_) (fun hc37 => ?_)
   ·skip
    have hp37 := dec_not.1 hc37
    refine fx_sr (fl_mv rfl (fl_nil ?_))
    refine fx_ret ?_
    refine sq_r ?_
    refine lq_r ?_
    refine sq_r ?_
    refine ret_q (.inl rfl) (rt rfl rn) ?_
    exact ⟨false, rfl, ⟨fun h => (by cases h), fun h => absurd h.2 (ne_at ha30 ha35 hp37)⟩⟩
   ·skip
    have hp37 := bn_iff dec_not hc37
    refine fx_skip ?_
    refine sq_n ?_
    refine fx_region ?_
    refine fl_mv rfl ?_
    refine fl_bin rfl rfl (b_add' (r := ((i0 + 1 : Nat) : Int)) (wi64 (by omega))) ?_
    refine fl_mv rfl (fl_nil ?_)
    exact lq_n (by omega) ⟨i0 + 1, _, _, [], rfl, hzl0, (atc rfl (atc rfl (atc rfl atn))), rfl, by omega, fun j hj => eq_step hp_0 ha30 ha35 (Classical.not_not.1 hp37) hj⟩
  ·skip
   have hp24 := bn_iff dec_iff hc24
   refine fx_eseq ?_
   refine lq_e ?_
   refine sq_n ?_
   refine fx_sr (fl_mv rfl (fl_nil ?_))
   refine fx_ret ?_
   refine ret_q (.inl rfl) (rt rfl rn) ?_
   exact ⟨true, rfl, ⟨fun _ => ⟨hp19.1, eq_end (by omega) hp_0 (by omega)⟩, fun _ => rfl⟩⟩
theorem same_rat {k : Nat} (hk : 2 ≤ k) {z : Mem} {u v : AV} {x y : PRat} (hx : AZ RRat z u x) (hy : AZ RRat z v y) : FC (E k) 36 [u, v] z (EqP x y) := by
 obtain ⟨_, rfl, cx_0, cx_1, rfl, hx_0, hx_1⟩ := hx
 obtain ⟨_, rfl, cy_0, cy_1, rfl, hy_0, hy_1⟩ := hy
 refine fc_of (tS_get36) (by omega) (len1 rfl) fun B j hj => ?_
 refine fx_sr ?_
 refine fl_box rfl rfl fun b2 => ?_
 refine fl_box rfl rfl fun b3 => ?_
 refine fl_mv rfl (fl_nil (fx_sr (fl_fad rfl ?_)))
 refine fl_ld (v := .agg [.v (.bool x.n), cx_0]) rfl (memS mem0) (len1 rfl) rfl ?_
 refine fl_fad rfl ?_
 refine fl_ld (v := .agg [.v (.bool y.n), cy_0]) rfl mem0 (len1 rfl) rfl ?_
 refine fl_call rfl (whole (by omega) hx_0 hy_0) fun v9 z9 hz9 ⟨r9, hv9, hr9⟩ => ?_
 subst hv9
 refine fl_mv rfl ?_
 refine fl_join 6 10 (fun r => [(16, .c (.v (.bool r)))]) ((x.n = y.n ∧ x.nm = y.nm) ∧ (x.d = y.d ∧ x.dm = y.dm)) rfl (fun hg => ?_) (fun hg => ?_) (fun e z16 r16 hz16 hr16 => ?_)
 ·skip
  refine fl_gd rfl (fl_fad rfl (fl_gd rfl ?_))
  refine fl_ld (v := .agg [.v (.bool x.d), cx_1]) rfl (memS mem0) (len1 rfl) rfl ?_
  refine fl_gd rfl (fl_fad rfl (fl_gd rfl ?_))
  refine fl_ld (v := .agg [.v (.bool y.d), cy_1]) rfl mem0 (len1 rfl) rfl ?_
  refine fl_gd rfl ?_
  refine fl_call rfl (whole (by omega) (hx_1.mono (hz9)) (hy_1.mono (hz9))) fun v15 z15 hz15 ⟨r15, hv15, hr15⟩ => ?_
  subst hv15
  refine fl_pick rfl rfl ?_
  exact fl_done r15 rfl (hz15) (atc rfl atn) (join_t hr9 hg hr15)
 ·skip
  refine fl_gx rfl (fl_gx rfl (fl_gx rfl (fl_gx rfl (fl_gx rfl (fl_pick rfl rfl ?_)))))
  exact fl_done false rfl (zle.refl _) (atc rfl atn) (join_f hr9 hg)
 refine fl_mv rfl (fl_nil ?_)
 refine fx_ret ?_
 refine ret_q (.inl rfl) (rt rfl rn) ?_
 refine ⟨r16, rfl, Iff.trans hr16 (Iff.trans ?_ PRat.ext_iff.symm)⟩
 first | exact Iff.rfl | (constructor <;> (intro h; simp_all))
end Go.Proofs.YtlhgffgfigkghaaGreatDoor
