/- Functions that tell whether two filings are the same, walked. -/
import Derived.WalkKit
import Derived.Orders
import Derived.Test.YtlhgffgfigkghaaGreatDoorSC2
set_option linter.unusedVariables false
set_option linter.unusedSimpArgs false
set_option maxRecDepth 100000
set_option maxHeartbeats 1000000
namespace Go.Proofs.YtlhgffgfigkghaaGreatDoor
open Go.CE Go.RowKit
theorem eq_u32 {k : Nat} (hk : 1 ≤ k) {z : Mem} {u v : AV} {l r : List Int} (hx : SZ 1 (RU .u32) z u l) (hy : SZ 1 (RU .u32) z v r) : FC (E k) 97 [u, v] z (EqP l r) := by
 have hxl := hx.le
 have hyl := hy.le
 refine fc_of (tS_get97) (by omega) (len1 rfl) fun B j hj => ?_
 refine fx_sr (fl_mv rfl (fl_nil (fx_ss (fx_sr (fl_mv rfl (fl_lenS rfl hx (fl_mv rfl (fl_lenS rfl hy (fl_bin rfl rfl (b_neq _ _ _) ?_)))))))))
 refine fl_nil ?_
 refine fx_cseq ?_
 refine fx_condB rfl (fun hc10 => ?_) (fun hc10 => ?_)
 ·skip
  have hp10 := dec_not.1 hc10
  refine fx_ss (fx_sr (fl_mv rfl (fl_nil ?_)))
  refine fx_rseq ?_
  refine ret_q (.inl rfl) (rt rfl rn) ?_
  exact ⟨false, rfl, ⟨fun h => (by cases h), fun h => by subst h; omega⟩⟩
 ·skip
  have hp10 := bn_iff dec_not hc10
  refine fx_kseq (fx_ss (fx_sr (fl_mv rfl (fl_lenS rfl hx (fl_mv rfl (fl_nil ?_))))))
  refine fx_seq (fx_block ?_)
  refine fx_loop (fun n fs => ∃ (i : Nat) (e : Env) (zz : Mem) (Hx : List HA), fs = ⟨e, zz, Hx ++ []⟩ ∧ zle z zz ∧ AtL e [(0, u), (1, v), (12, .c (.v (.int .i64 (l.length : Int)))), (13, .c (.v (.int .i64 (i : Int))))] ∧ n = l.length - i ∧ i ≤ l.length ∧ ∀ j, j < i → l[j]? = r[j]?) ?_ _ ⟨0, _, _, [], rfl, zle.refl _, (atc rfl (atc rfl (atc rfl (atc rfl atn)))), rfl, Nat.zero_le _, fun j hj => absurd hj (Nat.not_lt_zero _)⟩ (by show _ < 18446744073709551616; omega)
  intro n fs hI
  obtain ⟨i, e, zl0, Hx, rfl, hzl0, hat, rfl, hi, hp⟩ := hI
  refine fx_at hat fun e => ?_
  refine fx_sub (List.sublist_append_right _ _) ?_
  refine fx_sr (fl_bin rfl rfl (b_lss _ _ _) (fl_nil ?_))
  refine fx_cseq ?_
  refine fx_condB rfl (fun hc14 => ?_) (fun hc14 => ?_)
  ·skip
   have hp14 := dec_iff.1 hc14
   refine fx_kseq ?_
   refine fx_seq (fx_block ?_)
   refine fx_sr (fl_mv rfl (fl_mv rfl (fl_nil ?_)))
   refine fx_drwS ?_
   refine fg_pure rfl rfl trivial (fl_mv rfl (fl_nil (fg_pure rfl rfl trivial (fl_mv rfl (fl_nil ?_)))))
   obtain ⟨a18, ha18⟩ := at_lt (l := l) (i := i) (by omega)
   refine fg_pure rfl rfl trivial ?_
   refine fl_iadS rfl rfl hx i rfl a18 ha18 fun b18 p18 cs18 at18 hR18 => ?_
   refine fl_nil ?_
   obtain rfl := hR18
   refine fg_ldA (v := .c (.v (.int .u32 a18))) (off := 0) (i := ⟨_, _, .load _ _ _⟩) rfl rfl trivial rfl at18 (fun _ _ h => .inl ((hzl0) _ _ h)) rfl (len1 rfl) rfl (by simp [sameA, sameL, sameC_int, sameC_b, sameC_s]) ?_
   refine fg_pure rfl rfl trivial (fl_mv rfl (fl_nil (fg_pure rfl rfl trivial (fl_mv rfl (fl_nil ?_)))))
   obtain ⟨a22, ha22⟩ := at_lt (l := r) (i := i) (by omega)
   refine fg_pure rfl rfl trivial ?_
   refine fl_iadS rfl rfl hy i rfl a22 ha22 fun b22 p22 cs22 at22 hR22 => ?_
   refine fl_nil ?_
   obtain rfl := hR22
   refine fg_ldA (v := .c (.v (.int .u32 a22))) (off := 0) (i := ⟨_, _, .load _ _ _⟩) rfl rfl trivial rfl at22 (fun _ _ h => .inl ((hzl0) _ _ h)) rfl (len1 rfl) rfl (by simp [sameA, sameL, sameC_int, sameC_b, sameC_s]) ?_
   refine fg_pure rfl rfl trivial (fl_bin rfl rfl (b_neq _ _ _) (fl_nil ?_))
   refine fg_nil ?_
   refine fx_condB rfl (fun hc24 => ?_) (fun hc24 => ?_)
   ·skip
    have hp24 := dec_not.1 hc24
    refine fx_sr (fl_mv rfl (fl_nil ?_))
    refine fx_ret ?_
    refine sq_r ?_
    refine lq_r ?_
    refine sq_r ?_
    refine ret_q (.inl rfl) (rt rfl rn) ?_
    exact ⟨false, rfl, ⟨fun h => (by cases h), fun h => absurd h (ne_at ha18 ha22 hp24)⟩⟩
   ·skip
    have hp24 := bn_iff dec_not hc24
    refine fx_skip ?_
    refine sq_n ?_
    refine fx_region ?_
    refine fl_bin rfl rfl (b_add' (r := ((i + 1 : Nat) : Int)) (wi64 (by omega))) ?_
    refine fl_mv rfl (fl_nil ?_)
    exact lq_n (by omega) ⟨i + 1, _, _, [], rfl, hzl0, (atc rfl (atc rfl (atc rfl (atc rfl atn)))), rfl, by omega, fun j hj => eq_step hp ha18 ha22 (by simpa using hp24) hj⟩
  ·skip
   have hp14 := bn_iff dec_iff hc14
   refine fx_eseq ?_
   refine lq_e ?_
   refine sq_n ?_
   refine fx_sr (fl_mv rfl (fl_nil ?_))
   refine fx_ret ?_
   refine ret_q (.inl rfl) (rt rfl rn) ?_
   exact ⟨true, rfl, ⟨fun _ => eq_end (by omega) hp (by omega), fun _ => rfl⟩⟩
theorem eq_strs {k : Nat} (hk : 1 ≤ k) {z : Mem} {u v : AV} {l r : List ByteArray} (hx : SZ 1 RS z u l) (hy : SZ 1 RS z v r) : FC (E k) 43 [u, v] z (EqP l r) := by
 have hxl := hx.le
 have hyl := hy.le
 refine fc_of (tS_get43) (by omega) (len1 rfl) fun B j hj => ?_
 refine fx_sr (fl_mv rfl (fl_nil (fx_ss (fx_sr (fl_mv rfl (fl_lenS rfl hx (fl_mv rfl (fl_lenS rfl hy (fl_bin rfl rfl (b_neq _ _ _) ?_)))))))))
 refine fl_nil ?_
 refine fx_cseq ?_
 refine fx_condB rfl (fun hc10 => ?_) (fun hc10 => ?_)
 ·skip
  have hp10 := dec_not.1 hc10
  refine fx_ss (fx_sr (fl_mv rfl (fl_nil ?_)))
  refine fx_rseq ?_
  refine ret_q (.inl rfl) (rt rfl rn) ?_
  exact ⟨false, rfl, ⟨fun h => (by cases h), fun h => by subst h; omega⟩⟩
 ·skip
  have hp10 := bn_iff dec_not hc10
  refine fx_kseq (fx_ss (fx_sr (fl_mv rfl (fl_lenS rfl hx (fl_mv rfl (fl_nil ?_))))))
  refine fx_seq (fx_block ?_)
  refine fx_loop (fun n fs => ∃ (i : Nat) (e : Env) (zz : Mem) (Hx : List HA), fs = ⟨e, zz, Hx ++ []⟩ ∧ zle z zz ∧ AtL e [(0, u), (1, v), (12, .c (.v (.int .i64 (l.length : Int)))), (13, .c (.v (.int .i64 (i : Int))))] ∧ n = l.length - i ∧ i ≤ l.length ∧ ∀ j, j < i → l[j]? = r[j]?) ?_ _ ⟨0, _, _, [], rfl, zle.refl _, (atc rfl (atc rfl (atc rfl (atc rfl atn)))), rfl, Nat.zero_le _, fun j hj => absurd hj (Nat.not_lt_zero _)⟩ (by show _ < 18446744073709551616; omega)
  intro n fs hI
  obtain ⟨i, e, zl0, Hx, rfl, hzl0, hat, rfl, hi, hp⟩ := hI
  refine fx_at hat fun e => ?_
  refine fx_sub (List.sublist_append_right _ _) ?_
  refine fx_sr (fl_bin rfl rfl (b_lss _ _ _) (fl_nil ?_))
  refine fx_cseq ?_
  refine fx_condB rfl (fun hc14 => ?_) (fun hc14 => ?_)
  ·skip
   have hp14 := dec_iff.1 hc14
   refine fx_kseq ?_
   refine fx_seq (fx_block ?_)
   refine fx_sr (fl_mv rfl (fl_mv rfl (fl_nil ?_)))
   refine fx_drwS ?_
   refine fg_pure rfl rfl trivial (fl_mv rfl (fl_nil (fg_pure rfl rfl trivial (fl_mv rfl (fl_nil ?_)))))
   obtain ⟨a18, ha18⟩ := at_lt (l := l) (i := i) (by omega)
   refine fg_pure rfl rfl trivial ?_
   refine fl_iadS rfl rfl hx i rfl a18 ha18 fun b18 p18 cs18 at18 hR18 => ?_
   refine fl_nil ?_
   obtain rfl := hR18
   refine fg_ldA (v := .c (.v (.string a18))) (off := 0) (i := ⟨_, _, .load _ _ _⟩) rfl rfl trivial rfl at18 (fun _ _ h => .inl ((hzl0) _ _ h)) rfl (len1 rfl) rfl (by simp [sameA, sameL, sameC_int, sameC_b, sameC_s]) ?_
   refine fg_pure rfl rfl trivial (fl_mv rfl (fl_nil (fg_pure rfl rfl trivial (fl_mv rfl (fl_nil ?_)))))
   obtain ⟨a22, ha22⟩ := at_lt (l := r) (i := i) (by omega)
   refine fg_pure rfl rfl trivial ?_
   refine fl_iadS rfl rfl hy i rfl a22 ha22 fun b22 p22 cs22 at22 hR22 => ?_
   refine fl_nil ?_
   obtain rfl := hR22
   refine fg_ldA (v := .c (.v (.string a22))) (off := 0) (i := ⟨_, _, .load _ _ _⟩) rfl rfl trivial rfl at22 (fun _ _ h => .inl ((hzl0) _ _ h)) rfl (len1 rfl) rfl (by simp [sameA, sameL, sameC_int, sameC_b, sameC_s]) ?_
   refine fg_pure rfl rfl trivial ?_
   refine fl_bin rfl rfl (b_neqS _ _) ?_
   refine fl_nil ?_
   refine fg_nil ?_
   refine fx_condB rfl (fun hc24 => ?_) (fun hc24 => ?_)
   ·skip
    have hp24 := dec_not.1 hc24
    refine fx_sr (fl_mv rfl (fl_nil ?_))
    refine fx_ret ?_
    refine sq_r ?_
    refine lq_r ?_
    refine sq_r ?_
    refine ret_q (.inl rfl) (rt rfl rn) ?_
    exact ⟨false, rfl, ⟨fun h => (by cases h), fun h => absurd h (ne_at ha18 ha22 hp24)⟩⟩
   ·skip
    have hp24 := bn_iff dec_not hc24
    refine fx_skip ?_
    refine sq_n ?_
    refine fx_region ?_
    refine fl_bin rfl rfl (b_add' (r := ((i + 1 : Nat) : Int)) (wi64 (by omega))) ?_
    refine fl_mv rfl (fl_nil ?_)
    exact lq_n (by omega) ⟨i + 1, _, _, [], rfl, hzl0, (atc rfl (atc rfl (atc rfl (atc rfl atn)))), rfl, by omega, fun j hj => eq_step hp ha18 ha22 (by simpa using hp24) hj⟩
  ·skip
   have hp14 := bn_iff dec_iff hc14
   refine fx_eseq ?_
   refine lq_e ?_
   refine sq_n ?_
   refine fx_sr (fl_mv rfl (fl_nil ?_))
   refine fx_ret ?_
   refine ret_q (.inl rfl) (rt rfl rn) ?_
   exact ⟨true, rfl, ⟨fun _ => eq_end (by omega) hp (by omega), fun _ => rfl⟩⟩
theorem eqint {k : Nat} (hk : 2 ≤ k) {z : Mem} {n1 n2 : Bool} {c1 c2 : C} {l1 l2 : List Int} (h1 : CZ 1 (RU .u32) z c1 l1) (h2 : CZ 1 (RU .u32) z c2 l2) : FC (E k) 96 [.agg [.v (.bool n1), c1], .agg [.v (.bool n2), c2]] z fun v _ => ∃ r : Bool, v = .c (.v (.bool r)) ∧ (r = true ↔ n1 = n2 ∧ l1 = l2) := by
 refine fc_of (tS_get96) (by omega) (len1 rfl) fun B j hj => ?_
 refine fx_sr ?_
 refine fl_box rfl rfl fun b2 => ?_
 refine fl_box rfl rfl fun b3 => ?_
 refine fl_mv rfl (fl_nil (fx_sr (fl_fad rfl ?_)))
 refine fl_ld (v := .c (.v (.bool n1))) rfl (memS mem0) (len1 rfl) rfl ?_
 refine fl_fad rfl ?_
 refine fl_ld (v := .c (.v (.bool n2))) rfl mem0 (len1 rfl) rfl ?_
 refine fl_binB rfl rfl (b_eqlB _ _) ?_
 refine fl_mv rfl ?_
 refine fl_join 6 10 (fun r => [(16, .c (.v (.bool r)))]) ((n1 = n2) ∧ (l1 = l2)) rfl (fun hg => ?_) (fun hg => ?_) (fun e z16 r16 hz16 hr16 => ?_)
 ·skip
  refine fl_gd rfl (fl_fad rfl (fl_gd rfl ?_))
  refine fl_ld (v := .c (c1)) rfl (memS mem0) (len1 rfl) rfl ?_
  refine fl_gd rfl (fl_fad rfl (fl_gd rfl ?_))
  refine fl_ld (v := .c (c2)) rfl mem0 (len1 rfl) rfl ?_
  refine fl_gd rfl ?_
  refine fl_call rfl (eq_u32 (by omega) h1 h2) fun v15 z15 hz15 ⟨r15, hv15, hr15⟩ => ?_
  subst hv15
  refine fl_pick rfl rfl ?_
  exact fl_done r15 rfl (hz15) (atc rfl atn) (join_t dec_iff hg hr15)
 ·skip
  refine fl_gx rfl (fl_gx rfl (fl_gx rfl (fl_gx rfl (fl_gx rfl (fl_pick rfl rfl ?_)))))
  exact fl_done false rfl (zle.refl _) (atc rfl atn) (join_f dec_iff hg)
 refine fl_mv rfl (fl_nil ?_)
 refine fx_ret ?_
 refine ret_q (.inl rfl) (rt rfl rn) ?_
 exact ⟨r16, rfl, hr16⟩
open Go.CE Go.RowKit
theorem eq_rat {k : Nat} (hk : 3 ≤ k) {z : Mem} {u v : AV} {x y : PRat} (hx : AZ RRat z u x) (hy : AZ RRat z v y) : FC (E k) 38 [u, v] z (EqP x y) := by
 obtain ⟨_, rfl, cx_0, cx_1, rfl, hx_0, hx_1⟩ := hx
 obtain ⟨_, rfl, cy_0, cy_1, rfl, hy_0, hy_1⟩ := hy
 refine fc_of (tS_get38) (by omega) (len1 rfl) fun B j hj => ?_
 refine fx_sr ?_
 refine fl_box rfl rfl fun b2 => ?_
 refine fl_box rfl rfl fun b3 => ?_
 refine fl_mv rfl (fl_nil (fx_sr (fl_mv rfl (fl_nil (fx_sr (fl_mv rfl (fl_fad rfl ?_)))))))
 refine fl_ld (v := .agg [.v (.bool x.n), cx_0]) rfl (memS mem0) (len1 rfl) rfl ?_
 refine fl_fad rfl ?_
 refine fl_ld (v := .agg [.v (.bool y.n), cy_0]) rfl mem0 (len1 rfl) rfl ?_
 refine fl_callv rfl rfl (eqint (by omega) hx_0 hy_0) fun v11 z11 hz11 ⟨r11, hv11, hr11⟩ => ?_
 subst hv11
 refine fl_mv rfl ?_
 refine fl_join 7 12 (fun r => [(19, .c (.v (.bool r)))]) ((x.n = y.n ∧ x.nm = y.nm) ∧ (x.d = y.d ∧ x.dm = y.dm)) rfl (fun hg => ?_) (fun hg => ?_) (fun e z19 r19 hz19 hr19 => ?_)
 ·skip
  refine fl_gd rfl (fl_mv rfl (fl_gd rfl (fl_fad rfl (fl_gd rfl ?_))))
  refine fl_ld (v := .agg [.v (.bool x.d), cx_1]) rfl (memS mem0) (len1 rfl) rfl ?_
  refine fl_gd rfl (fl_fad rfl (fl_gd rfl ?_))
  refine fl_ld (v := .agg [.v (.bool y.d), cy_1]) rfl mem0 (len1 rfl) rfl ?_
  refine fl_gd rfl ?_
  refine fl_callv rfl rfl (eqint (by omega) (hx_1.mono (hz11)) (hy_1.mono (hz11))) fun v18 z18 hz18 ⟨r18, hv18, hr18⟩ => ?_
  subst hv18
  refine fl_pick rfl rfl ?_
  exact fl_done r18 rfl (hz18) (atc rfl atn) (join_t hr11 hg hr18)
 ·skip
  refine fl_gx rfl (fl_gx rfl (fl_gx rfl (fl_gx rfl (fl_gx rfl (fl_gx rfl (fl_pick rfl rfl ?_))))))
  exact fl_done false rfl (zle.refl _) (atc rfl atn) (join_f hr11 hg)
 refine fl_mv rfl (fl_nil ?_)
 refine fx_ret ?_
 refine ret_q (.inl rfl) (rt rfl rn) ?_
 refine ⟨r19, rfl, Iff.trans hr19 (Iff.trans ?_ PRat.ext_iff.symm)⟩
 first | exact Iff.rfl | (constructor <;> (intro h; simp_all))
theorem eq_bracket {k : Nat} (hk : 4 ≤ k) {z : Mem} {u v : AV} {x y : PBracket} (hx : AZ RBracket z u x) (hy : AZ RBracket z v y) : FC (E k) 40 [u, v] z (EqP x y) := by
 obtain ⟨_, rfl, cx_0, cx_1, cx_2, cx_3, rfl, hx_0, hx_1, hx_2, hx_3⟩ := hx
 obtain ⟨_, rfl, cy_0, cy_1, cy_2, cy_3, rfl, hy_0, hy_1, hy_2, hy_3⟩ := hy
 refine fc_of (tS_get40) (by omega) (len1 rfl) fun B j hj => ?_
 refine fx_sr ?_
 refine fl_box rfl rfl fun b2 => ?_
 refine fl_box rfl rfl fun b3 => ?_
 refine fl_mv rfl (fl_nil (fx_sr (fl_fad rfl ?_)))
 refine fl_ld (v := .agg [.v (.bool x.frm.n), cx_0, .v (.bool x.frm.d), cx_1]) rfl (memS mem0) (len1 rfl) rfl ?_
 refine fl_fad rfl ?_
 refine fl_ld (v := .agg [.v (.bool y.frm.n), cy_0, .v (.bool y.frm.d), cy_1]) rfl mem0 (len1 rfl) rfl ?_
 refine fl_call rfl (eq_rat (by omega) ⟨_, rfl, mk_rat hx_0 hx_1⟩ ⟨_, rfl, mk_rat hy_0 hy_1⟩) fun v9 z9 hz9 ⟨r9, hv9, hr9⟩ => ?_
 subst hv9
 refine fl_mv rfl ?_
 refine fl_join 6 10 (fun r => [(16, .c (.v (.bool r)))]) ((x.frm = y.frm) ∧ (x.rate = y.rate)) rfl (fun hg => ?_) (fun hg => ?_) (fun e z16 r16 hz16 hr16 => ?_)
 ·skip
  refine fl_gd rfl (fl_fad rfl (fl_gd rfl ?_))
  refine fl_ld (v := .agg [.v (.bool x.rate.n), cx_2, .v (.bool x.rate.d), cx_3]) rfl (memS mem0) (len1 rfl) rfl ?_
  refine fl_gd rfl (fl_fad rfl (fl_gd rfl ?_))
  refine fl_ld (v := .agg [.v (.bool y.rate.n), cy_2, .v (.bool y.rate.d), cy_3]) rfl mem0 (len1 rfl) rfl ?_
  refine fl_gd rfl ?_
  refine fl_call rfl (eq_rat (by omega) ⟨_, rfl, mk_rat (hx_2.mono (hz9)) (hx_3.mono (hz9))⟩ ⟨_, rfl, mk_rat (hy_2.mono (hz9)) (hy_3.mono (hz9))⟩) fun v15 z15 hz15 ⟨r15, hv15, hr15⟩ => ?_
  subst hv15
  refine fl_pick rfl rfl ?_
  exact fl_done r15 rfl (hz15) (atc rfl atn) (join_t hr9 hg hr15)
 ·skip
  refine fl_gx rfl (fl_gx rfl (fl_gx rfl (fl_gx rfl (fl_gx rfl (fl_pick rfl rfl ?_)))))
  exact fl_done false rfl (zle.refl _) (atc rfl atn) (join_f hr9 hg)
 refine fl_mv rfl (fl_nil ?_)
 refine fx_ret ?_
 refine ret_q (.inl rfl) (rt rfl rn) ?_
 refine ⟨r16, rfl, Iff.trans hr16 (Iff.trans ?_ PBracket.ext_iff.symm)⟩
 first | exact Iff.rfl | (constructor <;> (intro h; simp_all))
theorem eq_class {k : Nat} (hk : 4 ≤ k) {z : Mem} {u v : AV} {x y : PClass} (hx : AZ RClass z u x) (hy : AZ RClass z v y) : FC (E k) 42 [u, v] z (EqP x y) := by
 obtain ⟨_, rfl, cx_0, cx_1, rfl, hx_0, hx_1⟩ := hx
 obtain ⟨_, rfl, cy_0, cy_1, rfl, hy_0, hy_1⟩ := hy
 refine fc_of (tS_get42) (by omega) (len1 rfl) fun B j hj => ?_
 refine fx_sr ?_
 refine fl_box rfl rfl fun b2 => ?_
 refine fl_box rfl rfl fun b3 => ?_
 refine fl_mv rfl (fl_nil (fx_sr (fl_fad rfl ?_)))
 refine fl_ld (v := .c (.v (.string x.name))) rfl (memS mem0) (len1 rfl) rfl ?_
 refine fl_fad rfl ?_
 refine fl_ld (v := .c (.v (.string y.name))) rfl mem0 (len1 rfl) rfl ?_
 refine fl_bin rfl rfl (b_eqlS _ _) ?_
 refine fl_mv rfl ?_
 refine fl_join 6 10 (fun r => [(2, .c (.ptr b2 0)), (3, .c (.ptr b3 0)), (16, .c (.v (.bool r)))]) ((x.name = y.name) ∧ (x.kind = y.kind)) rfl (fun hg => ?_) (fun hg => ?_) (fun e z16 r16 hz16 hr16 => ?_)
 ·skip
  refine fl_gd rfl (fl_fad rfl (fl_gd rfl ?_))
  refine fl_ld (v := .c (.v (.int .u8 x.kind))) rfl (memS mem0) (len1 rfl) rfl ?_
  refine fl_gd rfl (fl_fad rfl (fl_gd rfl ?_))
  refine fl_ld (v := .c (.v (.int .u8 y.kind))) rfl mem0 (len1 rfl) rfl ?_
  refine fl_gd rfl (fl_bin rfl rfl (b_eql _ _ _) (fl_pick rfl rfl ?_))
  exact fl_done (decide (x.kind = y.kind)) rfl (zle.refl _) (atc rfl (atc rfl (atc rfl atn))) (join_t dec_iff hg dec_iff)
 ·skip
  refine fl_gx rfl (fl_gx rfl (fl_gx rfl (fl_gx rfl (fl_gx rfl (fl_pick rfl rfl ?_)))))
  exact fl_done false rfl (zle.refl _) (atc rfl (atc rfl (atc rfl atn))) (join_f dec_iff hg)
 refine fl_mv rfl ?_
 refine fl_join 6 17 (fun r => [(23, .c (.v (.bool r)))]) (((x.name = y.name) ∧ (x.kind = y.kind)) ∧ (x.arg = y.arg)) rfl (fun hg => ?_) (fun hg => ?_) (fun e z23 r23 hz23 hr23 => ?_)
 ·skip
  refine fl_gd rfl (fl_fad rfl (fl_gd rfl ?_))
  refine fl_ld (v := .agg [.v (.bool x.arg.n), cx_0, .v (.bool x.arg.d), cx_1]) rfl (memS mem0) (len1 rfl) rfl ?_
  refine fl_gd rfl (fl_fad rfl (fl_gd rfl ?_))
  refine fl_ld (v := .agg [.v (.bool y.arg.n), cy_0, .v (.bool y.arg.d), cy_1]) rfl mem0 (len1 rfl) rfl ?_
  refine fl_gd rfl ?_
  refine fl_call rfl (eq_rat (by omega) ⟨_, rfl, mk_rat (hx_0.mono (hz16)) (hx_1.mono (hz16))⟩ ⟨_, rfl, mk_rat (hy_0.mono (hz16)) (hy_1.mono (hz16))⟩) fun v22 z22 hz22 ⟨r22, hv22, hr22⟩ => ?_
  subst hv22
  refine fl_pick rfl rfl ?_
  exact fl_done r22 rfl (hz22) (atc rfl atn) (join_t hr16 hg hr22)
 ·skip
  refine fl_gx rfl (fl_gx rfl (fl_gx rfl (fl_gx rfl (fl_gx rfl (fl_pick rfl rfl ?_)))))
  exact fl_done false rfl (zle.refl _) (atc rfl atn) (join_f hr16 hg)
 refine fl_mv rfl (fl_nil ?_)
 refine fx_ret ?_
 refine ret_q (.inl rfl) (rt rfl rn) ?_
 refine ⟨r23, rfl, Iff.trans hr23 (Iff.trans ?_ PClass.ext_iff.symm)⟩
 first | exact Iff.rfl | (constructor <;> (intro h; simp_all))
theorem eq_hold {k : Nat} (hk : 4 ≤ k) {z : Mem} {u v : AV} {x y : PHold} (hx : AZ RHold z u x) (hy : AZ RHold z v y) : FC (E k) 99 [u, v] z (EqP x y) := by
 obtain ⟨_, rfl, cx_0, cx_1, rfl, hx_0, hx_1⟩ := hx
 obtain ⟨_, rfl, cy_0, cy_1, rfl, hy_0, hy_1⟩ := hy
 refine fc_of (tS_get99) (by omega) (len1 rfl) fun B j hj => ?_
 refine fx_sr ?_
 refine fl_box rfl rfl fun b2 => ?_
 refine fl_box rfl rfl fun b3 => ?_
 refine fl_mv rfl (fl_nil (fx_sr (fl_fad rfl ?_)))
 refine fl_ld (v := .c (.v (.string x.owner))) rfl (memS mem0) (len1 rfl) rfl ?_
 refine fl_fad rfl ?_
 refine fl_ld (v := .c (.v (.string y.owner))) rfl mem0 (len1 rfl) rfl ?_
 refine fl_bin rfl rfl (b_eqlS _ _) ?_
 refine fl_mv rfl ?_
 refine fl_join 6 10 (fun r => [(2, .c (.ptr b2 0)), (3, .c (.ptr b3 0)), (16, .c (.v (.bool r)))]) ((x.owner = y.owner) ∧ (x.owned = y.owned)) rfl (fun hg => ?_) (fun hg => ?_) (fun e z16 r16 hz16 hr16 => ?_)
 ·skip
  refine fl_gd rfl (fl_fad rfl (fl_gd rfl ?_))
  refine fl_ld (v := .c (.v (.string x.owned))) rfl (memS mem0) (len1 rfl) rfl ?_
  refine fl_gd rfl (fl_fad rfl (fl_gd rfl ?_))
  refine fl_ld (v := .c (.v (.string y.owned))) rfl mem0 (len1 rfl) rfl ?_
  refine fl_gd rfl ?_
  refine fl_bin rfl rfl (b_eqlS _ _) ?_
  refine fl_pick rfl rfl ?_
  exact fl_done (decide (x.owned = y.owned)) rfl (zle.refl _) (atc rfl (atc rfl (atc rfl atn))) (join_t dec_iff hg dec_iff)
 ·skip
  refine fl_gx rfl (fl_gx rfl (fl_gx rfl (fl_gx rfl (fl_gx rfl (fl_pick rfl rfl ?_)))))
  exact fl_done false rfl (zle.refl _) (atc rfl (atc rfl (atc rfl atn))) (join_f dec_iff hg)
 refine fl_mv rfl ?_
 refine fl_join 6 17 (fun r => [(23, .c (.v (.bool r)))]) (((x.owner = y.owner) ∧ (x.owned = y.owned)) ∧ (x.share = y.share)) rfl (fun hg => ?_) (fun hg => ?_) (fun e z23 r23 hz23 hr23 => ?_)
 ·skip
  refine fl_gd rfl (fl_fad rfl (fl_gd rfl ?_))
  refine fl_ld (v := .agg [.v (.bool x.share.n), cx_0, .v (.bool x.share.d), cx_1]) rfl (memS mem0) (len1 rfl) rfl ?_
  refine fl_gd rfl (fl_fad rfl (fl_gd rfl ?_))
  refine fl_ld (v := .agg [.v (.bool y.share.n), cy_0, .v (.bool y.share.d), cy_1]) rfl mem0 (len1 rfl) rfl ?_
  refine fl_gd rfl ?_
  refine fl_call rfl (eq_rat (by omega) ⟨_, rfl, mk_rat (hx_0.mono (hz16)) (hx_1.mono (hz16))⟩ ⟨_, rfl, mk_rat (hy_0.mono (hz16)) (hy_1.mono (hz16))⟩) fun v22 z22 hz22 ⟨r22, hv22, hr22⟩ => ?_
  subst hv22
  refine fl_pick rfl rfl ?_
  exact fl_done r22 rfl (hz22) (atc rfl atn) (join_t hr16 hg hr22)
 ·skip
  refine fl_gx rfl (fl_gx rfl (fl_gx rfl (fl_gx rfl (fl_gx rfl (fl_pick rfl rfl ?_)))))
  exact fl_done false rfl (zle.refl _) (atc rfl atn) (join_f hr16 hg)
 refine fl_mv rfl (fl_nil ?_)
 refine fx_ret ?_
 refine ret_q (.inl rfl) (rt rfl rn) ?_
 refine ⟨r23, rfl, Iff.trans hr23 (Iff.trans ?_ PHold.ext_iff.symm)⟩
 first | exact Iff.rfl | (constructor <;> (intro h; simp_all))
theorem eq_book {k : Nat} (hk : 4 ≤ k) {z : Mem} {u v : AV} {x y : PBook} (hx : AZ RBook z u x) (hy : AZ RBook z v y) : FC (E k) 101 [u, v] z (EqP x y) := by
 obtain ⟨_, rfl, cx_0, cx_1, rfl, hx_0, hx_1⟩ := hx
 obtain ⟨_, rfl, cy_0, cy_1, rfl, hy_0, hy_1⟩ := hy
 refine fc_of (tS_get101) (by omega) (len1 rfl) fun B j hj => ?_
 refine fx_sr ?_
 refine fl_box rfl rfl fun b2 => ?_
 refine fl_box rfl rfl fun b3 => ?_
 refine fl_mv rfl (fl_nil (fx_sr (fl_fad rfl ?_)))
 refine fl_ld (v := .c (.v (.string x.entity))) rfl (memS mem0) (len1 rfl) rfl ?_
 refine fl_fad rfl ?_
 refine fl_ld (v := .c (.v (.string y.entity))) rfl mem0 (len1 rfl) rfl ?_
 refine fl_bin rfl rfl (b_eqlS _ _) ?_
 refine fl_mv rfl ?_
 refine fl_join 6 10 (fun r => [(2, .c (.ptr b2 0)), (3, .c (.ptr b3 0)), (16, .c (.v (.bool r)))]) ((x.entity = y.entity) ∧ (x.cls = y.cls)) rfl (fun hg => ?_) (fun hg => ?_) (fun e z16 r16 hz16 hr16 => ?_)
 ·skip
  refine fl_gd rfl (fl_fad rfl (fl_gd rfl ?_))
  refine fl_ld (v := .c (.v (.string x.cls))) rfl (memS mem0) (len1 rfl) rfl ?_
  refine fl_gd rfl (fl_fad rfl (fl_gd rfl ?_))
  refine fl_ld (v := .c (.v (.string y.cls))) rfl mem0 (len1 rfl) rfl ?_
  refine fl_gd rfl ?_
  refine fl_bin rfl rfl (b_eqlS _ _) ?_
  refine fl_pick rfl rfl ?_
  exact fl_done (decide (x.cls = y.cls)) rfl (zle.refl _) (atc rfl (atc rfl (atc rfl atn))) (join_t dec_iff hg dec_iff)
 ·skip
  refine fl_gx rfl (fl_gx rfl (fl_gx rfl (fl_gx rfl (fl_gx rfl (fl_pick rfl rfl ?_)))))
  exact fl_done false rfl (zle.refl _) (atc rfl (atc rfl (atc rfl atn))) (join_f dec_iff hg)
 refine fl_mv rfl ?_
 refine fl_join 6 17 (fun r => [(23, .c (.v (.bool r)))]) (((x.entity = y.entity) ∧ (x.cls = y.cls)) ∧ (x.amount = y.amount)) rfl (fun hg => ?_) (fun hg => ?_) (fun e z23 r23 hz23 hr23 => ?_)
 ·skip
  refine fl_gd rfl (fl_fad rfl (fl_gd rfl ?_))
  refine fl_ld (v := .agg [.v (.bool x.amount.n), cx_0, .v (.bool x.amount.d), cx_1]) rfl (memS mem0) (len1 rfl) rfl ?_
  refine fl_gd rfl (fl_fad rfl (fl_gd rfl ?_))
  refine fl_ld (v := .agg [.v (.bool y.amount.n), cy_0, .v (.bool y.amount.d), cy_1]) rfl mem0 (len1 rfl) rfl ?_
  refine fl_gd rfl ?_
  refine fl_call rfl (eq_rat (by omega) ⟨_, rfl, mk_rat (hx_0.mono (hz16)) (hx_1.mono (hz16))⟩ ⟨_, rfl, mk_rat (hy_0.mono (hz16)) (hy_1.mono (hz16))⟩) fun v22 z22 hz22 ⟨r22, hv22, hr22⟩ => ?_
  subst hv22
  refine fl_pick rfl rfl ?_
  exact fl_done r22 rfl (hz22) (atc rfl atn) (join_t hr16 hg hr22)
 ·skip
  refine fl_gx rfl (fl_gx rfl (fl_gx rfl (fl_gx rfl (fl_gx rfl (fl_pick rfl rfl ?_)))))
  exact fl_done false rfl (zle.refl _) (atc rfl atn) (join_f hr16 hg)
 refine fl_mv rfl (fl_nil ?_)
 refine fx_ret ?_
 refine ret_q (.inl rfl) (rt rfl rn) ?_
 refine ⟨r23, rfl, Iff.trans hr23 (Iff.trans ?_ PBook.ext_iff.symm)⟩
 first | exact Iff.rfl | (constructor <;> (intro h; simp_all))
theorem eq_deal {k : Nat} (hk : 4 ≤ k) {z : Mem} {u v : AV} {x y : PDeal} (hx : AZ RDeal z u x) (hy : AZ RDeal z v y) : FC (E k) 103 [u, v] z (EqP x y) := by
 obtain ⟨_, rfl, cx_0, cx_1, rfl, hx_0, hx_1⟩ := hx
 obtain ⟨_, rfl, cy_0, cy_1, rfl, hy_0, hy_1⟩ := hy
 refine fc_of (tS_get103) (by omega) (len1 rfl) fun B j hj => ?_
 refine fx_sr ?_
 refine fl_box rfl rfl fun b2 => ?_
 refine fl_box rfl rfl fun b3 => ?_
 refine fl_mv rfl (fl_nil (fx_sr (fl_fad rfl ?_)))
 refine fl_ld (v := .c (.v (.bool x.give))) rfl (memS mem0) (len1 rfl) rfl ?_
 refine fl_fad rfl ?_
 refine fl_ld (v := .c (.v (.bool y.give))) rfl mem0 (len1 rfl) rfl ?_
 refine fl_binB rfl rfl (b_eqlB _ _) ?_
 refine fl_mv rfl ?_
 refine fl_join 6 10 (fun r => [(2, .c (.ptr b2 0)), (3, .c (.ptr b3 0)), (16, .c (.v (.bool r)))]) ((x.give = y.give) ∧ (x.id = y.id)) rfl (fun hg => ?_) (fun hg => ?_) (fun e z16 r16 hz16 hr16 => ?_)
 ·skip
  refine fl_gd rfl (fl_fad rfl (fl_gd rfl ?_))
  refine fl_ld (v := .c (.v (.string x.id))) rfl (memS mem0) (len1 rfl) rfl ?_
  refine fl_gd rfl (fl_fad rfl (fl_gd rfl ?_))
  refine fl_ld (v := .c (.v (.string y.id))) rfl mem0 (len1 rfl) rfl ?_
  refine fl_gd rfl ?_
  refine fl_bin rfl rfl (b_eqlS _ _) ?_
  refine fl_pick rfl rfl ?_
  exact fl_done (decide (x.id = y.id)) rfl (zle.refl _) (atc rfl (atc rfl (atc rfl atn))) (join_t dec_iff hg dec_iff)
 ·skip
  refine fl_gx rfl (fl_gx rfl (fl_gx rfl (fl_gx rfl (fl_gx rfl (fl_pick rfl rfl ?_)))))
  exact fl_done false rfl (zle.refl _) (atc rfl (atc rfl (atc rfl atn))) (join_f dec_iff hg)
 refine fl_mv rfl ?_
 refine fl_join 6 17 (fun r => [(2, .c (.ptr b2 0)), (3, .c (.ptr b3 0)), (23, .c (.v (.bool r)))]) (((x.give = y.give) ∧ (x.id = y.id)) ∧ (x.kind = y.kind)) rfl (fun hg => ?_) (fun hg => ?_) (fun e z23 r23 hz23 hr23 => ?_)
 ·skip
  refine fl_gd rfl (fl_fad rfl (fl_gd rfl ?_))
  refine fl_ld (v := .c (.v (.int .u8 x.kind))) rfl (memS mem0) (len1 rfl) rfl ?_
  refine fl_gd rfl (fl_fad rfl (fl_gd rfl ?_))
  refine fl_ld (v := .c (.v (.int .u8 y.kind))) rfl mem0 (len1 rfl) rfl ?_
  refine fl_gd rfl (fl_bin rfl rfl (b_eql _ _ _) (fl_pick rfl rfl ?_))
  exact fl_done (decide (x.kind = y.kind)) rfl (zle.refl _) (atc rfl (atc rfl (atc rfl atn))) (join_t hr16 hg dec_iff)
 ·skip
  refine fl_gx rfl (fl_gx rfl (fl_gx rfl (fl_gx rfl (fl_gx rfl (fl_pick rfl rfl ?_)))))
  exact fl_done false rfl (zle.refl _) (atc rfl (atc rfl (atc rfl atn))) (join_f hr16 hg)
 refine fl_mv rfl ?_
 refine fl_join 6 24 (fun r => [(2, .c (.ptr b2 0)), (3, .c (.ptr b3 0)), (30, .c (.v (.bool r)))]) ((((x.give = y.give) ∧ (x.id = y.id)) ∧ (x.kind = y.kind)) ∧ (x.payee = y.payee)) rfl (fun hg => ?_) (fun hg => ?_) (fun e z30 r30 hz30 hr30 => ?_)
 ·skip
  refine fl_gd rfl (fl_fad rfl (fl_gd rfl ?_))
  refine fl_ld (v := .c (.v (.string x.payee))) rfl (memS mem0) (len1 rfl) rfl ?_
  refine fl_gd rfl (fl_fad rfl (fl_gd rfl ?_))
  refine fl_ld (v := .c (.v (.string y.payee))) rfl mem0 (len1 rfl) rfl ?_
  refine fl_gd rfl ?_
  refine fl_bin rfl rfl (b_eqlS _ _) ?_
  refine fl_pick rfl rfl ?_
  exact fl_done (decide (x.payee = y.payee)) rfl (zle.refl _) (atc rfl (atc rfl (atc rfl atn))) (join_t hr23 hg dec_iff)
 ·skip
  refine fl_gx rfl (fl_gx rfl (fl_gx rfl (fl_gx rfl (fl_gx rfl (fl_pick rfl rfl ?_)))))
  exact fl_done false rfl (zle.refl _) (atc rfl (atc rfl (atc rfl atn))) (join_f hr23 hg)
 refine fl_mv rfl ?_
 refine fl_join 6 31 (fun r => [(2, .c (.ptr b2 0)), (3, .c (.ptr b3 0)), (37, .c (.v (.bool r)))]) (((((x.give = y.give) ∧ (x.id = y.id)) ∧ (x.kind = y.kind)) ∧ (x.payee = y.payee)) ∧ (x.payer = y.payer)) rfl (fun hg => ?_) (fun hg => ?_) (fun e z37 r37 hz37 hr37 => ?_)
 ·skip
  refine fl_gd rfl (fl_fad rfl (fl_gd rfl ?_))
  refine fl_ld (v := .c (.v (.string x.payer))) rfl (memS mem0) (len1 rfl) rfl ?_
  refine fl_gd rfl (fl_fad rfl (fl_gd rfl ?_))
  refine fl_ld (v := .c (.v (.string y.payer))) rfl mem0 (len1 rfl) rfl ?_
  refine fl_gd rfl ?_
  refine fl_bin rfl rfl (b_eqlS _ _) ?_
  refine fl_pick rfl rfl ?_
  exact fl_done (decide (x.payer = y.payer)) rfl (zle.refl _) (atc rfl (atc rfl (atc rfl atn))) (join_t hr30 hg dec_iff)
 ·skip
  refine fl_gx rfl (fl_gx rfl (fl_gx rfl (fl_gx rfl (fl_gx rfl (fl_pick rfl rfl ?_)))))
  exact fl_done false rfl (zle.refl _) (atc rfl (atc rfl (atc rfl atn))) (join_f hr30 hg)
 refine fl_mv rfl ?_
 refine fl_join 6 38 (fun r => [(2, .c (.ptr b2 0)), (3, .c (.ptr b3 0)), (44, .c (.v (.bool r)))]) ((((((x.give = y.give) ∧ (x.id = y.id)) ∧ (x.kind = y.kind)) ∧ (x.payee = y.payee)) ∧ (x.payer = y.payer)) ∧ (x.cls = y.cls)) rfl (fun hg => ?_) (fun hg => ?_) (fun e z44 r44 hz44 hr44 => ?_)
 ·skip
  refine fl_gd rfl (fl_fad rfl (fl_gd rfl ?_))
  refine fl_ld (v := .c (.v (.string x.cls))) rfl (memS mem0) (len1 rfl) rfl ?_
  refine fl_gd rfl (fl_fad rfl (fl_gd rfl ?_))
  refine fl_ld (v := .c (.v (.string y.cls))) rfl mem0 (len1 rfl) rfl ?_
  refine fl_gd rfl ?_
  refine fl_bin rfl rfl (b_eqlS _ _) ?_
  refine fl_pick rfl rfl ?_
  exact fl_done (decide (x.cls = y.cls)) rfl (zle.refl _) (atc rfl (atc rfl (atc rfl atn))) (join_t hr37 hg dec_iff)
 ·skip
  refine fl_gx rfl (fl_gx rfl (fl_gx rfl (fl_gx rfl (fl_gx rfl (fl_pick rfl rfl ?_)))))
  exact fl_done false rfl (zle.refl _) (atc rfl (atc rfl (atc rfl atn))) (join_f hr37 hg)
 refine fl_mv rfl ?_
 refine fl_join 6 45 (fun r => [(51, .c (.v (.bool r)))]) (((((((x.give = y.give) ∧ (x.id = y.id)) ∧ (x.kind = y.kind)) ∧ (x.payee = y.payee)) ∧ (x.payer = y.payer)) ∧ (x.cls = y.cls)) ∧ (x.amount = y.amount)) rfl (fun hg => ?_) (fun hg => ?_) (fun e z51 r51 hz51 hr51 => ?_)
 ·skip
  refine fl_gd rfl (fl_fad rfl (fl_gd rfl ?_))
  refine fl_ld (v := .agg [.v (.bool x.amount.n), cx_0, .v (.bool x.amount.d), cx_1]) rfl (memS mem0) (len1 rfl) rfl ?_
  refine fl_gd rfl (fl_fad rfl (fl_gd rfl ?_))
  refine fl_ld (v := .agg [.v (.bool y.amount.n), cy_0, .v (.bool y.amount.d), cy_1]) rfl mem0 (len1 rfl) rfl ?_
  refine fl_gd rfl ?_
  refine fl_call rfl (eq_rat (by omega) ⟨_, rfl, mk_rat (hx_0.mono (hz16.trans (hz23.trans (hz30.trans (hz37.trans hz44))))) (hx_1.mono (hz16.trans (hz23.trans (hz30.trans (hz37.trans hz44)))))⟩ ⟨_, rfl, mk_rat (hy_0.mono (hz16.trans (hz23.trans (hz30.trans (hz37.trans hz44))))) (hy_1.mono (hz16.trans (hz23.trans (hz30.trans (hz37.trans hz44)))))⟩) fun v50 z50 hz50 ⟨r50, hv50, hr50⟩ => ?_
  subst hv50
  refine fl_pick rfl rfl ?_
  exact fl_done r50 rfl (hz50) (atc rfl atn) (join_t hr44 hg hr50)
 ·skip
  refine fl_gx rfl (fl_gx rfl (fl_gx rfl (fl_gx rfl (fl_gx rfl (fl_pick rfl rfl ?_)))))
  exact fl_done false rfl (zle.refl _) (atc rfl atn) (join_f hr44 hg)
 refine fl_mv rfl (fl_nil ?_)
 refine fx_ret ?_
 refine ret_q (.inl rfl) (rt rfl rn) ?_
 refine ⟨r51, rfl, Iff.trans hr51 (Iff.trans ?_ PDeal.ext_iff.symm)⟩
 first | exact Iff.rfl | (constructor <;> (intro h; simp_all))
theorem eq_stock {k : Nat} (hk : 4 ≤ k) {z : Mem} {u v : AV} {x y : PStock} (hx : AZ RStock z u x) (hy : AZ RStock z v y) : FC (E k) 105 [u, v] z (EqP x y) := by
 obtain ⟨_, rfl, cx_0, cx_1, cx_2, cx_3, rfl, hx_0, hx_1, hx_2, hx_3⟩ := hx
 obtain ⟨_, rfl, cy_0, cy_1, cy_2, cy_3, rfl, hy_0, hy_1, hy_2, hy_3⟩ := hy
 refine fc_of (tS_get105) (by omega) (len1 rfl) fun B j hj => ?_
 refine fx_sr ?_
 refine fl_box rfl rfl fun b2 => ?_
 refine fl_box rfl rfl fun b3 => ?_
 refine fl_mv rfl (fl_nil (fx_sr (fl_fad rfl ?_)))
 refine fl_ld (v := .c (.v (.string x.id))) rfl (memS mem0) (len1 rfl) rfl ?_
 refine fl_fad rfl ?_
 refine fl_ld (v := .c (.v (.string y.id))) rfl mem0 (len1 rfl) rfl ?_
 refine fl_bin rfl rfl (b_eqlS _ _) ?_
 refine fl_mv rfl ?_
 refine fl_join 6 10 (fun r => [(2, .c (.ptr b2 0)), (3, .c (.ptr b3 0)), (16, .c (.v (.bool r)))]) ((x.id = y.id) ∧ (x.margin = y.margin)) rfl (fun hg => ?_) (fun hg => ?_) (fun e z16 r16 hz16 hr16 => ?_)
 ·skip
  refine fl_gd rfl (fl_fad rfl (fl_gd rfl ?_))
  refine fl_ld (v := .agg [.v (.bool x.margin.n), cx_0, .v (.bool x.margin.d), cx_1]) rfl (memS mem0) (len1 rfl) rfl ?_
  refine fl_gd rfl (fl_fad rfl (fl_gd rfl ?_))
  refine fl_ld (v := .agg [.v (.bool y.margin.n), cy_0, .v (.bool y.margin.d), cy_1]) rfl mem0 (len1 rfl) rfl ?_
  refine fl_gd rfl ?_
  refine fl_call rfl (eq_rat (by omega) ⟨_, rfl, mk_rat hx_0 hx_1⟩ ⟨_, rfl, mk_rat hy_0 hy_1⟩) fun v15 z15 hz15 ⟨r15, hv15, hr15⟩ => ?_
  subst hv15
  refine fl_pick rfl rfl ?_
  exact fl_done r15 rfl (hz15) (atc rfl (atc rfl (atc rfl atn))) (join_t dec_iff hg hr15)
 ·skip
  refine fl_gx rfl (fl_gx rfl (fl_gx rfl (fl_gx rfl (fl_gx rfl (fl_pick rfl rfl ?_)))))
  exact fl_done false rfl (zle.refl _) (atc rfl (atc rfl (atc rfl atn))) (join_f dec_iff hg)
 refine fl_mv rfl ?_
 refine fl_join 6 17 (fun r => [(23, .c (.v (.bool r)))]) (((x.id = y.id) ∧ (x.margin = y.margin)) ∧ (x.unsold = y.unsold)) rfl (fun hg => ?_) (fun hg => ?_) (fun e z23 r23 hz23 hr23 => ?_)
 ·skip
  refine fl_gd rfl (fl_fad rfl (fl_gd rfl ?_))
  refine fl_ld (v := .agg [.v (.bool x.unsold.n), cx_2, .v (.bool x.unsold.d), cx_3]) rfl (memS mem0) (len1 rfl) rfl ?_
  refine fl_gd rfl (fl_fad rfl (fl_gd rfl ?_))
  refine fl_ld (v := .agg [.v (.bool y.unsold.n), cy_2, .v (.bool y.unsold.d), cy_3]) rfl mem0 (len1 rfl) rfl ?_
  refine fl_gd rfl ?_
  refine fl_call rfl (eq_rat (by omega) ⟨_, rfl, mk_rat (hx_2.mono (hz16)) (hx_3.mono (hz16))⟩ ⟨_, rfl, mk_rat (hy_2.mono (hz16)) (hy_3.mono (hz16))⟩) fun v22 z22 hz22 ⟨r22, hv22, hr22⟩ => ?_
  subst hv22
  refine fl_pick rfl rfl ?_
  exact fl_done r22 rfl (hz22) (atc rfl atn) (join_t hr16 hg hr22)
 ·skip
  refine fl_gx rfl (fl_gx rfl (fl_gx rfl (fl_gx rfl (fl_gx rfl (fl_pick rfl rfl ?_)))))
  exact fl_done false rfl (zle.refl _) (atc rfl atn) (join_f hr16 hg)
 refine fl_mv rfl (fl_nil ?_)
 refine fx_ret ?_
 refine ret_q (.inl rfl) (rt rfl rn) ?_
 refine ⟨r23, rfl, Iff.trans hr23 (Iff.trans ?_ PStock.ext_iff.symm)⟩
 first | exact Iff.rfl | (constructor <;> (intro h; simp_all))
theorem eq_sold {k : Nat} (hk : 4 ≤ k) {z : Mem} {u v : AV} {x y : PSold} (hx : AZ RSold z u x) (hy : AZ RSold z v y) : FC (E k) 107 [u, v] z (EqP x y) := by
 obtain ⟨_, rfl, cx_0, cx_1, rfl, hx_0, hx_1⟩ := hx
 obtain ⟨_, rfl, cy_0, cy_1, rfl, hy_0, hy_1⟩ := hy
 refine fc_of (tS_get107) (by omega) (len1 rfl) fun B j hj => ?_
 refine fx_sr ?_
 refine fl_box rfl rfl fun b2 => ?_
 refine fl_box rfl rfl fun b3 => ?_
 refine fl_mv rfl (fl_nil (fx_sr (fl_fad rfl ?_)))
 refine fl_ld (v := .c (.v (.string x.id))) rfl (memS mem0) (len1 rfl) rfl ?_
 refine fl_fad rfl ?_
 refine fl_ld (v := .c (.v (.string y.id))) rfl mem0 (len1 rfl) rfl ?_
 refine fl_bin rfl rfl (b_eqlS _ _) ?_
 refine fl_mv rfl ?_
 refine fl_join 6 10 (fun r => [(16, .c (.v (.bool r)))]) ((x.id = y.id) ∧ (x.share = y.share)) rfl (fun hg => ?_) (fun hg => ?_) (fun e z16 r16 hz16 hr16 => ?_)
 ·skip
  refine fl_gd rfl (fl_fad rfl (fl_gd rfl ?_))
  refine fl_ld (v := .agg [.v (.bool x.share.n), cx_0, .v (.bool x.share.d), cx_1]) rfl (memS mem0) (len1 rfl) rfl ?_
  refine fl_gd rfl (fl_fad rfl (fl_gd rfl ?_))
  refine fl_ld (v := .agg [.v (.bool y.share.n), cy_0, .v (.bool y.share.d), cy_1]) rfl mem0 (len1 rfl) rfl ?_
  refine fl_gd rfl ?_
  refine fl_call rfl (eq_rat (by omega) ⟨_, rfl, mk_rat hx_0 hx_1⟩ ⟨_, rfl, mk_rat hy_0 hy_1⟩) fun v15 z15 hz15 ⟨r15, hv15, hr15⟩ => ?_
  subst hv15
  refine fl_pick rfl rfl ?_
  exact fl_done r15 rfl (hz15) (atc rfl atn) (join_t dec_iff hg hr15)
 ·skip
  refine fl_gx rfl (fl_gx rfl (fl_gx rfl (fl_gx rfl (fl_gx rfl (fl_pick rfl rfl ?_)))))
  exact fl_done false rfl (zle.refl _) (atc rfl atn) (join_f dec_iff hg)
 refine fl_mv rfl (fl_nil ?_)
 refine fx_ret ?_
 refine ret_q (.inl rfl) (rt rfl rn) ?_
 refine ⟨r16, rfl, Iff.trans hr16 (Iff.trans ?_ PSold.ext_iff.symm)⟩
 first | exact Iff.rfl | (constructor <;> (intro h; simp_all))
theorem eqs_bracket {k : Nat} (hk : 5 ≤ k) {z : Mem} {u v : AV} {l r : List PBracket} (hx : SZ 8 RBracket z u l) (hy : SZ 8 RBracket z v r) : FC (E k) 39 [u, v, .c (.fn 40 [] [])] z (EqP l r) := by
 have hxl := hx.le
 have hyl := hy.le
 refine fc_of (tS_get39) (by omega) (len1 rfl) fun B j hj => ?_
 refine fx_sr (fl_mv rfl (fl_nil (fx_ss (fx_sr (fl_mv rfl (fl_lenS rfl hx (fl_mv rfl (fl_lenS rfl hy (fl_bin rfl rfl (b_neq _ _ _) ?_)))))))))
 refine fl_nil ?_
 refine fx_cseq ?_
 refine fx_condB rfl (fun hc14 => ?_) (fun hc14 => ?_)
 ·skip
  have hp14 := dec_not.1 hc14
  refine fx_ss (fx_sr (fl_mv rfl (fl_nil ?_)))
  refine fx_rseq ?_
  refine ret_q (.inl rfl) (rt rfl rn) ?_
  exact ⟨false, rfl, ⟨fun h => (by cases h), fun h => by subst h; omega⟩⟩
 ·skip
  have hp14 := bn_iff dec_not hc14
  refine fx_kseq (fx_ss (fx_sr (fl_mv rfl (fl_lenS rfl hx (fl_mv rfl (fl_nil ?_))))))
  refine fx_seq (fx_block ?_)
  refine fx_loop (fun n fs => ∃ (i : Nat) (e : Env) (zz : Mem) (Hx : List HA), fs = ⟨e, zz, Hx ++ []⟩ ∧ zle z zz ∧ AtL e [(0, u), (1, v), (2, .c (.fn 40 [] [])), (15, u), (16, .c (.v (.int .i64 (l.length : Int)))), (17, .c (.v (.int .i64 (i : Int))))] ∧ n = l.length - i ∧ i ≤ l.length ∧ ∀ j, j < i → l[j]? = r[j]?) ?_ _ ⟨0, _, _, [], rfl, zle.refl _, (atc rfl (atc rfl (atc rfl (atc rfl (atc rfl (atc rfl atn)))))), rfl, Nat.zero_le _, fun j hj => absurd hj (Nat.not_lt_zero _)⟩ (by show _ < 18446744073709551616; omega)
  intro n fs hI
  obtain ⟨i, e, zl0, Hx, rfl, hzl0, hat, rfl, hi, hp⟩ := hI
  refine fx_at hat fun e => ?_
  refine fx_sub (List.sublist_append_right _ _) ?_
  refine fx_sr (fl_bin rfl rfl (b_lss _ _ _) (fl_nil ?_))
  refine fx_cseq ?_
  refine fx_condB rfl (fun hc18 => ?_) (fun hc18 => ?_)
  ·skip
   have hp18 := dec_iff.1 hc18
   refine fx_kseq ?_
   refine fx_seq (fx_block ?_)
   refine fx_sr (fl_mv rfl ?_)
   obtain ⟨a20, ha20⟩ := at_lt (l := l) (i := i) (by omega)
   refine fl_iadS rfl rfl hx i rfl a20 ha20 fun b20 p20 cs20 at20 hR20 => ?_
   obtain ⟨c20_0, c20_1, c20_2, c20_3, rfl, h20_0, h20_1, h20_2, h20_3⟩ := hR20
   refine fl_ldA (v := .agg [.v (.bool a20.frm.n), c20_0, .v (.bool a20.frm.d), c20_1, .v (.bool a20.rate.n), c20_2, .v (.bool a20.rate.d), c20_3]) (off := 0) rfl (at20.mono (hzl0)) rfl (len1 rfl) rfl ?_
   refine fl_alloc fun b8 => ?_
   refine fl_mv rfl ?_
   refine fl_stE (cs' := [.v (.bool a20.frm.n), c20_0, .v (.bool a20.frm.d), c20_1, .v (.bool a20.rate.n), c20_2, .v (.bool a20.rate.d), c20_3]) rfl rfl rfl rep0 rfl rfl (len1 rfl) ?_
   refine fl_nil (fx_sr (fl_mv rfl (fl_mv rfl ?_)))
   obtain ⟨a24, ha24⟩ := at_lt (l := r) (i := i) (by omega)
   refine fl_iadS rfl rfl hy i rfl a24 ha24 fun b24 p24 cs24 at24 hR24 => ?_
   obtain ⟨c24_0, c24_1, c24_2, c24_3, rfl, h24_0, h24_1, h24_2, h24_3⟩ := hR24
   refine fl_ldA (v := .agg [.v (.bool a24.frm.n), c24_0, .v (.bool a24.frm.d), c24_1, .v (.bool a24.rate.n), c24_2, .v (.bool a24.rate.d), c24_3]) (off := 0) rfl (at24.mono (hzl0)) rfl (len1 rfl) rfl ?_
   refine fl_alloc fun b9 => ?_
   refine fl_stE (cs' := [.v (.bool a24.frm.n), c24_0, .v (.bool a24.frm.d), c24_1, .v (.bool a24.rate.n), c24_2, .v (.bool a24.rate.d), c24_3]) rfl rfl rfl rep0 rfl rfl (len1 rfl) ?_
   refine fl_nil (fx_sr (fl_mv rfl ?_))
   refine fl_ld (v := .agg [.v (.bool a20.frm.n), c20_0, .v (.bool a20.frm.d), c20_1, .v (.bool a20.rate.n), c20_2, .v (.bool a20.rate.d), c20_3]) rfl (memS mem0) (len1 rfl) rfl ?_
   refine fl_ld (v := .agg [.v (.bool a24.frm.n), c24_0, .v (.bool a24.frm.d), c24_1, .v (.bool a24.rate.n), c24_2, .v (.bool a24.rate.d), c24_3]) rfl mem0 (len1 rfl) rfl ?_
   refine fl_callv rfl rfl (eq_bracket (by omega) ⟨_, rfl, mk_bracket (h20_0.mono (hzl0)) (h20_1.mono (hzl0)) (h20_2.mono (hzl0)) (h20_3.mono (hzl0))⟩ ⟨_, rfl, mk_bracket (h24_0.mono (hzl0)) (h24_1.mono (hzl0)) (h24_2.mono (hzl0)) (h24_3.mono (hzl0))⟩) fun v29 z29 hz29 ⟨r29, hv29, hr29⟩ => ?_
   subst hv29
   refine fl_un rfl (u_not _) ?_
   refine fl_nil ?_
   refine fx_condB rfl (fun hc30 => ?_) (fun hc30 => ?_)
   ·skip
    have hp30 := (not_iffB hr29).1 hc30
    refine fx_sr (fl_mv rfl (fl_nil ?_))
    refine fx_ret ?_
    refine sq_r ?_
    refine lq_r ?_
    refine sq_r ?_
    refine ret_q (.inl rfl) (rt rfl rn) ?_
    exact ⟨false, rfl, ⟨fun h => (by cases h), fun h => absurd h (ne_at ha20 ha24 hp30)⟩⟩
   ·skip
    have hp30 := bn_iff (not_iffB hr29) hc30
    refine fx_skip ?_
    refine sq_n ?_
    refine fx_region ?_
    refine fl_bin rfl rfl (b_add' (r := ((i + 1 : Nat) : Int)) (wi64 (by omega))) ?_
    refine fl_mv rfl (fl_nil ?_)
    exact lq_n (by omega) ⟨i + 1, _, _, [_, _], rfl, hzl0.trans hz29, (atc rfl (atc rfl (atc rfl (atc rfl (atc rfl (atc rfl atn)))))), rfl, by omega, fun j hj => eq_step hp ha20 ha24 (Classical.not_not.1 hp30) hj⟩
  ·skip
   have hp18 := bn_iff dec_iff hc18
   refine fx_eseq ?_
   refine lq_e ?_
   refine sq_n ?_
   refine fx_sr (fl_mv rfl (fl_nil ?_))
   refine fx_ret ?_
   refine ret_q (.inl rfl) (rt rfl rn) ?_
   exact ⟨true, rfl, ⟨fun _ => eq_end (by omega) hp (by omega), fun _ => rfl⟩⟩
theorem eqs_class {k : Nat} (hk : 5 ≤ k) {z : Mem} {u v : AV} {l r : List PClass} (hx : SZ 6 RClass z u l) (hy : SZ 6 RClass z v r) : FC (E k) 41 [u, v, .c (.fn 42 [] [])] z (EqP l r) := by
 have hxl := hx.le
 have hyl := hy.le
 refine fc_of (tS_get41) (by omega) (len1 rfl) fun B j hj => ?_
 refine fx_sr (fl_mv rfl (fl_nil (fx_ss (fx_sr (fl_mv rfl (fl_lenS rfl hx (fl_mv rfl (fl_lenS rfl hy (fl_bin rfl rfl (b_neq _ _ _) ?_)))))))))
 refine fl_nil ?_
 refine fx_cseq ?_
 refine fx_condB rfl (fun hc14 => ?_) (fun hc14 => ?_)
 ·skip
  have hp14 := dec_not.1 hc14
  refine fx_ss (fx_sr (fl_mv rfl (fl_nil ?_)))
  refine fx_rseq ?_
  refine ret_q (.inl rfl) (rt rfl rn) ?_
  exact ⟨false, rfl, ⟨fun h => (by cases h), fun h => by subst h; omega⟩⟩
 ·skip
  have hp14 := bn_iff dec_not hc14
  refine fx_kseq (fx_ss (fx_sr (fl_mv rfl (fl_lenS rfl hx (fl_mv rfl (fl_nil ?_))))))
  refine fx_seq (fx_block ?_)
  refine fx_loop (fun n fs => ∃ (i : Nat) (e : Env) (zz : Mem) (Hx : List HA), fs = ⟨e, zz, Hx ++ []⟩ ∧ zle z zz ∧ AtL e [(0, u), (1, v), (2, .c (.fn 42 [] [])), (15, u), (16, .c (.v (.int .i64 (l.length : Int)))), (17, .c (.v (.int .i64 (i : Int))))] ∧ n = l.length - i ∧ i ≤ l.length ∧ ∀ j, j < i → l[j]? = r[j]?) ?_ _ ⟨0, _, _, [], rfl, zle.refl _, (atc rfl (atc rfl (atc rfl (atc rfl (atc rfl (atc rfl atn)))))), rfl, Nat.zero_le _, fun j hj => absurd hj (Nat.not_lt_zero _)⟩ (by show _ < 18446744073709551616; omega)
  intro n fs hI
  obtain ⟨i, e, zl0, Hx, rfl, hzl0, hat, rfl, hi, hp⟩ := hI
  refine fx_at hat fun e => ?_
  refine fx_sub (List.sublist_append_right _ _) ?_
  refine fx_sr (fl_bin rfl rfl (b_lss _ _ _) (fl_nil ?_))
  refine fx_cseq ?_
  refine fx_condB rfl (fun hc18 => ?_) (fun hc18 => ?_)
  ·skip
   have hp18 := dec_iff.1 hc18
   refine fx_kseq ?_
   refine fx_seq (fx_block ?_)
   refine fx_sr (fl_mv rfl ?_)
   obtain ⟨a20, ha20⟩ := at_lt (l := l) (i := i) (by omega)
   refine fl_iadS rfl rfl hx i rfl a20 ha20 fun b20 p20 cs20 at20 hR20 => ?_
   obtain ⟨c20_0, c20_1, rfl, h20_0, h20_1⟩ := hR20
   refine fl_ldA (v := .agg [.v (.string a20.name), .v (.int .u8 a20.kind), .v (.bool a20.arg.n), c20_0, .v (.bool a20.arg.d), c20_1]) (off := 0) rfl (at20.mono (hzl0)) rfl (len1 rfl) rfl ?_
   refine fl_alloc fun b8 => ?_
   refine fl_mv rfl ?_
   refine fl_stE (cs' := [.v (.string a20.name), .v (.int .u8 a20.kind), .v (.bool a20.arg.n), c20_0, .v (.bool a20.arg.d), c20_1]) rfl rfl rfl rep0 rfl rfl (len1 rfl) ?_
   refine fl_nil (fx_sr (fl_mv rfl (fl_mv rfl ?_)))
   obtain ⟨a24, ha24⟩ := at_lt (l := r) (i := i) (by omega)
   refine fl_iadS rfl rfl hy i rfl a24 ha24 fun b24 p24 cs24 at24 hR24 => ?_
   obtain ⟨c24_0, c24_1, rfl, h24_0, h24_1⟩ := hR24
   refine fl_ldA (v := .agg [.v (.string a24.name), .v (.int .u8 a24.kind), .v (.bool a24.arg.n), c24_0, .v (.bool a24.arg.d), c24_1]) (off := 0) rfl (at24.mono (hzl0)) rfl (len1 rfl) rfl ?_
   refine fl_alloc fun b9 => ?_
   refine fl_stE (cs' := [.v (.string a24.name), .v (.int .u8 a24.kind), .v (.bool a24.arg.n), c24_0, .v (.bool a24.arg.d), c24_1]) rfl rfl rfl rep0 rfl rfl (len1 rfl) ?_
   refine fl_nil (fx_sr (fl_mv rfl ?_))
   refine fl_ld (v := .agg [.v (.string a20.name), .v (.int .u8 a20.kind), .v (.bool a20.arg.n), c20_0, .v (.bool a20.arg.d), c20_1]) rfl (memS mem0) (len1 rfl) rfl ?_
   refine fl_ld (v := .agg [.v (.string a24.name), .v (.int .u8 a24.kind), .v (.bool a24.arg.n), c24_0, .v (.bool a24.arg.d), c24_1]) rfl mem0 (len1 rfl) rfl ?_
   refine fl_callv rfl rfl (eq_class (by omega) ⟨_, rfl, mk_class (h20_0.mono (hzl0)) (h20_1.mono (hzl0))⟩ ⟨_, rfl, mk_class (h24_0.mono (hzl0)) (h24_1.mono (hzl0))⟩) fun v29 z29 hz29 ⟨r29, hv29, hr29⟩ => ?_
   subst hv29
   refine fl_un rfl (u_not _) ?_
   refine fl_nil ?_
   refine fx_condB rfl (fun hc30 => ?_) (fun hc30 => ?_)
   ·skip
    have hp30 := (not_iffB hr29).1 hc30
    refine fx_sr (fl_mv rfl (fl_nil ?_))
    refine fx_ret ?_
    refine sq_r ?_
    refine lq_r ?_
    refine sq_r ?_
    refine ret_q (.inl rfl) (rt rfl rn) ?_
    exact ⟨false, rfl, ⟨fun h => (by cases h), fun h => absurd h (ne_at ha20 ha24 hp30)⟩⟩
   ·skip
    have hp30 := bn_iff (not_iffB hr29) hc30
    refine fx_skip ?_
    refine sq_n ?_
    refine fx_region ?_
    refine fl_bin rfl rfl (b_add' (r := ((i + 1 : Nat) : Int)) (wi64 (by omega))) ?_
    refine fl_mv rfl (fl_nil ?_)
    exact lq_n (by omega) ⟨i + 1, _, _, [_, _], rfl, hzl0.trans hz29, (atc rfl (atc rfl (atc rfl (atc rfl (atc rfl (atc rfl atn)))))), rfl, by omega, fun j hj => eq_step hp ha20 ha24 (Classical.not_not.1 hp30) hj⟩
  ·skip
   have hp18 := bn_iff dec_iff hc18
   refine fx_eseq ?_
   refine lq_e ?_
   refine sq_n ?_
   refine fx_sr (fl_mv rfl (fl_nil ?_))
   refine fx_ret ?_
   refine ret_q (.inl rfl) (rt rfl rn) ?_
   exact ⟨true, rfl, ⟨fun _ => eq_end (by omega) hp (by omega), fun _ => rfl⟩⟩
theorem eqs_hold {k : Nat} (hk : 5 ≤ k) {z : Mem} {u v : AV} {l r : List PHold} (hx : SZ 6 RHold z u l) (hy : SZ 6 RHold z v r) : FC (E k) 98 [u, v, .c (.fn 99 [] [])] z (EqP l r) := by
 have hxl := hx.le
 have hyl := hy.le
 refine fc_of (tS_get98) (by omega) (len1 rfl) fun B j hj => ?_
 refine fx_sr (fl_mv rfl (fl_nil (fx_ss (fx_sr (fl_mv rfl (fl_lenS rfl hx (fl_mv rfl (fl_lenS rfl hy (fl_bin rfl rfl (b_neq _ _ _) ?_)))))))))
 refine fl_nil ?_
 refine fx_cseq ?_
 refine fx_condB rfl (fun hc14 => ?_) (fun hc14 => ?_)
 ·skip
  have hp14 := dec_not.1 hc14
  refine fx_ss (fx_sr (fl_mv rfl (fl_nil ?_)))
  refine fx_rseq ?_
  refine ret_q (.inl rfl) (rt rfl rn) ?_
  exact ⟨false, rfl, ⟨fun h => (by cases h), fun h => by subst h; omega⟩⟩
 ·skip
  have hp14 := bn_iff dec_not hc14
  refine fx_kseq (fx_ss (fx_sr (fl_mv rfl (fl_lenS rfl hx (fl_mv rfl (fl_nil ?_))))))
  refine fx_seq (fx_block ?_)
  refine fx_loop (fun n fs => ∃ (i : Nat) (e : Env) (zz : Mem) (Hx : List HA), fs = ⟨e, zz, Hx ++ []⟩ ∧ zle z zz ∧ AtL e [(0, u), (1, v), (2, .c (.fn 99 [] [])), (15, u), (16, .c (.v (.int .i64 (l.length : Int)))), (17, .c (.v (.int .i64 (i : Int))))] ∧ n = l.length - i ∧ i ≤ l.length ∧ ∀ j, j < i → l[j]? = r[j]?) ?_ _ ⟨0, _, _, [], rfl, zle.refl _, (atc rfl (atc rfl (atc rfl (atc rfl (atc rfl (atc rfl atn)))))), rfl, Nat.zero_le _, fun j hj => absurd hj (Nat.not_lt_zero _)⟩ (by show _ < 18446744073709551616; omega)
  intro n fs hI
  obtain ⟨i, e, zl0, Hx, rfl, hzl0, hat, rfl, hi, hp⟩ := hI
  refine fx_at hat fun e => ?_
  refine fx_sub (List.sublist_append_right _ _) ?_
  refine fx_sr (fl_bin rfl rfl (b_lss _ _ _) (fl_nil ?_))
  refine fx_cseq ?_
  refine fx_condB rfl (fun hc18 => ?_) (fun hc18 => ?_)
  ·skip
   have hp18 := dec_iff.1 hc18
   refine fx_kseq ?_
   refine fx_seq (fx_block ?_)
   refine fx_sr (fl_mv rfl ?_)
   obtain ⟨a20, ha20⟩ := at_lt (l := l) (i := i) (by omega)
   refine fl_iadS rfl rfl hx i rfl a20 ha20 fun b20 p20 cs20 at20 hR20 => ?_
   obtain ⟨c20_0, c20_1, rfl, h20_0, h20_1⟩ := hR20
   refine fl_ldA (v := .agg [.v (.string a20.owner), .v (.string a20.owned), .v (.bool a20.share.n), c20_0, .v (.bool a20.share.d), c20_1]) (off := 0) rfl (at20.mono (hzl0)) rfl (len1 rfl) rfl ?_
   refine fl_alloc fun b8 => ?_
   refine fl_mv rfl ?_
   refine fl_stE (cs' := [.v (.string a20.owner), .v (.string a20.owned), .v (.bool a20.share.n), c20_0, .v (.bool a20.share.d), c20_1]) rfl rfl rfl rep0 rfl rfl (len1 rfl) ?_
   refine fl_nil (fx_sr (fl_mv rfl (fl_mv rfl ?_)))
   obtain ⟨a24, ha24⟩ := at_lt (l := r) (i := i) (by omega)
   refine fl_iadS rfl rfl hy i rfl a24 ha24 fun b24 p24 cs24 at24 hR24 => ?_
   obtain ⟨c24_0, c24_1, rfl, h24_0, h24_1⟩ := hR24
   refine fl_ldA (v := .agg [.v (.string a24.owner), .v (.string a24.owned), .v (.bool a24.share.n), c24_0, .v (.bool a24.share.d), c24_1]) (off := 0) rfl (at24.mono (hzl0)) rfl (len1 rfl) rfl ?_
   refine fl_alloc fun b9 => ?_
   refine fl_stE (cs' := [.v (.string a24.owner), .v (.string a24.owned), .v (.bool a24.share.n), c24_0, .v (.bool a24.share.d), c24_1]) rfl rfl rfl rep0 rfl rfl (len1 rfl) ?_
   refine fl_nil (fx_sr (fl_mv rfl ?_))
   refine fl_ld (v := .agg [.v (.string a20.owner), .v (.string a20.owned), .v (.bool a20.share.n), c20_0, .v (.bool a20.share.d), c20_1]) rfl (memS mem0) (len1 rfl) rfl ?_
   refine fl_ld (v := .agg [.v (.string a24.owner), .v (.string a24.owned), .v (.bool a24.share.n), c24_0, .v (.bool a24.share.d), c24_1]) rfl mem0 (len1 rfl) rfl ?_
   refine fl_callv rfl rfl (eq_hold (by omega) ⟨_, rfl, mk_hold (h20_0.mono (hzl0)) (h20_1.mono (hzl0))⟩ ⟨_, rfl, mk_hold (h24_0.mono (hzl0)) (h24_1.mono (hzl0))⟩) fun v29 z29 hz29 ⟨r29, hv29, hr29⟩ => ?_
   subst hv29
   refine fl_un rfl (u_not _) ?_
   refine fl_nil ?_
   refine fx_condB rfl (fun hc30 => ?_) (fun hc30 => ?_)
   ·skip
    have hp30 := (not_iffB hr29).1 hc30
    refine fx_sr (fl_mv rfl (fl_nil ?_))
    refine fx_ret ?_
    refine sq_r ?_
    refine lq_r ?_
    refine sq_r ?_
    refine ret_q (.inl rfl) (rt rfl rn) ?_
    exact ⟨false, rfl, ⟨fun h => (by cases h), fun h => absurd h (ne_at ha20 ha24 hp30)⟩⟩
   ·skip
    have hp30 := bn_iff (not_iffB hr29) hc30
    refine fx_skip ?_
    refine sq_n ?_
    refine fx_region ?_
    refine fl_bin rfl rfl (b_add' (r := ((i + 1 : Nat) : Int)) (wi64 (by omega))) ?_
    refine fl_mv rfl (fl_nil ?_)
    exact lq_n (by omega) ⟨i + 1, _, _, [_, _], rfl, hzl0.trans hz29, (atc rfl (atc rfl (atc rfl (atc rfl (atc rfl (atc rfl atn)))))), rfl, by omega, fun j hj => eq_step hp ha20 ha24 (Classical.not_not.1 hp30) hj⟩
  ·skip
   have hp18 := bn_iff dec_iff hc18
   refine fx_eseq ?_
   refine lq_e ?_
   refine sq_n ?_
   refine fx_sr (fl_mv rfl (fl_nil ?_))
   refine fx_ret ?_
   refine ret_q (.inl rfl) (rt rfl rn) ?_
   exact ⟨true, rfl, ⟨fun _ => eq_end (by omega) hp (by omega), fun _ => rfl⟩⟩
theorem eqs_book {k : Nat} (hk : 5 ≤ k) {z : Mem} {u v : AV} {l r : List PBook} (hx : SZ 6 RBook z u l) (hy : SZ 6 RBook z v r) : FC (E k) 100 [u, v, .c (.fn 101 [] [])] z (EqP l r) := by
 have hxl := hx.le
 have hyl := hy.le
 refine fc_of (tS_get100) (by omega) (len1 rfl) fun B j hj => ?_
 refine fx_sr (fl_mv rfl (fl_nil (fx_ss (fx_sr (fl_mv rfl (fl_lenS rfl hx (fl_mv rfl (fl_lenS rfl hy (fl_bin rfl rfl (b_neq _ _ _) ?_)))))))))
 refine fl_nil ?_
 refine fx_cseq ?_
 refine fx_condB rfl (fun hc14 => ?_) (fun hc14 => ?_)
 ·skip
  have hp14 := dec_not.1 hc14
  refine fx_ss (fx_sr (fl_mv rfl (fl_nil ?_)))
  refine fx_rseq ?_
  refine ret_q (.inl rfl) (rt rfl rn) ?_
  exact ⟨false, rfl, ⟨fun h => (by cases h), fun h => by subst h; omega⟩⟩
 ·skip
  have hp14 := bn_iff dec_not hc14
  refine fx_kseq (fx_ss (fx_sr (fl_mv rfl (fl_lenS rfl hx (fl_mv rfl (fl_nil ?_))))))
  refine fx_seq (fx_block ?_)
  refine fx_loop (fun n fs => ∃ (i : Nat) (e : Env) (zz : Mem) (Hx : List HA), fs = ⟨e, zz, Hx ++ []⟩ ∧ zle z zz ∧ AtL e [(0, u), (1, v), (2, .c (.fn 101 [] [])), (15, u), (16, .c (.v (.int .i64 (l.length : Int)))), (17, .c (.v (.int .i64 (i : Int))))] ∧ n = l.length - i ∧ i ≤ l.length ∧ ∀ j, j < i → l[j]? = r[j]?) ?_ _ ⟨0, _, _, [], rfl, zle.refl _, (atc rfl (atc rfl (atc rfl (atc rfl (atc rfl (atc rfl atn)))))), rfl, Nat.zero_le _, fun j hj => absurd hj (Nat.not_lt_zero _)⟩ (by show _ < 18446744073709551616; omega)
  intro n fs hI
  obtain ⟨i, e, zl0, Hx, rfl, hzl0, hat, rfl, hi, hp⟩ := hI
  refine fx_at hat fun e => ?_
  refine fx_sub (List.sublist_append_right _ _) ?_
  refine fx_sr (fl_bin rfl rfl (b_lss _ _ _) (fl_nil ?_))
  refine fx_cseq ?_
  refine fx_condB rfl (fun hc18 => ?_) (fun hc18 => ?_)
  ·skip
   have hp18 := dec_iff.1 hc18
   refine fx_kseq ?_
   refine fx_seq (fx_block ?_)
   refine fx_sr (fl_mv rfl ?_)
   obtain ⟨a20, ha20⟩ := at_lt (l := l) (i := i) (by omega)
   refine fl_iadS rfl rfl hx i rfl a20 ha20 fun b20 p20 cs20 at20 hR20 => ?_
   obtain ⟨c20_0, c20_1, rfl, h20_0, h20_1⟩ := hR20
   refine fl_ldA (v := .agg [.v (.string a20.entity), .v (.string a20.cls), .v (.bool a20.amount.n), c20_0, .v (.bool a20.amount.d), c20_1]) (off := 0) rfl (at20.mono (hzl0)) rfl (len1 rfl) rfl ?_
   refine fl_alloc fun b8 => ?_
   refine fl_mv rfl ?_
   refine fl_stE (cs' := [.v (.string a20.entity), .v (.string a20.cls), .v (.bool a20.amount.n), c20_0, .v (.bool a20.amount.d), c20_1]) rfl rfl rfl rep0 rfl rfl (len1 rfl) ?_
   refine fl_nil (fx_sr (fl_mv rfl (fl_mv rfl ?_)))
   obtain ⟨a24, ha24⟩ := at_lt (l := r) (i := i) (by omega)
   refine fl_iadS rfl rfl hy i rfl a24 ha24 fun b24 p24 cs24 at24 hR24 => ?_
   obtain ⟨c24_0, c24_1, rfl, h24_0, h24_1⟩ := hR24
   refine fl_ldA (v := .agg [.v (.string a24.entity), .v (.string a24.cls), .v (.bool a24.amount.n), c24_0, .v (.bool a24.amount.d), c24_1]) (off := 0) rfl (at24.mono (hzl0)) rfl (len1 rfl) rfl ?_
   refine fl_alloc fun b9 => ?_
   refine fl_stE (cs' := [.v (.string a24.entity), .v (.string a24.cls), .v (.bool a24.amount.n), c24_0, .v (.bool a24.amount.d), c24_1]) rfl rfl rfl rep0 rfl rfl (len1 rfl) ?_
   refine fl_nil (fx_sr (fl_mv rfl ?_))
   refine fl_ld (v := .agg [.v (.string a20.entity), .v (.string a20.cls), .v (.bool a20.amount.n), c20_0, .v (.bool a20.amount.d), c20_1]) rfl (memS mem0) (len1 rfl) rfl ?_
   refine fl_ld (v := .agg [.v (.string a24.entity), .v (.string a24.cls), .v (.bool a24.amount.n), c24_0, .v (.bool a24.amount.d), c24_1]) rfl mem0 (len1 rfl) rfl ?_
   refine fl_callv rfl rfl (eq_book (by omega) ⟨_, rfl, mk_book (h20_0.mono (hzl0)) (h20_1.mono (hzl0))⟩ ⟨_, rfl, mk_book (h24_0.mono (hzl0)) (h24_1.mono (hzl0))⟩) fun v29 z29 hz29 ⟨r29, hv29, hr29⟩ => ?_
   subst hv29
   refine fl_un rfl (u_not _) ?_
   refine fl_nil ?_
   refine fx_condB rfl (fun hc30 => ?_) (fun hc30 => ?_)
   ·skip
    have hp30 := (not_iffB hr29).1 hc30
    refine fx_sr (fl_mv rfl (fl_nil ?_))
    refine fx_ret ?_
    refine sq_r ?_
    refine lq_r ?_
    refine sq_r ?_
    refine ret_q (.inl rfl) (rt rfl rn) ?_
    exact ⟨false, rfl, ⟨fun h => (by cases h), fun h => absurd h (ne_at ha20 ha24 hp30)⟩⟩
   ·skip
    have hp30 := bn_iff (not_iffB hr29) hc30
    refine fx_skip ?_
    refine sq_n ?_
    refine fx_region ?_
    refine fl_bin rfl rfl (b_add' (r := ((i + 1 : Nat) : Int)) (wi64 (by omega))) ?_
    refine fl_mv rfl (fl_nil ?_)
    exact lq_n (by omega) ⟨i + 1, _, _, [_, _], rfl, hzl0.trans hz29, (atc rfl (atc rfl (atc rfl (atc rfl (atc rfl (atc rfl atn)))))), rfl, by omega, fun j hj => eq_step hp ha20 ha24 (Classical.not_not.1 hp30) hj⟩
  ·skip
   have hp18 := bn_iff dec_iff hc18
   refine fx_eseq ?_
   refine lq_e ?_
   refine sq_n ?_
   refine fx_sr (fl_mv rfl (fl_nil ?_))
   refine fx_ret ?_
   refine ret_q (.inl rfl) (rt rfl rn) ?_
   exact ⟨true, rfl, ⟨fun _ => eq_end (by omega) hp (by omega), fun _ => rfl⟩⟩
theorem eqs_deal {k : Nat} (hk : 5 ≤ k) {z : Mem} {u v : AV} {l r : List PDeal} (hx : SZ 10 RDeal z u l) (hy : SZ 10 RDeal z v r) : FC (E k) 102 [u, v, .c (.fn 103 [] [])] z (EqP l r) := by
 have hxl := hx.le
 have hyl := hy.le
 refine fc_of (tS_get102) (by omega) (len1 rfl) fun B j hj => ?_
 refine fx_sr (fl_mv rfl (fl_nil (fx_ss (fx_sr (fl_mv rfl (fl_lenS rfl hx (fl_mv rfl (fl_lenS rfl hy (fl_bin rfl rfl (b_neq _ _ _) ?_)))))))))
 refine fl_nil ?_
 refine fx_cseq ?_
 refine fx_condB rfl (fun hc14 => ?_) (fun hc14 => ?_)
 ·skip
  have hp14 := dec_not.1 hc14
  refine fx_ss (fx_sr (fl_mv rfl (fl_nil ?_)))
  refine fx_rseq ?_
  refine ret_q (.inl rfl) (rt rfl rn) ?_
  exact ⟨false, rfl, ⟨fun h => (by cases h), fun h => by subst h; omega⟩⟩
 ·skip
  have hp14 := bn_iff dec_not hc14
  refine fx_kseq (fx_ss (fx_sr (fl_mv rfl (fl_lenS rfl hx (fl_mv rfl (fl_nil ?_))))))
  refine fx_seq (fx_block ?_)
  refine fx_loop (fun n fs => ∃ (i : Nat) (e : Env) (zz : Mem) (Hx : List HA), fs = ⟨e, zz, Hx ++ []⟩ ∧ zle z zz ∧ AtL e [(0, u), (1, v), (2, .c (.fn 103 [] [])), (15, u), (16, .c (.v (.int .i64 (l.length : Int)))), (17, .c (.v (.int .i64 (i : Int))))] ∧ n = l.length - i ∧ i ≤ l.length ∧ ∀ j, j < i → l[j]? = r[j]?) ?_ _ ⟨0, _, _, [], rfl, zle.refl _, (atc rfl (atc rfl (atc rfl (atc rfl (atc rfl (atc rfl atn)))))), rfl, Nat.zero_le _, fun j hj => absurd hj (Nat.not_lt_zero _)⟩ (by show _ < 18446744073709551616; omega)
  intro n fs hI
  obtain ⟨i, e, zl0, Hx, rfl, hzl0, hat, rfl, hi, hp⟩ := hI
  refine fx_at hat fun e => ?_
  refine fx_sub (List.sublist_append_right _ _) ?_
  refine fx_sr (fl_bin rfl rfl (b_lss _ _ _) (fl_nil ?_))
  refine fx_cseq ?_
  refine fx_condB rfl (fun hc18 => ?_) (fun hc18 => ?_)
  ·skip
   have hp18 := dec_iff.1 hc18
   refine fx_kseq ?_
   refine fx_seq (fx_block ?_)
   refine fx_sr (fl_mv rfl ?_)
   obtain ⟨a20, ha20⟩ := at_lt (l := l) (i := i) (by omega)
   refine fl_iadS rfl rfl hx i rfl a20 ha20 fun b20 p20 cs20 at20 hR20 => ?_
   obtain ⟨c20_0, c20_1, rfl, h20_0, h20_1⟩ := hR20
   refine fl_ldA (v := .agg [.v (.bool a20.give), .v (.string a20.id), .v (.int .u8 a20.kind), .v (.string a20.payee), .v (.string a20.payer), .v (.string a20.cls), .v (.bool a20.amount.n), c20_0, .v (.bool a20.amount.d), c20_1]) (off := 0) rfl (at20.mono (hzl0)) rfl (len1 rfl) rfl ?_
   refine fl_alloc fun b8 => ?_
   refine fl_mv rfl ?_
   refine fl_stE (cs' := [.v (.bool a20.give), .v (.string a20.id), .v (.int .u8 a20.kind), .v (.string a20.payee), .v (.string a20.payer), .v (.string a20.cls), .v (.bool a20.amount.n), c20_0, .v (.bool a20.amount.d), c20_1]) rfl rfl rfl rep0 rfl rfl (len1 rfl) ?_
   refine fl_nil (fx_sr (fl_mv rfl (fl_mv rfl ?_)))
   obtain ⟨a24, ha24⟩ := at_lt (l := r) (i := i) (by omega)
   refine fl_iadS rfl rfl hy i rfl a24 ha24 fun b24 p24 cs24 at24 hR24 => ?_
   obtain ⟨c24_0, c24_1, rfl, h24_0, h24_1⟩ := hR24
   refine fl_ldA (v := .agg [.v (.bool a24.give), .v (.string a24.id), .v (.int .u8 a24.kind), .v (.string a24.payee), .v (.string a24.payer), .v (.string a24.cls), .v (.bool a24.amount.n), c24_0, .v (.bool a24.amount.d), c24_1]) (off := 0) rfl (at24.mono (hzl0)) rfl (len1 rfl) rfl ?_
   refine fl_alloc fun b9 => ?_
   refine fl_stE (cs' := [.v (.bool a24.give), .v (.string a24.id), .v (.int .u8 a24.kind), .v (.string a24.payee), .v (.string a24.payer), .v (.string a24.cls), .v (.bool a24.amount.n), c24_0, .v (.bool a24.amount.d), c24_1]) rfl rfl rfl rep0 rfl rfl (len1 rfl) ?_
   refine fl_nil (fx_sr (fl_mv rfl ?_))
   refine fl_ld (v := .agg [.v (.bool a20.give), .v (.string a20.id), .v (.int .u8 a20.kind), .v (.string a20.payee), .v (.string a20.payer), .v (.string a20.cls), .v (.bool a20.amount.n), c20_0, .v (.bool a20.amount.d), c20_1]) rfl (memS mem0) (len1 rfl) rfl ?_
   refine fl_ld (v := .agg [.v (.bool a24.give), .v (.string a24.id), .v (.int .u8 a24.kind), .v (.string a24.payee), .v (.string a24.payer), .v (.string a24.cls), .v (.bool a24.amount.n), c24_0, .v (.bool a24.amount.d), c24_1]) rfl mem0 (len1 rfl) rfl ?_
   refine fl_callv rfl rfl (eq_deal (by omega) ⟨_, rfl, mk_deal (h20_0.mono (hzl0)) (h20_1.mono (hzl0))⟩ ⟨_, rfl, mk_deal (h24_0.mono (hzl0)) (h24_1.mono (hzl0))⟩) fun v29 z29 hz29 ⟨r29, hv29, hr29⟩ => ?_
   subst hv29
   refine fl_un rfl (u_not _) ?_
   refine fl_nil ?_
   refine fx_condB rfl (fun hc30 => ?_) (fun hc30 => ?_)
   ·skip
    have hp30 := (not_iffB hr29).1 hc30
    refine fx_sr (fl_mv rfl (fl_nil ?_))
    refine fx_ret ?_
    refine sq_r ?_
    refine lq_r ?_
    refine sq_r ?_
    refine ret_q (.inl rfl) (rt rfl rn) ?_
    exact ⟨false, rfl, ⟨fun h => (by cases h), fun h => absurd h (ne_at ha20 ha24 hp30)⟩⟩
   ·skip
    have hp30 := bn_iff (not_iffB hr29) hc30
    refine fx_skip ?_
    refine sq_n ?_
    refine fx_region ?_
    refine fl_bin rfl rfl (b_add' (r := ((i + 1 : Nat) : Int)) (wi64 (by omega))) ?_
    refine fl_mv rfl (fl_nil ?_)
    exact lq_n (by omega) ⟨i + 1, _, _, [_, _], rfl, hzl0.trans hz29, (atc rfl (atc rfl (atc rfl (atc rfl (atc rfl (atc rfl atn)))))), rfl, by omega, fun j hj => eq_step hp ha20 ha24 (Classical.not_not.1 hp30) hj⟩
  ·skip
   have hp18 := bn_iff dec_iff hc18
   refine fx_eseq ?_
   refine lq_e ?_
   refine sq_n ?_
   refine fx_sr (fl_mv rfl (fl_nil ?_))
   refine fx_ret ?_
   refine ret_q (.inl rfl) (rt rfl rn) ?_
   exact ⟨true, rfl, ⟨fun _ => eq_end (by omega) hp (by omega), fun _ => rfl⟩⟩
theorem eqs_stock {k : Nat} (hk : 5 ≤ k) {z : Mem} {u v : AV} {l r : List PStock} (hx : SZ 9 RStock z u l) (hy : SZ 9 RStock z v r) : FC (E k) 104 [u, v, .c (.fn 105 [] [])] z (EqP l r) := by
 have hxl := hx.le
 have hyl := hy.le
 refine fc_of (tS_get104) (by omega) (len1 rfl) fun B j hj => ?_
 refine fx_sr (fl_mv rfl (fl_nil (fx_ss (fx_sr (fl_mv rfl (fl_lenS rfl hx (fl_mv rfl (fl_lenS rfl hy (fl_bin rfl rfl (b_neq _ _ _) ?_)))))))))
 refine fl_nil ?_
 refine fx_cseq ?_
 refine fx_condB rfl (fun hc14 => ?_) (fun hc14 => ?_)
 ·skip
  have hp14 := dec_not.1 hc14
  refine fx_ss (fx_sr (fl_mv rfl (fl_nil ?_)))
  refine fx_rseq ?_
  refine ret_q (.inl rfl) (rt rfl rn) ?_
  exact ⟨false, rfl, ⟨fun h => (by cases h), fun h => by subst h; omega⟩⟩
 ·skip
  have hp14 := bn_iff dec_not hc14
  refine fx_kseq (fx_ss (fx_sr (fl_mv rfl (fl_lenS rfl hx (fl_mv rfl (fl_nil ?_))))))
  refine fx_seq (fx_block ?_)
  refine fx_loop (fun n fs => ∃ (i : Nat) (e : Env) (zz : Mem) (Hx : List HA), fs = ⟨e, zz, Hx ++ []⟩ ∧ zle z zz ∧ AtL e [(0, u), (1, v), (2, .c (.fn 105 [] [])), (15, u), (16, .c (.v (.int .i64 (l.length : Int)))), (17, .c (.v (.int .i64 (i : Int))))] ∧ n = l.length - i ∧ i ≤ l.length ∧ ∀ j, j < i → l[j]? = r[j]?) ?_ _ ⟨0, _, _, [], rfl, zle.refl _, (atc rfl (atc rfl (atc rfl (atc rfl (atc rfl (atc rfl atn)))))), rfl, Nat.zero_le _, fun j hj => absurd hj (Nat.not_lt_zero _)⟩ (by show _ < 18446744073709551616; omega)
  intro n fs hI
  obtain ⟨i, e, zl0, Hx, rfl, hzl0, hat, rfl, hi, hp⟩ := hI
  refine fx_at hat fun e => ?_
  refine fx_sub (List.sublist_append_right _ _) ?_
  refine fx_sr (fl_bin rfl rfl (b_lss _ _ _) (fl_nil ?_))
  refine fx_cseq ?_
  refine fx_condB rfl (fun hc18 => ?_) (fun hc18 => ?_)
  ·skip
   have hp18 := dec_iff.1 hc18
   refine fx_kseq ?_
   refine fx_seq (fx_block ?_)
   refine fx_sr (fl_mv rfl ?_)
   obtain ⟨a20, ha20⟩ := at_lt (l := l) (i := i) (by omega)
   refine fl_iadS rfl rfl hx i rfl a20 ha20 fun b20 p20 cs20 at20 hR20 => ?_
   obtain ⟨c20_0, c20_1, c20_2, c20_3, rfl, h20_0, h20_1, h20_2, h20_3⟩ := hR20
   refine fl_ldA (v := .agg [.v (.string a20.id), .v (.bool a20.margin.n), c20_0, .v (.bool a20.margin.d), c20_1, .v (.bool a20.unsold.n), c20_2, .v (.bool a20.unsold.d), c20_3]) (off := 0) rfl (at20.mono (hzl0)) rfl (len1 rfl) rfl ?_
   refine fl_alloc fun b8 => ?_
   refine fl_mv rfl ?_
   refine fl_stE (cs' := [.v (.string a20.id), .v (.bool a20.margin.n), c20_0, .v (.bool a20.margin.d), c20_1, .v (.bool a20.unsold.n), c20_2, .v (.bool a20.unsold.d), c20_3]) rfl rfl rfl rep0 rfl rfl (len1 rfl) ?_
   refine fl_nil (fx_sr (fl_mv rfl (fl_mv rfl ?_)))
   obtain ⟨a24, ha24⟩ := at_lt (l := r) (i := i) (by omega)
   refine fl_iadS rfl rfl hy i rfl a24 ha24 fun b24 p24 cs24 at24 hR24 => ?_
   obtain ⟨c24_0, c24_1, c24_2, c24_3, rfl, h24_0, h24_1, h24_2, h24_3⟩ := hR24
   refine fl_ldA (v := .agg [.v (.string a24.id), .v (.bool a24.margin.n), c24_0, .v (.bool a24.margin.d), c24_1, .v (.bool a24.unsold.n), c24_2, .v (.bool a24.unsold.d), c24_3]) (off := 0) rfl (at24.mono (hzl0)) rfl (len1 rfl) rfl ?_
   refine fl_alloc fun b9 => ?_
   refine fl_stE (cs' := [.v (.string a24.id), .v (.bool a24.margin.n), c24_0, .v (.bool a24.margin.d), c24_1, .v (.bool a24.unsold.n), c24_2, .v (.bool a24.unsold.d), c24_3]) rfl rfl rfl rep0 rfl rfl (len1 rfl) ?_
   refine fl_nil (fx_sr (fl_mv rfl ?_))
   refine fl_ld (v := .agg [.v (.string a20.id), .v (.bool a20.margin.n), c20_0, .v (.bool a20.margin.d), c20_1, .v (.bool a20.unsold.n), c20_2, .v (.bool a20.unsold.d), c20_3]) rfl (memS mem0) (len1 rfl) rfl ?_
   refine fl_ld (v := .agg [.v (.string a24.id), .v (.bool a24.margin.n), c24_0, .v (.bool a24.margin.d), c24_1, .v (.bool a24.unsold.n), c24_2, .v (.bool a24.unsold.d), c24_3]) rfl mem0 (len1 rfl) rfl ?_
   refine fl_callv rfl rfl (eq_stock (by omega) ⟨_, rfl, mk_stock (h20_0.mono (hzl0)) (h20_1.mono (hzl0)) (h20_2.mono (hzl0)) (h20_3.mono (hzl0))⟩ ⟨_, rfl, mk_stock (h24_0.mono (hzl0)) (h24_1.mono (hzl0)) (h24_2.mono (hzl0)) (h24_3.mono (hzl0))⟩) fun v29 z29 hz29 ⟨r29, hv29, hr29⟩ => ?_
   subst hv29
   refine fl_un rfl (u_not _) ?_
   refine fl_nil ?_
   refine fx_condB rfl (fun hc30 => ?_) (fun hc30 => ?_)
   ·skip
    have hp30 := (not_iffB hr29).1 hc30
    refine fx_sr (fl_mv rfl (fl_nil ?_))
    refine fx_ret ?_
    refine sq_r ?_
    refine lq_r ?_
    refine sq_r ?_
    refine ret_q (.inl rfl) (rt rfl rn) ?_
    exact ⟨false, rfl, ⟨fun h => (by cases h), fun h => absurd h (ne_at ha20 ha24 hp30)⟩⟩
   ·skip
    have hp30 := bn_iff (not_iffB hr29) hc30
    refine fx_skip ?_
    refine sq_n ?_
    refine fx_region ?_
    refine fl_bin rfl rfl (b_add' (r := ((i + 1 : Nat) : Int)) (wi64 (by omega))) ?_
    refine fl_mv rfl (fl_nil ?_)
    exact lq_n (by omega) ⟨i + 1, _, _, [_, _], rfl, hzl0.trans hz29, (atc rfl (atc rfl (atc rfl (atc rfl (atc rfl (atc rfl atn)))))), rfl, by omega, fun j hj => eq_step hp ha20 ha24 (Classical.not_not.1 hp30) hj⟩
  ·skip
   have hp18 := bn_iff dec_iff hc18
   refine fx_eseq ?_
   refine lq_e ?_
   refine sq_n ?_
   refine fx_sr (fl_mv rfl (fl_nil ?_))
   refine fx_ret ?_
   refine ret_q (.inl rfl) (rt rfl rn) ?_
   exact ⟨true, rfl, ⟨fun _ => eq_end (by omega) hp (by omega), fun _ => rfl⟩⟩
theorem eqs_sold {k : Nat} (hk : 5 ≤ k) {z : Mem} {u v : AV} {l r : List PSold} (hx : SZ 5 RSold z u l) (hy : SZ 5 RSold z v r) : FC (E k) 106 [u, v, .c (.fn 107 [] [])] z (EqP l r) := by
 have hxl := hx.le
 have hyl := hy.le
 refine fc_of (tS_get106) (by omega) (len1 rfl) fun B j hj => ?_
 refine fx_sr (fl_mv rfl (fl_nil (fx_ss (fx_sr (fl_mv rfl (fl_lenS rfl hx (fl_mv rfl (fl_lenS rfl hy (fl_bin rfl rfl (b_neq _ _ _) ?_)))))))))
 refine fl_nil ?_
 refine fx_cseq ?_
 refine fx_condB rfl (fun hc14 => ?_) (fun hc14 => ?_)
 ·skip
  have hp14 := dec_not.1 hc14
  refine fx_ss (fx_sr (fl_mv rfl (fl_nil ?_)))
  refine fx_rseq ?_
  refine ret_q (.inl rfl) (rt rfl rn) ?_
  exact ⟨false, rfl, ⟨fun h => (by cases h), fun h => by subst h; omega⟩⟩
 ·skip
  have hp14 := bn_iff dec_not hc14
  refine fx_kseq (fx_ss (fx_sr (fl_mv rfl (fl_lenS rfl hx (fl_mv rfl (fl_nil ?_))))))
  refine fx_seq (fx_block ?_)
  refine fx_loop (fun n fs => ∃ (i : Nat) (e : Env) (zz : Mem) (Hx : List HA), fs = ⟨e, zz, Hx ++ []⟩ ∧ zle z zz ∧ AtL e [(0, u), (1, v), (2, .c (.fn 107 [] [])), (15, u), (16, .c (.v (.int .i64 (l.length : Int)))), (17, .c (.v (.int .i64 (i : Int))))] ∧ n = l.length - i ∧ i ≤ l.length ∧ ∀ j, j < i → l[j]? = r[j]?) ?_ _ ⟨0, _, _, [], rfl, zle.refl _, (atc rfl (atc rfl (atc rfl (atc rfl (atc rfl (atc rfl atn)))))), rfl, Nat.zero_le _, fun j hj => absurd hj (Nat.not_lt_zero _)⟩ (by show _ < 18446744073709551616; omega)
  intro n fs hI
  obtain ⟨i, e, zl0, Hx, rfl, hzl0, hat, rfl, hi, hp⟩ := hI
  refine fx_at hat fun e => ?_
  refine fx_sub (List.sublist_append_right _ _) ?_
  refine fx_sr (fl_bin rfl rfl (b_lss _ _ _) (fl_nil ?_))
  refine fx_cseq ?_
  refine fx_condB rfl (fun hc18 => ?_) (fun hc18 => ?_)
  ·skip
   have hp18 := dec_iff.1 hc18
   refine fx_kseq ?_
   refine fx_seq (fx_block ?_)
   refine fx_sr (fl_mv rfl ?_)
   obtain ⟨a20, ha20⟩ := at_lt (l := l) (i := i) (by omega)
   refine fl_iadS rfl rfl hx i rfl a20 ha20 fun b20 p20 cs20 at20 hR20 => ?_
   obtain ⟨c20_0, c20_1, rfl, h20_0, h20_1⟩ := hR20
   refine fl_ldA (v := .agg [.v (.string a20.id), .v (.bool a20.share.n), c20_0, .v (.bool a20.share.d), c20_1]) (off := 0) rfl (at20.mono (hzl0)) rfl (len1 rfl) rfl ?_
   refine fl_alloc fun b8 => ?_
   refine fl_mv rfl ?_
   refine fl_stE (cs' := [.v (.string a20.id), .v (.bool a20.share.n), c20_0, .v (.bool a20.share.d), c20_1]) rfl rfl rfl rep0 rfl rfl (len1 rfl) ?_
   refine fl_nil (fx_sr (fl_mv rfl (fl_mv rfl ?_)))
   obtain ⟨a24, ha24⟩ := at_lt (l := r) (i := i) (by omega)
   refine fl_iadS rfl rfl hy i rfl a24 ha24 fun b24 p24 cs24 at24 hR24 => ?_
   obtain ⟨c24_0, c24_1, rfl, h24_0, h24_1⟩ := hR24
   refine fl_ldA (v := .agg [.v (.string a24.id), .v (.bool a24.share.n), c24_0, .v (.bool a24.share.d), c24_1]) (off := 0) rfl (at24.mono (hzl0)) rfl (len1 rfl) rfl ?_
   refine fl_alloc fun b9 => ?_
   refine fl_stE (cs' := [.v (.string a24.id), .v (.bool a24.share.n), c24_0, .v (.bool a24.share.d), c24_1]) rfl rfl rfl rep0 rfl rfl (len1 rfl) ?_
   refine fl_nil (fx_sr (fl_mv rfl ?_))
   refine fl_ld (v := .agg [.v (.string a20.id), .v (.bool a20.share.n), c20_0, .v (.bool a20.share.d), c20_1]) rfl (memS mem0) (len1 rfl) rfl ?_
   refine fl_ld (v := .agg [.v (.string a24.id), .v (.bool a24.share.n), c24_0, .v (.bool a24.share.d), c24_1]) rfl mem0 (len1 rfl) rfl ?_
   refine fl_callv rfl rfl (eq_sold (by omega) ⟨_, rfl, mk_sold (h20_0.mono (hzl0)) (h20_1.mono (hzl0))⟩ ⟨_, rfl, mk_sold (h24_0.mono (hzl0)) (h24_1.mono (hzl0))⟩) fun v29 z29 hz29 ⟨r29, hv29, hr29⟩ => ?_
   subst hv29
   refine fl_un rfl (u_not _) ?_
   refine fl_nil ?_
   refine fx_condB rfl (fun hc30 => ?_) (fun hc30 => ?_)
   ·skip
    have hp30 := (not_iffB hr29).1 hc30
    refine fx_sr (fl_mv rfl (fl_nil ?_))
    refine fx_ret ?_
    refine sq_r ?_
    refine lq_r ?_
    refine sq_r ?_
    refine ret_q (.inl rfl) (rt rfl rn) ?_
    exact ⟨false, rfl, ⟨fun h => (by cases h), fun h => absurd h (ne_at ha20 ha24 hp30)⟩⟩
   ·skip
    have hp30 := bn_iff (not_iffB hr29) hc30
    refine fx_skip ?_
    refine sq_n ?_
    refine fx_region ?_
    refine fl_bin rfl rfl (b_add' (r := ((i + 1 : Nat) : Int)) (wi64 (by omega))) ?_
    refine fl_mv rfl (fl_nil ?_)
    exact lq_n (by omega) ⟨i + 1, _, _, [_, _], rfl, hzl0.trans hz29, (atc rfl (atc rfl (atc rfl (atc rfl (atc rfl (atc rfl atn)))))), rfl, by omega, fun j hj => eq_step hp ha20 ha24 (Classical.not_not.1 hp30) hj⟩
  ·skip
   have hp18 := bn_iff dec_iff hc18
   refine fx_eseq ?_
   refine lq_e ?_
   refine sq_n ?_
   refine fx_sr (fl_mv rfl (fl_nil ?_))
   refine fx_ret ?_
   refine ret_q (.inl rfl) (rt rfl rn) ?_
   exact ⟨true, rfl, ⟨fun _ => eq_end (by omega) hp (by omega), fun _ => rfl⟩⟩
theorem eq_year {k : Nat} (hk : 6 ≤ k) {z : Mem} {u v : AV} {x y : PYear} (hx : AZ RYear z u x) (hy : AZ RYear z v y) : FC (E k) 45 [u, v] z (EqP x y) := by
 obtain ⟨_, rfl, cx_0, cx_1, cx_2, cx_3, cx_4, rfl, hx_0, hx_1, hx_2, hx_3, hx_4⟩ := hx
 obtain ⟨_, rfl, cy_0, cy_1, cy_2, cy_3, cy_4, rfl, hy_0, hy_1, hy_2, hy_3, hy_4⟩ := hy
 refine fc_of (tS_get45) (by omega) (len1 rfl) fun B j hj => ?_
 refine fx_sr ?_
 refine fl_box rfl rfl fun b2 => ?_
 refine fl_box rfl rfl fun b3 => ?_
 refine fl_mv rfl (fl_nil (fx_sr (fl_fad rfl ?_)))
 refine fl_ld (v := .c (.v (.int .i64 x.number))) rfl (memS mem0) (len1 rfl) rfl ?_
 refine fl_fad rfl ?_
 refine fl_ld (v := .c (.v (.int .i64 y.number))) rfl mem0 (len1 rfl) rfl ?_
 refine fl_bin rfl rfl (b_eql _ _ _) (fl_mv rfl ?_)
 refine fl_join 6 10 (fun r => [(2, .c (.ptr b2 0)), (3, .c (.ptr b3 0)), (16, .c (.v (.bool r)))]) ((x.number = y.number) ∧ (x.holds = y.holds)) rfl (fun hg => ?_) (fun hg => ?_) (fun e z16 r16 hz16 hr16 => ?_)
 ·skip
  refine fl_gd rfl (fl_fad rfl (fl_gd rfl ?_))
  refine fl_ld (v := .c (cx_0)) rfl (memS mem0) (len1 rfl) rfl ?_
  refine fl_gd rfl (fl_fad rfl (fl_gd rfl ?_))
  refine fl_ld (v := .c (cy_0)) rfl mem0 (len1 rfl) rfl ?_
  refine fl_gd rfl ?_
  refine fl_call rfl (eqs_hold (by omega) hx_0 hy_0) fun v15 z15 hz15 ⟨r15, hv15, hr15⟩ => ?_
  subst hv15
  refine fl_pick rfl rfl ?_
  exact fl_done r15 rfl (hz15) (atc rfl (atc rfl (atc rfl atn))) (join_t dec_iff hg hr15)
 ·skip
  refine fl_gx rfl (fl_gx rfl (fl_gx rfl (fl_gx rfl (fl_gx rfl (fl_pick rfl rfl ?_)))))
  exact fl_done false rfl (zle.refl _) (atc rfl (atc rfl (atc rfl atn))) (join_f dec_iff hg)
 refine fl_mv rfl ?_
 refine fl_join 6 17 (fun r => [(2, .c (.ptr b2 0)), (3, .c (.ptr b3 0)), (23, .c (.v (.bool r)))]) (((x.number = y.number) ∧ (x.holds = y.holds)) ∧ (x.books = y.books)) rfl (fun hg => ?_) (fun hg => ?_) (fun e z23 r23 hz23 hr23 => ?_)
 ·skip
  refine fl_gd rfl (fl_fad rfl (fl_gd rfl ?_))
  refine fl_ld (v := .c (cx_1)) rfl (memS mem0) (len1 rfl) rfl ?_
  refine fl_gd rfl (fl_fad rfl (fl_gd rfl ?_))
  refine fl_ld (v := .c (cy_1)) rfl mem0 (len1 rfl) rfl ?_
  refine fl_gd rfl ?_
  refine fl_call rfl (eqs_book (by omega) (hx_1.mono (hz16)) (hy_1.mono (hz16))) fun v22 z22 hz22 ⟨r22, hv22, hr22⟩ => ?_
  subst hv22
  refine fl_pick rfl rfl ?_
  exact fl_done r22 rfl (hz22) (atc rfl (atc rfl (atc rfl atn))) (join_t hr16 hg hr22)
 ·skip
  refine fl_gx rfl (fl_gx rfl (fl_gx rfl (fl_gx rfl (fl_gx rfl (fl_pick rfl rfl ?_)))))
  exact fl_done false rfl (zle.refl _) (atc rfl (atc rfl (atc rfl atn))) (join_f hr16 hg)
 refine fl_mv rfl ?_
 refine fl_join 6 24 (fun r => [(2, .c (.ptr b2 0)), (3, .c (.ptr b3 0)), (30, .c (.v (.bool r)))]) ((((x.number = y.number) ∧ (x.holds = y.holds)) ∧ (x.books = y.books)) ∧ (x.deals = y.deals)) rfl (fun hg => ?_) (fun hg => ?_) (fun e z30 r30 hz30 hr30 => ?_)
 ·skip
  refine fl_gd rfl (fl_fad rfl (fl_gd rfl ?_))
  refine fl_ld (v := .c (cx_2)) rfl (memS mem0) (len1 rfl) rfl ?_
  refine fl_gd rfl (fl_fad rfl (fl_gd rfl ?_))
  refine fl_ld (v := .c (cy_2)) rfl mem0 (len1 rfl) rfl ?_
  refine fl_gd rfl ?_
  refine fl_call rfl (eqs_deal (by omega) (hx_2.mono (hz16.trans hz23)) (hy_2.mono (hz16.trans hz23))) fun v29 z29 hz29 ⟨r29, hv29, hr29⟩ => ?_
  subst hv29
  refine fl_pick rfl rfl ?_
  exact fl_done r29 rfl (hz29) (atc rfl (atc rfl (atc rfl atn))) (join_t hr23 hg hr29)
 ·skip
  refine fl_gx rfl (fl_gx rfl (fl_gx rfl (fl_gx rfl (fl_gx rfl (fl_pick rfl rfl ?_)))))
  exact fl_done false rfl (zle.refl _) (atc rfl (atc rfl (atc rfl atn))) (join_f hr23 hg)
 refine fl_mv rfl ?_
 refine fl_join 6 31 (fun r => [(2, .c (.ptr b2 0)), (3, .c (.ptr b3 0)), (37, .c (.v (.bool r)))]) (((((x.number = y.number) ∧ (x.holds = y.holds)) ∧ (x.books = y.books)) ∧ (x.deals = y.deals)) ∧ (x.stocks = y.stocks)) rfl (fun hg => ?_) (fun hg => ?_) (fun e z37 r37 hz37 hr37 => ?_)
 ·skip
  refine fl_gd rfl (fl_fad rfl (fl_gd rfl ?_))
  refine fl_ld (v := .c (cx_3)) rfl (memS mem0) (len1 rfl) rfl ?_
  refine fl_gd rfl (fl_fad rfl (fl_gd rfl ?_))
  refine fl_ld (v := .c (cy_3)) rfl mem0 (len1 rfl) rfl ?_
  refine fl_gd rfl ?_
  refine fl_call rfl (eqs_stock (by omega) (hx_3.mono (hz16.trans (hz23.trans hz30))) (hy_3.mono (hz16.trans (hz23.trans hz30)))) fun v36 z36 hz36 ⟨r36, hv36, hr36⟩ => ?_
  subst hv36
  refine fl_pick rfl rfl ?_
  exact fl_done r36 rfl (hz36) (atc rfl (atc rfl (atc rfl atn))) (join_t hr30 hg hr36)
 ·skip
  refine fl_gx rfl (fl_gx rfl (fl_gx rfl (fl_gx rfl (fl_gx rfl (fl_pick rfl rfl ?_)))))
  exact fl_done false rfl (zle.refl _) (atc rfl (atc rfl (atc rfl atn))) (join_f hr30 hg)
 refine fl_mv rfl ?_
 refine fl_join 6 38 (fun r => [(44, .c (.v (.bool r)))]) ((((((x.number = y.number) ∧ (x.holds = y.holds)) ∧ (x.books = y.books)) ∧ (x.deals = y.deals)) ∧ (x.stocks = y.stocks)) ∧ (x.solds = y.solds)) rfl (fun hg => ?_) (fun hg => ?_) (fun e z44 r44 hz44 hr44 => ?_)
 ·skip
  refine fl_gd rfl (fl_fad rfl (fl_gd rfl ?_))
  refine fl_ld (v := .c (cx_4)) rfl (memS mem0) (len1 rfl) rfl ?_
  refine fl_gd rfl (fl_fad rfl (fl_gd rfl ?_))
  refine fl_ld (v := .c (cy_4)) rfl mem0 (len1 rfl) rfl ?_
  refine fl_gd rfl ?_
  refine fl_call rfl (eqs_sold (by omega) (hx_4.mono (hz16.trans (hz23.trans (hz30.trans hz37)))) (hy_4.mono (hz16.trans (hz23.trans (hz30.trans hz37))))) fun v43 z43 hz43 ⟨r43, hv43, hr43⟩ => ?_
  subst hv43
  refine fl_pick rfl rfl ?_
  exact fl_done r43 rfl (hz43) (atc rfl atn) (join_t hr37 hg hr43)
 ·skip
  refine fl_gx rfl (fl_gx rfl (fl_gx rfl (fl_gx rfl (fl_gx rfl (fl_pick rfl rfl ?_)))))
  exact fl_done false rfl (zle.refl _) (atc rfl atn) (join_f hr37 hg)
 refine fl_mv rfl (fl_nil ?_)
 refine fx_ret ?_
 refine ret_q (.inl rfl) (rt rfl rn) ?_
 refine ⟨r44, rfl, Iff.trans hr44 (Iff.trans ?_ PYear.ext_iff.symm)⟩
 first | exact Iff.rfl | (constructor <;> (intro h; simp_all))
theorem eqs_year {k : Nat} (hk : 7 ≤ k) {z : Mem} {u v : AV} {l r : List PYear} (hx : SZ 6 RYear z u l) (hy : SZ 6 RYear z v r) : FC (E k) 44 [u, v, .c (.fn 45 [] [])] z (EqP l r) := by
 have hxl := hx.le
 have hyl := hy.le
 refine fc_of (tS_get44) (by omega) (len1 rfl) fun B j hj => ?_
 refine fx_sr (fl_mv rfl (fl_nil (fx_ss (fx_sr (fl_mv rfl (fl_lenS rfl hx (fl_mv rfl (fl_lenS rfl hy (fl_bin rfl rfl (b_neq _ _ _) ?_)))))))))
 refine fl_nil ?_
 refine fx_cseq ?_
 refine fx_condB rfl (fun hc14 => ?_) (fun hc14 => ?_)
 ·skip
  have hp14 := dec_not.1 hc14
  refine fx_ss (fx_sr (fl_mv rfl (fl_nil ?_)))
  refine fx_rseq ?_
  refine ret_q (.inl rfl) (rt rfl rn) ?_
  exact ⟨false, rfl, ⟨fun h => (by cases h), fun h => by subst h; omega⟩⟩
 ·skip
  have hp14 := bn_iff dec_not hc14
  refine fx_kseq (fx_ss (fx_sr (fl_mv rfl (fl_lenS rfl hx (fl_mv rfl (fl_nil ?_))))))
  refine fx_seq (fx_block ?_)
  refine fx_loop (fun n fs => ∃ (i : Nat) (e : Env) (zz : Mem) (Hx : List HA), fs = ⟨e, zz, Hx ++ []⟩ ∧ zle z zz ∧ AtL e [(0, u), (1, v), (2, .c (.fn 45 [] [])), (15, u), (16, .c (.v (.int .i64 (l.length : Int)))), (17, .c (.v (.int .i64 (i : Int))))] ∧ n = l.length - i ∧ i ≤ l.length ∧ ∀ j, j < i → l[j]? = r[j]?) ?_ _ ⟨0, _, _, [], rfl, zle.refl _, (atc rfl (atc rfl (atc rfl (atc rfl (atc rfl (atc rfl atn)))))), rfl, Nat.zero_le _, fun j hj => absurd hj (Nat.not_lt_zero _)⟩ (by show _ < 18446744073709551616; omega)
  intro n fs hI
  obtain ⟨i, e, zl0, Hx, rfl, hzl0, hat, rfl, hi, hp⟩ := hI
  refine fx_at hat fun e => ?_
  refine fx_sub (List.sublist_append_right _ _) ?_
  refine fx_sr (fl_bin rfl rfl (b_lss _ _ _) (fl_nil ?_))
  refine fx_cseq ?_
  refine fx_condB rfl (fun hc18 => ?_) (fun hc18 => ?_)
  ·skip
   have hp18 := dec_iff.1 hc18
   refine fx_kseq ?_
   refine fx_seq (fx_block ?_)
   refine fx_sr (fl_mv rfl ?_)
   obtain ⟨a20, ha20⟩ := at_lt (l := l) (i := i) (by omega)
   refine fl_iadS rfl rfl hx i rfl a20 ha20 fun b20 p20 cs20 at20 hR20 => ?_
   obtain ⟨c20_0, c20_1, c20_2, c20_3, c20_4, rfl, h20_0, h20_1, h20_2, h20_3, h20_4⟩ := hR20
   refine fl_ldA (v := .agg [.v (.int .i64 a20.number), c20_0, c20_1, c20_2, c20_3, c20_4]) (off := 0) rfl (at20.mono (hzl0)) rfl (len1 rfl) rfl ?_
   refine fl_alloc fun b8 => ?_
   refine fl_mv rfl ?_
   refine fl_stE (cs' := [.v (.int .i64 a20.number), c20_0, c20_1, c20_2, c20_3, c20_4]) rfl rfl rfl rep0 rfl rfl (len1 rfl) ?_
   refine fl_nil (fx_sr (fl_mv rfl (fl_mv rfl ?_)))
   obtain ⟨a24, ha24⟩ := at_lt (l := r) (i := i) (by omega)
   refine fl_iadS rfl rfl hy i rfl a24 ha24 fun b24 p24 cs24 at24 hR24 => ?_
   obtain ⟨c24_0, c24_1, c24_2, c24_3, c24_4, rfl, h24_0, h24_1, h24_2, h24_3, h24_4⟩ := hR24
   refine fl_ldA (v := .agg [.v (.int .i64 a24.number), c24_0, c24_1, c24_2, c24_3, c24_4]) (off := 0) rfl (at24.mono (hzl0)) rfl (len1 rfl) rfl ?_
   refine fl_alloc fun b9 => ?_
   refine fl_stE (cs' := [.v (.int .i64 a24.number), c24_0, c24_1, c24_2, c24_3, c24_4]) rfl rfl rfl rep0 rfl rfl (len1 rfl) ?_
   refine fl_nil (fx_sr (fl_mv rfl ?_))
   refine fl_ld (v := .agg [.v (.int .i64 a20.number), c20_0, c20_1, c20_2, c20_3, c20_4]) rfl (memS mem0) (len1 rfl) rfl ?_
   refine fl_ld (v := .agg [.v (.int .i64 a24.number), c24_0, c24_1, c24_2, c24_3, c24_4]) rfl mem0 (len1 rfl) rfl ?_
   refine fl_callv rfl rfl (eq_year (by omega) ⟨_, rfl, mk_year (h20_0.mono (hzl0)) (h20_1.mono (hzl0)) (h20_2.mono (hzl0)) (h20_3.mono (hzl0)) (h20_4.mono (hzl0))⟩ ⟨_, rfl, mk_year (h24_0.mono (hzl0)) (h24_1.mono (hzl0)) (h24_2.mono (hzl0)) (h24_3.mono (hzl0)) (h24_4.mono (hzl0))⟩) fun v29 z29 hz29 ⟨r29, hv29, hr29⟩ => ?_
   subst hv29
   refine fl_un rfl (u_not _) ?_
   refine fl_nil ?_
   refine fx_condB rfl (fun hc30 => ?_) (fun hc30 => ?_)
   ·skip
    have hp30 := (not_iffB hr29).1 hc30
    refine fx_sr (fl_mv rfl (fl_nil ?_))
    refine fx_ret ?_
    refine sq_r ?_
    refine lq_r ?_
    refine sq_r ?_
    refine ret_q (.inl rfl) (rt rfl rn) ?_
    exact ⟨false, rfl, ⟨fun h => (by cases h), fun h => absurd h (ne_at ha20 ha24 hp30)⟩⟩
   ·skip
    have hp30 := bn_iff (not_iffB hr29) hc30
    refine fx_skip ?_
    refine sq_n ?_
    refine fx_region ?_
    refine fl_bin rfl rfl (b_add' (r := ((i + 1 : Nat) : Int)) (wi64 (by omega))) ?_
    refine fl_mv rfl (fl_nil ?_)
    exact lq_n (by omega) ⟨i + 1, _, _, [_, _], rfl, hzl0.trans hz29, (atc rfl (atc rfl (atc rfl (atc rfl (atc rfl (atc rfl atn)))))), rfl, by omega, fun j hj => eq_step hp ha20 ha24 (Classical.not_not.1 hp30) hj⟩
  ·skip
   have hp18 := bn_iff dec_iff hc18
   refine fx_eseq ?_
   refine lq_e ?_
   refine sq_n ?_
   refine fx_sr (fl_mv rfl (fl_nil ?_))
   refine fx_ret ?_
   refine ret_q (.inl rfl) (rt rfl rn) ?_
   exact ⟨true, rfl, ⟨fun _ => eq_end (by omega) hp (by omega), fun _ => rfl⟩⟩
open Go.CE Go.RowKit
theorem whole {k : Nat} (hk : 1 ≤ k) {z : Mem} {n1 n2 : Bool} {c1 c2 : C} {l1 l2 : List Int} (h1 : CZ 1 (RU .u32) z c1 l1) (h2 : CZ 1 (RU .u32) z c2 l2) : FC (E k) 95 [.agg [.v (.bool n1), c1], .agg [.v (.bool n2), c2]] z fun v _ => ∃ r : Bool, v = .c (.v (.bool r)) ∧ (r = true ↔ n1 = n2 ∧ l1 = l2) := by
 have hb1 := h1.le
 have hb2 := h2.le
 refine fc_of (tS_get95) (by omega) (len1 rfl) fun B j hj => ?_
 refine fx_sr ?_
 refine fl_box rfl rfl fun b2 => ?_
 refine fl_box rfl rfl fun b3 => ?_
 refine fl_mv rfl (fl_nil (fx_ss (fx_sr (fl_fad rfl ?_))))
 refine fl_ld (v := .c (.v (.bool n1))) rfl (memS mem0) (len1 rfl) rfl ?_
 refine fl_fad rfl ?_
 refine fl_ld (v := .c (.v (.bool n2))) rfl mem0 (len1 rfl) rfl ?_
 refine fl_binB rfl rfl (b_neqB _ _) ?_
 refine fl_mv rfl ?_
 refine fl_join 8 11 (fun r => [(2, .c (.ptr b2 0)), (3, .c (.ptr b3 0)), (19, .c (.v (.bool r)))]) ((¬ (n1 = n2)) ∨ (¬ ((l1.length : Int) = (l2.length : Int)))) rfl (fun hg => ?_) (fun hg => ?_) (fun e z19 r19 hz19 hr19 => ?_)
 ·skip
  refine fl_gx rfl (fl_gx rfl (fl_gx rfl (fl_gx rfl (fl_gx rfl (fl_gx rfl (fl_gx rfl (fl_pick rfl rfl ?_)))))))
  exact fl_done true rfl (zle.refl _) (atc rfl (atc rfl (atc rfl atn))) (join_ot dec_not hg)
 ·skip
  refine fl_gd rfl (fl_fad rfl (fl_gd rfl ?_))
  refine fl_ld (v := .c (c1)) rfl (memS mem0) (len1 rfl) rfl ?_
  refine fl_gd rfl (fl_lenS rfl h1 (fl_gd rfl (fl_fad rfl (fl_gd rfl ?_))))
  refine fl_ld (v := .c (c2)) rfl mem0 (len1 rfl) rfl ?_
  refine fl_gd rfl (fl_lenS rfl h2 (fl_gd rfl (fl_bin rfl rfl (b_neq _ _ _) (fl_pick rfl rfl ?_))))
  exact fl_done (!decide ((l1.length : Int) = (l2.length : Int))) rfl (zle.refl _) (atc rfl (atc rfl (atc rfl atn))) (join_of dec_not hg dec_not)
 refine fl_nil ?_
 refine fx_cseq ?_
 refine fx_condB rfl (fun hc19 => ?_) (fun hc19 => ?_)
 ·skip
  have hp19 := hr19.1 hc19
  refine fx_ss (fx_sr (fl_mv rfl (fl_nil ?_)))
  refine fx_rseq ?_
  refine ret_q (.inl rfl) (rt rfl rn) ?_
  exact ⟨false, rfl, ⟨fun h => (by cases h), fun h => by obtain ⟨h1, h2⟩ := h; subst h1 h2; simp at hp19⟩⟩
 ·skip
  have hp19 := bn_iff hr19 hc19
  simp only [not_or, Classical.not_not] at hp19
  refine fx_kseq (fx_ss (fx_sr (fl_mv rfl (fl_nil ?_))))
  refine fx_seq (fx_block ?_)
  refine fx_loop (fun n fs => ∃ (i0 : Nat) (e : Env) (zz : Mem) (Hx : List HA), fs = ⟨e, zz, Hx ++ [.blk b3 (.cells 36 [.v (.bool n2), c2]), .blk b2 (.cells 36 [.v (.bool n1), c1])]⟩ ∧ zle z19 zz ∧ AtL e [(2, .c (.ptr b2 0)), (3, .c (.ptr b3 0)), (5, .c (.v (.int .i64 (i0 : Int))))] ∧ n = l1.length - i0 ∧ i0 ≤ l1.length ∧ ∀ j, j < i0 → l1[j]? = l2[j]?) ?_ _ ⟨0, _, _, [], rfl, zle.refl _, (atc rfl (atc rfl (atc rfl atn))), rfl, Nat.zero_le _, fun j hj => absurd hj (Nat.not_lt_zero _)⟩ (by show _ < 18446744073709551616; omega)
  intro n fs hI
  obtain ⟨i0, e, zl0, Hx, rfl, hzl0, hat, rfl, hi0, hp_0⟩ := hI
  refine fx_at hat fun e => ?_
  refine fx_sub (List.sublist_append_right _ _) ?_
  refine fx_ss (fx_sr (fl_mv rfl (fl_fad rfl ?_)))
  refine fl_ld (v := .c (c1)) rfl (memS mem0) (len1 rfl) rfl ?_
  refine fl_lenS rfl h1 (fl_bin rfl rfl (b_lss _ _ _) (fl_nil ?_))
  refine fx_cseq ?_
  refine fx_condB rfl (fun hc24 => ?_) (fun hc24 => ?_)
  ·skip
   have hp24 := dec_iff.1 hc24
   refine fx_kseq ?_
   refine fx_seq (fx_block ?_)
   refine fx_drwS ?_
   refine fg_pure rfl rfl trivial (fl_fad rfl (fl_nil ?_))
   refine fg_load (v := .c (c1)) (i := ⟨_, _, .load _ _ _⟩) rfl rfl trivial rfl (.inr (memS mem0)) rfl (len1 rfl) rfl (by simp [sameA, sameL, sameC_int, sameC_b, sameC_s, h1.refl]) ?_
   refine fg_pure rfl rfl trivial (fl_mv rfl (fl_nil ?_))
   obtain ⟨a30, ha30⟩ := at_lt (l := l1) (i := i0) (by omega)
   refine fg_pure rfl rfl trivial ?_
   refine fl_iadS rfl rfl h1 i0 rfl a30 ha30 fun b30 p30 cs30 at30 hR30 => ?_
   refine fl_nil ?_
   obtain rfl := hR30
   refine fg_ldA (v := .c (.v (.int .u32 a30))) (off := 0) (i := ⟨_, _, .load _ _ _⟩) rfl rfl trivial rfl at30 (fun _ _ h => .inl ((hz19.trans (hzl0)) _ _ h)) rfl (len1 rfl) rfl (by simp [sameA, sameL, sameC_int, sameC_b, sameC_s]) ?_
   refine fg_pure rfl rfl trivial (fl_fad rfl (fl_nil ?_))
   refine fg_load (v := .c (c2)) (i := ⟨_, _, .load _ _ _⟩) rfl rfl trivial rfl (.inr mem0) rfl (len1 rfl) rfl (by simp [sameA, sameL, sameC_int, sameC_b, sameC_s, h2.refl]) ?_
   refine fg_pure rfl rfl trivial (fl_mv rfl (fl_nil ?_))
   obtain ⟨a35, ha35⟩ := at_lt (l := l2) (i := i0) (by omega)
   refine fg_pure rfl rfl trivial ?_
   refine fl_iadS rfl rfl h2 i0 rfl a35 ha35 fun b35 p35 cs35 at35 hR35 => ?_
   refine fl_nil ?_
   obtain rfl := hR35
   refine fg_ldA (v := .c (.v (.int .u32 a35))) (off := 0) (i := ⟨_, _, .load _ _ _⟩) rfl rfl trivial rfl at35 (fun _ _ h => .inl ((hz19.trans (hzl0)) _ _ h)) rfl (len1 rfl) rfl (by simp [sameA, sameL, sameC_int, sameC_b, sameC_s]) ?_
   refine fg_pure rfl rfl trivial (fl_bin rfl rfl (b_neq _ _ _) (fl_nil ?_))
   refine fg_nil ?_
   refine fx_condB rfl (fun hc37 => ?_) (fun hc37 => ?_)
   ·skip
    have hp37 := dec_not.1 hc37
    refine fx_sr (fl_mv rfl (fl_nil ?_))
    refine fx_ret ?_
    refine sq_r ?_
    refine lq_r ?_
    refine sq_r ?_
    refine ret_q (.inl rfl) (rt rfl rn) ?_
    exact ⟨false, rfl, ⟨fun h => (by cases h), fun h => absurd h.2 (ne_at ha30 ha35 hp37)⟩⟩
   ·skip
    have hp37 := bn_iff dec_not hc37
    refine fx_skip ?_
    refine sq_n ?_
    refine fx_region ?_
    refine fl_mv rfl ?_
    refine fl_bin rfl rfl (b_add' (r := ((i0 + 1 : Nat) : Int)) (wi64 (by omega))) ?_
    refine fl_mv rfl (fl_nil ?_)
    exact lq_n (by omega) ⟨i0 + 1, _, _, [], rfl, hzl0, (atc rfl (atc rfl (atc rfl atn))), rfl, by omega, fun j hj => eq_step hp_0 ha30 ha35 (Classical.not_not.1 hp37) hj⟩
  ·skip
   have hp24 := bn_iff dec_iff hc24
   refine fx_eseq ?_
   refine lq_e ?_
   refine sq_n ?_
   refine fx_sr (fl_mv rfl (fl_nil ?_))
   refine fx_ret ?_
   refine ret_q (.inl rfl) (rt rfl rn) ?_
   exact ⟨true, rfl, ⟨fun _ => ⟨hp19.1, eq_end (by omega) hp_0 (by omega)⟩, fun _ => rfl⟩⟩
theorem same_rat {k : Nat} (hk : 2 ≤ k) {z : Mem} {u v : AV} {x y : PRat} (hx : AZ RRat z u x) (hy : AZ RRat z v y) : FC (E k) 36 [u, v] z (EqP x y) := by
 obtain ⟨_, rfl, cx_0, cx_1, rfl, hx_0, hx_1⟩ := hx
 obtain ⟨_, rfl, cy_0, cy_1, rfl, hy_0, hy_1⟩ := hy
 refine fc_of (tS_get36) (by omega) (len1 rfl) fun B j hj => ?_
 refine fx_sr ?_
 refine fl_box rfl rfl fun b2 => ?_
 refine fl_box rfl rfl fun b3 => ?_
 refine fl_mv rfl (fl_nil (fx_sr (fl_fad rfl ?_)))
 refine fl_ld (v := .agg [.v (.bool x.n), cx_0]) rfl (memS mem0) (len1 rfl) rfl ?_
 refine fl_fad rfl ?_
 refine fl_ld (v := .agg [.v (.bool y.n), cy_0]) rfl mem0 (len1 rfl) rfl ?_
 refine fl_call rfl (whole (by omega) hx_0 hy_0) fun v9 z9 hz9 ⟨r9, hv9, hr9⟩ => ?_
 subst hv9
 refine fl_mv rfl ?_
 refine fl_join 6 10 (fun r => [(16, .c (.v (.bool r)))]) ((x.n = y.n ∧ x.nm = y.nm) ∧ (x.d = y.d ∧ x.dm = y.dm)) rfl (fun hg => ?_) (fun hg => ?_) (fun e z16 r16 hz16 hr16 => ?_)
 ·skip
  refine fl_gd rfl (fl_fad rfl (fl_gd rfl ?_))
  refine fl_ld (v := .agg [.v (.bool x.d), cx_1]) rfl (memS mem0) (len1 rfl) rfl ?_
  refine fl_gd rfl (fl_fad rfl (fl_gd rfl ?_))
  refine fl_ld (v := .agg [.v (.bool y.d), cy_1]) rfl mem0 (len1 rfl) rfl ?_
  refine fl_gd rfl ?_
  refine fl_call rfl (whole (by omega) (hx_1.mono (hz9)) (hy_1.mono (hz9))) fun v15 z15 hz15 ⟨r15, hv15, hr15⟩ => ?_
  subst hv15
  refine fl_pick rfl rfl ?_
  exact fl_done r15 rfl (hz15) (atc rfl atn) (join_t hr9 hg hr15)
 ·skip
  refine fl_gx rfl (fl_gx rfl (fl_gx rfl (fl_gx rfl (fl_gx rfl (fl_pick rfl rfl ?_)))))
  exact fl_done false rfl (zle.refl _) (atc rfl atn) (join_f hr9 hg)
 refine fl_mv rfl (fl_nil ?_)
 refine fx_ret ?_
 refine ret_q (.inl rfl) (rt rfl rn) ?_
 refine ⟨r16, rfl, Iff.trans hr16 (Iff.trans ?_ PRat.ext_iff.symm)⟩
 first | exact Iff.rfl | (constructor <;> (intro h; simp_all))
theorem eq_filing {k : Nat} (hk : 8 ≤ k) {z : Mem} {u v : AV} {x y : PFiling} (hx : AZ RFiling z u x) (hy : AZ RFiling z v y) : FC (E k) 12 [u, v] z (EqP x y) := by
 obtain ⟨_, rfl, cx_0, cx_1, cx_2, cx_3, cx_4, cx_5, cx_6, cx_7, cx_8, cx_9, cx_10, cx_11, rfl, hx_0, hx_1, hx_2, hx_3, hx_4, hx_5, hx_6, hx_7, hx_8, hx_9, hx_10, hx_11⟩ := hx
 obtain ⟨_, rfl, cy_0, cy_1, cy_2, cy_3, cy_4, cy_5, cy_6, cy_7, cy_8, cy_9, cy_10, cy_11, rfl, hy_0, hy_1, hy_2, hy_3, hy_4, hy_5, hy_6, hy_7, hy_8, hy_9, hy_10, hy_11⟩ := hy
 refine fc_of (tS_get12) (by omega) (len1 rfl) fun B j hj => ?_
 refine fx_sr ?_
 refine fl_box rfl rfl fun b2 => ?_
 refine fl_box rfl rfl fun b3 => ?_
 refine fl_mv rfl (fl_nil (fx_sr (fl_fad rfl ?_)))
 refine fl_ld (v := .c (.v (.int .i64 x.back))) rfl (memS mem0) (len1 rfl) rfl ?_
 refine fl_fad rfl ?_
 refine fl_ld (v := .c (.v (.int .i64 y.back))) rfl mem0 (len1 rfl) rfl ?_
 refine fl_bin rfl rfl (b_eql _ _ _) (fl_mv rfl ?_)
 refine fl_join 6 11 (fun r => [(2, .c (.ptr b2 0)), (3, .c (.ptr b3 0)), (17, .c (.v (.bool r)))]) ((x.back = y.back) ∧ (x.forward = y.forward)) rfl (fun hg => ?_) (fun hg => ?_) (fun e z17 r17 hz17 hr17 => ?_)
 ·skip
  refine fl_gd rfl (fl_fad rfl (fl_gd rfl ?_))
  refine fl_ld (v := .c (.v (.int .i64 x.forward))) rfl (memS mem0) (len1 rfl) rfl ?_
  refine fl_gd rfl (fl_fad rfl (fl_gd rfl ?_))
  refine fl_ld (v := .c (.v (.int .i64 y.forward))) rfl mem0 (len1 rfl) rfl ?_
  refine fl_gd rfl (fl_bin rfl rfl (b_eql _ _ _) (fl_pick rfl rfl ?_))
  exact fl_done (decide (x.forward = y.forward)) rfl (zle.refl _) (atc rfl (atc rfl (atc rfl atn))) (join_t dec_iff hg dec_iff)
 ·skip
  refine fl_gx rfl (fl_gx rfl (fl_gx rfl (fl_gx rfl (fl_gx rfl (fl_pick rfl rfl ?_)))))
  exact fl_done false rfl (zle.refl _) (atc rfl (atc rfl (atc rfl atn))) (join_f dec_iff hg)
 refine fl_mv rfl ?_
 refine fl_join 6 18 (fun r => [(2, .c (.ptr b2 0)), (3, .c (.ptr b3 0)), (24, .c (.v (.bool r)))]) (((x.back = y.back) ∧ (x.forward = y.forward)) ∧ (x.keep = y.keep)) rfl (fun hg => ?_) (fun hg => ?_) (fun e z24 r24 hz24 hr24 => ?_)
 ·skip
  refine fl_gd rfl (fl_fad rfl (fl_gd rfl ?_))
  refine fl_ld (v := .c (.v (.int .i64 x.keep))) rfl (memS mem0) (len1 rfl) rfl ?_
  refine fl_gd rfl (fl_fad rfl (fl_gd rfl ?_))
  refine fl_ld (v := .c (.v (.int .i64 y.keep))) rfl mem0 (len1 rfl) rfl ?_
  refine fl_gd rfl (fl_bin rfl rfl (b_eql _ _ _) (fl_pick rfl rfl ?_))
  exact fl_done (decide (x.keep = y.keep)) rfl (zle.refl _) (atc rfl (atc rfl (atc rfl atn))) (join_t hr17 hg dec_iff)
 ·skip
  refine fl_gx rfl (fl_gx rfl (fl_gx rfl (fl_gx rfl (fl_gx rfl (fl_pick rfl rfl ?_)))))
  exact fl_done false rfl (zle.refl _) (atc rfl (atc rfl (atc rfl atn))) (join_f hr17 hg)
 refine fl_mv rfl ?_
 refine fl_join 6 25 (fun r => [(2, .c (.ptr b2 0)), (3, .c (.ptr b3 0)), (31, .c (.v (.bool r)))]) ((((x.back = y.back) ∧ (x.forward = y.forward)) ∧ (x.keep = y.keep)) ∧ (x.threshold = y.threshold)) rfl (fun hg => ?_) (fun hg => ?_) (fun e z31 r31 hz31 hr31 => ?_)
 ·skip
  refine fl_gd rfl (fl_fad rfl (fl_gd rfl ?_))
  refine fl_ld (v := .agg [.v (.bool x.threshold.n), cx_1, .v (.bool x.threshold.d), cx_2]) rfl (memS mem0) (len1 rfl) rfl ?_
  refine fl_gd rfl (fl_fad rfl (fl_gd rfl ?_))
  refine fl_ld (v := .agg [.v (.bool y.threshold.n), cy_1, .v (.bool y.threshold.d), cy_2]) rfl mem0 (len1 rfl) rfl ?_
  refine fl_gd rfl ?_
  refine fl_call rfl (eq_rat (by omega) ⟨_, rfl, mk_rat (hx_1.mono (hz17.trans hz24)) (hx_2.mono (hz17.trans hz24))⟩ ⟨_, rfl, mk_rat (hy_1.mono (hz17.trans hz24)) (hy_2.mono (hz17.trans hz24))⟩) fun v30 z30 hz30 ⟨r30, hv30, hr30⟩ => ?_
  subst hv30
  refine fl_pick rfl rfl ?_
  exact fl_done r30 rfl (hz30) (atc rfl (atc rfl (atc rfl atn))) (join_t hr24 hg hr30)
 ·skip
  refine fl_gx rfl (fl_gx rfl (fl_gx rfl (fl_gx rfl (fl_gx rfl (fl_pick rfl rfl ?_)))))
  exact fl_done false rfl (zle.refl _) (atc rfl (atc rfl (atc rfl atn))) (join_f hr24 hg)
 refine fl_mv rfl ?_
 refine fl_join 6 32 (fun r => [(2, .c (.ptr b2 0)), (3, .c (.ptr b3 0)), (38, .c (.v (.bool r)))]) (((((x.back = y.back) ∧ (x.forward = y.forward)) ∧ (x.keep = y.keep)) ∧ (x.threshold = y.threshold)) ∧ (x.cap = y.cap)) rfl (fun hg => ?_) (fun hg => ?_) (fun e z38 r38 hz38 hr38 => ?_)
 ·skip
  refine fl_gd rfl (fl_fad rfl (fl_gd rfl ?_))
  refine fl_ld (v := .agg [.v (.bool x.cap.n), cx_3, .v (.bool x.cap.d), cx_4]) rfl (memS mem0) (len1 rfl) rfl ?_
  refine fl_gd rfl (fl_fad rfl (fl_gd rfl ?_))
  refine fl_ld (v := .agg [.v (.bool y.cap.n), cy_3, .v (.bool y.cap.d), cy_4]) rfl mem0 (len1 rfl) rfl ?_
  refine fl_gd rfl ?_
  refine fl_call rfl (eq_rat (by omega) ⟨_, rfl, mk_rat (hx_3.mono (hz17.trans (hz24.trans hz31))) (hx_4.mono (hz17.trans (hz24.trans hz31)))⟩ ⟨_, rfl, mk_rat (hy_3.mono (hz17.trans (hz24.trans hz31))) (hy_4.mono (hz17.trans (hz24.trans hz31)))⟩) fun v37 z37 hz37 ⟨r37, hv37, hr37⟩ => ?_
  subst hv37
  refine fl_pick rfl rfl ?_
  exact fl_done r37 rfl (hz37) (atc rfl (atc rfl (atc rfl atn))) (join_t hr31 hg hr37)
 ·skip
  refine fl_gx rfl (fl_gx rfl (fl_gx rfl (fl_gx rfl (fl_gx rfl (fl_pick rfl rfl ?_)))))
  exact fl_done false rfl (zle.refl _) (atc rfl (atc rfl (atc rfl atn))) (join_f hr31 hg)
 refine fl_mv rfl ?_
 refine fl_join 6 39 (fun r => [(2, .c (.ptr b2 0)), (3, .c (.ptr b3 0)), (45, .c (.v (.bool r)))]) ((((((x.back = y.back) ∧ (x.forward = y.forward)) ∧ (x.keep = y.keep)) ∧ (x.threshold = y.threshold)) ∧ (x.cap = y.cap)) ∧ (x.interest = y.interest)) rfl (fun hg => ?_) (fun hg => ?_) (fun e z45 r45 hz45 hr45 => ?_)
 ·skip
  refine fl_gd rfl (fl_fad rfl (fl_gd rfl ?_))
  refine fl_ld (v := .agg [.v (.bool x.interest.n), cx_5, .v (.bool x.interest.d), cx_6]) rfl (memS mem0) (len1 rfl) rfl ?_
  refine fl_gd rfl (fl_fad rfl (fl_gd rfl ?_))
  refine fl_ld (v := .agg [.v (.bool y.interest.n), cy_5, .v (.bool y.interest.d), cy_6]) rfl mem0 (len1 rfl) rfl ?_
  refine fl_gd rfl ?_
  refine fl_call rfl (eq_rat (by omega) ⟨_, rfl, mk_rat (hx_5.mono (hz17.trans (hz24.trans (hz31.trans hz38)))) (hx_6.mono (hz17.trans (hz24.trans (hz31.trans hz38))))⟩ ⟨_, rfl, mk_rat (hy_5.mono (hz17.trans (hz24.trans (hz31.trans hz38)))) (hy_6.mono (hz17.trans (hz24.trans (hz31.trans hz38))))⟩) fun v44 z44 hz44 ⟨r44, hv44, hr44⟩ => ?_
  subst hv44
  refine fl_pick rfl rfl ?_
  exact fl_done r44 rfl (hz44) (atc rfl (atc rfl (atc rfl atn))) (join_t hr38 hg hr44)
 ·skip
  refine fl_gx rfl (fl_gx rfl (fl_gx rfl (fl_gx rfl (fl_gx rfl (fl_pick rfl rfl ?_)))))
  exact fl_done false rfl (zle.refl _) (atc rfl (atc rfl (atc rfl atn))) (join_f hr38 hg)
 refine fl_mv rfl ?_
 refine fl_join 6 46 (fun r => [(2, .c (.ptr b2 0)), (3, .c (.ptr b3 0)), (52, .c (.v (.bool r)))]) (((((((x.back = y.back) ∧ (x.forward = y.forward)) ∧ (x.keep = y.keep)) ∧ (x.threshold = y.threshold)) ∧ (x.cap = y.cap)) ∧ (x.interest = y.interest)) ∧ (x.floor = y.floor)) rfl (fun hg => ?_) (fun hg => ?_) (fun e z52 r52 hz52 hr52 => ?_)
 ·skip
  refine fl_gd rfl (fl_fad rfl (fl_gd rfl ?_))
  refine fl_ld (v := .agg [.v (.bool x.floor.n), cx_7, .v (.bool x.floor.d), cx_8]) rfl (memS mem0) (len1 rfl) rfl ?_
  refine fl_gd rfl (fl_fad rfl (fl_gd rfl ?_))
  refine fl_ld (v := .agg [.v (.bool y.floor.n), cy_7, .v (.bool y.floor.d), cy_8]) rfl mem0 (len1 rfl) rfl ?_
  refine fl_gd rfl ?_
  refine fl_call rfl (eq_rat (by omega) ⟨_, rfl, mk_rat (hx_7.mono (hz17.trans (hz24.trans (hz31.trans (hz38.trans hz45))))) (hx_8.mono (hz17.trans (hz24.trans (hz31.trans (hz38.trans hz45)))))⟩ ⟨_, rfl, mk_rat (hy_7.mono (hz17.trans (hz24.trans (hz31.trans (hz38.trans hz45))))) (hy_8.mono (hz17.trans (hz24.trans (hz31.trans (hz38.trans hz45)))))⟩) fun v51 z51 hz51 ⟨r51, hv51, hr51⟩ => ?_
  subst hv51
  refine fl_pick rfl rfl ?_
  exact fl_done r51 rfl (hz51) (atc rfl (atc rfl (atc rfl atn))) (join_t hr45 hg hr51)
 ·skip
  refine fl_gx rfl (fl_gx rfl (fl_gx rfl (fl_gx rfl (fl_gx rfl (fl_pick rfl rfl ?_)))))
  exact fl_done false rfl (zle.refl _) (atc rfl (atc rfl (atc rfl atn))) (join_f hr45 hg)
 refine fl_mv rfl (fl_nil (fx_sr (fl_mv rfl (fl_mv rfl ?_))))
 refine fl_join 6 54 (fun r => [(2, .c (.ptr b2 0)), (3, .c (.ptr b3 0)), (60, .c (.v (.bool r)))]) ((((((((x.back = y.back) ∧ (x.forward = y.forward)) ∧ (x.keep = y.keep)) ∧ (x.threshold = y.threshold)) ∧ (x.cap = y.cap)) ∧ (x.interest = y.interest)) ∧ (x.floor = y.floor)) ∧ (x.name = y.name)) rfl (fun hg => ?_) (fun hg => ?_) (fun e z60 r60 hz60 hr60 => ?_)
 ·skip
  refine fl_gd rfl (fl_fad rfl (fl_gd rfl ?_))
  refine fl_ld (v := .c (.v (.string x.name))) rfl (memS mem0) (len1 rfl) rfl ?_
  refine fl_gd rfl (fl_fad rfl (fl_gd rfl ?_))
  refine fl_ld (v := .c (.v (.string y.name))) rfl mem0 (len1 rfl) rfl ?_
  refine fl_gd rfl ?_
  refine fl_bin rfl rfl (b_eqlS _ _) ?_
  refine fl_pick rfl rfl ?_
  exact fl_done (decide (x.name = y.name)) rfl (zle.refl _) (atc rfl (atc rfl (atc rfl atn))) (join_t hr52 hg dec_iff)
 ·skip
  refine fl_gx rfl (fl_gx rfl (fl_gx rfl (fl_gx rfl (fl_gx rfl (fl_pick rfl rfl ?_)))))
  exact fl_done false rfl (zle.refl _) (atc rfl (atc rfl (atc rfl atn))) (join_f hr52 hg)
 refine fl_mv rfl ?_
 refine fl_join 6 61 (fun r => [(2, .c (.ptr b2 0)), (3, .c (.ptr b3 0)), (67, .c (.v (.bool r)))]) (((((((((x.back = y.back) ∧ (x.forward = y.forward)) ∧ (x.keep = y.keep)) ∧ (x.threshold = y.threshold)) ∧ (x.cap = y.cap)) ∧ (x.interest = y.interest)) ∧ (x.floor = y.floor)) ∧ (x.name = y.name)) ∧ (x.parent = y.parent)) rfl (fun hg => ?_) (fun hg => ?_) (fun e z67 r67 hz67 hr67 => ?_)
 ·skip
  refine fl_gd rfl (fl_fad rfl (fl_gd rfl ?_))
  refine fl_ld (v := .c (.v (.string x.parent))) rfl (memS mem0) (len1 rfl) rfl ?_
  refine fl_gd rfl (fl_fad rfl (fl_gd rfl ?_))
  refine fl_ld (v := .c (.v (.string y.parent))) rfl mem0 (len1 rfl) rfl ?_
  refine fl_gd rfl ?_
  refine fl_bin rfl rfl (b_eqlS _ _) ?_
  refine fl_pick rfl rfl ?_
  exact fl_done (decide (x.parent = y.parent)) rfl (zle.refl _) (atc rfl (atc rfl (atc rfl atn))) (join_t hr60 hg dec_iff)
 ·skip
  refine fl_gx rfl (fl_gx rfl (fl_gx rfl (fl_gx rfl (fl_gx rfl (fl_pick rfl rfl ?_)))))
  exact fl_done false rfl (zle.refl _) (atc rfl (atc rfl (atc rfl atn))) (join_f hr60 hg)
 refine fl_mv rfl ?_
 refine fl_join 6 68 (fun r => [(2, .c (.ptr b2 0)), (3, .c (.ptr b3 0)), (74, .c (.v (.bool r)))]) ((((((((((x.back = y.back) ∧ (x.forward = y.forward)) ∧ (x.keep = y.keep)) ∧ (x.threshold = y.threshold)) ∧ (x.cap = y.cap)) ∧ (x.interest = y.interest)) ∧ (x.floor = y.floor)) ∧ (x.name = y.name)) ∧ (x.parent = y.parent)) ∧ (x.brackets = y.brackets)) rfl (fun hg => ?_) (fun hg => ?_) (fun e z74 r74 hz74 hr74 => ?_)
 ·skip
  refine fl_gd rfl (fl_fad rfl (fl_gd rfl ?_))
  refine fl_ld (v := .c (cx_0)) rfl (memS mem0) (len1 rfl) rfl ?_
  refine fl_gd rfl (fl_fad rfl (fl_gd rfl ?_))
  refine fl_ld (v := .c (cy_0)) rfl mem0 (len1 rfl) rfl ?_
  refine fl_gd rfl ?_
  refine fl_call rfl (eqs_bracket (by omega) (hx_0.mono (hz17.trans (hz24.trans (hz31.trans (hz38.trans (hz45.trans (hz52.trans (hz60.trans hz67)))))))) (hy_0.mono (hz17.trans (hz24.trans (hz31.trans (hz38.trans (hz45.trans (hz52.trans (hz60.trans hz67))))))))) fun v73 z73 hz73 ⟨r73, hv73, hr73⟩ => ?_
  subst hv73
  refine fl_pick rfl rfl ?_
  exact fl_done r73 rfl (hz73) (atc rfl (atc rfl (atc rfl atn))) (join_t hr67 hg hr73)
 ·skip
  refine fl_gx rfl (fl_gx rfl (fl_gx rfl (fl_gx rfl (fl_gx rfl (fl_pick rfl rfl ?_)))))
  exact fl_done false rfl (zle.refl _) (atc rfl (atc rfl (atc rfl atn))) (join_f hr67 hg)
 refine fl_mv rfl ?_
 refine fl_join 6 75 (fun r => [(2, .c (.ptr b2 0)), (3, .c (.ptr b3 0)), (81, .c (.v (.bool r)))]) (((((((((((x.back = y.back) ∧ (x.forward = y.forward)) ∧ (x.keep = y.keep)) ∧ (x.threshold = y.threshold)) ∧ (x.cap = y.cap)) ∧ (x.interest = y.interest)) ∧ (x.floor = y.floor)) ∧ (x.name = y.name)) ∧ (x.parent = y.parent)) ∧ (x.brackets = y.brackets)) ∧ (x.classes = y.classes)) rfl (fun hg => ?_) (fun hg => ?_) (fun e z81 r81 hz81 hr81 => ?_)
 ·skip
  refine fl_gd rfl (fl_fad rfl (fl_gd rfl ?_))
  refine fl_ld (v := .c (cx_9)) rfl (memS mem0) (len1 rfl) rfl ?_
  refine fl_gd rfl (fl_fad rfl (fl_gd rfl ?_))
  refine fl_ld (v := .c (cy_9)) rfl mem0 (len1 rfl) rfl ?_
  refine fl_gd rfl ?_
  refine fl_call rfl (eqs_class (by omega) (hx_9.mono (hz17.trans (hz24.trans (hz31.trans (hz38.trans (hz45.trans (hz52.trans (hz60.trans (hz67.trans hz74))))))))) (hy_9.mono (hz17.trans (hz24.trans (hz31.trans (hz38.trans (hz45.trans (hz52.trans (hz60.trans (hz67.trans hz74)))))))))) fun v80 z80 hz80 ⟨r80, hv80, hr80⟩ => ?_
  subst hv80
  refine fl_pick rfl rfl ?_
  exact fl_done r80 rfl (hz80) (atc rfl (atc rfl (atc rfl atn))) (join_t hr74 hg hr80)
 ·skip
  refine fl_gx rfl (fl_gx rfl (fl_gx rfl (fl_gx rfl (fl_gx rfl (fl_pick rfl rfl ?_)))))
  exact fl_done false rfl (zle.refl _) (atc rfl (atc rfl (atc rfl atn))) (join_f hr74 hg)
 refine fl_mv rfl ?_
 refine fl_join 6 82 (fun r => [(2, .c (.ptr b2 0)), (3, .c (.ptr b3 0)), (88, .c (.v (.bool r)))]) ((((((((((((x.back = y.back) ∧ (x.forward = y.forward)) ∧ (x.keep = y.keep)) ∧ (x.threshold = y.threshold)) ∧ (x.cap = y.cap)) ∧ (x.interest = y.interest)) ∧ (x.floor = y.floor)) ∧ (x.name = y.name)) ∧ (x.parent = y.parent)) ∧ (x.brackets = y.brackets)) ∧ (x.classes = y.classes)) ∧ (x.entities = y.entities)) rfl (fun hg => ?_) (fun hg => ?_) (fun e z88 r88 hz88 hr88 => ?_)
 ·skip
  refine fl_gd rfl (fl_fad rfl (fl_gd rfl ?_))
  refine fl_ld (v := .c (cx_10)) rfl (memS mem0) (len1 rfl) rfl ?_
  refine fl_gd rfl (fl_fad rfl (fl_gd rfl ?_))
  refine fl_ld (v := .c (cy_10)) rfl mem0 (len1 rfl) rfl ?_
  refine fl_gd rfl ?_
  refine fl_call rfl (eq_strs (by omega) (hx_10.mono (hz17.trans (hz24.trans (hz31.trans (hz38.trans (hz45.trans (hz52.trans (hz60.trans (hz67.trans (hz74.trans hz81)))))))))) (hy_10.mono (hz17.trans (hz24.trans (hz31.trans (hz38.trans (hz45.trans (hz52.trans (hz60.trans (hz67.trans (hz74.trans hz81))))))))))) fun v87 z87 hz87 ⟨r87, hv87, hr87⟩ => ?_
  subst hv87
  refine fl_pick rfl rfl ?_
  exact fl_done r87 rfl (hz87) (atc rfl (atc rfl (atc rfl atn))) (join_t hr81 hg hr87)
 ·skip
  refine fl_gx rfl (fl_gx rfl (fl_gx rfl (fl_gx rfl (fl_gx rfl (fl_pick rfl rfl ?_)))))
  exact fl_done false rfl (zle.refl _) (atc rfl (atc rfl (atc rfl atn))) (join_f hr81 hg)
 refine fl_mv rfl ?_
 refine fl_join 6 89 (fun r => [(95, .c (.v (.bool r)))]) (((((((((((((x.back = y.back) ∧ (x.forward = y.forward)) ∧ (x.keep = y.keep)) ∧ (x.threshold = y.threshold)) ∧ (x.cap = y.cap)) ∧ (x.interest = y.interest)) ∧ (x.floor = y.floor)) ∧ (x.name = y.name)) ∧ (x.parent = y.parent)) ∧ (x.brackets = y.brackets)) ∧ (x.classes = y.classes)) ∧ (x.entities = y.entities)) ∧ (x.years = y.years)) rfl (fun hg => ?_) (fun hg => ?_) (fun e z95 r95 hz95 hr95 => ?_)
 ·skip
  refine fl_gd rfl (fl_fad rfl (fl_gd rfl ?_))
  refine fl_ld (v := .c (cx_11)) rfl (memS mem0) (len1 rfl) rfl ?_
  refine fl_gd rfl (fl_fad rfl (fl_gd rfl ?_))
  refine fl_ld (v := .c (cy_11)) rfl mem0 (len1 rfl) rfl ?_
  refine fl_gd rfl ?_
  refine fl_call rfl (eqs_year (by omega) (hx_11.mono (hz17.trans (hz24.trans (hz31.trans (hz38.trans (hz45.trans (hz52.trans (hz60.trans (hz67.trans (hz74.trans (hz81.trans hz88))))))))))) (hy_11.mono (hz17.trans (hz24.trans (hz31.trans (hz38.trans (hz45.trans (hz52.trans (hz60.trans (hz67.trans (hz74.trans (hz81.trans hz88)))))))))))) fun v94 z94 hz94 ⟨r94, hv94, hr94⟩ => ?_
  subst hv94
  refine fl_pick rfl rfl ?_
  exact fl_done r94 rfl (hz94) (atc rfl atn) (join_t hr88 hg hr94)
 ·skip
  refine fl_gx rfl (fl_gx rfl (fl_gx rfl (fl_gx rfl (fl_gx rfl (fl_pick rfl rfl ?_)))))
  exact fl_done false rfl (zle.refl _) (atc rfl atn) (join_f hr88 hg)
 refine fl_mv rfl (fl_nil ?_)
 refine fx_ret ?_
 refine ret_q (.inl rfl) (rt rfl rn) ?_
 refine ⟨r95, rfl, Iff.trans hr95 (Iff.trans ?_ PFiling.ext_iff.symm)⟩
 first | exact Iff.rfl | (constructor <;> (intro h; simp_all))
end Go.Proofs.YtlhgffgfigkghaaGreatDoor
