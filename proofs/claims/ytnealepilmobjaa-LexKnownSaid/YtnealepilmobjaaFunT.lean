/- LexLines answers true. -/
import Derived.Test.YtnealepilmobjaaIC
import Derived.Test.YtnealepilmobjaaFunF
import Derived.Test.YtnealepilmobjaaFunQ
import Derived.Test.YtnealepilmobjaaFunJ
import Derived.Test.YtnealepilmobjaaEng27
set_option linter.unusedVariables false
set_option linter.unusedSimpArgs false
set_option maxRecDepth 100000
namespace Go.Proofs.Ytnealepilmobjaa
open Go.Eng
def wV (w : List UInt8 × Int) : List T := [.w 10, .w 5]
def lV (x : PLine) : List T := [.sl 2 (x.1.map wV), .w 5]
theorem lV_blur (ls : List PLine) (κ : Nat) : (ls.map lV).map (fun e => e.map (blurT κ)) = ls.map lV := by
  rw [List.map_map]
  refine List.map_congr_left fun x _ => ?_
  simp only [Function.comp, lV, List.map_cons, List.map_nil, blurT_sl, blurT_w, List.map_map]
  all_goals congr 3
theorem lT_blur (ls : List PLine) : ((ls.map lT).map (fun e => e.map (blurT 10))).map (fun e => e.map (blurT 5)) = ls.map lV := by
  rw [List.map_map, List.map_map]
  refine List.map_congr_left fun x _ => ?_
  simp only [Function.comp, lT, lV, List.map_cons, List.map_nil, blurT_sl, blurT_w, blurT_v, List.map_map, kd, Nat.reduceEqDiff, if_false, if_true]
  congr 3
  all_goals (funext w; simp [Function.comp, wT, wV, blurT_w, blurT_v, kd])
theorem linesR_len (l : List UInt8) (h : l.length ≤ 1000 ∨ 65536 < l.length) : (linesR l).1.length ≤ 1000 ∧ ∀ x ∈ (linesR l).1, x.1.length ≤ 1000 := by
  rcases h with h | h
  · have hl := linesF_len l 0
    rcases linesR_cases (l := l) (by omega) with ⟨b, h1, _⟩ | ⟨h1, h2⟩
    · rw [h1]; simp
    · rw [h1]
      exact ⟨by simp only; omega, fun x hx => by have := hl.2 x hx; omega⟩
  · unfold linesR
    rw [if_pos h]
    simp
theorem lexlines {fr : Bool} {s : List UInt8} (hs : s.length ≤ 9223372036854775807) : CtrE Try.prog 4 [.c (.t fr (.v (.string (bs s))))] (.c (.t true (.v (.bool true)))) [] := by
  refine fn4 (Nat.le_of_ble_eq_true rfl) fun Γ hP hn hX hm => ?_; have hgf := hm.1; unfold i4
  refine AWI.seq ?_
  (refine AWI.region (AR.go fun K hK => ?_); simp (disch := first | assumption | omega | (simp only [List.length_cons, List.length_nil, List.length_map, List.length_append, List.length_take, List.length_drop] <;> omega)) only [W0, R0, R1, R2, R3, R4, R5, R6, R7, R8, M0, envOf_nil, envOf_cons, ↓reduceIte, reduceCtorEq, Nat.reduceEqDiff, Int.reduceEq, Int.reduceLT, Int.reduceLE, Nat.reduceAdd, Nat.reduceSub, Nat.reduceBEq, Nat.reduceLT]; (refine hK _ _ (AR.keep2 [0] [] ?_); clear hK K; try simp only [keep2_mk, pickR_nil, pickR_cons, pickB_some, List.map_cons, List.map_nil, lk_nil, lk_cons, lkB_t, lkB_f, Nat.reduceBEq, Option.getD_some, Option.getD_none]))
  refine AWI.of (fun a w h => h.norm) ?_
  show AWI Γ _ _ ⟨[(0, .c (.t true (.v (.string (bs s)))))], []⟩
  refine AWI.seq (AWI.seq ?_)
  refine AWI.post ⟨[(0, .c (.t true (.v (.string (bs s))))), (19, .c (.t true (.v (.bool (decide (1000 < s.length) && decide (s.length ≤ 65536))))))], []⟩ (fun Q' q => ?_) ?_
  · refine AWI.region (AR.go fun K hK => ?_)
    simp (disch := first | assumption | omega | (simp only [List.length_cons, List.length_nil, List.length_map, List.length_append, List.length_take, List.length_drop] <;> omega)) only [W0, R0, R1, R2, R3, R4, R5, R6, R7, R8, M0, envOf_nil, envOf_cons, ↓reduceIte, reduceCtorEq, Nat.reduceEqDiff, Int.reduceEq, Int.reduceLT, Int.reduceLE, Nat.reduceAdd, Nat.reduceSub, Nat.reduceBEq, Nat.reduceLT]
    by_cases h : 1000 < s.length
    · rw [decide_eq_true h] at q
      rw [show decide ((1000 : Int) < s.length) = true from decide_eq_true (by omega)]
      simp (disch := first | assumption | omega | (simp only [List.length_cons, List.length_nil, List.length_map, List.length_append, List.length_take, List.length_drop] <;> omega)) only [W0, R0, R1, R2, R3, R4, R5, R6, R7, R8, M0, envOf_nil, envOf_cons, ↓reduceIte, reduceCtorEq, Nat.reduceEqDiff, Int.reduceEq, Int.reduceLT, Int.reduceLE, Nat.reduceAdd, Nat.reduceSub, Nat.reduceBEq, Nat.reduceLT]
      have e : decide ((s.length : Int) ≤ 65536) = decide (s.length ≤ 65536) := by by_cases h : s.length ≤ 65536 <;> simp [h] <;> omega
      rw [e]
      (refine hK _ _ (AR.keep2 [0, 19] [] ?_); clear hK K; try simp only [keep2_mk, pickR_nil, pickR_cons, pickB_some, List.map_cons, List.map_nil, lk_nil, lk_cons, lkB_t, lkB_f, Nat.reduceBEq, Option.getD_some, Option.getD_none])
      exact q
    · rw [decide_eq_false h] at q
      rw [show decide ((1000 : Int) < s.length) = false from decide_eq_false (by omega)]
      simp (disch := first | assumption | omega | (simp only [List.length_cons, List.length_nil, List.length_map, List.length_append, List.length_take, List.length_drop] <;> omega)) only [W0, R0, R1, R2, R3, R4, R5, R6, R7, R8, M0, envOf_nil, envOf_cons, ↓reduceIte, reduceCtorEq, Nat.reduceEqDiff, Int.reduceEq, Int.reduceLT, Int.reduceLE, Nat.reduceAdd, Nat.reduceSub, Nat.reduceBEq, Nat.reduceLT]
      (refine hK _ _ (AR.keep2 [0, 19] [] ?_); clear hK K; try simp only [keep2_mk, pickR_nil, pickR_cons, pickB_some, List.map_cons, List.map_nil, lk_nil, lk_cons, lkB_t, lkB_f, Nat.reduceBEq, Option.getD_some, Option.getD_none])
      exact q
  refine AWI.cond rfl (fun hc => AWI.seq ?_) fun hc => AWI.skip ?_
  · refine AWI.region (AR.go fun K hK => ?_)
    simp (disch := first | assumption | omega | (simp only [List.length_cons, List.length_nil, List.length_map, List.length_append, List.length_take, List.length_drop] <;> omega)) only [W0, R0, R1, R2, R3, R4, R5, R6, R7, R8, M0, envOf_nil, envOf_cons, ↓reduceIte, reduceCtorEq, Nat.reduceEqDiff, Int.reduceEq, Int.reduceLT, Int.reduceLE, Nat.reduceAdd, Nat.reduceSub, Nat.reduceBEq, Nat.reduceLT]
    (refine hK _ _ ?_; refine AR.callE rfl (by first | exact .inl rfl | exact .inr ⟨_, _, rfl, rfl⟩) (by rw [hP]; exact works) (by first | exact .inl rfl | exact .inr ⟨rfl, rfl⟩) ⟨_, rfl⟩ ?_; clear hK K; intro K hK)
    simp (disch := first | assumption | omega | (simp only [List.length_cons, List.length_nil, List.length_map, List.length_append, List.length_take, List.length_drop] <;> omega)) only [W0, R0, R1, R2, R3, R4, R5, R6, R7, R8, M0, envOf_nil, envOf_cons, ↓reduceIte, reduceCtorEq, Nat.reduceEqDiff, Int.reduceEq, Int.reduceLT, Int.reduceLE, Nat.reduceAdd, Nat.reduceSub, Nat.reduceBEq, Nat.reduceLT]
    (refine hK _ _ (AR.keep2 [2] [] ?_); clear hK K; try simp only [keep2_mk, pickR_nil, pickR_cons, pickB_some, List.map_cons, List.map_nil, lk_nil, lk_cons, lkB_t, lkB_f, Nat.reduceBEq, Option.getD_some, Option.getD_none])
    exact AWI.ret ⟨.inl rfl, _, fun _ _ h => h.norm, rfl, rfl⟩
  have hc : s.length ≤ 1000 ∨ 65536 < s.length := by
    simp only [Bool.and_eq_false_iff, decide_eq_false_iff_not] at hc
    omega
  obtain ⟨hn, hw⟩ := linesR_len s hc
  refine AWI.seq ?_
  refine AWI.region (AR.go fun K hK => ?_)
  simp (disch := first | assumption | omega | (simp only [List.length_cons, List.length_nil, List.length_map, List.length_append, List.length_take, List.length_drop] <;> omega)) only [W0, R0, R1, R2, R3, R4, R5, R6, R7, R8, M0, envOf_nil, envOf_cons, ↓reduceIte, reduceCtorEq, Nat.reduceEqDiff, Int.reduceEq, Int.reduceLT, Int.reduceLE, Nat.reduceAdd, Nat.reduceSub, Nat.reduceBEq, Nat.reduceLT]
  (refine hK _ _ ?_; refine AR.callE rfl (by first | exact .inl rfl | exact .inr ⟨_, _, rfl, rfl⟩) (by rw [hP]; exact rlines (l := s)) (by first | exact .inl rfl | exact .inr ⟨rfl, rfl⟩) ⟨_, rfl⟩ ?_; clear hK K; intro K hK)
  simp (disch := first | assumption | omega | (simp only [List.length_cons, List.length_nil, List.length_map, List.length_append, List.length_take, List.length_drop] <;> omega)) only [W0, R0, R1, R2, R3, R4, R5, R6, R7, R8, M0, envOf_nil, envOf_cons, ↓reduceIte, reduceCtorEq, Nat.reduceEqDiff, Int.reduceEq, Int.reduceLT, Int.reduceLE, Nat.reduceAdd, Nat.reduceSub, Nat.reduceBEq, Nat.reduceLT, refR_eq]
  (refine hK _ _ (AR.frz hX 23 ?_); clear hK K; simp (disch := first | assumption | omega | (simp only [List.length_cons, List.length_nil, List.length_map, List.length_append, List.length_take, List.length_drop] <;> omega)) only [W0, R0, R1, R2, R3, R4, R5, R6, R7, R8, M0, envOf_nil, envOf_cons, ↓reduceIte, reduceCtorEq, Nat.reduceEqDiff, Int.reduceEq, Int.reduceLT, Int.reduceLE, Nat.reduceAdd, Nat.reduceSub, Nat.reduceBEq, Nat.reduceLT]; refine AR.go fun K hK => ?_; simp (disch := first | assumption | omega | (simp only [List.length_cons, List.length_nil, List.length_map, List.length_append, List.length_take, List.length_drop] <;> omega)) only [W0, R0, R1, R2, R3, R4, R5, R6, R7, R8, M0, envOf_nil, envOf_cons, ↓reduceIte, reduceCtorEq, Nat.reduceEqDiff, Int.reduceEq, Int.reduceLT, Int.reduceLE, Nat.reduceAdd, Nat.reduceSub, Nat.reduceBEq, Nat.reduceLT])
  (refine hK _ _ (AR.keep2 [0, 3, 4, 5] [] ?_); clear hK K; try simp only [keep2_mk, pickR_nil, pickR_cons, pickB_some, List.map_cons, List.map_nil, lk_nil, lk_cons, lkB_t, lkB_f, Nat.reduceBEq, Option.getD_some, Option.getD_none])
  obtain ⟨R, hR⟩ : ∃ R, R = linesR s := ⟨_, rfl⟩
  rw [← hR] at hn hw ⊢
  refine AWI.seq (AWI.seq ?_)
  (refine AWI.region (AR.go fun K hK => ?_); simp (disch := first | assumption | omega | (simp only [List.length_cons, List.length_nil, List.length_map, List.length_append, List.length_take, List.length_drop] <;> omega)) only [W0, R0, R1, R2, R3, R4, R5, R6, R7, R8, M0, envOf_nil, envOf_cons, ↓reduceIte, reduceCtorEq, Nat.reduceEqDiff, Int.reduceEq, Int.reduceLT, Int.reduceLE, Nat.reduceAdd, Nat.reduceSub, Nat.reduceBEq, Nat.reduceLT]; (refine hK _ _ (AR.keep2 [0, 3, 4, 5, 6] [] ?_); clear hK K; try simp only [keep2_mk, pickR_nil, pickR_cons, pickB_some, List.map_cons, List.map_nil, lk_nil, lk_cons, lkB_t, lkB_f, Nat.reduceBEq, Option.getD_some, Option.getD_none]))
  refine AWI.block (AWI.loop (α := Nat) (fun t => t ≤ 2) (fun t => ⟨[(0, .c (.t true (.v (.string (bs s))))), (3, .c (.t true (.sl 2 (R.1.map lT)))), (4, .c (.t true (.v (.int .i64 R.2.1)))), (5, .c (.t true (.v (.int .i64 R.2.2)))), (6, .c (.t true (.v (.int .i64 t))))], []⟩)
    (fun t => 2 - t) 0 (by omega) (fun _ _ h => h) fun t ht => ?_)
  refine AWI.seq (AWI.seq ?_)
  (refine AWI.region (AR.go fun K hK => ?_); simp (disch := first | assumption | omega | (simp only [List.length_cons, List.length_nil, List.length_map, List.length_append, List.length_take, List.length_drop] <;> omega)) only [W0, R0, R1, R2, R3, R4, R5, R6, R7, R8, M0, envOf_nil, envOf_cons, ↓reduceIte, reduceCtorEq, Nat.reduceEqDiff, Int.reduceEq, Int.reduceLT, Int.reduceLE, Nat.reduceAdd, Nat.reduceSub, Nat.reduceBEq, Nat.reduceLT]; (refine hK _ _ (AR.keep2 [0, 3, 4, 5, 6, 28] [] ?_); clear hK K; try simp only [keep2_mk, pickR_nil, pickR_cons, pickB_some, List.map_cons, List.map_nil, lk_nil, lk_cons, lkB_t, lkB_f, Nat.reduceBEq, Option.getD_some, Option.getD_none]))
  refine AWI.cond rfl (fun hc => AWI.skip (AWI.seq (AWI.block ?_))) fun hc => AWI.exit ?_
  · have hlt : t < 2 := by have := of_decide_eq_true hc; omega
    refine AWI.post ⟨[(0, .c (.t true (.v (.string (bs s))))), (3, .c (.t true (.sl 2 (R.1.map lT)))), (4, .c (.t true (.v (.int .i64 R.2.1)))), (5, .c (.t true (.v (.int .i64 R.2.2)))), (6, .c (.t true (.v (.int .i64 t))))], []⟩ (fun Q' q => ?_) ?_
    · refine AWI.mark [3] hX hm rfl rfl fun Γ1 hd hP1 hn1 hX1 hm1 hg => ?_
      have hv := hg 3 _ _ (by simp) rfl
      show AWI Γ1 _ _ ⟨[(0, .c (.t true (.v (.string (bs s))))), (3, .c (.t true (.v (hd 3)))), (4, .c (.t true (.v (.int .i64 R.2.1)))), (5, .c (.t true (.v (.int .i64 R.2.2)))), (6, .c (.t true (.v (.int .i64 t)))), (28, .c (.t true (.v (.bool (decide ((t : Int) < 2))))))], []⟩
      replace hP := hP1.trans hP
      clear hX hm hgf
      have hX := hX1
      have hm := hm1
      have hgf := hm.1
      refine AWI.seq ?_
      refine AWI.region (AR.go fun K hK => ?_)
      simp (disch := first | assumption | omega | (simp only [List.length_cons, List.length_nil, List.length_map, List.length_append, List.length_take, List.length_drop] <;> omega)) only [W0, R0, R1, R2, R3, R4, R5, R6, R7, R8, M0, envOf_nil, envOf_cons, ↓reduceIte, reduceCtorEq, Nat.reduceEqDiff, Int.reduceEq, Int.reduceLT, Int.reduceLE, Nat.reduceAdd, Nat.reduceSub, Nat.reduceBEq, Nat.reduceLT]
      (refine hK _ _ ?_; refine AR.callE rfl (by first | exact .inl rfl | exact .inr ⟨_, _, rfl, rfl⟩) (by rw [hP]; exact lines (l := s) hs) (by first | exact .inl rfl | exact .inr ⟨rfl, rfl⟩) ⟨_, rfl⟩ ?_; clear hK K; intro K hK)
      simp (disch := first | assumption | omega | (simp only [List.length_cons, List.length_nil, List.length_map, List.length_append, List.length_take, List.length_drop] <;> omega)) only [W0, R0, R1, R2, R3, R4, R5, R6, R7, R8, M0, envOf_nil, envOf_cons, ↓reduceIte, reduceCtorEq, Nat.reduceEqDiff, Int.reduceEq, Int.reduceLT, Int.reduceLE, Nat.reduceAdd, Nat.reduceSub, Nat.reduceBEq, Nat.reduceLT, ← hR]
      (refine hK _ _ (AR.frz hX 33 ?_); clear hK K; simp (disch := first | assumption | omega | (simp only [List.length_cons, List.length_nil, List.length_map, List.length_append, List.length_take, List.length_drop] <;> omega)) only [W0, R0, R1, R2, R3, R4, R5, R6, R7, R8, M0, envOf_nil, envOf_cons, ↓reduceIte, reduceCtorEq, Nat.reduceEqDiff, Int.reduceEq, Int.reduceLT, Int.reduceLE, Nat.reduceAdd, Nat.reduceSub, Nat.reduceBEq, Nat.reduceLT]; refine AR.go fun K hK => ?_; simp (disch := first | assumption | omega | (simp only [List.length_cons, List.length_nil, List.length_map, List.length_append, List.length_take, List.length_drop] <;> omega)) only [W0, R0, R1, R2, R3, R4, R5, R6, R7, R8, M0, envOf_nil, envOf_cons, ↓reduceIte, reduceCtorEq, Nat.reduceEqDiff, Int.reduceEq, Int.reduceLT, Int.reduceLE, Nat.reduceAdd, Nat.reduceSub, Nat.reduceBEq, Nat.reduceLT])
      (refine hK _ _ (AR.keep2 [0, 3, 4, 5, 6, 7, 8, 9] [] ?_); clear hK K; try simp only [keep2_mk, pickR_nil, pickR_cons, pickB_some, List.map_cons, List.map_nil, lk_nil, lk_cons, lkB_t, lkB_f, Nat.reduceBEq, Option.getD_some, Option.getD_none])
      refine AWI.seq (AWI.seq ?_)
      refine AWI.region (AR.go fun K hK => ?_)
      simp (disch := first | assumption | omega | (simp only [List.length_cons, List.length_nil, List.length_map, List.length_append, List.length_take, List.length_drop] <;> omega)) only [W0, R0, R1, R2, R3, R4, R5, R6, R7, R8, M0, envOf_nil, envOf_cons, ↓reduceIte, reduceCtorEq, Nat.reduceEqDiff, Int.reduceEq, Int.reduceLT, Int.reduceLE, Nat.reduceAdd, Nat.reduceSub, Nat.reduceBEq, Nat.reduceLT, eq_self]
      (refine hK _ _ ?_; refine AR.callE rfl (by first | exact .inl rfl | exact .inr ⟨_, _, rfl, rfl⟩) (by rw [hP]; exact ref (ls := R.1) (by omega) (fun x hx => by have := hw x hx; omega)) (by first | exact .inl rfl | exact .inr ⟨rfl, rfl⟩) ⟨_, rfl⟩ ?_; clear hK K; intro K hK)
      simp (disch := first | assumption | omega | (simp only [List.length_cons, List.length_nil, List.length_map, List.length_append, List.length_take, List.length_drop] <;> omega)) only [W0, R0, R1, R2, R3, R4, R5, R6, R7, R8, M0, envOf_nil, envOf_cons, ↓reduceIte, reduceCtorEq, Nat.reduceEqDiff, Int.reduceEq, Int.reduceLT, Int.reduceLE, Nat.reduceAdd, Nat.reduceSub, Nat.reduceBEq, Nat.reduceLT]
      (refine hK _ _ (AR.frz hX 47 ?_); clear hK K; simp (disch := first | assumption | omega | (simp only [List.length_cons, List.length_nil, List.length_map, List.length_append, List.length_take, List.length_drop] <;> omega)) only [W0, R0, R1, R2, R3, R4, R5, R6, R7, R8, M0, envOf_nil, envOf_cons, ↓reduceIte, reduceCtorEq, Nat.reduceEqDiff, Int.reduceEq, Int.reduceLT, Int.reduceLE, Nat.reduceAdd, Nat.reduceSub, Nat.reduceBEq, Nat.reduceLT]; refine AR.go fun K hK => ?_; simp (disch := first | assumption | omega | (simp only [List.length_cons, List.length_nil, List.length_map, List.length_append, List.length_take, List.length_drop] <;> omega)) only [W0, R0, R1, R2, R3, R4, R5, R6, R7, R8, M0, envOf_nil, envOf_cons, ↓reduceIte, reduceCtorEq, Nat.reduceEqDiff, Int.reduceEq, Int.reduceLT, Int.reduceLE, Nat.reduceAdd, Nat.reduceSub, Nat.reduceBEq, Nat.reduceLT])
      (refine hK _ _ (AR.reveal 48 rfl hv ?_); clear hK K; simp (disch := first | assumption | omega | (simp only [List.length_cons, List.length_nil, List.length_map, List.length_append, List.length_take, List.length_drop] <;> omega)) only [W0, R0, R1, R2, R3, R4, R5, R6, R7, R8, M0, envOf_nil, envOf_cons, ↓reduceIte, reduceCtorEq, Nat.reduceEqDiff, Int.reduceEq, Int.reduceLT, Int.reduceLE, Nat.reduceAdd, Nat.reduceSub, Nat.reduceBEq, Nat.reduceLT]; refine AR.go fun K hK => ?_; simp (disch := first | assumption | omega | (simp only [List.length_cons, List.length_nil, List.length_map, List.length_append, List.length_take, List.length_drop] <;> omega)) only [W0, R0, R1, R2, R3, R4, R5, R6, R7, R8, M0, envOf_nil, envOf_cons, ↓reduceIte, reduceCtorEq, Nat.reduceEqDiff, Int.reduceEq, Int.reduceLT, Int.reduceLE, Nat.reduceAdd, Nat.reduceSub, Nat.reduceBEq, Nat.reduceLT])
      (refine hK _ _ ?_; refine AR.callE rfl (by first | exact .inl rfl | exact .inr ⟨_, _, rfl, rfl⟩) (by rw [hP]; exact same (us := R.1) (vs := R.1) (p := true) (by omega) (by omega) (fun x hx => by have := hw x hx; omega) (fun x hx => by have := hw x hx; omega)) (by first | exact .inl rfl | exact .inr ⟨rfl, rfl⟩) ⟨_, rfl⟩ ?_; clear hK K; intro K hK)
      simp (disch := first | assumption | omega | (simp only [List.length_cons, List.length_nil, List.length_map, List.length_append, List.length_take, List.length_drop] <;> omega)) only [W0, R0, R1, R2, R3, R4, R5, R6, R7, R8, M0, envOf_nil, envOf_cons, ↓reduceIte, reduceCtorEq, Nat.reduceEqDiff, Int.reduceEq, Int.reduceLT, Int.reduceLE, Nat.reduceAdd, Nat.reduceSub, Nat.reduceBEq, Nat.reduceLT, eq_self]
      (refine hK _ _ (AR.keep2 [0, 3, 4, 5, 6, 7, 51] [] ?_); clear hK K; try simp only [keep2_mk, pickR_nil, pickR_cons, pickB_some, List.map_cons, List.map_nil, lk_nil, lk_cons, lkB_t, lkB_f, Nat.reduceBEq, Option.getD_some, Option.getD_none])
      refine AWI.cond (b := false) rfl (fun h => by cases h) fun _ => AWI.skip (AWI.seq ?_)
      (refine AWI.region (AR.go fun K hK => ?_); simp (disch := first | assumption | omega | (simp only [List.length_cons, List.length_nil, List.length_map, List.length_append, List.length_take, List.length_drop] <;> omega)) only [W0, R0, R1, R2, R3, R4, R5, R6, R7, R8, M0, envOf_nil, envOf_cons, ↓reduceIte, reduceCtorEq, Nat.reduceEqDiff, Int.reduceEq, Int.reduceLT, Int.reduceLE, Nat.reduceAdd, Nat.reduceSub, Nat.reduceBEq, Nat.reduceLT]; (refine hK _ _ (AR.keep2 [0, 3, 4, 5, 6, 7, 10] [] ?_); clear hK K; try simp only [keep2_mk, pickR_nil, pickR_cons, pickB_some, List.map_cons, List.map_nil, lk_nil, lk_cons, lkB_t, lkB_f, Nat.reduceBEq, Option.getD_some, Option.getD_none]))
      refine AWI.blur 10 (by decide) (AWI.blur 5 (by decide) ?_)
      show AWI Γ1 _ _ ⟨[(0, .c (.t true (.v (.string (bs s))))), (3, .c (.t true (.v (hd 3)))), (4, .c (.t true (.v (.int .i64 R.2.1)))), (5, .c (.t true (.v (.int .i64 R.2.2)))), (6, .c (.t true (.v (.int .i64 t)))), (7, .c (.t true (.sl 2 (((R.1.map lT).map (fun e => e.map (blurT 10))).map (fun e => e.map (blurT 5)))))), (10, .c (.t true (.v (.int .i64 0))))], []⟩
      rw [lT_blur]
      refine AWI.block (AWI.loop (α := Nat) (fun i => i ≤ R.1.length)
        (fun i => ⟨[(0, .c (.t true (.v (.string (bs s))))), (3, .c (.t true (.v (hd 3)))), (4, .c (.t true (.v (.int .i64 R.2.1)))), (5, .c (.t true (.v (.int .i64 R.2.2)))), (6, .c (.t true (.v (.int .i64 t)))), (7, .c (.t true (.sl 2 (R.1.map lV)))), (10, .c (.t true (.v (.int .i64 i))))], []⟩)
        (fun i => R.1.length - i) 0 (Nat.zero_le _) (fun _ _ h => h) fun i hi => ?_)
      refine AWI.seq (AWI.seq ?_)
      (refine AWI.region (AR.go fun K hK => ?_); simp (disch := first | assumption | omega | (simp only [List.length_cons, List.length_nil, List.length_map, List.length_append, List.length_take, List.length_drop] <;> omega)) only [W0, R0, R1, R2, R3, R4, R5, R6, R7, R8, M0, envOf_nil, envOf_cons, ↓reduceIte, reduceCtorEq, Nat.reduceEqDiff, Int.reduceEq, Int.reduceLT, Int.reduceLE, Nat.reduceAdd, Nat.reduceSub, Nat.reduceBEq, Nat.reduceLT]; (refine hK _ _ (AR.keep2 [0, 3, 4, 5, 6, 7, 10, 55] [] ?_); clear hK K; try simp only [keep2_mk, pickR_nil, pickR_cons, pickB_some, List.map_cons, List.map_nil, lk_nil, lk_cons, lkB_t, lkB_f, Nat.reduceBEq, Option.getD_some, Option.getD_none]))
      refine AWI.cond rfl (fun hc => AWI.skip (AWI.seq (AWI.block (AWI.seq (AWI.seq ?_))))) fun hc => AWI.keep2 [0, 3, 4, 5, 6] [] (AWI.exit ?_)
      · have hil : i < R.1.length := by simpa using of_decide_eq_true hc
        obtain ⟨x, hx⟩ : ∃ x, x = R.1[i] := ⟨_, rfl⟩
        have hgi : getE (R.1.map lV) i = lV x := by rw [getE_map' lV R.1 i hil, hx]
        have hwx := hw x (by rw [hx]; exact List.getElem_mem hil)
        obtain ⟨ws, pos⟩ := x
        simp only at hwx
        (refine AWI.region (AR.go fun K hK => ?_); simp (disch := first | assumption | omega | (simp only [List.length_cons, List.length_nil, List.length_map, List.length_append, List.length_take, List.length_drop] <;> omega)) only [W0, R0, R1, R2, R3, R4, R5, R6, R7, R8, M0, envOf_nil, envOf_cons, ↓reduceIte, reduceCtorEq, Nat.reduceEqDiff, Int.reduceEq, Int.reduceLT, Int.reduceLE, Nat.reduceAdd, Nat.reduceSub, Nat.reduceBEq, Nat.reduceLT]; (refine hK _ _ (AR.keep2 [0, 3, 4, 5, 6, 7, 10, 11] [] ?_); clear hK K; try simp only [keep2_mk, pickR_nil, pickR_cons, pickB_some, List.map_cons, List.map_nil, lk_nil, lk_cons, lkB_t, lkB_f, Nat.reduceBEq, Option.getD_some, Option.getD_none]))
        refine AWI.block (AWI.loop (α := Nat) (fun k => k ≤ ws.length)
          (fun k => ⟨[(0, .c (.t true (.v (.string (bs s))))), (3, .c (.t true (.v (hd 3)))), (4, .c (.t true (.v (.int .i64 R.2.1)))), (5, .c (.t true (.v (.int .i64 R.2.2)))), (6, .c (.t true (.v (.int .i64 t)))), (7, .c (.t true (.sl 2 (R.1.map lV)))), (10, .c (.t true (.v (.int .i64 i)))), (11, .c (.t true (.v (.int .i64 k))))], []⟩)
          (fun k => ws.length - k) 0 (Nat.zero_le _) (fun _ _ h => h) fun k hk => ?_)
        refine AWI.seq (AWI.seq ?_)
        refine AWI.region (AR.go fun K hK => ?_)
        simp (disch := first | assumption | omega | (simp only [List.length_cons, List.length_nil, List.length_map, List.length_append, List.length_take, List.length_drop] <;> omega)) only [W0, R0, R1, R2, R3, R4, R5, R6, R7, R8, M0, envOf_nil, envOf_cons, ↓reduceIte, reduceCtorEq, Nat.reduceEqDiff, Int.reduceEq, Int.reduceLT, Int.reduceLE, Nat.reduceAdd, Nat.reduceSub, Nat.reduceBEq, Nat.reduceLT, hgi, lV]
        (refine hK _ _ (AR.keep2 [0, 3, 4, 5, 6, 7, 10, 11, 65] [] ?_); clear hK K; try simp only [keep2_mk, pickR_nil, pickR_cons, pickB_some, List.map_cons, List.map_nil, lk_nil, lk_cons, lkB_t, lkB_f, Nat.reduceBEq, Option.getD_some, Option.getD_none])
        refine AWI.cond rfl (fun hc2 => AWI.skip (AWI.seq (AWI.block ?_))) fun hc2 => AWI.exit ?_
        · have hkl : k < ws.length := of_decide_eq_true hc2
          have hgk : getE (ws.map wV) k = [.w 10, .w 5] := getE_map' wV ws k hkl
          refine AWI.region (AR.go fun K hK => ?_)
          simp (disch := first | assumption | omega | (simp only [List.length_cons, List.length_nil, List.length_map, List.length_append, List.length_take, List.length_drop] <;> omega)) only [W0, R0, R1, R2, R3, R4, R5, R6, R7, R8, M0, envOf_nil, envOf_cons, ↓reduceIte, reduceCtorEq, Nat.reduceEqDiff, Int.reduceEq, Int.reduceLT, Int.reduceLE, Nat.reduceAdd, Nat.reduceSub, Nat.reduceBEq, Nat.reduceLT, hgi, lV, hgk]
          (refine hK _ _ (AR.wild 10 (by decide) rfl rfl rfl rfl rfl (by first | exact .inl rfl | exact .inr ⟨_, rfl, rfl⟩) rfl ?_); clear hK K; simp (disch := first | assumption | omega | (simp only [List.length_cons, List.length_nil, List.length_map, List.length_append, List.length_take, List.length_drop] <;> omega)) only [W0, R0, R1, R2, R3, R4, R5, R6, R7, R8, M0, envOf_nil, envOf_cons, ↓reduceIte, reduceCtorEq, Nat.reduceEqDiff, Int.reduceEq, Int.reduceLT, Int.reduceLE, Nat.reduceAdd, Nat.reduceSub, Nat.reduceBEq, Nat.reduceLT, lV_blur]; refine AR.go fun K hK => ?_; simp (disch := first | assumption | omega | (simp only [List.length_cons, List.length_nil, List.length_map, List.length_append, List.length_take, List.length_drop] <;> omega)) only [W0, R0, R1, R2, R3, R4, R5, R6, R7, R8, M0, envOf_nil, envOf_cons, ↓reduceIte, reduceCtorEq, Nat.reduceEqDiff, Int.reduceEq, Int.reduceLT, Int.reduceLE, Nat.reduceAdd, Nat.reduceSub, Nat.reduceBEq, Nat.reduceLT])
          (refine hK _ _ (AR.keep2 [0, 3, 4, 5, 6, 7, 10, 11] [] ?_); clear hK K; try simp only [keep2_mk, pickR_nil, pickR_cons, pickB_some, List.map_cons, List.map_nil, lk_nil, lk_cons, lkB_t, lkB_f, Nat.reduceBEq, Option.getD_some, Option.getD_none])
          (refine AWI.region (AR.go fun K hK => ?_); simp (disch := first | assumption | omega | (simp only [List.length_cons, List.length_nil, List.length_map, List.length_append, List.length_take, List.length_drop] <;> omega)) only [W0, R0, R1, R2, R3, R4, R5, R6, R7, R8, M0, envOf_nil, envOf_cons, ↓reduceIte, reduceCtorEq, Nat.reduceEqDiff, Int.reduceEq, Int.reduceLT, Int.reduceLE, Nat.reduceAdd, Nat.reduceSub, Nat.reduceBEq, Nat.reduceLT]; (refine hK _ _ (AR.keep2 [0, 3, 4, 5, 6, 7, 10, 11] [] ?_); clear hK K; try simp only [keep2_mk, pickR_nil, pickR_cons, pickB_some, List.map_cons, List.map_nil, lk_nil, lk_cons, lkB_t, lkB_f, Nat.reduceBEq, Option.getD_some, Option.getD_none]))
          exact ⟨k + 1, hkl, by omega, fun _ _ h => h⟩
        · refine AWI.region (AR.go fun K hK => ?_)
          simp (disch := first | assumption | omega | (simp only [List.length_cons, List.length_nil, List.length_map, List.length_append, List.length_take, List.length_drop] <;> omega)) only [W0, R0, R1, R2, R3, R4, R5, R6, R7, R8, M0, envOf_nil, envOf_cons, ↓reduceIte, reduceCtorEq, Nat.reduceEqDiff, Int.reduceEq, Int.reduceLT, Int.reduceLE, Nat.reduceAdd, Nat.reduceSub, Nat.reduceBEq, Nat.reduceLT, hgi, lV]
          (refine hK _ _ (AR.wild 5 (by decide) rfl rfl rfl rfl rfl (by first | exact .inl rfl | exact .inr ⟨_, rfl, rfl⟩) rfl ?_); clear hK K; simp (disch := first | assumption | omega | (simp only [List.length_cons, List.length_nil, List.length_map, List.length_append, List.length_take, List.length_drop] <;> omega)) only [W0, R0, R1, R2, R3, R4, R5, R6, R7, R8, M0, envOf_nil, envOf_cons, ↓reduceIte, reduceCtorEq, Nat.reduceEqDiff, Int.reduceEq, Int.reduceLT, Int.reduceLE, Nat.reduceAdd, Nat.reduceSub, Nat.reduceBEq, Nat.reduceLT, lV_blur]; refine AR.go fun K hK => ?_; simp (disch := first | assumption | omega | (simp only [List.length_cons, List.length_nil, List.length_map, List.length_append, List.length_take, List.length_drop] <;> omega)) only [W0, R0, R1, R2, R3, R4, R5, R6, R7, R8, M0, envOf_nil, envOf_cons, ↓reduceIte, reduceCtorEq, Nat.reduceEqDiff, Int.reduceEq, Int.reduceLT, Int.reduceLE, Nat.reduceAdd, Nat.reduceSub, Nat.reduceBEq, Nat.reduceLT])
          (refine hK _ _ (AR.keep2 [0, 3, 4, 5, 6, 7, 10] [] ?_); clear hK K; try simp only [keep2_mk, pickR_nil, pickR_cons, pickB_some, List.map_cons, List.map_nil, lk_nil, lk_cons, lkB_t, lkB_f, Nat.reduceBEq, Option.getD_some, Option.getD_none])
          (refine AWI.region (AR.go fun K hK => ?_); simp (disch := first | assumption | omega | (simp only [List.length_cons, List.length_nil, List.length_map, List.length_append, List.length_take, List.length_drop] <;> omega)) only [W0, R0, R1, R2, R3, R4, R5, R6, R7, R8, M0, envOf_nil, envOf_cons, ↓reduceIte, reduceCtorEq, Nat.reduceEqDiff, Int.reduceEq, Int.reduceLT, Int.reduceLE, Nat.reduceAdd, Nat.reduceSub, Nat.reduceBEq, Nat.reduceLT]; (refine hK _ _ (AR.keep2 [0, 3, 4, 5, 6, 7, 10] [] ?_); clear hK K; try simp only [keep2_mk, pickR_nil, pickR_cons, pickB_some, List.map_cons, List.map_nil, lk_nil, lk_cons, lkB_t, lkB_f, Nat.reduceBEq, Option.getD_some, Option.getD_none]))
          exact ⟨i + 1, hil, by omega, fun _ _ h => h⟩
      · exact ⟨_, rfl, .same (.old rfl rfl (.same (.same (.same .nil)))), q⟩
    · (refine AWI.region (AR.go fun K hK => ?_); simp (disch := first | assumption | omega | (simp only [List.length_cons, List.length_nil, List.length_map, List.length_append, List.length_take, List.length_drop] <;> omega)) only [W0, R0, R1, R2, R3, R4, R5, R6, R7, R8, M0, envOf_nil, envOf_cons, ↓reduceIte, reduceCtorEq, Nat.reduceEqDiff, Int.reduceEq, Int.reduceLT, Int.reduceLE, Nat.reduceAdd, Nat.reduceSub, Nat.reduceBEq, Nat.reduceLT]; (refine hK _ _ (AR.keep2 [0, 3, 4, 5, 6] [] ?_); clear hK K; try simp only [keep2_mk, pickR_nil, pickR_cons, pickB_some, List.map_cons, List.map_nil, lk_nil, lk_cons, lkB_t, lkB_f, Nat.reduceBEq, Option.getD_some, Option.getD_none]))
      exact ⟨t + 1, hlt, by omega, fun _ _ h => h⟩
  · refine AWI.seq ?_
    refine AWI.region (AR.go fun K hK => ?_)
    simp (disch := first | assumption | omega | (simp only [List.length_cons, List.length_nil, List.length_map, List.length_append, List.length_take, List.length_drop] <;> omega)) only [W0, R0, R1, R2, R3, R4, R5, R6, R7, R8, M0, envOf_nil, envOf_cons, ↓reduceIte, reduceCtorEq, Nat.reduceEqDiff, Int.reduceEq, Int.reduceLT, Int.reduceLE, Nat.reduceAdd, Nat.reduceSub, Nat.reduceBEq, Nat.reduceLT]
    (refine hK _ _ ?_; refine AR.callE rfl (by first | exact .inl rfl | exact .inr ⟨_, _, rfl, rfl⟩) (by rw [hP]; exact is (l := s) hs) (by first | exact .inl rfl | exact .inr ⟨rfl, rfl⟩) ⟨_, rfl⟩ ?_; clear hK K; intro K hK)
    simp (disch := first | assumption | omega | (simp only [List.length_cons, List.length_nil, List.length_map, List.length_append, List.length_take, List.length_drop] <;> omega)) only [W0, R0, R1, R2, R3, R4, R5, R6, R7, R8, M0, envOf_nil, envOf_cons, ↓reduceIte, reduceCtorEq, Nat.reduceEqDiff, Int.reduceEq, Int.reduceLT, Int.reduceLE, Nat.reduceAdd, Nat.reduceSub, Nat.reduceBEq, Nat.reduceLT]
    (refine hK _ _ ?_; refine AR.callE rfl (by first | exact .inl rfl | exact .inr ⟨_, _, rfl, rfl⟩) (by rw [hP]; exact ris (l := s) hs) (by first | exact .inl rfl | exact .inr ⟨rfl, rfl⟩) ⟨_, rfl⟩ ?_; clear hK K; intro K hK)
    simp (disch := first | assumption | omega | (simp only [List.length_cons, List.length_nil, List.length_map, List.length_append, List.length_take, List.length_drop] <;> omega)) only [W0, R0, R1, R2, R3, R4, R5, R6, R7, R8, M0, envOf_nil, envOf_cons, ↓reduceIte, reduceCtorEq, Nat.reduceEqDiff, Int.reduceEq, Int.reduceLT, Int.reduceLE, Nat.reduceAdd, Nat.reduceSub, Nat.reduceBEq, Nat.reduceLT, beq_self_eq_true]
    (refine hK _ _ ?_; refine AR.callE rfl (by first | exact .inl rfl | exact .inr ⟨_, _, rfl, rfl⟩) (by rw [hP]; exact works) (by first | exact .inl rfl | exact .inr ⟨rfl, rfl⟩) ⟨_, rfl⟩ ?_; clear hK K; intro K hK)
    simp (disch := first | assumption | omega | (simp only [List.length_cons, List.length_nil, List.length_map, List.length_append, List.length_take, List.length_drop] <;> omega)) only [W0, R0, R1, R2, R3, R4, R5, R6, R7, R8, M0, envOf_nil, envOf_cons, ↓reduceIte, reduceCtorEq, Nat.reduceEqDiff, Int.reduceEq, Int.reduceLT, Int.reduceLE, Nat.reduceAdd, Nat.reduceSub, Nat.reduceBEq, Nat.reduceLT]
    (refine hK _ _ (AR.keep2 [2] [] ?_); clear hK K; try simp only [keep2_mk, pickR_nil, pickR_cons, pickB_some, List.map_cons, List.map_nil, lk_nil, lk_cons, lkB_t, lkB_f, Nat.reduceBEq, Option.getD_some, Option.getD_none])
    exact AWI.ret ⟨.inl rfl, _, fun _ _ h => h.norm, rfl, rfl⟩
end Go.Proofs.Ytnealepilmobjaa
