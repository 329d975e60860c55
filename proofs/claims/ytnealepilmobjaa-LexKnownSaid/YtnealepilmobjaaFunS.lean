/- LexBack answers true. -/
import Derived.Test.YtnealepilmobjaaIC
import Derived.Test.YtnealepilmobjaaFunJ
import Derived.Test.YtnealepilmobjaaFunR
set_option linter.unusedVariables false
set_option linter.unusedSimpArgs false
set_option maxRecDepth 100000
namespace Go.Proofs.Ytnealepilmobjaa
open Go.Eng
theorem showR {l : List UInt8} (h : l.length ≤ 1000) : (∃ b, linesR l = ([], b, 70)) ∨
    (∃ la lb, linesR l = (la, 0, 0) ∧ linesR (showL la) = (lb, 0, 0) ∧ la.map (nL false) = lb.map (nL false) ∧ la.length ≤ 1000 ∧ (∀ x ∈ la, x.1.length ≤ 1000) ∧ (showL la).length ≤ 3000 ∧ lb.length ≤ 3000 ∧ (∀ x ∈ lb, x.1.length ≤ 3000)) := by
  rcases linesR_cases (l := l) (by omega) with ⟨b, h1, _⟩ | ⟨h1, h2⟩
  · exact .inl ⟨b, h1⟩
  · right
    have hl := linesF_len l 0
    have hs := showL_lines l 0
    have hk := lines_show _ (linesF_ok l 0) 0
    have hm := linesF_len (showL (linesF 0 l).1) 0
    refine ⟨_, (linesF 0 (showL (linesF 0 l).1)).1, h1, ?_, hk.2.symm, by omega, fun x hx => by have := hl.2 x hx; omega, by omega, by omega, fun x hx => by have := hm.2 x hx; omega⟩
    unfold linesR
    rw [if_neg (by omega), hk.1]
theorem showR' {l : List UInt8} (h : l.length ≤ 1000) : ∃ la b ec, linesR l = (la, b, ec) ∧ la.length ≤ 1000 ∧ (ec = 70 ∨ (ec = 0 ∧ ∃ lb, linesR (showL la) = (lb, 0, 0) ∧ la.map (nL false) = lb.map (nL false) ∧
    (∀ x ∈ la, x.1.length ≤ 1000) ∧ (showL la).length ≤ 3000 ∧ lb.length ≤ 3000 ∧ (∀ x ∈ lb, x.1.length ≤ 3000))) := by
  rcases showR h with ⟨b, h1⟩ | ⟨la, lb, h1, h2, h3, hl1, hw1, hl2, hl3, hw3⟩
  · exact ⟨_, _, _, h1, by simp, .inl rfl⟩
  · exact ⟨_, _, _, h1, hl1, .inr ⟨rfl, lb, h2, h3, hw1, hl2, hl3, hw3⟩⟩
theorem showR2 {ls : List PLine} (h : fewL ls = true) (hok : ∀ x ∈ ls, okLine x) : ∃ lb, linesR (showL ls) = (lb, 0, 0) ∧ lb.map (nL false) = ls.map (nL false) ∧ lb.length ≤ 21000 ∧ (∀ x ∈ lb, x.1.length ≤ 21000) := by
  obtain ⟨h1, h2⟩ := fewL_spec h
  have h3 := showL_len ls h2
  have hk := lines_show ls hok 0
  have hm := linesF_len (showL ls) 0
  refine ⟨_, ?_, hk.2, by omega, fun x hx => by have := hm.2 x hx; omega⟩
  unfold linesR
  rw [if_neg (by omega), hk.1]
theorem back {fr fs : Bool} {ls : List PLine} {s : List UInt8} (hl : ls.length ≤ 9223372036854775807) :
    CtrE Try.prog 6 [.c (.t fr (.sl 2 (ls.map lT))), .c (.t fs (.v (.string (bs s))))] (.c (.t true (.v (.bool true)))) [] := by
  refine fn6 (Nat.le_of_ble_eq_true rfl) fun Γ hP hn hX hm => ?_; have hgf := hm.1; unfold i6
  refine AWI.seq ?_
  (refine AWI.region (AR.go fun K hK => ?_); simp (disch := first | assumption | omega | (simp only [List.length_cons, List.length_nil, List.length_map, List.length_append, List.length_take, List.length_drop] <;> omega)) only [R0, R1, R2, R3, R4, R5, R6, R7, R8, M0, envOf_nil, envOf_cons, ↓reduceIte, reduceCtorEq, Nat.reduceEqDiff, Int.reduceEq, Int.reduceLT, Int.reduceLE, Nat.reduceAdd, Nat.reduceSub, Nat.reduceBEq, Nat.reduceLT]; (refine hK _ _ (AR.keep2 [0, 1] [] ?_); clear hK K; try simp only [keep2_mk, pickR_nil, pickR_cons, pickB_some, List.map_cons, List.map_nil, lk_nil, lk_cons, lkB_t, lkB_f, Nat.reduceBEq, Option.getD_some, Option.getD_none]))
  refine AWI.seq (AWI.seq ?_)
  refine AWI.post ⟨[(0, .c (.t fr (.sl 2 (ls.map lT)))), (1, .c (.t fs (.v (.string (bs s))))), (23, .c (.t true (.v (.bool (!fewL ls || decide (1000 < s.length))))))], []⟩ (fun Q' q => ?_) ?_
  · refine AWI.region (AR.go fun K hK => ?_)
    simp (disch := first | assumption | omega | (simp only [List.length_cons, List.length_nil, List.length_map, List.length_append, List.length_take, List.length_drop] <;> omega)) only [R0, R1, R2, R3, R4, R5, R6, R7, R8, M0, envOf_nil, envOf_cons, ↓reduceIte, reduceCtorEq, Nat.reduceEqDiff, Int.reduceEq, Int.reduceLT, Int.reduceLE, Nat.reduceAdd, Nat.reduceSub, Nat.reduceBEq, Nat.reduceLT]
    (refine hK _ _ ?_; refine AR.callE rfl (by first | exact .inl rfl | exact .inr ⟨_, _, rfl, rfl⟩) (by rw [hP]; exact few (ls := ls) hl) (by first | exact .inl rfl | exact .inr ⟨rfl, rfl⟩) ⟨_, rfl⟩ ?_; clear hK K; intro K hK)
    cases hf : fewL ls with
    | false =>
      rw [hf] at q
      simp (disch := first | assumption | omega | (simp only [List.length_cons, List.length_nil, List.length_map, List.length_append, List.length_take, List.length_drop] <;> omega)) only [R0, R1, R2, R3, R4, R5, R6, R7, R8, M0, envOf_nil, envOf_cons, ↓reduceIte, reduceCtorEq, Nat.reduceEqDiff, Int.reduceEq, Int.reduceLT, Int.reduceLE, Nat.reduceAdd, Nat.reduceSub, Nat.reduceBEq, Nat.reduceLT]
      (refine hK _ _ (AR.keep2 [0, 1, 23] [] ?_); clear hK K; try simp only [keep2_mk, pickR_nil, pickR_cons, pickB_some, List.map_cons, List.map_nil, lk_nil, lk_cons, lkB_t, lkB_f, Nat.reduceBEq, Option.getD_some, Option.getD_none])
      exact q
    | true =>
      rw [hf] at q
      simp (disch := first | assumption | omega | (simp only [List.length_cons, List.length_nil, List.length_map, List.length_append, List.length_take, List.length_drop] <;> omega)) only [R0, R1, R2, R3, R4, R5, R6, R7, R8, M0, envOf_nil, envOf_cons, ↓reduceIte, reduceCtorEq, Nat.reduceEqDiff, Int.reduceEq, Int.reduceLT, Int.reduceLE, Nat.reduceAdd, Nat.reduceSub, Nat.reduceBEq, Nat.reduceLT]
      have e : decide ((1000 : Int) < s.length) = decide (1000 < s.length) := by by_cases h : 1000 < s.length <;> simp [h] <;> omega
      rw [e]
      (refine hK _ _ (AR.keep2 [0, 1, 23] [] ?_); clear hK K; try simp only [keep2_mk, pickR_nil, pickR_cons, pickB_some, List.map_cons, List.map_nil, lk_nil, lk_cons, lkB_t, lkB_f, Nat.reduceBEq, Option.getD_some, Option.getD_none])
      exact q
  refine AWI.cond rfl (fun hc => AWI.seq ?_) fun hc => AWI.skip (AWI.seq ?_)
  · refine AWI.region (AR.go fun K hK => ?_)
    simp (disch := first | assumption | omega | (simp only [List.length_cons, List.length_nil, List.length_map, List.length_append, List.length_take, List.length_drop] <;> omega)) only [R0, R1, R2, R3, R4, R5, R6, R7, R8, M0, envOf_nil, envOf_cons, ↓reduceIte, reduceCtorEq, Nat.reduceEqDiff, Int.reduceEq, Int.reduceLT, Int.reduceLE, Nat.reduceAdd, Nat.reduceSub, Nat.reduceBEq, Nat.reduceLT]
    (refine hK _ _ ?_; refine AR.callE rfl (by first | exact .inl rfl | exact .inr ⟨_, _, rfl, rfl⟩) (by rw [hP]; exact works) (by first | exact .inl rfl | exact .inr ⟨rfl, rfl⟩) ⟨_, rfl⟩ ?_; clear hK K; intro K hK)
    simp (disch := first | assumption | omega | (simp only [List.length_cons, List.length_nil, List.length_map, List.length_append, List.length_take, List.length_drop] <;> omega)) only [R0, R1, R2, R3, R4, R5, R6, R7, R8, M0, envOf_nil, envOf_cons, ↓reduceIte, reduceCtorEq, Nat.reduceEqDiff, Int.reduceEq, Int.reduceLT, Int.reduceLE, Nat.reduceAdd, Nat.reduceSub, Nat.reduceBEq, Nat.reduceLT]
    (refine hK _ _ (AR.keep2 [4] [] ?_); clear hK K; try simp only [keep2_mk, pickR_nil, pickR_cons, pickB_some, List.map_cons, List.map_nil, lk_nil, lk_cons, lkB_t, lkB_f, Nat.reduceBEq, Option.getD_some, Option.getD_none])
    exact AWI.ret ⟨.inl rfl, _, fun _ _ h => h.norm, rfl, rfl⟩
  have hc : fewL ls = true ∧ s.length ≤ 1000 := by simpa using hc
  obtain ⟨hf, hs⟩ := hc
  obtain ⟨hn, hw⟩ := fewL_spec hf
  have hsl := showL_len ls hw
  have hww : ∀ x ∈ ls, x.1.length ≤ 100000 := fun x hx => by have := (hw x hx).1; omega
  obtain ⟨la, b, ec, h1, hl1, hk⟩ := showR' hs
  refine AWI.region (AR.go fun K hK => ?_)
  simp (disch := first | assumption | omega | (simp only [List.length_cons, List.length_nil, List.length_map, List.length_append, List.length_take, List.length_drop] <;> omega)) only [R0, R1, R2, R3, R4, R5, R6, R7, R8, M0, envOf_nil, envOf_cons, ↓reduceIte, reduceCtorEq, Nat.reduceEqDiff, Int.reduceEq, Int.reduceLT, Int.reduceLE, Nat.reduceAdd, Nat.reduceSub, Nat.reduceBEq, Nat.reduceLT]
  (refine hK _ _ ?_; refine AR.callE rfl (by first | exact .inl rfl | exact .inr ⟨_, _, rfl, rfl⟩) (by rw [hP]; exact lines (l := s) (by omega)) (by first | exact .inl rfl | exact .inr ⟨rfl, rfl⟩) ⟨_, rfl⟩ ?_; clear hK K; intro K hK)
  simp (disch := first | assumption | omega | (simp only [List.length_cons, List.length_nil, List.length_map, List.length_append, List.length_take, List.length_drop] <;> omega)) only [R0, R1, R2, R3, R4, R5, R6, R7, R8, M0, envOf_nil, envOf_cons, ↓reduceIte, reduceCtorEq, Nat.reduceEqDiff, Int.reduceEq, Int.reduceLT, Int.reduceLE, Nat.reduceAdd, Nat.reduceSub, Nat.reduceBEq, Nat.reduceLT, h1]
  (refine hK _ _ (AR.frz hX 27 ?_); clear hK K; simp (disch := first | assumption | omega | (simp only [List.length_cons, List.length_nil, List.length_map, List.length_append, List.length_take, List.length_drop] <;> omega)) only [R0, R1, R2, R3, R4, R5, R6, R7, R8, M0, envOf_nil, envOf_cons, ↓reduceIte, reduceCtorEq, Nat.reduceEqDiff, Int.reduceEq, Int.reduceLT, Int.reduceLE, Nat.reduceAdd, Nat.reduceSub, Nat.reduceBEq, Nat.reduceLT]; refine AR.go fun K hK => ?_; simp (disch := first | assumption | omega | (simp only [List.length_cons, List.length_nil, List.length_map, List.length_append, List.length_take, List.length_drop] <;> omega)) only [R0, R1, R2, R3, R4, R5, R6, R7, R8, M0, envOf_nil, envOf_cons, ↓reduceIte, reduceCtorEq, Nat.reduceEqDiff, Int.reduceEq, Int.reduceLT, Int.reduceLE, Nat.reduceAdd, Nat.reduceSub, Nat.reduceBEq, Nat.reduceLT])
  (refine hK _ _ (AR.keep2 [0, 5, 7] [] ?_); clear hK K; try simp only [keep2_mk, pickR_nil, pickR_cons, pickB_some, List.map_cons, List.map_nil, lk_nil, lk_cons, lkB_t, lkB_f, Nat.reduceBEq, Option.getD_some, Option.getD_none])
  refine AWI.seq ?_
  refine AWI.post ⟨[(0, .c (.t fr (.sl 2 (ls.map lT))))], []⟩ (fun Q' q => ?_) ?_
  · refine AWI.seq ?_
    (refine AWI.region (AR.go fun K hK => ?_); simp (disch := first | assumption | omega | (simp only [List.length_cons, List.length_nil, List.length_map, List.length_append, List.length_take, List.length_drop] <;> omega)) only [R0, R1, R2, R3, R4, R5, R6, R7, R8, M0, envOf_nil, envOf_cons, ↓reduceIte, reduceCtorEq, Nat.reduceEqDiff, Int.reduceEq, Int.reduceLT, Int.reduceLE, Nat.reduceAdd, Nat.reduceSub, Nat.reduceBEq, Nat.reduceLT]; (refine hK _ _ (AR.keep2 [0, 5, 32] [] ?_); clear hK K; try simp only [keep2_mk, pickR_nil, pickR_cons, pickB_some, List.map_cons, List.map_nil, lk_nil, lk_cons, lkB_t, lkB_f, Nat.reduceBEq, Option.getD_some, Option.getD_none]))
    rcases hk with rfl | ⟨rfl, lb, h2, h3, hw1, hl2, hl3, hw3⟩
    · refine AWI.cond (b := false) rfl (fun h => by cases h) fun _ => AWI.keep2 [0] [] (AWI.skip ?_)
      exact q
    · refine AWI.cond (b := true) rfl (fun _ => AWI.seq ?_) fun h => by cases h
      refine AWI.region (AR.go fun K hK => ?_)
      simp (disch := first | assumption | omega | (simp only [List.length_cons, List.length_nil, List.length_map, List.length_append, List.length_take, List.length_drop] <;> omega)) only [R0, R1, R2, R3, R4, R5, R6, R7, R8, M0, envOf_nil, envOf_cons, ↓reduceIte, reduceCtorEq, Nat.reduceEqDiff, Int.reduceEq, Int.reduceLT, Int.reduceLE, Nat.reduceAdd, Nat.reduceSub, Nat.reduceBEq, Nat.reduceLT]
      (refine hK _ _ ?_; refine AR.callE rfl (by first | exact .inl rfl | exact .inr ⟨_, _, rfl, rfl⟩) (by rw [hP]; exact show_ (ls := la) (by omega) (fun x hx => by have := hw1 x hx; omega) (by omega)) (by first | exact .inl rfl | exact .inr ⟨rfl, rfl⟩) ⟨_, rfl⟩ ?_; clear hK K; intro K hK)
      simp (disch := first | assumption | omega | (simp only [List.length_cons, List.length_nil, List.length_map, List.length_append, List.length_take, List.length_drop] <;> omega)) only [R0, R1, R2, R3, R4, R5, R6, R7, R8, M0, envOf_nil, envOf_cons, ↓reduceIte, reduceCtorEq, Nat.reduceEqDiff, Int.reduceEq, Int.reduceLT, Int.reduceLE, Nat.reduceAdd, Nat.reduceSub, Nat.reduceBEq, Nat.reduceLT]
      (refine hK _ _ ?_; refine AR.callE rfl (by first | exact .inl rfl | exact .inr ⟨_, _, rfl, rfl⟩) (by rw [hP]; exact lines (l := showL la) (by omega)) (by first | exact .inl rfl | exact .inr ⟨rfl, rfl⟩) ⟨_, rfl⟩ ?_; clear hK K; intro K hK)
      simp (disch := first | assumption | omega | (simp only [List.length_cons, List.length_nil, List.length_map, List.length_append, List.length_take, List.length_drop] <;> omega)) only [R0, R1, R2, R3, R4, R5, R6, R7, R8, M0, envOf_nil, envOf_cons, ↓reduceIte, reduceCtorEq, Nat.reduceEqDiff, Int.reduceEq, Int.reduceLT, Int.reduceLE, Nat.reduceAdd, Nat.reduceSub, Nat.reduceBEq, Nat.reduceLT, h2]
      (refine hK _ _ (AR.frz hX 36 ?_); clear hK K; simp (disch := first | assumption | omega | (simp only [List.length_cons, List.length_nil, List.length_map, List.length_append, List.length_take, List.length_drop] <;> omega)) only [R0, R1, R2, R3, R4, R5, R6, R7, R8, M0, envOf_nil, envOf_cons, ↓reduceIte, reduceCtorEq, Nat.reduceEqDiff, Int.reduceEq, Int.reduceLT, Int.reduceLE, Nat.reduceAdd, Nat.reduceSub, Nat.reduceBEq, Nat.reduceLT]; refine AR.go fun K hK => ?_; simp (disch := first | assumption | omega | (simp only [List.length_cons, List.length_nil, List.length_map, List.length_append, List.length_take, List.length_drop] <;> omega)) only [R0, R1, R2, R3, R4, R5, R6, R7, R8, M0, envOf_nil, envOf_cons, ↓reduceIte, reduceCtorEq, Nat.reduceEqDiff, Int.reduceEq, Int.reduceLT, Int.reduceLE, Nat.reduceAdd, Nat.reduceSub, Nat.reduceBEq, Nat.reduceLT])
      (refine hK _ _ (AR.keep2 [0, 5, 8, 10] [] ?_); clear hK K; try simp only [keep2_mk, pickR_nil, pickR_cons, pickB_some, List.map_cons, List.map_nil, lk_nil, lk_cons, lkB_t, lkB_f, Nat.reduceBEq, Option.getD_some, Option.getD_none])
      refine AWI.seq ?_
      refine AWI.region (AR.go fun K hK => ?_)
      simp (disch := first | assumption | omega | (simp only [List.length_cons, List.length_nil, List.length_map, List.length_append, List.length_take, List.length_drop] <;> omega)) only [R0, R1, R2, R3, R4, R5, R6, R7, R8, M0, envOf_nil, envOf_cons, ↓reduceIte, reduceCtorEq, Nat.reduceEqDiff, Int.reduceEq, Int.reduceLT, Int.reduceLE, Nat.reduceAdd, Nat.reduceSub, Nat.reduceBEq, Nat.reduceLT]
      (refine hK _ _ ?_; refine AR.callE rfl (by first | exact .inl rfl | exact .inr ⟨_, _, rfl, rfl⟩) (by rw [hP]; exact ref (ls := la) (by omega) (fun x hx => by have := hw1 x hx; omega)) (by first | exact .inl rfl | exact .inr ⟨rfl, rfl⟩) ⟨_, rfl⟩ ?_; clear hK K; intro K hK)
      simp (disch := first | assumption | omega | (simp only [List.length_cons, List.length_nil, List.length_map, List.length_append, List.length_take, List.length_drop] <;> omega)) only [R0, R1, R2, R3, R4, R5, R6, R7, R8, M0, envOf_nil, envOf_cons, ↓reduceIte, reduceCtorEq, Nat.reduceEqDiff, Int.reduceEq, Int.reduceLT, Int.reduceLE, Nat.reduceAdd, Nat.reduceSub, Nat.reduceBEq, Nat.reduceLT]
      (refine hK _ _ (AR.frz hX 44 ?_); clear hK K; simp (disch := first | assumption | omega | (simp only [List.length_cons, List.length_nil, List.length_map, List.length_append, List.length_take, List.length_drop] <;> omega)) only [R0, R1, R2, R3, R4, R5, R6, R7, R8, M0, envOf_nil, envOf_cons, ↓reduceIte, reduceCtorEq, Nat.reduceEqDiff, Int.reduceEq, Int.reduceLT, Int.reduceLE, Nat.reduceAdd, Nat.reduceSub, Nat.reduceBEq, Nat.reduceLT]; refine AR.go fun K hK => ?_; simp (disch := first | assumption | omega | (simp only [List.length_cons, List.length_nil, List.length_map, List.length_append, List.length_take, List.length_drop] <;> omega)) only [R0, R1, R2, R3, R4, R5, R6, R7, R8, M0, envOf_nil, envOf_cons, ↓reduceIte, reduceCtorEq, Nat.reduceEqDiff, Int.reduceEq, Int.reduceLT, Int.reduceLE, Nat.reduceAdd, Nat.reduceSub, Nat.reduceBEq, Nat.reduceLT])
      (refine hK _ _ ?_; refine AR.callE rfl (by first | exact .inl rfl | exact .inr ⟨_, _, rfl, rfl⟩) (by rw [hP]; exact ref (ls := lb) (by omega) (fun x hx => by have := hw3 x hx; omega)) (by first | exact .inl rfl | exact .inr ⟨rfl, rfl⟩) ⟨_, rfl⟩ ?_; clear hK K; intro K hK)
      simp (disch := first | assumption | omega | (simp only [List.length_cons, List.length_nil, List.length_map, List.length_append, List.length_take, List.length_drop] <;> omega)) only [R0, R1, R2, R3, R4, R5, R6, R7, R8, M0, envOf_nil, envOf_cons, ↓reduceIte, reduceCtorEq, Nat.reduceEqDiff, Int.reduceEq, Int.reduceLT, Int.reduceLE, Nat.reduceAdd, Nat.reduceSub, Nat.reduceBEq, Nat.reduceLT]
      (refine hK _ _ (AR.frz hX 46 ?_); clear hK K; simp (disch := first | assumption | omega | (simp only [List.length_cons, List.length_nil, List.length_map, List.length_append, List.length_take, List.length_drop] <;> omega)) only [R0, R1, R2, R3, R4, R5, R6, R7, R8, M0, envOf_nil, envOf_cons, ↓reduceIte, reduceCtorEq, Nat.reduceEqDiff, Int.reduceEq, Int.reduceLT, Int.reduceLE, Nat.reduceAdd, Nat.reduceSub, Nat.reduceBEq, Nat.reduceLT]; refine AR.go fun K hK => ?_; simp (disch := first | assumption | omega | (simp only [List.length_cons, List.length_nil, List.length_map, List.length_append, List.length_take, List.length_drop] <;> omega)) only [R0, R1, R2, R3, R4, R5, R6, R7, R8, M0, envOf_nil, envOf_cons, ↓reduceIte, reduceCtorEq, Nat.reduceEqDiff, Int.reduceEq, Int.reduceLT, Int.reduceLE, Nat.reduceAdd, Nat.reduceSub, Nat.reduceBEq, Nat.reduceLT])
      (refine hK _ _ ?_; refine AR.callE rfl (by first | exact .inl rfl | exact .inr ⟨_, _, rfl, rfl⟩) (by rw [hP]; exact same (us := la) (vs := lb) (p := false) (by omega) (by omega) (fun x hx => by have := hw1 x hx; omega) (fun x hx => by have := hw3 x hx; omega)) (by first | exact .inl rfl | exact .inr ⟨rfl, rfl⟩) ⟨_, rfl⟩ ?_; clear hK K; intro K hK)
      simp (disch := first | assumption | omega | (simp only [List.length_cons, List.length_nil, List.length_map, List.length_append, List.length_take, List.length_drop] <;> omega)) only [R0, R1, R2, R3, R4, R5, R6, R7, R8, M0, envOf_nil, envOf_cons, ↓reduceIte, reduceCtorEq, Nat.reduceEqDiff, Int.reduceEq, Int.reduceLT, Int.reduceLE, Nat.reduceAdd, Nat.reduceSub, Nat.reduceBEq, Nat.reduceLT, h3, eq_self]
      (refine hK _ _ (AR.keep2 [0, 49] [] ?_); clear hK K; try simp only [keep2_mk, pickR_nil, pickR_cons, pickB_some, List.map_cons, List.map_nil, lk_nil, lk_cons, lkB_t, lkB_f, Nat.reduceBEq, Option.getD_some, Option.getD_none])
      refine AWI.cond (b := false) rfl (fun h => by cases h) fun _ => AWI.keep2 [0] [] (AWI.skip ?_)
      exact q
  refine AWI.seq (AWI.seq ?_)
  (refine AWI.region (AR.go fun K hK => ?_); simp (disch := first | assumption | omega | (simp only [List.length_cons, List.length_nil, List.length_map, List.length_append, List.length_take, List.length_drop] <;> omega)) only [R0, R1, R2, R3, R4, R5, R6, R7, R8, M0, envOf_nil, envOf_cons, ↓reduceIte, reduceCtorEq, Nat.reduceEqDiff, Int.reduceEq, Int.reduceLT, Int.reduceLE, Nat.reduceAdd, Nat.reduceSub, Nat.reduceBEq, Nat.reduceLT]; (refine hK _ _ (AR.keep2 [0, 11] [] ?_); clear hK K; try simp only [keep2_mk, pickR_nil, pickR_cons, pickB_some, List.map_cons, List.map_nil, lk_nil, lk_cons, lkB_t, lkB_f, Nat.reduceBEq, Option.getD_some, Option.getD_none]))
  refine AWI.block (AWI.loop (α := Nat) (fun i => i ≤ ls.length ∧ ∀ x ∈ ls.take i, okLine x) (fun i => ⟨[(0, .c (.t fr (.sl 2 (ls.map lT)))), (11, .c (.t true (.v (.int .i64 i))))], []⟩)
    (fun i => ls.length - i) 0 ⟨Nat.zero_le _, fun x hx => by simp at hx⟩ (fun _ _ h => h) fun i hi => ?_)
  obtain ⟨hi1, hi2⟩ := hi
  refine AWI.seq (AWI.seq ?_)
  (refine AWI.region (AR.go fun K hK => ?_); simp (disch := first | assumption | omega | (simp only [List.length_cons, List.length_nil, List.length_map, List.length_append, List.length_take, List.length_drop] <;> omega)) only [R0, R1, R2, R3, R4, R5, R6, R7, R8, M0, envOf_nil, envOf_cons, ↓reduceIte, reduceCtorEq, Nat.reduceEqDiff, Int.reduceEq, Int.reduceLT, Int.reduceLE, Nat.reduceAdd, Nat.reduceSub, Nat.reduceBEq, Nat.reduceLT]; (refine hK _ _ (AR.keep2 [0, 11, 53] [] ?_); clear hK K; try simp only [keep2_mk, pickR_nil, pickR_cons, pickB_some, List.map_cons, List.map_nil, lk_nil, lk_cons, lkB_t, lkB_f, Nat.reduceBEq, Option.getD_some, Option.getD_none]))
  refine AWI.cond rfl (fun hc => AWI.skip (AWI.seq (AWI.block (AWI.seq (AWI.seq ?_))))) fun hc => AWI.exit (AWI.seq ?_)
  · have hlt : i < ls.length := by simpa using of_decide_eq_true hc
    obtain ⟨x, hx⟩ : ∃ x, x = ls[i] := ⟨_, rfl⟩
    have hxm : x ∈ ls := by rw [hx]; exact List.getElem_mem hlt
    have hgi : getE (ls.map lT) i = lT x := by rw [getE_map' lT ls i hlt, hx]
    have htk : ls.take (i + 1) = ls.take i ++ [x] := by rw [List.take_add_one, List.getElem?_eq_getElem hlt, hx]; rfl
    have hwx := hw x hxm
    obtain ⟨ws, pos⟩ := x
    simp only at hwx
    (refine AWI.region (AR.go fun K hK => ?_); simp (disch := first | assumption | omega | (simp only [List.length_cons, List.length_nil, List.length_map, List.length_append, List.length_take, List.length_drop] <;> omega)) only [R0, R1, R2, R3, R4, R5, R6, R7, R8, M0, envOf_nil, envOf_cons, ↓reduceIte, reduceCtorEq, Nat.reduceEqDiff, Int.reduceEq, Int.reduceLT, Int.reduceLE, Nat.reduceAdd, Nat.reduceSub, Nat.reduceBEq, Nat.reduceLT]; (refine hK _ _ (AR.keep2 [0, 11, 12] [] ?_); clear hK K; try simp only [keep2_mk, pickR_nil, pickR_cons, pickB_some, List.map_cons, List.map_nil, lk_nil, lk_cons, lkB_t, lkB_f, Nat.reduceBEq, Option.getD_some, Option.getD_none]))
    refine AWI.block (AWI.loop (α := Nat) (fun k => k ≤ ws.length ∧ ∀ w ∈ ws.take k, isL w.1 = true)
      (fun k => ⟨[(0, .c (.t fr (.sl 2 (ls.map lT)))), (11, .c (.t true (.v (.int .i64 i)))), (12, .c (.t true (.v (.int .i64 k))))], []⟩) (fun k => ws.length - k) 0 ⟨Nat.zero_le _, fun x hx => by simp at hx⟩ (fun _ _ h => h) fun k hk => ?_)
    obtain ⟨hk1, hk2⟩ := hk
    refine AWI.seq (AWI.seq ?_)
    refine AWI.region (AR.go fun K hK => ?_)
    simp (disch := first | assumption | omega | (simp only [List.length_cons, List.length_nil, List.length_map, List.length_append, List.length_take, List.length_drop] <;> omega)) only [R0, R1, R2, R3, R4, R5, R6, R7, R8, M0, envOf_nil, envOf_cons, ↓reduceIte, reduceCtorEq, Nat.reduceEqDiff, Int.reduceEq, Int.reduceLT, Int.reduceLE, Nat.reduceAdd, Nat.reduceSub, Nat.reduceBEq, Nat.reduceLT, hgi, lT]
    (refine hK _ _ (AR.keep2 [0, 11, 12, 63] [] ?_); clear hK K; try simp only [keep2_mk, pickR_nil, pickR_cons, pickB_some, List.map_cons, List.map_nil, lk_nil, lk_cons, lkB_t, lkB_f, Nat.reduceBEq, Option.getD_some, Option.getD_none])
    refine AWI.cond rfl (fun hc2 => AWI.skip (AWI.seq (AWI.block (AWI.seq ?_)))) fun hc2 => AWI.exit (AWI.seq ?_)
    · have hkl : k < ws.length := of_decide_eq_true hc2
      obtain ⟨y, hy⟩ : ∃ y, y = ws[k] := ⟨_, rfl⟩
      have hym : y ∈ ws := by rw [hy]; exact List.getElem_mem hkl
      have hgk : getE (ws.map wT) k = wT y := by rw [getE_map' wT ws k hkl, hy]
      have htk2 : ws.take (k + 1) = ws.take k ++ [y] := by rw [List.take_add_one, List.getElem?_eq_getElem hkl, hy]; rfl
      have hyl := hwx.2 y hym
      obtain ⟨t, q⟩ := y
      simp only at hyl
      refine AWI.region (AR.go fun K hK => ?_)
      simp (disch := first | assumption | omega | (simp only [List.length_cons, List.length_nil, List.length_map, List.length_append, List.length_take, List.length_drop] <;> omega)) only [R0, R1, R2, R3, R4, R5, R6, R7, R8, M0, envOf_nil, envOf_cons, ↓reduceIte, reduceCtorEq, Nat.reduceEqDiff, Int.reduceEq, Int.reduceLT, Int.reduceLE, Nat.reduceAdd, Nat.reduceSub, Nat.reduceBEq, Nat.reduceLT, hgi, lT, hgk, wT]
      (refine hK _ _ ?_; refine AR.callE rfl (by first | exact .inl rfl | exact .inr ⟨_, _, rfl, rfl⟩) (by rw [hP]; exact is (l := t) (by omega)) (by first | exact .inl rfl | exact .inr ⟨rfl, rfl⟩) ⟨_, rfl⟩ ?_; clear hK K; intro K hK)
      simp (disch := first | assumption | omega | (simp only [List.length_cons, List.length_nil, List.length_map, List.length_append, List.length_take, List.length_drop] <;> omega)) only [R0, R1, R2, R3, R4, R5, R6, R7, R8, M0, envOf_nil, envOf_cons, ↓reduceIte, reduceCtorEq, Nat.reduceEqDiff, Int.reduceEq, Int.reduceLT, Int.reduceLE, Nat.reduceAdd, Nat.reduceSub, Nat.reduceBEq, Nat.reduceLT]
      (refine hK _ _ (AR.keep2 [0, 11, 12, 76] [] ?_); clear hK K; try simp only [keep2_mk, pickR_nil, pickR_cons, pickB_some, List.map_cons, List.map_nil, lk_nil, lk_cons, lkB_t, lkB_f, Nat.reduceBEq, Option.getD_some, Option.getD_none])
      refine AWI.cond rfl (fun hc3 => AWI.seq ?_) fun hc3 => AWI.skip ?_
      · refine AWI.region (AR.go fun K hK => ?_)
        simp (disch := first | assumption | omega | (simp only [List.length_cons, List.length_nil, List.length_map, List.length_append, List.length_take, List.length_drop] <;> omega)) only [R0, R1, R2, R3, R4, R5, R6, R7, R8, M0, envOf_nil, envOf_cons, ↓reduceIte, reduceCtorEq, Nat.reduceEqDiff, Int.reduceEq, Int.reduceLT, Int.reduceLE, Nat.reduceAdd, Nat.reduceSub, Nat.reduceBEq, Nat.reduceLT]
        (refine hK _ _ ?_; refine AR.callE rfl (by first | exact .inl rfl | exact .inr ⟨_, _, rfl, rfl⟩) (by rw [hP]; exact works) (by first | exact .inl rfl | exact .inr ⟨rfl, rfl⟩) ⟨_, rfl⟩ ?_; clear hK K; intro K hK)
        simp (disch := first | assumption | omega | (simp only [List.length_cons, List.length_nil, List.length_map, List.length_append, List.length_take, List.length_drop] <;> omega)) only [R0, R1, R2, R3, R4, R5, R6, R7, R8, M0, envOf_nil, envOf_cons, ↓reduceIte, reduceCtorEq, Nat.reduceEqDiff, Int.reduceEq, Int.reduceLT, Int.reduceLE, Nat.reduceAdd, Nat.reduceSub, Nat.reduceBEq, Nat.reduceLT]
        (refine hK _ _ (AR.keep2 [4] [] ?_); clear hK K; try simp only [keep2_mk, pickR_nil, pickR_cons, pickB_some, List.map_cons, List.map_nil, lk_nil, lk_cons, lkB_t, lkB_f, Nat.reduceBEq, Option.getD_some, Option.getD_none])
        exact AWI.ret ⟨.inl rfl, _, fun _ _ h => h.norm, rfl, rfl⟩
      · have ht : isL t = true := by simpa using hc3
        (refine AWI.region (AR.go fun K hK => ?_); simp (disch := first | assumption | omega | (simp only [List.length_cons, List.length_nil, List.length_map, List.length_append, List.length_take, List.length_drop] <;> omega)) only [R0, R1, R2, R3, R4, R5, R6, R7, R8, M0, envOf_nil, envOf_cons, ↓reduceIte, reduceCtorEq, Nat.reduceEqDiff, Int.reduceEq, Int.reduceLT, Int.reduceLE, Nat.reduceAdd, Nat.reduceSub, Nat.reduceBEq, Nat.reduceLT]; (refine hK _ _ (AR.keep2 [0, 11, 12] [] ?_); clear hK K; try simp only [keep2_mk, pickR_nil, pickR_cons, pickB_some, List.map_cons, List.map_nil, lk_nil, lk_cons, lkB_t, lkB_f, Nat.reduceBEq, Option.getD_some, Option.getD_none]))
        refine ⟨k + 1, ⟨hkl, fun w hw => ?_⟩, by omega, fun _ _ h => h⟩
        rw [htk2, List.mem_append] at hw
        rcases hw with hw | hw
        · exact hk2 w hw
        · simp at hw; subst hw; exact ht
    · have hkl : ¬ k < ws.length := of_decide_eq_false hc2
      rw [List.take_of_length_le (by omega)] at hk2
      refine AWI.region (AR.go fun K hK => ?_)
      simp (disch := first | assumption | omega | (simp only [List.length_cons, List.length_nil, List.length_map, List.length_append, List.length_take, List.length_drop] <;> omega)) only [R0, R1, R2, R3, R4, R5, R6, R7, R8, M0, envOf_nil, envOf_cons, ↓reduceIte, reduceCtorEq, Nat.reduceEqDiff, Int.reduceEq, Int.reduceLT, Int.reduceLE, Nat.reduceAdd, Nat.reduceSub, Nat.reduceBEq, Nat.reduceLT, hgi, lT]
      (refine hK _ _ (AR.keep2 [0, 11, 84] [] ?_); clear hK K; try simp only [keep2_mk, pickR_nil, pickR_cons, pickB_some, List.map_cons, List.map_nil, lk_nil, lk_cons, lkB_t, lkB_f, Nat.reduceBEq, Option.getD_some, Option.getD_none])
      refine AWI.cond rfl (fun hc3 => AWI.seq ?_) fun hc3 => AWI.skip ?_
      · refine AWI.region (AR.go fun K hK => ?_)
        simp (disch := first | assumption | omega | (simp only [List.length_cons, List.length_nil, List.length_map, List.length_append, List.length_take, List.length_drop] <;> omega)) only [R0, R1, R2, R3, R4, R5, R6, R7, R8, M0, envOf_nil, envOf_cons, ↓reduceIte, reduceCtorEq, Nat.reduceEqDiff, Int.reduceEq, Int.reduceLT, Int.reduceLE, Nat.reduceAdd, Nat.reduceSub, Nat.reduceBEq, Nat.reduceLT]
        (refine hK _ _ ?_; refine AR.callE rfl (by first | exact .inl rfl | exact .inr ⟨_, _, rfl, rfl⟩) (by rw [hP]; exact works) (by first | exact .inl rfl | exact .inr ⟨rfl, rfl⟩) ⟨_, rfl⟩ ?_; clear hK K; intro K hK)
        simp (disch := first | assumption | omega | (simp only [List.length_cons, List.length_nil, List.length_map, List.length_append, List.length_take, List.length_drop] <;> omega)) only [R0, R1, R2, R3, R4, R5, R6, R7, R8, M0, envOf_nil, envOf_cons, ↓reduceIte, reduceCtorEq, Nat.reduceEqDiff, Int.reduceEq, Int.reduceLT, Int.reduceLE, Nat.reduceAdd, Nat.reduceSub, Nat.reduceBEq, Nat.reduceLT]
        (refine hK _ _ (AR.keep2 [4] [] ?_); clear hK K; try simp only [keep2_mk, pickR_nil, pickR_cons, pickB_some, List.map_cons, List.map_nil, lk_nil, lk_cons, lkB_t, lkB_f, Nat.reduceBEq, Option.getD_some, Option.getD_none])
        exact AWI.ret ⟨.inl rfl, _, fun _ _ h => h.norm, rfl, rfl⟩
      · have hne : ws ≠ [] := by
          intro e
          rw [e] at hc3
          simp at hc3
        (refine AWI.region (AR.go fun K hK => ?_); simp (disch := first | assumption | omega | (simp only [List.length_cons, List.length_nil, List.length_map, List.length_append, List.length_take, List.length_drop] <;> omega)) only [R0, R1, R2, R3, R4, R5, R6, R7, R8, M0, envOf_nil, envOf_cons, ↓reduceIte, reduceCtorEq, Nat.reduceEqDiff, Int.reduceEq, Int.reduceLT, Int.reduceLE, Nat.reduceAdd, Nat.reduceSub, Nat.reduceBEq, Nat.reduceLT]; (refine hK _ _ (AR.keep2 [0, 11] [] ?_); clear hK K; try simp only [keep2_mk, pickR_nil, pickR_cons, pickB_some, List.map_cons, List.map_nil, lk_nil, lk_cons, lkB_t, lkB_f, Nat.reduceBEq, Option.getD_some, Option.getD_none]))
        refine ⟨i + 1, ⟨hlt, fun z hz => ?_⟩, by omega, fun _ _ h => h⟩
        rw [htk, List.mem_append] at hz
        rcases hz with hz | hz
        · exact hi2 z hz
        · simp at hz; subst hz; exact ⟨hne, hk2⟩
  · have hlt : ¬ i < ls.length := by simpa using of_decide_eq_false hc
    rw [List.take_of_length_le (by omega)] at hi2
    obtain ⟨lb, h1, h2, h3, h4⟩ := showR2 hf hi2
    refine AWI.region (AR.go fun K hK => ?_)
    simp (disch := first | assumption | omega | (simp only [List.length_cons, List.length_nil, List.length_map, List.length_append, List.length_take, List.length_drop] <;> omega)) only [R0, R1, R2, R3, R4, R5, R6, R7, R8, M0, envOf_nil, envOf_cons, ↓reduceIte, reduceCtorEq, Nat.reduceEqDiff, Int.reduceEq, Int.reduceLT, Int.reduceLE, Nat.reduceAdd, Nat.reduceSub, Nat.reduceBEq, Nat.reduceLT]
    (refine hK _ _ ?_; refine AR.callE rfl (by first | exact .inl rfl | exact .inr ⟨_, _, rfl, rfl⟩) (by rw [hP]; exact show_ (ls := ls) (by omega) hww (by omega)) (by first | exact .inl rfl | exact .inr ⟨rfl, rfl⟩) ⟨_, rfl⟩ ?_; clear hK K; intro K hK)
    simp (disch := first | assumption | omega | (simp only [List.length_cons, List.length_nil, List.length_map, List.length_append, List.length_take, List.length_drop] <;> omega)) only [R0, R1, R2, R3, R4, R5, R6, R7, R8, M0, envOf_nil, envOf_cons, ↓reduceIte, reduceCtorEq, Nat.reduceEqDiff, Int.reduceEq, Int.reduceLT, Int.reduceLE, Nat.reduceAdd, Nat.reduceSub, Nat.reduceBEq, Nat.reduceLT]
    (refine hK _ _ ?_; refine AR.callE rfl (by first | exact .inl rfl | exact .inr ⟨_, _, rfl, rfl⟩) (by rw [hP]; exact lines (l := showL ls) (by omega)) (by first | exact .inl rfl | exact .inr ⟨rfl, rfl⟩) ⟨_, rfl⟩ ?_; clear hK K; intro K hK)
    simp (disch := first | assumption | omega | (simp only [List.length_cons, List.length_nil, List.length_map, List.length_append, List.length_take, List.length_drop] <;> omega)) only [R0, R1, R2, R3, R4, R5, R6, R7, R8, M0, envOf_nil, envOf_cons, ↓reduceIte, reduceCtorEq, Nat.reduceEqDiff, Int.reduceEq, Int.reduceLT, Int.reduceLE, Nat.reduceAdd, Nat.reduceSub, Nat.reduceBEq, Nat.reduceLT, h1]
    (refine hK _ _ (AR.frz hX 89 ?_); clear hK K; simp (disch := first | assumption | omega | (simp only [List.length_cons, List.length_nil, List.length_map, List.length_append, List.length_take, List.length_drop] <;> omega)) only [R0, R1, R2, R3, R4, R5, R6, R7, R8, M0, envOf_nil, envOf_cons, ↓reduceIte, reduceCtorEq, Nat.reduceEqDiff, Int.reduceEq, Int.reduceLT, Int.reduceLE, Nat.reduceAdd, Nat.reduceSub, Nat.reduceBEq, Nat.reduceLT]; refine AR.go fun K hK => ?_; simp (disch := first | assumption | omega | (simp only [List.length_cons, List.length_nil, List.length_map, List.length_append, List.length_take, List.length_drop] <;> omega)) only [R0, R1, R2, R3, R4, R5, R6, R7, R8, M0, envOf_nil, envOf_cons, ↓reduceIte, reduceCtorEq, Nat.reduceEqDiff, Int.reduceEq, Int.reduceLT, Int.reduceLE, Nat.reduceAdd, Nat.reduceSub, Nat.reduceBEq, Nat.reduceLT])
    (refine hK _ _ (AR.keep2 [0, 13, 15] [] ?_); clear hK K; try simp only [keep2_mk, pickR_nil, pickR_cons, pickB_some, List.map_cons, List.map_nil, lk_nil, lk_cons, lkB_t, lkB_f, Nat.reduceBEq, Option.getD_some, Option.getD_none])
    refine AWI.seq ?_
    refine AWI.region (AR.go fun K hK => ?_)
    simp (disch := first | assumption | omega | (simp only [List.length_cons, List.length_nil, List.length_map, List.length_append, List.length_take, List.length_drop] <;> omega)) only [R0, R1, R2, R3, R4, R5, R6, R7, R8, M0, envOf_nil, envOf_cons, ↓reduceIte, reduceCtorEq, Nat.reduceEqDiff, Int.reduceEq, Int.reduceLT, Int.reduceLE, Nat.reduceAdd, Nat.reduceSub, Nat.reduceBEq, Nat.reduceLT]
    (refine hK _ _ ?_; refine AR.callE rfl (by first | exact .inl rfl | exact .inr ⟨_, _, rfl, rfl⟩) (by rw [hP]; exact ref (ls := lb) (by omega) (fun x hx => by have := h4 x hx; omega)) (by first | exact .inl rfl | exact .inr ⟨rfl, rfl⟩) ⟨_, rfl⟩ ?_; clear hK K; intro K hK)
    simp (disch := first | assumption | omega | (simp only [List.length_cons, List.length_nil, List.length_map, List.length_append, List.length_take, List.length_drop] <;> omega)) only [R0, R1, R2, R3, R4, R5, R6, R7, R8, M0, envOf_nil, envOf_cons, ↓reduceIte, reduceCtorEq, Nat.reduceEqDiff, Int.reduceEq, Int.reduceLT, Int.reduceLE, Nat.reduceAdd, Nat.reduceSub, Nat.reduceBEq, Nat.reduceLT]
    (refine hK _ _ (AR.frz hX 97 ?_); clear hK K; simp (disch := first | assumption | omega | (simp only [List.length_cons, List.length_nil, List.length_map, List.length_append, List.length_take, List.length_drop] <;> omega)) only [R0, R1, R2, R3, R4, R5, R6, R7, R8, M0, envOf_nil, envOf_cons, ↓reduceIte, reduceCtorEq, Nat.reduceEqDiff, Int.reduceEq, Int.reduceLT, Int.reduceLE, Nat.reduceAdd, Nat.reduceSub, Nat.reduceBEq, Nat.reduceLT]; refine AR.go fun K hK => ?_; simp (disch := first | assumption | omega | (simp only [List.length_cons, List.length_nil, List.length_map, List.length_append, List.length_take, List.length_drop] <;> omega)) only [R0, R1, R2, R3, R4, R5, R6, R7, R8, M0, envOf_nil, envOf_cons, ↓reduceIte, reduceCtorEq, Nat.reduceEqDiff, Int.reduceEq, Int.reduceLT, Int.reduceLE, Nat.reduceAdd, Nat.reduceSub, Nat.reduceBEq, Nat.reduceLT])
    (refine hK _ _ ?_; refine AR.callE rfl (by first | exact .inl rfl | exact .inr ⟨_, _, rfl, rfl⟩) (by rw [hP]; exact ref (ls := ls) (by omega) hww) (by first | exact .inl rfl | exact .inr ⟨rfl, rfl⟩) ⟨_, rfl⟩ ?_; clear hK K; intro K hK)
    simp (disch := first | assumption | omega | (simp only [List.length_cons, List.length_nil, List.length_map, List.length_append, List.length_take, List.length_drop] <;> omega)) only [R0, R1, R2, R3, R4, R5, R6, R7, R8, M0, envOf_nil, envOf_cons, ↓reduceIte, reduceCtorEq, Nat.reduceEqDiff, Int.reduceEq, Int.reduceLT, Int.reduceLE, Nat.reduceAdd, Nat.reduceSub, Nat.reduceBEq, Nat.reduceLT]
    (refine hK _ _ (AR.frz hX 99 ?_); clear hK K; simp (disch := first | assumption | omega | (simp only [List.length_cons, List.length_nil, List.length_map, List.length_append, List.length_take, List.length_drop] <;> omega)) only [R0, R1, R2, R3, R4, R5, R6, R7, R8, M0, envOf_nil, envOf_cons, ↓reduceIte, reduceCtorEq, Nat.reduceEqDiff, Int.reduceEq, Int.reduceLT, Int.reduceLE, Nat.reduceAdd, Nat.reduceSub, Nat.reduceBEq, Nat.reduceLT]; refine AR.go fun K hK => ?_; simp (disch := first | assumption | omega | (simp only [List.length_cons, List.length_nil, List.length_map, List.length_append, List.length_take, List.length_drop] <;> omega)) only [R0, R1, R2, R3, R4, R5, R6, R7, R8, M0, envOf_nil, envOf_cons, ↓reduceIte, reduceCtorEq, Nat.reduceEqDiff, Int.reduceEq, Int.reduceLT, Int.reduceLE, Nat.reduceAdd, Nat.reduceSub, Nat.reduceBEq, Nat.reduceLT])
    (refine hK _ _ ?_; refine AR.callE rfl (by first | exact .inl rfl | exact .inr ⟨_, _, rfl, rfl⟩) (by rw [hP]; exact same (us := lb) (vs := ls) (p := false) (by omega) (by omega) (fun x hx => by have := h4 x hx; omega) (fun x hx => by have := hww x hx; omega)) (by first | exact .inl rfl | exact .inr ⟨rfl, rfl⟩) ⟨_, rfl⟩ ?_; clear hK K; intro K hK)
    simp (disch := first | assumption | omega | (simp only [List.length_cons, List.length_nil, List.length_map, List.length_append, List.length_take, List.length_drop] <;> omega)) only [R0, R1, R2, R3, R4, R5, R6, R7, R8, M0, envOf_nil, envOf_cons, ↓reduceIte, reduceCtorEq, Nat.reduceEqDiff, Int.reduceEq, Int.reduceLT, Int.reduceLE, Nat.reduceAdd, Nat.reduceSub, Nat.reduceBEq, Nat.reduceLT, h2, eq_self]
    (refine hK _ _ ?_; refine AR.callE rfl (by first | exact .inl rfl | exact .inr ⟨_, _, rfl, rfl⟩) (by rw [hP]; exact works) (by first | exact .inl rfl | exact .inr ⟨rfl, rfl⟩) ⟨_, rfl⟩ ?_; clear hK K; intro K hK)
    simp (disch := first | assumption | omega | (simp only [List.length_cons, List.length_nil, List.length_map, List.length_append, List.length_take, List.length_drop] <;> omega)) only [R0, R1, R2, R3, R4, R5, R6, R7, R8, M0, envOf_nil, envOf_cons, ↓reduceIte, reduceCtorEq, Nat.reduceEqDiff, Int.reduceEq, Int.reduceLT, Int.reduceLE, Nat.reduceAdd, Nat.reduceSub, Nat.reduceBEq, Nat.reduceLT]
    (refine hK _ _ (AR.keep2 [4] [] ?_); clear hK K; try simp only [keep2_mk, pickR_nil, pickR_cons, pickB_some, List.map_cons, List.map_nil, lk_nil, lk_cons, lkB_t, lkB_f, Nat.reduceBEq, Option.getD_some, Option.getD_none])
    exact AWI.ret ⟨.inl rfl, _, fun _ _ h => h.norm, rfl, rfl⟩
end Go.Proofs.Ytnealepilmobjaa
