/- Few lines; LexShows answers true. -/
import Derived.Test.YtnealepilmobjaaIC
import Derived.Test.YtnealepilmobjaaFunD
import Derived.Test.YtnealepilmobjaaFunI
set_option linter.unusedVariables false
set_option linter.unusedSimpArgs false
set_option maxRecDepth 100000
namespace Go.Proofs.Ytnealepilmobjaa
open Go.Eng
def fewW (ws : List (List UInt8 × Int)) : Bool := (ws.take 11).all (fun w => decide (w.1.length ≤ 100)) && decide (ws.length ≤ 10)
def fewL (ls : List PLine) : Bool := ls.all (fun x => fewW x.1) && decide (ls.length ≤ 20)
theorem few {fr : Bool} {ls : List PLine} (hl : ls.length ≤ 9223372036854775807) : CtrE Try.prog 15 [.c (.t fr (.sl 2 (ls.map lT)))] (.c (.t true (.v (.bool (fewL ls))))) [] := by
  refine fn15 (Nat.le_of_ble_eq_true rfl) fun Γ hP hn hX hm => ?_; have hgf := hm.1; unfold i15
  refine AWI.seq ?_
  (refine AWI.region (AR.go fun K hK => ?_); simp (disch := first | assumption | omega | (simp only [List.length_cons, List.length_nil, List.length_map, List.length_append, List.length_take, List.length_drop] <;> omega)) only [R0, R1, R2, R3, R4, R5, R6, R7, R8, M0, envOf_nil, envOf_cons, ↓reduceIte, reduceCtorEq, Nat.reduceEqDiff, Int.reduceEq, Int.reduceLT, Int.reduceLE, Nat.reduceAdd, Nat.reduceSub, Nat.reduceBEq, Nat.reduceLT]; (refine hK _ _ (AR.keep2 [0] [] ?_); clear hK K; try simp only [keep2_mk, pickR_nil, pickR_cons, pickB_some, List.map_cons, List.map_nil, lk_nil, lk_cons, lkB_t, lkB_f, Nat.reduceBEq, Option.getD_some, Option.getD_none]))
  refine AWI.seq (AWI.seq ?_)
  (refine AWI.region (AR.go fun K hK => ?_); simp (disch := first | assumption | omega | (simp only [List.length_cons, List.length_nil, List.length_map, List.length_append, List.length_take, List.length_drop] <;> omega)) only [R0, R1, R2, R3, R4, R5, R6, R7, R8, M0, envOf_nil, envOf_cons, ↓reduceIte, reduceCtorEq, Nat.reduceEqDiff, Int.reduceEq, Int.reduceLT, Int.reduceLE, Nat.reduceAdd, Nat.reduceSub, Nat.reduceBEq, Nat.reduceLT]; (refine hK _ _ (AR.keep2 [0, 3] [] ?_); clear hK K; try simp only [keep2_mk, pickR_nil, pickR_cons, pickB_some, List.map_cons, List.map_nil, lk_nil, lk_cons, lkB_t, lkB_f, Nat.reduceBEq, Option.getD_some, Option.getD_none]))
  refine AWI.block (AWI.loop (α := Nat) (fun i => i ≤ ls.length ∧ ls.all (fun x => fewW x.1) = (ls.drop i).all (fun x => fewW x.1)) (fun i => ⟨[(0, .c (.t fr (.sl 2 (ls.map lT)))), (3, .c (.t true (.v (.int .i64 i))))], []⟩)
    (fun i => ls.length - i) 0 ⟨Nat.zero_le _, rfl⟩ (fun _ _ h => h) fun i hi => ?_)
  obtain ⟨hi1, hi2⟩ := hi
  refine AWI.seq (AWI.seq ?_)
  (refine AWI.region (AR.go fun K hK => ?_); simp (disch := first | assumption | omega | (simp only [List.length_cons, List.length_nil, List.length_map, List.length_append, List.length_take, List.length_drop] <;> omega)) only [R0, R1, R2, R3, R4, R5, R6, R7, R8, M0, envOf_nil, envOf_cons, ↓reduceIte, reduceCtorEq, Nat.reduceEqDiff, Int.reduceEq, Int.reduceLT, Int.reduceLE, Nat.reduceAdd, Nat.reduceSub, Nat.reduceBEq, Nat.reduceLT]; (refine hK _ _ (AR.keep2 [0, 3, 8] [] ?_); clear hK K; try simp only [keep2_mk, pickR_nil, pickR_cons, pickB_some, List.map_cons, List.map_nil, lk_nil, lk_cons, lkB_t, lkB_f, Nat.reduceBEq, Option.getD_some, Option.getD_none]))
  refine AWI.cond rfl (fun hc => AWI.skip (AWI.seq (AWI.block (AWI.seq (AWI.seq ?_))))) fun hc => AWI.exit (AWI.seq ?_)
  · have hlt : i < ls.length := by simpa using of_decide_eq_true hc
    obtain ⟨x, hx⟩ : ∃ x, x = ls[i] := ⟨_, rfl⟩
    have hgi : getE (ls.map lT) i = lT x := by rw [getE_map' lT ls i hlt, hx]
    rw [drop_getE ls i hlt, ← hx, List.all_cons] at hi2
    obtain ⟨ws, pos⟩ := x
    simp only at hi2
    have hbad : fewW ws = false → fewL ls = false := fun h => by unfold fewL; rw [hi2, h]; simp
    (refine AWI.region (AR.go fun K hK => ?_); simp (disch := first | assumption | omega | (simp only [List.length_cons, List.length_nil, List.length_map, List.length_append, List.length_take, List.length_drop] <;> omega)) only [R0, R1, R2, R3, R4, R5, R6, R7, R8, M0, envOf_nil, envOf_cons, ↓reduceIte, reduceCtorEq, Nat.reduceEqDiff, Int.reduceEq, Int.reduceLT, Int.reduceLE, Nat.reduceAdd, Nat.reduceSub, Nat.reduceBEq, Nat.reduceLT]; (refine hK _ _ (AR.keep2 [0, 3, 4] [] ?_); clear hK K; try simp only [keep2_mk, pickR_nil, pickR_cons, pickB_some, List.map_cons, List.map_nil, lk_nil, lk_cons, lkB_t, lkB_f, Nat.reduceBEq, Option.getD_some, Option.getD_none]))
    refine AWI.block (AWI.loop (α := Nat) (fun k => k ≤ ws.length ∧ k ≤ 11 ∧ (ws.take 11).all (fun w => decide (w.1.length ≤ 100)) = ((ws.take 11).drop k).all (fun w => decide (w.1.length ≤ 100)))
      (fun k => ⟨[(0, .c (.t fr (.sl 2 (ls.map lT)))), (3, .c (.t true (.v (.int .i64 i)))), (4, .c (.t true (.v (.int .i64 k))))], []⟩) (fun k => ws.length - k) 0 ⟨Nat.zero_le _, by omega, rfl⟩ (fun _ _ h => h) fun k hk => ?_)
    obtain ⟨hk1, hk2, hk3⟩ := hk
    refine AWI.seq (AWI.seq (AWI.post ⟨[(0, .c (.t fr (.sl 2 (ls.map lT)))), (3, .c (.t true (.v (.int .i64 i)))), (4, .c (.t true (.v (.int .i64 k)))), (22, .c (.t true (.v (.bool (decide (k < ws.length) && decide (k < 11))))))], []⟩ (fun Q' qq => ?_) ?_))
    · refine AWI.region (AR.go fun K hK => ?_)
      simp (disch := first | assumption | omega | (simp only [List.length_cons, List.length_nil, List.length_map, List.length_append, List.length_take, List.length_drop] <;> omega)) only [R0, R1, R2, R3, R4, R5, R6, R7, R8, M0, envOf_nil, envOf_cons, ↓reduceIte, reduceCtorEq, Nat.reduceEqDiff, Int.reduceEq, Int.reduceLT, Int.reduceLE, Nat.reduceAdd, Nat.reduceSub, Nat.reduceBEq, Nat.reduceLT, hgi, lT]
      by_cases h : k < ws.length
      · rw [decide_eq_true h] at qq ⊢
        simp (disch := first | assumption | omega | (simp only [List.length_cons, List.length_nil, List.length_map, List.length_append, List.length_take, List.length_drop] <;> omega)) only [R0, R1, R2, R3, R4, R5, R6, R7, R8, M0, envOf_nil, envOf_cons, ↓reduceIte, reduceCtorEq, Nat.reduceEqDiff, Int.reduceEq, Int.reduceLT, Int.reduceLE, Nat.reduceAdd, Nat.reduceSub, Nat.reduceBEq, Nat.reduceLT]
        (refine hK _ _ (AR.keep2 [0, 3, 4, 22] [] ?_); clear hK K; try simp only [keep2_mk, pickR_nil, pickR_cons, pickB_some, List.map_cons, List.map_nil, lk_nil, lk_cons, lkB_t, lkB_f, Nat.reduceBEq, Option.getD_some, Option.getD_none])
        have e : decide ((k : Int) < 11) = decide (k < 11) := by by_cases h : k < 11 <;> simp [h] <;> omega
        rw [e]
        exact qq
      · rw [decide_eq_false h] at qq ⊢
        simp (disch := first | assumption | omega | (simp only [List.length_cons, List.length_nil, List.length_map, List.length_append, List.length_take, List.length_drop] <;> omega)) only [R0, R1, R2, R3, R4, R5, R6, R7, R8, M0, envOf_nil, envOf_cons, ↓reduceIte, reduceCtorEq, Nat.reduceEqDiff, Int.reduceEq, Int.reduceLT, Int.reduceLE, Nat.reduceAdd, Nat.reduceSub, Nat.reduceBEq, Nat.reduceLT]
        (refine hK _ _ (AR.keep2 [0, 3, 4, 22] [] ?_); clear hK K; try simp only [keep2_mk, pickR_nil, pickR_cons, pickB_some, List.map_cons, List.map_nil, lk_nil, lk_cons, lkB_t, lkB_f, Nat.reduceBEq, Option.getD_some, Option.getD_none])
        exact qq
    refine AWI.cond rfl (fun hc2 => AWI.skip (AWI.seq (AWI.block (AWI.seq ?_)))) fun hc2 => AWI.exit (AWI.seq ?_)
    · have hc2' : k < ws.length ∧ k < 11 := by simpa using hc2
      obtain ⟨hkl, hk11⟩ := hc2'
      obtain ⟨y, hy⟩ : ∃ y, y = ws[k] := ⟨_, rfl⟩
      have hgk : getE (ws.map wT) k = wT y := by rw [getE_map' wT ws k hkl, hy]
      have hd : (ws.take 11).drop k = y :: (ws.take 11).drop (k + 1) := by
        rw [drop_getE (ws.take 11) k (by rw [List.length_take]; omega), hy]; simp
      rw [hd, List.all_cons] at hk3
      obtain ⟨t, q⟩ := y
      simp only at hk3
      refine AWI.region (AR.go fun K hK => ?_)
      simp (disch := first | assumption | omega | (simp only [List.length_cons, List.length_nil, List.length_map, List.length_append, List.length_take, List.length_drop] <;> omega)) only [R0, R1, R2, R3, R4, R5, R6, R7, R8, M0, envOf_nil, envOf_cons, ↓reduceIte, reduceCtorEq, Nat.reduceEqDiff, Int.reduceEq, Int.reduceLT, Int.reduceLE, Nat.reduceAdd, Nat.reduceSub, Nat.reduceBEq, Nat.reduceLT, hgi, lT, hgk, wT]
      (refine hK _ _ (AR.keep2 [0, 3, 4, 35] [] ?_); clear hK K; try simp only [keep2_mk, pickR_nil, pickR_cons, pickB_some, List.map_cons, List.map_nil, lk_nil, lk_cons, lkB_t, lkB_f, Nat.reduceBEq, Option.getD_some, Option.getD_none])
      refine AWI.cond rfl (fun hc3 => AWI.seq ?_) fun hc3 => AWI.skip ?_
      · have h1 : decide (t.length ≤ 100) = false := decide_eq_false (by have := of_decide_eq_true hc3; omega)
        rw [hbad (by unfold fewW; rw [hk3, h1]; simp)]
        (refine AWI.region (AR.go fun K hK => ?_); simp (disch := first | assumption | omega | (simp only [List.length_cons, List.length_nil, List.length_map, List.length_append, List.length_take, List.length_drop] <;> omega)) only [R0, R1, R2, R3, R4, R5, R6, R7, R8, M0, envOf_nil, envOf_cons, ↓reduceIte, reduceCtorEq, Nat.reduceEqDiff, Int.reduceEq, Int.reduceLT, Int.reduceLE, Nat.reduceAdd, Nat.reduceSub, Nat.reduceBEq, Nat.reduceLT]; (refine hK _ _ (AR.keep2 [2] [] ?_); clear hK K; try simp only [keep2_mk, pickR_nil, pickR_cons, pickB_some, List.map_cons, List.map_nil, lk_nil, lk_cons, lkB_t, lkB_f, Nat.reduceBEq, Option.getD_some, Option.getD_none]))
        exact AWI.ret ⟨.inl rfl, _, fun _ _ h => h.norm, rfl, rfl⟩
      · have h1 : decide (t.length ≤ 100) = true := decide_eq_true (by have := of_decide_eq_false hc3; omega)
        rw [h1, Bool.true_and] at hk3
        (refine AWI.region (AR.go fun K hK => ?_); simp (disch := first | assumption | omega | (simp only [List.length_cons, List.length_nil, List.length_map, List.length_append, List.length_take, List.length_drop] <;> omega)) only [R0, R1, R2, R3, R4, R5, R6, R7, R8, M0, envOf_nil, envOf_cons, ↓reduceIte, reduceCtorEq, Nat.reduceEqDiff, Int.reduceEq, Int.reduceLT, Int.reduceLE, Nat.reduceAdd, Nat.reduceSub, Nat.reduceBEq, Nat.reduceLT]; (refine hK _ _ (AR.keep2 [0, 3, 4] [] ?_); clear hK K; try simp only [keep2_mk, pickR_nil, pickR_cons, pickB_some, List.map_cons, List.map_nil, lk_nil, lk_cons, lkB_t, lkB_f, Nat.reduceBEq, Option.getD_some, Option.getD_none]))
        exact ⟨k + 1, ⟨hkl, by omega, hk3⟩, by omega, fun _ _ h => h⟩
    · have hc2' : ¬ (k < ws.length ∧ k < 11) := fun h => by simp [h.1, h.2] at hc2
      have hall : (ws.take 11).all (fun w => decide (w.1.length ≤ 100)) = true := by
        rw [hk3, List.drop_eq_nil_of_le (by rw [List.length_take]; omega)]; rfl
      refine AWI.region (AR.go fun K hK => ?_)
      simp (disch := first | assumption | omega | (simp only [List.length_cons, List.length_nil, List.length_map, List.length_append, List.length_take, List.length_drop] <;> omega)) only [R0, R1, R2, R3, R4, R5, R6, R7, R8, M0, envOf_nil, envOf_cons, ↓reduceIte, reduceCtorEq, Nat.reduceEqDiff, Int.reduceEq, Int.reduceLT, Int.reduceLE, Nat.reduceAdd, Nat.reduceSub, Nat.reduceBEq, Nat.reduceLT, hgi, lT]
      (refine hK _ _ (AR.keep2 [0, 3, 42] [] ?_); clear hK K; try simp only [keep2_mk, pickR_nil, pickR_cons, pickB_some, List.map_cons, List.map_nil, lk_nil, lk_cons, lkB_t, lkB_f, Nat.reduceBEq, Option.getD_some, Option.getD_none])
      refine AWI.cond rfl (fun hc3 => AWI.seq ?_) fun hc3 => AWI.skip ?_
      · rw [hbad (by unfold fewW; rw [decide_eq_false (by have := of_decide_eq_true hc3; omega)]; simp)]
        (refine AWI.region (AR.go fun K hK => ?_); simp (disch := first | assumption | omega | (simp only [List.length_cons, List.length_nil, List.length_map, List.length_append, List.length_take, List.length_drop] <;> omega)) only [R0, R1, R2, R3, R4, R5, R6, R7, R8, M0, envOf_nil, envOf_cons, ↓reduceIte, reduceCtorEq, Nat.reduceEqDiff, Int.reduceEq, Int.reduceLT, Int.reduceLE, Nat.reduceAdd, Nat.reduceSub, Nat.reduceBEq, Nat.reduceLT]; (refine hK _ _ (AR.keep2 [2] [] ?_); clear hK K; try simp only [keep2_mk, pickR_nil, pickR_cons, pickB_some, List.map_cons, List.map_nil, lk_nil, lk_cons, lkB_t, lkB_f, Nat.reduceBEq, Option.getD_some, Option.getD_none]))
        exact AWI.ret ⟨.inl rfl, _, fun _ _ h => h.norm, rfl, rfl⟩
      · have h1 : fewW ws = true := by unfold fewW; rw [hall, decide_eq_true (by have := of_decide_eq_false hc3; omega)]; rfl
        rw [h1, Bool.true_and] at hi2
        (refine AWI.region (AR.go fun K hK => ?_); simp (disch := first | assumption | omega | (simp only [List.length_cons, List.length_nil, List.length_map, List.length_append, List.length_take, List.length_drop] <;> omega)) only [R0, R1, R2, R3, R4, R5, R6, R7, R8, M0, envOf_nil, envOf_cons, ↓reduceIte, reduceCtorEq, Nat.reduceEqDiff, Int.reduceEq, Int.reduceLT, Int.reduceLE, Nat.reduceAdd, Nat.reduceSub, Nat.reduceBEq, Nat.reduceLT]; (refine hK _ _ (AR.keep2 [0, 3] [] ?_); clear hK K; try simp only [keep2_mk, pickR_nil, pickR_cons, pickB_some, List.map_cons, List.map_nil, lk_nil, lk_cons, lkB_t, lkB_f, Nat.reduceBEq, Option.getD_some, Option.getD_none]))
        exact ⟨i + 1, ⟨hlt, hi2⟩, by omega, fun _ _ h => h⟩
  · have hlt : ¬ i < ls.length := by simpa using of_decide_eq_false hc
    rw [List.drop_eq_nil_of_le (by omega)] at hi2
    have e : fewL ls = decide ((ls.length : Int) ≤ 20) := by
      unfold fewL; rw [hi2, List.all_nil, Bool.true_and]; by_cases h : ls.length ≤ 20 <;> simp [h] <;> omega
    rw [e]
    (refine AWI.region (AR.go fun K hK => ?_); simp (disch := first | assumption | omega | (simp only [List.length_cons, List.length_nil, List.length_map, List.length_append, List.length_take, List.length_drop] <;> omega)) only [R0, R1, R2, R3, R4, R5, R6, R7, R8, M0, envOf_nil, envOf_cons, ↓reduceIte, reduceCtorEq, Nat.reduceEqDiff, Int.reduceEq, Int.reduceLT, Int.reduceLE, Nat.reduceAdd, Nat.reduceSub, Nat.reduceBEq, Nat.reduceLT]; (refine hK _ _ (AR.keep2 [2] [] ?_); clear hK K; try simp only [keep2_mk, pickR_nil, pickR_cons, pickB_some, List.map_cons, List.map_nil, lk_nil, lk_cons, lkB_t, lkB_f, Nat.reduceBEq, Option.getD_some, Option.getD_none]))
    exact AWI.ret ⟨.inl rfl, _, fun _ _ h => h.norm, rfl, rfl⟩
theorem fewW_spec {ws : List (List UInt8 × Int)} (h : fewW ws = true) : ws.length ≤ 10 ∧ ∀ w ∈ ws, w.1.length ≤ 100 := by
  unfold fewW at h
  simp only [Bool.and_eq_true, decide_eq_true_eq] at h
  refine ⟨h.2, fun w hw => ?_⟩
  have := List.all_eq_true.1 h.1 w (by rw [List.take_of_length_le (by omega)]; exact hw)
  simpa using this
theorem fewL_spec {ls : List PLine} (h : fewL ls = true) : ls.length ≤ 20 ∧ ∀ x ∈ ls, x.1.length ≤ 10 ∧ ∀ w ∈ x.1, w.1.length ≤ 100 := by
  unfold fewL at h
  simp only [Bool.and_eq_true, decide_eq_true_eq] at h
  exact ⟨h.2, fun x hx => fewW_spec (List.all_eq_true.1 h.1 x hx)⟩
theorem showF_len (ws : List (List UInt8 × Int)) : ∀ b, (∀ w ∈ ws, w.1.length ≤ 100) → (showF b ws).length ≤ 101 * ws.length := by
  induction ws with
  | nil => intro b _; simp [showF]
  | cons w ws ih =>
    intro b h
    have h1 := ih false fun x hx => h x (by simp [hx])
    have h2 := h w (by simp)
    have h3 : (if b = true then ([] : List UInt8) else [32]).length ≤ 1 := by split <;> simp
    rw [showF, List.length_append, List.length_append, List.length_cons]
    omega
theorem showL_len (ls : List PLine) : (∀ x ∈ ls, x.1.length ≤ 10 ∧ ∀ w ∈ x.1, w.1.length ≤ 100) → (showL ls).length ≤ 1011 * ls.length := by
  induction ls with
  | nil => intro _; simp [showL]
  | cons x xs ih =>
    intro h
    have h1 := ih fun y hy => h y (by simp [hy])
    have h2 := h x (by simp)
    have h3 := showF_len x.1 true h2.2
    rw [showL, List.length_append, List.length_append, List.length_cons, List.length_cons, List.length_nil]
    omega
theorem shows {fr : Bool} {ls : List PLine} (hl : ls.length ≤ 9223372036854775807) : CtrE Try.prog 5 [.c (.t fr (.sl 2 (ls.map lT)))] (.c (.t true (.v (.bool true)))) [] := by
  refine fn5 (Nat.le_of_ble_eq_true rfl) fun Γ hP hn hX hm => ?_; have hgf := hm.1; unfold i5
  refine AWI.seq ?_
  (refine AWI.region (AR.go fun K hK => ?_); simp (disch := first | assumption | omega | (simp only [List.length_cons, List.length_nil, List.length_map, List.length_append, List.length_take, List.length_drop] <;> omega)) only [R0, R1, R2, R3, R4, R5, R6, R7, R8, M0, envOf_nil, envOf_cons, ↓reduceIte, reduceCtorEq, Nat.reduceEqDiff, Int.reduceEq, Int.reduceLT, Int.reduceLE, Nat.reduceAdd, Nat.reduceSub, Nat.reduceBEq, Nat.reduceLT]; (refine hK _ _ (AR.keep2 [0] [] ?_); clear hK K; try simp only [keep2_mk, pickR_nil, pickR_cons, pickB_some, List.map_cons, List.map_nil, lk_nil, lk_cons, lkB_t, lkB_f, Nat.reduceBEq, Option.getD_some, Option.getD_none]))
  refine AWI.seq ?_
  refine AWI.region (AR.go fun K hK => ?_)
  simp (disch := first | assumption | omega | (simp only [List.length_cons, List.length_nil, List.length_map, List.length_append, List.length_take, List.length_drop] <;> omega)) only [R0, R1, R2, R3, R4, R5, R6, R7, R8, M0, envOf_nil, envOf_cons, ↓reduceIte, reduceCtorEq, Nat.reduceEqDiff, Int.reduceEq, Int.reduceLT, Int.reduceLE, Nat.reduceAdd, Nat.reduceSub, Nat.reduceBEq, Nat.reduceLT]
  (refine hK _ _ ?_; refine AR.callE rfl (by first | exact .inl rfl | exact .inr ⟨_, _, rfl, rfl⟩) (by rw [hP]; exact few (ls := ls) hl) (by first | exact .inl rfl | exact .inr ⟨rfl, rfl⟩) ⟨_, rfl⟩ ?_; clear hK K; intro K hK)
  cases hf : fewL ls with
  | false =>
    simp (disch := first | assumption | omega | (simp only [List.length_cons, List.length_nil, List.length_map, List.length_append, List.length_take, List.length_drop] <;> omega)) only [R0, R1, R2, R3, R4, R5, R6, R7, R8, M0, envOf_nil, envOf_cons, ↓reduceIte, reduceCtorEq, Nat.reduceEqDiff, Int.reduceEq, Int.reduceLT, Int.reduceLE, Nat.reduceAdd, Nat.reduceSub, Nat.reduceBEq, Nat.reduceLT]
    (refine hK _ _ ?_; refine AR.callE rfl (by first | exact .inl rfl | exact .inr ⟨_, _, rfl, rfl⟩) (by rw [hP]; exact works) (by first | exact .inl rfl | exact .inr ⟨rfl, rfl⟩) ⟨_, rfl⟩ ?_; clear hK K; intro K hK)
    simp (disch := first | assumption | omega | (simp only [List.length_cons, List.length_nil, List.length_map, List.length_append, List.length_take, List.length_drop] <;> omega)) only [R0, R1, R2, R3, R4, R5, R6, R7, R8, M0, envOf_nil, envOf_cons, ↓reduceIte, reduceCtorEq, Nat.reduceEqDiff, Int.reduceEq, Int.reduceLT, Int.reduceLE, Nat.reduceAdd, Nat.reduceSub, Nat.reduceBEq, Nat.reduceLT]
    (refine hK _ _ (AR.keep2 [2] [] ?_); clear hK K; try simp only [keep2_mk, pickR_nil, pickR_cons, pickB_some, List.map_cons, List.map_nil, lk_nil, lk_cons, lkB_t, lkB_f, Nat.reduceBEq, Option.getD_some, Option.getD_none])
    exact AWI.ret ⟨.inl rfl, _, fun _ _ h => h.norm, rfl, rfl⟩
  | true =>
    obtain ⟨h1, h2⟩ := fewL_spec hf
    have h3 := showL_len ls h2
    simp (disch := first | assumption | omega | (simp only [List.length_cons, List.length_nil, List.length_map, List.length_append, List.length_take, List.length_drop] <;> omega)) only [R0, R1, R2, R3, R4, R5, R6, R7, R8, M0, envOf_nil, envOf_cons, ↓reduceIte, reduceCtorEq, Nat.reduceEqDiff, Int.reduceEq, Int.reduceLT, Int.reduceLE, Nat.reduceAdd, Nat.reduceSub, Nat.reduceBEq, Nat.reduceLT]
    (refine hK _ _ ?_; refine AR.callE rfl (by first | exact .inl rfl | exact .inr ⟨_, _, rfl, rfl⟩) (by rw [hP]; exact show_ (ls := ls) (by omega) (fun x hx => by have := (h2 x hx).1; omega) (by omega)) (by first | exact .inl rfl | exact .inr ⟨rfl, rfl⟩) ⟨_, rfl⟩ ?_; clear hK K; intro K hK)
    simp (disch := first | assumption | omega | (simp only [List.length_cons, List.length_nil, List.length_map, List.length_append, List.length_take, List.length_drop] <;> omega)) only [R0, R1, R2, R3, R4, R5, R6, R7, R8, M0, envOf_nil, envOf_cons, ↓reduceIte, reduceCtorEq, Nat.reduceEqDiff, Int.reduceEq, Int.reduceLT, Int.reduceLE, Nat.reduceAdd, Nat.reduceSub, Nat.reduceBEq, Nat.reduceLT]
    (refine hK _ _ ?_; refine AR.callE rfl (by first | exact .inl rfl | exact .inr ⟨_, _, rfl, rfl⟩) (by rw [hP]; exact ref (ls := ls) (by omega) (fun x hx => by have := (h2 x hx).1; omega)) (by first | exact .inl rfl | exact .inr ⟨rfl, rfl⟩) ⟨_, rfl⟩ ?_; clear hK K; intro K hK)
    simp (disch := first | assumption | omega | (simp only [List.length_cons, List.length_nil, List.length_map, List.length_append, List.length_take, List.length_drop] <;> omega)) only [R0, R1, R2, R3, R4, R5, R6, R7, R8, M0, envOf_nil, envOf_cons, ↓reduceIte, reduceCtorEq, Nat.reduceEqDiff, Int.reduceEq, Int.reduceLT, Int.reduceLE, Nat.reduceAdd, Nat.reduceSub, Nat.reduceBEq, Nat.reduceLT]
    (refine hK _ _ (AR.frz hX 13 ?_); clear hK K; simp (disch := first | assumption | omega | (simp only [List.length_cons, List.length_nil, List.length_map, List.length_append, List.length_take, List.length_drop] <;> omega)) only [R0, R1, R2, R3, R4, R5, R6, R7, R8, M0, envOf_nil, envOf_cons, ↓reduceIte, reduceCtorEq, Nat.reduceEqDiff, Int.reduceEq, Int.reduceLT, Int.reduceLE, Nat.reduceAdd, Nat.reduceSub, Nat.reduceBEq, Nat.reduceLT]; refine AR.go fun K hK => ?_; simp (disch := first | assumption | omega | (simp only [List.length_cons, List.length_nil, List.length_map, List.length_append, List.length_take, List.length_drop] <;> omega)) only [R0, R1, R2, R3, R4, R5, R6, R7, R8, M0, envOf_nil, envOf_cons, ↓reduceIte, reduceCtorEq, Nat.reduceEqDiff, Int.reduceEq, Int.reduceLT, Int.reduceLE, Nat.reduceAdd, Nat.reduceSub, Nat.reduceBEq, Nat.reduceLT])
    (refine hK _ _ ?_; refine AR.callE rfl (by first | exact .inl rfl | exact .inr ⟨_, _, rfl, rfl⟩) (by rw [hP]; exact rshow (ls := ls) (by omega) (fun x hx => by have := (h2 x hx).1; omega) (by omega)) (by first | exact .inl rfl | exact .inr ⟨rfl, rfl⟩) ⟨_, rfl⟩ ?_; clear hK K; intro K hK)
    simp (disch := first | assumption | omega | (simp only [List.length_cons, List.length_nil, List.length_map, List.length_append, List.length_take, List.length_drop] <;> omega)) only [R0, R1, R2, R3, R4, R5, R6, R7, R8, M0, envOf_nil, envOf_cons, ↓reduceIte, reduceCtorEq, Nat.reduceEqDiff, Int.reduceEq, Int.reduceLT, Int.reduceLE, Nat.reduceAdd, Nat.reduceSub, Nat.reduceBEq, Nat.reduceLT, eq_self]
    (refine hK _ _ ?_; refine AR.callE rfl (by first | exact .inl rfl | exact .inr ⟨_, _, rfl, rfl⟩) (by rw [hP]; exact works) (by first | exact .inl rfl | exact .inr ⟨rfl, rfl⟩) ⟨_, rfl⟩ ?_; clear hK K; intro K hK)
    simp (disch := first | assumption | omega | (simp only [List.length_cons, List.length_nil, List.length_map, List.length_append, List.length_take, List.length_drop] <;> omega)) only [R0, R1, R2, R3, R4, R5, R6, R7, R8, M0, envOf_nil, envOf_cons, ↓reduceIte, reduceCtorEq, Nat.reduceEqDiff, Int.reduceEq, Int.reduceLT, Int.reduceLE, Nat.reduceAdd, Nat.reduceSub, Nat.reduceBEq, Nat.reduceLT]
    (refine hK _ _ (AR.keep2 [2] [] ?_); clear hK K; try simp only [keep2_mk, pickR_nil, pickR_cons, pickB_some, List.map_cons, List.map_nil, lk_nil, lk_cons, lkB_t, lkB_f, Nat.reduceBEq, Option.getD_some, Option.getD_none])
    exact AWI.ret ⟨.inl rfl, _, fun _ _ h => h.norm, rfl, rfl⟩
end Go.Proofs.Ytnealepilmobjaa
