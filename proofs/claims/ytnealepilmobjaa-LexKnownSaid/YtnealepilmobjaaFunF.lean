/- Is a text a word? -/
import Derived.Test.YtnealepilmobjaaIC
import Derived.Test.YtnealepilmobjaaFunE
set_option linter.unusedVariables false
set_option linter.unusedSimpArgs false
set_option maxRecDepth 100000
namespace Go.Proofs.Ytnealepilmobjaa
open Go.Eng
def isL (l : List UInt8) : Bool := !l.isEmpty && l.all isW
theorem runLen_all (p : UInt8 → Bool) (l : List UInt8) : decide (runLen p l = l.length) = l.all p := by
  induction l with
  | nil => rfl
  | cons c l ih =>
    cases h : p c with
    | true =>
      have e : runLen p (c :: l) = runLen p l + 1 := by simp [runLen, List.takeWhile_cons, h]
      rw [e, List.all_cons, h, ← ih, List.length_cons]
      simp
    | false => rw [runLen_zero h, List.all_cons, h]; simp
theorem is {fr : Bool} {l : List UInt8} (hl : l.length ≤ 9223372036854775807) : CtrE Try.prog 13 [.c (.t fr (.v (.string (bs l))))] (.c (.t true (.v (.bool (isL l))))) [] := by
  refine fn13 (Nat.le_of_ble_eq_true rfl) fun Γ hP hn hX hm => ?_; have hgf := hm.1; unfold i13
  refine AWI.seq ?_
  (refine AWI.region (AR.go fun K hK => ?_); simp (disch := first | assumption | omega | (simp only [List.length_cons, List.length_nil, List.length_map, List.length_append, List.length_take, List.length_drop] <;> omega)) only [R0, R1, R2, R3, R4, R5, R6, R7, R8, M0, envOf_nil, envOf_cons, ↓reduceIte, reduceCtorEq, Nat.reduceEqDiff, Int.reduceEq, Int.reduceLT, Int.reduceLE, Nat.reduceAdd, Nat.reduceSub, Nat.reduceBEq, Nat.reduceLT]; (refine hK _ _ (AR.keep2 [0] [] ?_); clear hK K; try simp only [keep2_mk, pickR_nil, pickR_cons, pickB_some, List.map_cons, List.map_nil, lk_nil, lk_cons, lkB_t, lkB_f, Nat.reduceBEq, Option.getD_some, Option.getD_none]))
  refine AWI.seq ?_
  refine AWI.region (AR.go fun K hK => ?_)
  simp (disch := first | assumption | omega | (simp only [List.length_cons, List.length_nil, List.length_map, List.length_append, List.length_take, List.length_drop] <;> omega)) only [R0, R1, R2, R3, R4, R5, R6, R7, R8, M0, envOf_nil, envOf_cons, ↓reduceIte, reduceCtorEq, Nat.reduceEqDiff, Int.reduceEq, Int.reduceLT, Int.reduceLE, Nat.reduceAdd, Nat.reduceSub, Nat.reduceBEq, Nat.reduceLT]
  cases l with
  | nil =>
    simp (disch := first | assumption | omega | (simp only [List.length_cons, List.length_nil, List.length_map, List.length_append, List.length_take, List.length_drop] <;> omega)) only [R0, R1, R2, R3, R4, R5, R6, R7, R8, M0, envOf_nil, envOf_cons, ↓reduceIte, reduceCtorEq, Nat.reduceEqDiff, Int.reduceEq, Int.reduceLT, Int.reduceLE, Nat.reduceAdd, Nat.reduceSub, Nat.reduceBEq, Nat.reduceLT]
    (refine hK _ _ (AR.keep2 [2] [] ?_); clear hK K; try simp only [keep2_mk, pickR_nil, pickR_cons, pickB_some, List.map_cons, List.map_nil, lk_nil, lk_cons, lkB_t, lkB_f, Nat.reduceBEq, Option.getD_some, Option.getD_none])
    exact AWI.ret ⟨.inl rfl, _, fun _ _ h => h.norm, rfl, rfl⟩
  | cons c r =>
    have e : decide (c :: r = []) = false := by simp
    simp (disch := first | assumption | omega | (simp only [List.length_cons, List.length_nil, List.length_map, List.length_append, List.length_take, List.length_drop] <;> omega)) only [R0, R1, R2, R3, R4, R5, R6, R7, R8, M0, envOf_nil, envOf_cons, ↓reduceIte, reduceCtorEq, Nat.reduceEqDiff, Int.reduceEq, Int.reduceLT, Int.reduceLE, Nat.reduceAdd, Nat.reduceSub, Nat.reduceBEq, Nat.reduceLT, e]
    (refine hK _ _ ?_; refine AR.callE rfl (by first | exact .inl rfl | exact .inr ⟨_, _, rfl, rfl⟩) (by rw [hP]; exact run_ctr (p := isW) (fun c => word) (l := c :: r) (i := 0) hl (by omega)) (by first | exact .inl rfl | exact .inr ⟨rfl, rfl⟩) ⟨_, rfl⟩ ?_; clear hK K; intro K hK)
    simp (disch := first | assumption | omega | (simp only [List.length_cons, List.length_nil, List.length_map, List.length_append, List.length_take, List.length_drop] <;> omega)) only [R0, R1, R2, R3, R4, R5, R6, R7, R8, M0, envOf_nil, envOf_cons, ↓reduceIte, reduceCtorEq, Nat.reduceEqDiff, Int.reduceEq, Int.reduceLT, Int.reduceLE, Nat.reduceAdd, Nat.reduceSub, Nat.reduceBEq, Nat.reduceLT, List.drop_zero]
    (refine hK _ _ (AR.keep2 [2] [] ?_); clear hK K; try simp only [keep2_mk, pickR_nil, pickR_cons, pickB_some, List.map_cons, List.map_nil, lk_nil, lk_cons, lkB_t, lkB_f, Nat.reduceBEq, Option.getD_some, Option.getD_none])
    exact AWI.ret ⟨.inl rfl, _, fun _ _ h => h.norm, by unfold isL; rw [← runLen_all]; rfl, rfl⟩
theorem ris {fr : Bool} {l : List UInt8} (hl : l.length ≤ 9223372036854775807) : CtrE Try.prog 14 [.c (.t fr (.v (.string (bs l))))] (.c (.t true (.v (.bool (isL l))))) [] := by
  refine fn14 (Nat.le_of_ble_eq_true rfl) fun Γ hP hn hX hm => ?_; have hgf := hm.1; unfold i14
  refine AWI.seq ?_
  (refine AWI.region (AR.go fun K hK => ?_); simp (disch := first | assumption | omega | (simp only [List.length_cons, List.length_nil, List.length_map, List.length_append, List.length_take, List.length_drop] <;> omega)) only [R0, R1, R2, R3, R4, R5, R6, R7, R8, M0, envOf_nil, envOf_cons, ↓reduceIte, reduceCtorEq, Nat.reduceEqDiff, Int.reduceEq, Int.reduceLT, Int.reduceLE, Nat.reduceAdd, Nat.reduceSub, Nat.reduceBEq, Nat.reduceLT]; (refine hK _ _ (AR.keep2 [0] [] ?_); clear hK K; try simp only [keep2_mk, pickR_nil, pickR_cons, pickB_some, List.map_cons, List.map_nil, lk_nil, lk_cons, lkB_t, lkB_f, Nat.reduceBEq, Option.getD_some, Option.getD_none]))
  refine AWI.seq (AWI.seq ?_)
  (refine AWI.region (AR.go fun K hK => ?_); simp (disch := first | assumption | omega | (simp only [List.length_cons, List.length_nil, List.length_map, List.length_append, List.length_take, List.length_drop] <;> omega)) only [R0, R1, R2, R3, R4, R5, R6, R7, R8, M0, envOf_nil, envOf_cons, ↓reduceIte, reduceCtorEq, Nat.reduceEqDiff, Int.reduceEq, Int.reduceLT, Int.reduceLE, Nat.reduceAdd, Nat.reduceSub, Nat.reduceBEq, Nat.reduceLT]; (refine hK _ _ (AR.keep2 [0, 3] [] ?_); clear hK K; try simp only [keep2_mk, pickR_nil, pickR_cons, pickB_some, List.map_cons, List.map_nil, lk_nil, lk_cons, lkB_t, lkB_f, Nat.reduceBEq, Option.getD_some, Option.getD_none]))
  refine AWI.block (AWI.loop (α := Nat) (fun i => i ≤ l.length ∧ l.all isW = (l.drop i).all isW) (fun i => ⟨[(0, .c (.t fr (.v (.string (bs l))))), (3, .c (.t true (.v (.int .i64 i))))], []⟩)
    (fun i => l.length - i) 0 ⟨Nat.zero_le _, rfl⟩ (fun _ _ h => h) fun i hi => ?_)
  obtain ⟨hi1, hi2⟩ := hi
  refine AWI.seq (AWI.seq ?_)
  (refine AWI.region (AR.go fun K hK => ?_); simp (disch := first | assumption | omega | (simp only [List.length_cons, List.length_nil, List.length_map, List.length_append, List.length_take, List.length_drop] <;> omega)) only [R0, R1, R2, R3, R4, R5, R6, R7, R8, M0, envOf_nil, envOf_cons, ↓reduceIte, reduceCtorEq, Nat.reduceEqDiff, Int.reduceEq, Int.reduceLT, Int.reduceLE, Nat.reduceAdd, Nat.reduceSub, Nat.reduceBEq, Nat.reduceLT]; (refine hK _ _ (AR.keep2 [0, 3, 7] [] ?_); clear hK K; try simp only [keep2_mk, pickR_nil, pickR_cons, pickB_some, List.map_cons, List.map_nil, lk_nil, lk_cons, lkB_t, lkB_f, Nat.reduceBEq, Option.getD_some, Option.getD_none]))
  refine AWI.cond rfl (fun hc => AWI.skip (AWI.seq (AWI.block (AWI.seq ?_)))) fun hc => AWI.exit (AWI.seq ?_)
  · have hlt : i < l.length := of_decide_eq_true hc
    have hd : l.drop i = l.getD i 0 :: l.drop (i + 1) := by
      rw [List.drop_eq_getElem_cons hlt, List.getD_eq_getElem?_getD, List.getElem?_eq_getElem hlt]; rfl
    rw [hd, List.all_cons] at hi2
    refine AWI.region (AR.go fun K hK => ?_)
    simp (disch := first | assumption | omega | (simp only [List.length_cons, List.length_nil, List.length_map, List.length_append, List.length_take, List.length_drop] <;> omega)) only [R0, R1, R2, R3, R4, R5, R6, R7, R8, M0, envOf_nil, envOf_cons, ↓reduceIte, reduceCtorEq, Nat.reduceEqDiff, Int.reduceEq, Int.reduceLT, Int.reduceLE, Nat.reduceAdd, Nat.reduceSub, Nat.reduceBEq, Nat.reduceLT]
    (refine hK _ _ ?_; refine AR.callE rfl (by first | exact .inl rfl | exact .inr ⟨_, _, rfl, rfl⟩) (by rw [hP]; exact rword) (by first | exact .inl rfl | exact .inr ⟨rfl, rfl⟩) ⟨_, rfl⟩ ?_; clear hK K; intro K hK)
    simp (disch := first | assumption | omega | (simp only [List.length_cons, List.length_nil, List.length_map, List.length_append, List.length_take, List.length_drop] <;> omega)) only [R0, R1, R2, R3, R4, R5, R6, R7, R8, M0, envOf_nil, envOf_cons, ↓reduceIte, reduceCtorEq, Nat.reduceEqDiff, Int.reduceEq, Int.reduceLT, Int.reduceLE, Nat.reduceAdd, Nat.reduceSub, Nat.reduceBEq, Nat.reduceLT]
    (refine hK _ _ (AR.keep2 [0, 3, 14] [] ?_); clear hK K; try simp only [keep2_mk, pickR_nil, pickR_cons, pickB_some, List.map_cons, List.map_nil, lk_nil, lk_cons, lkB_t, lkB_f, Nat.reduceBEq, Option.getD_some, Option.getD_none])
    refine AWI.cond rfl (fun hw => AWI.seq ?_) fun hw => AWI.skip ?_
    · have hf : isL l = false := by
        have : isW (l.getD i 0) = false := by unfold isW; cases h : isWord (l.getD i 0).toNat with
                                              | true => rw [h] at hw; cases hw
                                              | false => rfl
        unfold isL; rw [hi2, this]; simp
      rw [hf]
      (refine AWI.region (AR.go fun K hK => ?_); simp (disch := first | assumption | omega | (simp only [List.length_cons, List.length_nil, List.length_map, List.length_append, List.length_take, List.length_drop] <;> omega)) only [R0, R1, R2, R3, R4, R5, R6, R7, R8, M0, envOf_nil, envOf_cons, ↓reduceIte, reduceCtorEq, Nat.reduceEqDiff, Int.reduceEq, Int.reduceLT, Int.reduceLE, Nat.reduceAdd, Nat.reduceSub, Nat.reduceBEq, Nat.reduceLT]; (refine hK _ _ (AR.keep2 [2] [] ?_); clear hK K; try simp only [keep2_mk, pickR_nil, pickR_cons, pickB_some, List.map_cons, List.map_nil, lk_nil, lk_cons, lkB_t, lkB_f, Nat.reduceBEq, Option.getD_some, Option.getD_none]))
      exact AWI.ret ⟨.inl rfl, _, fun _ _ h => h.norm, rfl, rfl⟩
    · have : isW (l.getD i 0) = true := by unfold isW; cases h : isWord (l.getD i 0).toNat with
                                            | true => rfl
                                            | false => rw [h] at hw; cases hw
      rw [this, Bool.true_and] at hi2
      (refine AWI.region (AR.go fun K hK => ?_); simp (disch := first | assumption | omega | (simp only [List.length_cons, List.length_nil, List.length_map, List.length_append, List.length_take, List.length_drop] <;> omega)) only [R0, R1, R2, R3, R4, R5, R6, R7, R8, M0, envOf_nil, envOf_cons, ↓reduceIte, reduceCtorEq, Nat.reduceEqDiff, Int.reduceEq, Int.reduceLT, Int.reduceLE, Nat.reduceAdd, Nat.reduceSub, Nat.reduceBEq, Nat.reduceLT]; (refine hK _ _ (AR.keep2 [0, 3] [] ?_); clear hK K; try simp only [keep2_mk, pickR_nil, pickR_cons, pickB_some, List.map_cons, List.map_nil, lk_nil, lk_cons, lkB_t, lkB_f, Nat.reduceBEq, Option.getD_some, Option.getD_none]))
      exact ⟨i + 1, ⟨hlt, hi2⟩, by omega, fun _ _ h => h⟩
  · have hlt : ¬ i < l.length := of_decide_eq_false hc
    rw [List.drop_eq_nil_of_le (by omega)] at hi2
    have hf : isL l = decide (0 < l.length) := by
      unfold isL; rw [hi2]; cases l <;> simp
    rw [hf]
    (refine AWI.region (AR.go fun K hK => ?_); simp (disch := first | assumption | omega | (simp only [List.length_cons, List.length_nil, List.length_map, List.length_append, List.length_take, List.length_drop] <;> omega)) only [R0, R1, R2, R3, R4, R5, R6, R7, R8, M0, envOf_nil, envOf_cons, ↓reduceIte, reduceCtorEq, Nat.reduceEqDiff, Int.reduceEq, Int.reduceLT, Int.reduceLE, Nat.reduceAdd, Nat.reduceSub, Nat.reduceBEq, Nat.reduceLT]; (refine hK _ _ (AR.keep2 [2] [] ?_); clear hK K; try simp only [keep2_mk, pickR_nil, pickR_cons, pickB_some, List.map_cons, List.map_nil, lk_nil, lk_cons, lkB_t, lkB_f, Nat.reduceBEq, Option.getD_some, Option.getD_none]))
    exact AWI.ret ⟨.inl rfl, _, fun _ _ h => h.norm, rfl, rfl⟩
end Go.Proofs.Ytnealepilmobjaa
