/- The chapter's examples hold. -/
import Derived.Test.YtnealepilmobjaaIC
import Derived.Test.YtnealepilmobjaaFunC
set_option linter.unusedVariables false
set_option linter.unusedSimpArgs false
set_option maxRecDepth 100000
namespace Go.Proofs.Ytnealepilmobjaa
open Go.Eng
/- the same by a count of steps, to be reckoned -/
def wordsN : Nat → Nat → List UInt8 → List (List UInt8 × Int) × Option Nat
  | 0, _, _ => ([], none)
  | _ + 1, _, [] => ([], none)
  | n + 1, pos, c :: r =>
    if isW c = true then
      (((c :: r).take (runLen isW (c :: r)), (pos : Int)) :: (wordsN n (pos + runLen isW (c :: r)) ((c :: r).drop (runLen isW (c :: r)))).1, (wordsN n (pos + runLen isW (c :: r)) ((c :: r).drop (runLen isW (c :: r)))).2)
    else if isB c = true then wordsN n (pos + runLen isB (c :: r)) ((c :: r).drop (runLen isB (c :: r)))
    else if c = 35 then ([], none)
    else ([], some pos)
theorem wordsN_eq : ∀ (n pos : Nat) (l : List UInt8), l.length ≤ n → wordsN n pos l = wordsL pos l := by
  intro n
  induction n with
  | zero =>
    intro pos l h
    have : l = [] := List.eq_nil_of_length_eq_zero (by omega)
    subst this
    rw [wordsL]; rfl
  | succ n ih =>
    intro pos l h
    cases l with
    | nil => rw [wordsL]; rfl
    | cons c r =>
      rw [wordsL, wordsN]
      simp only [List.length_cons] at h
      by_cases hw : isW c = true
      · have := runLen_pos (r := r) hw
        rw [if_pos hw, dif_pos hw, ih _ _ (by rw [List.length_drop, List.length_cons]; omega)]
      · rw [if_neg hw, dif_neg hw]
        by_cases hb : isB c = true
        · have := runLen_pos (r := r) hb
          rw [if_pos hb, dif_pos hb, ih _ _ (by rw [List.length_drop, List.length_cons]; omega)]
        · rw [if_neg hb, dif_neg hb]
def linesN : Nat → Nat → List UInt8 → List PLine × Option Nat
  | 0, _, _ => ([], none)
  | n + 1, pos, l =>
    match wordsN n pos (l.take (lineLen l)) with
    | (_, some b) => ([], some b)
    | (ws, none) =>
      if lineLen l < l.length then
        ((if ws.isEmpty then [] else [(ws, (pos : Int))]) ++ (linesN n (pos + (lineLen l + 1)) (l.drop (lineLen l + 1))).1, (linesN n (pos + (lineLen l + 1)) (l.drop (lineLen l + 1))).2)
      else (if ws.isEmpty then [] else [(ws, (pos : Int))], none)
theorem linesN_eq : ∀ (n pos : Nat) (l : List UInt8), l.length < n → linesN n pos l = linesF pos l := by
  intro n
  induction n with
  | zero => intro pos l h; omega
  | succ n ih =>
    intro pos l h
    rw [linesF, linesN, wordsN_eq _ _ _ (by rw [List.length_take]; omega)]
    cases hw : wordsL pos (l.take (lineLen l)) with
    | mk ws o =>
      cases o with
      | some b => rfl
      | none =>
        have he : ∀ (x : PLine), (if ws.isEmpty = true then [] else [x]) = (if ws = [] then [] else [x]) := fun x => by cases ws <;> simp
        simp only [he]
        by_cases hl : lineLen l < l.length
        · rw [if_pos hl, dif_pos hl, ih _ _ (by rw [List.length_drop]; omega)]
        · rw [if_neg hl, dif_neg hl]
def linesQ (l : List UInt8) : List PLine × Nat × Nat :=
  if 65536 < l.length then ([], 0, 3) else match (linesN (l.length + 1) 0 l).2 with
  | some b => ([], b, 70)
  | none => ((linesN (l.length + 1) 0 l).1, 0, 0)
theorem linesQ_eq (l : List UInt8) : linesQ l = linesR l := by
  unfold linesQ linesR
  rw [linesN_eq _ _ _ (by omega)]
  split
  · rfl
  · cases (linesF 0 l).2 <;> rfl
theorem ex1 : linesR [97, 32, 32, 98, 32, 35, 32, 99, 10, 10, 100] = ([([([97], 0), ([98], 3)], 0), ([([100], 10)], 10)], 0, 0) := by rw [← linesQ_eq]; kernel_rfl
theorem ex2 : linesR [97, 200] = ([], 1, 70) := by rw [← linesQ_eq]; kernel_rfl
theorem ex3 : linesR [35, 32, 111, 110, 108, 121] = ([], 0, 0) := by rw [← linesQ_eq]; kernel_rfl
theorem works : CtrE Try.prog 8 [] (.c (.t true (.v (.bool true)))) [] := by
  refine fn8 (Nat.le_of_ble_eq_true rfl) fun Γ hP hn hX hm => ?_; have hgf := hm.1; unfold i8
  refine AWI.seq ?_
  (refine AWI.region (AR.go fun K hK => ?_); simp (disch := first | assumption | omega | (simp only [List.length_cons, List.length_nil, List.length_map, List.length_append, List.length_take, List.length_drop] <;> omega)) only [R0, R1, R2, R3, R4, R5, R6, R7, R8, M0, envOf_nil, envOf_cons, ↓reduceIte, reduceCtorEq, Nat.reduceEqDiff, Int.reduceEq, Int.reduceLT, Int.reduceLE, Nat.reduceAdd, Nat.reduceSub, Nat.reduceBEq, Nat.reduceLT]; (refine hK _ _ (AR.keep2 [] [] ?_); clear hK K; try simp only [keep2_mk, pickR_nil, pickR_cons, pickB_some, List.map_cons, List.map_nil, lk_nil, lk_cons, lkB_t, lkB_f, Nat.reduceBEq, Option.getD_some, Option.getD_none]))
  refine AWI.seq ?_
  refine AWI.region (AR.go fun K hK => ?_)
  simp (disch := first | assumption | omega | (simp only [List.length_cons, List.length_nil, List.length_map, List.length_append, List.length_take, List.length_drop] <;> omega)) only [R0, R1, R2, R3, R4, R5, R6, R7, R8, M0, envOf_nil, envOf_cons, ↓reduceIte, reduceCtorEq, Nat.reduceEqDiff, Int.reduceEq, Int.reduceLT, Int.reduceLE, Nat.reduceAdd, Nat.reduceSub, Nat.reduceBEq, Nat.reduceLT]
  (refine hK _ _ ?_; refine AR.callE rfl (by first | exact .inl rfl | exact .inr ⟨_, _, rfl, rfl⟩) (by rw [hP]; exact lines (l := [97, 32, 32, 98, 32, 35, 32, 99, 10, 10, 100]) (by simp)) (by first | exact .inl rfl | exact .inr ⟨rfl, rfl⟩) ⟨_, rfl⟩ ?_; clear hK K; intro K hK)
  simp (disch := first | assumption | omega | (simp only [List.length_cons, List.length_nil, List.length_map, List.length_append, List.length_take, List.length_drop] <;> omega)) only [R0, R1, R2, R3, R4, R5, R6, R7, R8, M0, envOf_nil, envOf_cons, ↓reduceIte, reduceCtorEq, Nat.reduceEqDiff, Int.reduceEq, Int.reduceLT, Int.reduceLE, Nat.reduceAdd, Nat.reduceSub, Nat.reduceBEq, Nat.reduceLT, ex1]
  (refine hK _ _ (AR.frz hX 11 ?_); clear hK K; simp (disch := first | assumption | omega | (simp only [List.length_cons, List.length_nil, List.length_map, List.length_append, List.length_take, List.length_drop] <;> omega)) only [R0, R1, R2, R3, R4, R5, R6, R7, R8, M0, envOf_nil, envOf_cons, ↓reduceIte, reduceCtorEq, Nat.reduceEqDiff, Int.reduceEq, Int.reduceLT, Int.reduceLE, Nat.reduceAdd, Nat.reduceSub, Nat.reduceBEq, Nat.reduceLT]; refine AR.go fun K hK => ?_; simp (disch := first | assumption | omega | (simp only [List.length_cons, List.length_nil, List.length_map, List.length_append, List.length_take, List.length_drop] <;> omega)) only [R0, R1, R2, R3, R4, R5, R6, R7, R8, M0, envOf_nil, envOf_cons, ↓reduceIte, reduceCtorEq, Nat.reduceEqDiff, Int.reduceEq, Int.reduceLT, Int.reduceLE, Nat.reduceAdd, Nat.reduceSub, Nat.reduceBEq, Nat.reduceLT])
  (refine hK _ _ (AR.keep2 [1, 3] [] ?_); clear hK K; try simp only [keep2_mk, pickR_nil, pickR_cons, pickB_some, List.map_cons, List.map_nil, lk_nil, lk_cons, lkB_t, lkB_f, Nat.reduceBEq, Option.getD_some, Option.getD_none])
  refine AWI.seq ?_
  refine AWI.region (AR.go fun K hK => ?_)
  simp (disch := first | assumption | omega | (simp only [List.length_cons, List.length_nil, List.length_map, List.length_append, List.length_take, List.length_drop] <;> omega)) only [R0, R1, R2, R3, R4, R5, R6, R7, R8, M0, envOf_nil, envOf_cons, ↓reduceIte, reduceCtorEq, Nat.reduceEqDiff, Int.reduceEq, Int.reduceLT, Int.reduceLE, Nat.reduceAdd, Nat.reduceSub, Nat.reduceBEq, Nat.reduceLT]
  (refine hK _ _ ?_; refine AR.callE rfl (by first | exact .inl rfl | exact .inr ⟨_, _, rfl, rfl⟩) (by rw [hP]; exact lines (l := [97, 200]) (by simp)) (by first | exact .inl rfl | exact .inr ⟨rfl, rfl⟩) ⟨_, rfl⟩ ?_; clear hK K; intro K hK)
  simp (disch := first | assumption | omega | (simp only [List.length_cons, List.length_nil, List.length_map, List.length_append, List.length_take, List.length_drop] <;> omega)) only [R0, R1, R2, R3, R4, R5, R6, R7, R8, M0, envOf_nil, envOf_cons, ↓reduceIte, reduceCtorEq, Nat.reduceEqDiff, Int.reduceEq, Int.reduceLT, Int.reduceLE, Nat.reduceAdd, Nat.reduceSub, Nat.reduceBEq, Nat.reduceLT, ex2]
  (refine hK _ _ (AR.keep2 [1, 3, 5, 6] [] ?_); clear hK K; try simp only [keep2_mk, pickR_nil, pickR_cons, pickB_some, List.map_cons, List.map_nil, lk_nil, lk_cons, lkB_t, lkB_f, Nat.reduceBEq, Option.getD_some, Option.getD_none])
  refine AWI.seq ?_
  refine AWI.region (AR.go fun K hK => ?_)
  simp (disch := first | assumption | omega | (simp only [List.length_cons, List.length_nil, List.length_map, List.length_append, List.length_take, List.length_drop] <;> omega)) only [R0, R1, R2, R3, R4, R5, R6, R7, R8, M0, envOf_nil, envOf_cons, ↓reduceIte, reduceCtorEq, Nat.reduceEqDiff, Int.reduceEq, Int.reduceLT, Int.reduceLE, Nat.reduceAdd, Nat.reduceSub, Nat.reduceBEq, Nat.reduceLT]
  (refine hK _ _ ?_; refine AR.callE rfl (by first | exact .inl rfl | exact .inr ⟨_, _, rfl, rfl⟩) (by rw [hP]; exact lines (l := [35, 32, 111, 110, 108, 121]) (by simp)) (by first | exact .inl rfl | exact .inr ⟨rfl, rfl⟩) ⟨_, rfl⟩ ?_; clear hK K; intro K hK)
  simp (disch := first | assumption | omega | (simp only [List.length_cons, List.length_nil, List.length_map, List.length_append, List.length_take, List.length_drop] <;> omega)) only [R0, R1, R2, R3, R4, R5, R6, R7, R8, M0, envOf_nil, envOf_cons, ↓reduceIte, reduceCtorEq, Nat.reduceEqDiff, Int.reduceEq, Int.reduceLT, Int.reduceLE, Nat.reduceAdd, Nat.reduceSub, Nat.reduceBEq, Nat.reduceLT, ex3]
  (refine hK _ _ (AR.frz hX 21 ?_); clear hK K; simp (disch := first | assumption | omega | (simp only [List.length_cons, List.length_nil, List.length_map, List.length_append, List.length_take, List.length_drop] <;> omega)) only [R0, R1, R2, R3, R4, R5, R6, R7, R8, M0, envOf_nil, envOf_cons, ↓reduceIte, reduceCtorEq, Nat.reduceEqDiff, Int.reduceEq, Int.reduceLT, Int.reduceLE, Nat.reduceAdd, Nat.reduceSub, Nat.reduceBEq, Nat.reduceLT]; refine AR.go fun K hK => ?_; simp (disch := first | assumption | omega | (simp only [List.length_cons, List.length_nil, List.length_map, List.length_append, List.length_take, List.length_drop] <;> omega)) only [R0, R1, R2, R3, R4, R5, R6, R7, R8, M0, envOf_nil, envOf_cons, ↓reduceIte, reduceCtorEq, Nat.reduceEqDiff, Int.reduceEq, Int.reduceLT, Int.reduceLE, Nat.reduceAdd, Nat.reduceSub, Nat.reduceBEq, Nat.reduceLT])
  (refine hK _ _ (AR.keep2 [1, 3, 5, 6, 7, 9] [] ?_); clear hK K; try simp only [keep2_mk, pickR_nil, pickR_cons, pickB_some, List.map_cons, List.map_nil, lk_nil, lk_cons, lkB_t, lkB_f, Nat.reduceBEq, Option.getD_some, Option.getD_none])
  refine AWI.seq ?_
  refine AWI.region (AR.go fun K hK => ?_)
  simp (disch := first | assumption | omega | (simp only [List.length_cons, List.length_nil, List.length_map, List.length_append, List.length_take, List.length_drop] <;> omega)) only [R0, R1, R2, R3, R4, R5, R6, R7, R8, M0, envOf_nil, envOf_cons, ↓reduceIte, reduceCtorEq, Nat.reduceEqDiff, Int.reduceEq, Int.reduceLT, Int.reduceLE, Nat.reduceAdd, Nat.reduceSub, Nat.reduceBEq, Nat.reduceLT, lT, wT]
  (refine hK _ _ ?_; refine AR.callE rfl (by first | exact .inl rfl | exact .inr ⟨_, _, rfl, rfl⟩) (by rw [hP]; exact ref (ls := [([([97], 0), ([98], 3)], 0), ([([100], 10)], 10)]) (by simp) (by simp)) (by first | exact .inl rfl | exact .inr ⟨rfl, rfl⟩) ⟨_, rfl⟩ ?_; clear hK K; intro K hK)
  simp (disch := first | assumption | omega | (simp only [List.length_cons, List.length_nil, List.length_map, List.length_append, List.length_take, List.length_drop] <;> omega)) only [R0, R1, R2, R3, R4, R5, R6, R7, R8, M0, envOf_nil, envOf_cons, ↓reduceIte, reduceCtorEq, Nat.reduceEqDiff, Int.reduceEq, Int.reduceLT, Int.reduceLE, Nat.reduceAdd, Nat.reduceSub, Nat.reduceBEq, Nat.reduceLT, lT, wT]
  (refine hK _ _ (AR.frz hX 32 ?_); clear hK K; simp (disch := first | assumption | omega | (simp only [List.length_cons, List.length_nil, List.length_map, List.length_append, List.length_take, List.length_drop] <;> omega)) only [R0, R1, R2, R3, R4, R5, R6, R7, R8, M0, envOf_nil, envOf_cons, ↓reduceIte, reduceCtorEq, Nat.reduceEqDiff, Int.reduceEq, Int.reduceLT, Int.reduceLE, Nat.reduceAdd, Nat.reduceSub, Nat.reduceBEq, Nat.reduceLT]; refine AR.go fun K hK => ?_; simp (disch := first | assumption | omega | (simp only [List.length_cons, List.length_nil, List.length_map, List.length_append, List.length_take, List.length_drop] <;> omega)) only [R0, R1, R2, R3, R4, R5, R6, R7, R8, M0, envOf_nil, envOf_cons, ↓reduceIte, reduceCtorEq, Nat.reduceEqDiff, Int.reduceEq, Int.reduceLT, Int.reduceLE, Nat.reduceAdd, Nat.reduceSub, Nat.reduceBEq, Nat.reduceLT])
  (refine hK _ _ (AR.frz hX 35 ?_); clear hK K; simp (disch := first | assumption | omega | (simp only [List.length_cons, List.length_nil, List.length_map, List.length_append, List.length_take, List.length_drop] <;> omega)) only [R0, R1, R2, R3, R4, R5, R6, R7, R8, M0, envOf_nil, envOf_cons, ↓reduceIte, reduceCtorEq, Nat.reduceEqDiff, Int.reduceEq, Int.reduceLT, Int.reduceLE, Nat.reduceAdd, Nat.reduceSub, Nat.reduceBEq, Nat.reduceLT]; refine AR.go fun K hK => ?_; simp (disch := first | assumption | omega | (simp only [List.length_cons, List.length_nil, List.length_map, List.length_append, List.length_take, List.length_drop] <;> omega)) only [R0, R1, R2, R3, R4, R5, R6, R7, R8, M0, envOf_nil, envOf_cons, ↓reduceIte, reduceCtorEq, Nat.reduceEqDiff, Int.reduceEq, Int.reduceLT, Int.reduceLE, Nat.reduceAdd, Nat.reduceSub, Nat.reduceBEq, Nat.reduceLT])
  (refine hK _ _ ?_; refine AR.callE rfl (by first | exact .inl rfl | exact .inr ⟨_, _, rfl, rfl⟩) (by rw [hP]; exact same (us := [([([97], 0), ([98], 3)], 0), ([([100], 10)], 10)]) (vs := [([([97], 0), ([98], 3)], 0), ([([100], 10)], 10)]) (p := true) (by simp) (by simp) (by simp) (by simp)) (by first | exact .inl rfl | exact .inr ⟨rfl, rfl⟩) ⟨_, rfl⟩ ?_; clear hK K; intro K hK)
  simp (disch := first | assumption | omega | (simp only [List.length_cons, List.length_nil, List.length_map, List.length_append, List.length_take, List.length_drop] <;> omega)) only [R0, R1, R2, R3, R4, R5, R6, R7, R8, M0, envOf_nil, envOf_cons, ↓reduceIte, reduceCtorEq, Nat.reduceEqDiff, Int.reduceEq, Int.reduceLT, Int.reduceLE, Nat.reduceAdd, Nat.reduceSub, Nat.reduceBEq, Nat.reduceLT, eq_self]
  (refine hK _ _ (AR.keep2 [0] [] ?_); clear hK K; try simp only [keep2_mk, pickR_nil, pickR_cons, pickB_some, List.map_cons, List.map_nil, lk_nil, lk_cons, lkB_t, lkB_f, Nat.reduceBEq, Option.getD_some, Option.getD_none])
  exact AWI.ret ⟨.inl rfl, _, fun _ _ h => h.norm, rfl, rfl⟩
end Go.Proofs.Ytnealepilmobjaa
