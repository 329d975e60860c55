/- What is shown of lines. -/
import Derived.Test.YtnealepilmobjaaIC
import Derived.Test.YtnealepilmobjaaFunB
import Derived.Test.YtnealepilmobjaaFunG
set_option linter.unusedVariables false
set_option linter.unusedSimpArgs false
set_option maxRecDepth 100000
namespace Go.Proofs.Ytnealepilmobjaa
open Go.Eng
def showF : Bool → List (List UInt8 × Int) → List UInt8
  | _, [] => []
  | first, w :: ws => (if first = true then [] else [32]) ++ w.1 ++ showF false ws
def showL : List PLine → List UInt8
  | [] => []
  | x :: xs => showF true x.1 ++ [10] ++ showL xs
theorem drop_getE {α : Type} (l : List α) (i : Nat) (h : i < l.length) : l.drop i = l[i] :: l.drop (i + 1) := List.drop_eq_getElem_cons h
theorem rshow {fr : Bool} {ls : List PLine} (hl : ls.length ≤ 4611686018427387904) (hw : ∀ x ∈ ls, x.1.length ≤ 4611686018427387904) (hs : (showL ls).length ≤ 4611686018427387904) :
    CtrE Try.prog 17 [.c (.t fr (.sl 2 (ls.map lT)))] (.c (.t true (.v (.string (bs (showL ls)))))) [] := by
  refine fn17 (Nat.le_of_ble_eq_true rfl) fun Γ hP hn hX hm => ?_; have hgf := hm.1; unfold i17
  refine AWI.seq ?_
  (refine AWI.region (AR.go fun K hK => ?_); simp (disch := first | assumption | omega | (simp only [List.length_cons, List.length_nil, List.length_map, List.length_append, List.length_take, List.length_drop] <;> omega)) only [R0, R1, R2, R3, R4, R5, R6, R7, R8, M0, envOf_nil, envOf_cons, ↓reduceIte, reduceCtorEq, Nat.reduceEqDiff, Int.reduceEq, Int.reduceLT, Int.reduceLE, Nat.reduceAdd, Nat.reduceSub, Nat.reduceBEq, Nat.reduceLT]; (refine hK _ _ (AR.keep2 [0] [] ?_); clear hK K; try simp only [keep2_mk, pickR_nil, pickR_cons, pickB_some, List.map_cons, List.map_nil, lk_nil, lk_cons, lkB_t, lkB_f, Nat.reduceBEq, Option.getD_some, Option.getD_none]))
  refine AWI.seq ?_
  (refine AWI.region (AR.go fun K hK => ?_); simp (disch := first | assumption | omega | (simp only [List.length_cons, List.length_nil, List.length_map, List.length_append, List.length_take, List.length_drop] <;> omega)) only [R0, R1, R2, R3, R4, R5, R6, R7, R8, M0, envOf_nil, envOf_cons, ↓reduceIte, reduceCtorEq, Nat.reduceEqDiff, Int.reduceEq, Int.reduceLT, Int.reduceLE, Nat.reduceAdd, Nat.reduceSub, Nat.reduceBEq, Nat.reduceLT]; (refine hK _ _ (AR.keep2 [0, 3] [] ?_); clear hK K; try simp only [keep2_mk, pickR_nil, pickR_cons, pickB_some, List.map_cons, List.map_nil, lk_nil, lk_cons, lkB_t, lkB_f, Nat.reduceBEq, Option.getD_some, Option.getD_none]))
  refine AWI.seq (AWI.seq ?_)
  (refine AWI.region (AR.go fun K hK => ?_); simp (disch := first | assumption | omega | (simp only [List.length_cons, List.length_nil, List.length_map, List.length_append, List.length_take, List.length_drop] <;> omega)) only [R0, R1, R2, R3, R4, R5, R6, R7, R8, M0, envOf_nil, envOf_cons, ↓reduceIte, reduceCtorEq, Nat.reduceEqDiff, Int.reduceEq, Int.reduceLT, Int.reduceLE, Nat.reduceAdd, Nat.reduceSub, Nat.reduceBEq, Nat.reduceLT]; (refine hK _ _ (AR.keep2 [0, 3, 4] [] ?_); clear hK K; try simp only [keep2_mk, pickR_nil, pickR_cons, pickB_some, List.map_cons, List.map_nil, lk_nil, lk_cons, lkB_t, lkB_f, Nat.reduceBEq, Option.getD_some, Option.getD_none]))
  refine AWI.block (AWI.loop (α := Nat × List UInt8) (fun x => x.1 ≤ ls.length ∧ x.2 ++ showL (ls.drop x.1) = showL ls)
    (fun x => ⟨[(0, .c (.t fr (.sl 2 (ls.map lT)))), (3, .c (.t true (.v (.string (bs x.2))))), (4, .c (.t true (.v (.int .i64 x.1))))], []⟩) (fun x => ls.length - x.1) (0, []) ⟨Nat.zero_le _, rfl⟩ (fun _ _ h => h) fun x hx => ?_)
  obtain ⟨i, out⟩ := x
  obtain ⟨hi1, hi2⟩ := hx
  simp only at hi1 hi2
  refine AWI.seq (AWI.seq ?_)
  (refine AWI.region (AR.go fun K hK => ?_); simp (disch := first | assumption | omega | (simp only [List.length_cons, List.length_nil, List.length_map, List.length_append, List.length_take, List.length_drop] <;> omega)) only [R0, R1, R2, R3, R4, R5, R6, R7, R8, M0, envOf_nil, envOf_cons, ↓reduceIte, reduceCtorEq, Nat.reduceEqDiff, Int.reduceEq, Int.reduceLT, Int.reduceLE, Nat.reduceAdd, Nat.reduceSub, Nat.reduceBEq, Nat.reduceLT]; (refine hK _ _ (AR.keep2 [0, 3, 4, 9] [] ?_); clear hK K; try simp only [keep2_mk, pickR_nil, pickR_cons, pickB_some, List.map_cons, List.map_nil, lk_nil, lk_cons, lkB_t, lkB_f, Nat.reduceBEq, Option.getD_some, Option.getD_none]))
  refine AWI.cond rfl (fun hc => AWI.skip (AWI.seq (AWI.block (AWI.seq (AWI.seq ?_))))) fun hc => AWI.exit (AWI.seq ?_)
  · have hlt : i < ls.length := by simpa using of_decide_eq_true hc
    obtain ⟨x, hx⟩ : ∃ x, x = ls[i] := ⟨_, rfl⟩
    have hgi : getE (ls.map lT) i = lT x := by rw [getE_map' lT ls i hlt, hx]
    have hxw : x.1.length ≤ 4611686018427387904 := hw x (by rw [hx]; exact List.getElem_mem _)
    obtain ⟨ws, pos⟩ := x
    have hxw : ws.length ≤ 4611686018427387904 := hxw
    rw [drop_getE ls i hlt, ← hx, showL] at hi2
    simp only at hi2
    (refine AWI.region (AR.go fun K hK => ?_); simp (disch := first | assumption | omega | (simp only [List.length_cons, List.length_nil, List.length_map, List.length_append, List.length_take, List.length_drop] <;> omega)) only [R0, R1, R2, R3, R4, R5, R6, R7, R8, M0, envOf_nil, envOf_cons, ↓reduceIte, reduceCtorEq, Nat.reduceEqDiff, Int.reduceEq, Int.reduceLT, Int.reduceLE, Nat.reduceAdd, Nat.reduceSub, Nat.reduceBEq, Nat.reduceLT]; (refine hK _ _ (AR.keep2 [0, 3, 4, 5] [] ?_); clear hK K; try simp only [keep2_mk, pickR_nil, pickR_cons, pickB_some, List.map_cons, List.map_nil, lk_nil, lk_cons, lkB_t, lkB_f, Nat.reduceBEq, Option.getD_some, Option.getD_none]))
    refine AWI.block (AWI.loop (α := Nat × List UInt8) (fun y => y.1 ≤ ws.length ∧ y.2 ++ showF (decide (y.1 = 0)) (ws.drop y.1) = out ++ showF true ws)
      (fun y => ⟨[(0, .c (.t fr (.sl 2 (ls.map lT)))), (3, .c (.t true (.v (.string (bs y.2))))), (4, .c (.t true (.v (.int .i64 i)))), (5, .c (.t true (.v (.int .i64 y.1))))], []⟩) (fun y => ws.length - y.1) (0, out) ⟨Nat.zero_le _, rfl⟩ (fun _ _ h => h) fun y hy => ?_)
    obtain ⟨k, o2⟩ := y
    obtain ⟨hk1, hk2⟩ := hy
    simp only at hk1 hk2
    have hlen := congrArg List.length hi2
    have hlen2 := congrArg List.length hk2
    simp only [List.length_append, List.length_cons, List.length_nil] at hlen hlen2
    refine AWI.seq (AWI.seq ?_)
    (refine AWI.region (AR.go fun K hK => ?_); simp (disch := first | assumption | omega | (simp only [List.length_cons, List.length_nil, List.length_map, List.length_append, List.length_take, List.length_drop] <;> omega)) only [R0, R1, R2, R3, R4, R5, R6, R7, R8, M0, envOf_nil, envOf_cons, ↓reduceIte, reduceCtorEq, Nat.reduceEqDiff, Int.reduceEq, Int.reduceLT, Int.reduceLE, Nat.reduceAdd, Nat.reduceSub, Nat.reduceBEq, Nat.reduceLT, hgi, lT]; (refine hK _ _ (AR.keep2 [0, 3, 4, 5, 19] [] ?_); clear hK K; try simp only [keep2_mk, pickR_nil, pickR_cons, pickB_some, List.map_cons, List.map_nil, lk_nil, lk_cons, lkB_t, lkB_f, Nat.reduceBEq, Option.getD_some, Option.getD_none]))
    refine AWI.cond rfl (fun hc2 => AWI.skip (AWI.seq (AWI.block (AWI.seq (AWI.seq ?_))))) fun hc2 => AWI.exit ?_
    · have hkl : k < ws.length := by simpa using of_decide_eq_true hc2
      obtain ⟨y, hy⟩ : ∃ y, y = ws[k] := ⟨_, rfl⟩
      have hgk : getE (ws.map wT) k = wT y := by rw [getE_map' wT ws k hkl, hy]
      obtain ⟨t, q⟩ := y
      rw [drop_getE ws k hkl, ← hy, showF] at hk2 hlen2
      simp only at hk2 hlen2
      simp only [List.length_append] at hlen2
      (refine AWI.region (AR.go fun K hK => ?_); simp (disch := first | assumption | omega | (simp only [List.length_cons, List.length_nil, List.length_map, List.length_append, List.length_take, List.length_drop] <;> omega)) only [R0, R1, R2, R3, R4, R5, R6, R7, R8, M0, envOf_nil, envOf_cons, ↓reduceIte, reduceCtorEq, Nat.reduceEqDiff, Int.reduceEq, Int.reduceLT, Int.reduceLE, Nat.reduceAdd, Nat.reduceSub, Nat.reduceBEq, Nat.reduceLT]; (refine hK _ _ (AR.keep2 [0, 3, 4, 5, 23] [] ?_); clear hK K; try simp only [keep2_mk, pickR_nil, pickR_cons, pickB_some, List.map_cons, List.map_nil, lk_nil, lk_cons, lkB_t, lkB_f, Nat.reduceBEq, Option.getD_some, Option.getD_none]))
      refine AWI.post ⟨[(0, .c (.t fr (.sl 2 (ls.map lT)))), (3, .c (.t true (.v (.string (bs (o2 ++ if decide (k = 0) = true then [] else [32])))))), (4, .c (.t true (.v (.int .i64 i)))), (5, .c (.t true (.v (.int .i64 k))))], []⟩ (fun Q' q => ?_) ?_
      · refine AWI.cond rfl (fun hz => ?_) fun hz => ?_
        · have hz : ¬ k = 0 := by have := of_decide_eq_true hz; omega
          rw [decide_eq_false hz] at q hlen2
          simp only [Bool.false_eq_true, if_false, List.length_cons, List.length_nil] at q hlen2
          (refine AWI.region (AR.go fun K hK => ?_); simp (disch := first | assumption | omega | (simp only [List.length_cons, List.length_nil, List.length_map, List.length_append, List.length_take, List.length_drop] <;> omega)) only [R0, R1, R2, R3, R4, R5, R6, R7, R8, M0, envOf_nil, envOf_cons, ↓reduceIte, reduceCtorEq, Nat.reduceEqDiff, Int.reduceEq, Int.reduceLT, Int.reduceLE, Nat.reduceAdd, Nat.reduceSub, Nat.reduceBEq, Nat.reduceLT]; (refine hK _ _ (AR.keep2 [0, 3, 4, 5] [] ?_); clear hK K; try simp only [keep2_mk, pickR_nil, pickR_cons, pickB_some, List.map_cons, List.map_nil, lk_nil, lk_cons, lkB_t, lkB_f, Nat.reduceBEq, Option.getD_some, Option.getD_none]))
          exact q
        · have hz : k = 0 := by have := of_decide_eq_false hz; omega
          rw [decide_eq_true hz] at q
          simp only [if_true, List.append_nil] at q
          exact AWI.keep2 [0, 3, 4, 5] [] (AWI.skip q)
      refine AWI.region (AR.go fun K hK => ?_)
      simp (disch := first | assumption | omega | (simp only [List.length_cons, List.length_nil, List.length_map, List.length_append, List.length_take, List.length_drop] <;> omega)) only [R0, R1, R2, R3, R4, R5, R6, R7, R8, M0, envOf_nil, envOf_cons, ↓reduceIte, reduceCtorEq, Nat.reduceEqDiff, Int.reduceEq, Int.reduceLT, Int.reduceLE, Nat.reduceAdd, Nat.reduceSub, Nat.reduceBEq, Nat.reduceLT, hgi, lT, hgk, wT]
      (refine hK _ _ (AR.keep2 [0, 3, 4, 5] [] ?_); clear hK K; try simp only [keep2_mk, pickR_nil, pickR_cons, pickB_some, List.map_cons, List.map_nil, lk_nil, lk_cons, lkB_t, lkB_f, Nat.reduceBEq, Option.getD_some, Option.getD_none])
      (refine AWI.region (AR.go fun K hK => ?_); simp (disch := first | assumption | omega | (simp only [List.length_cons, List.length_nil, List.length_map, List.length_append, List.length_take, List.length_drop] <;> omega)) only [R0, R1, R2, R3, R4, R5, R6, R7, R8, M0, envOf_nil, envOf_cons, ↓reduceIte, reduceCtorEq, Nat.reduceEqDiff, Int.reduceEq, Int.reduceLT, Int.reduceLE, Nat.reduceAdd, Nat.reduceSub, Nat.reduceBEq, Nat.reduceLT]; (refine hK _ _ (AR.keep2 [0, 3, 4, 5] [] ?_); clear hK K; try simp only [keep2_mk, pickR_nil, pickR_cons, pickB_some, List.map_cons, List.map_nil, lk_nil, lk_cons, lkB_t, lkB_f, Nat.reduceBEq, Option.getD_some, Option.getD_none]))
      refine ⟨(k + 1, (o2 ++ if decide (k = 0) = true then [] else [32]) ++ t), ⟨hkl, ?_⟩, by simp only; omega, fun _ _ h => h⟩
      simp only [show decide (k + 1 = 0) = false from decide_eq_false (by omega)]
      rw [← hk2]
      simp only [List.append_assoc]
    · have hkl : ¬ k < ws.length := by simpa using of_decide_eq_false hc2
      rw [List.drop_eq_nil_of_le (by omega), showF, List.append_nil] at hk2
      (refine AWI.region (AR.go fun K hK => ?_); simp (disch := first | assumption | omega | (simp only [List.length_cons, List.length_nil, List.length_map, List.length_append, List.length_take, List.length_drop] <;> omega)) only [R0, R1, R2, R3, R4, R5, R6, R7, R8, M0, envOf_nil, envOf_cons, ↓reduceIte, reduceCtorEq, Nat.reduceEqDiff, Int.reduceEq, Int.reduceLT, Int.reduceLE, Nat.reduceAdd, Nat.reduceSub, Nat.reduceBEq, Nat.reduceLT]; (refine hK _ _ (AR.keep2 [0, 3, 4] [] ?_); clear hK K; try simp only [keep2_mk, pickR_nil, pickR_cons, pickB_some, List.map_cons, List.map_nil, lk_nil, lk_cons, lkB_t, lkB_f, Nat.reduceBEq, Option.getD_some, Option.getD_none]))
      (refine AWI.region (AR.go fun K hK => ?_); simp (disch := first | assumption | omega | (simp only [List.length_cons, List.length_nil, List.length_map, List.length_append, List.length_take, List.length_drop] <;> omega)) only [R0, R1, R2, R3, R4, R5, R6, R7, R8, M0, envOf_nil, envOf_cons, ↓reduceIte, reduceCtorEq, Nat.reduceEqDiff, Int.reduceEq, Int.reduceLT, Int.reduceLE, Nat.reduceAdd, Nat.reduceSub, Nat.reduceBEq, Nat.reduceLT]; (refine hK _ _ (AR.keep2 [0, 3, 4] [] ?_); clear hK K; try simp only [keep2_mk, pickR_nil, pickR_cons, pickB_some, List.map_cons, List.map_nil, lk_nil, lk_cons, lkB_t, lkB_f, Nat.reduceBEq, Option.getD_some, Option.getD_none]))
      refine ⟨(i + 1, o2 ++ [10]), ⟨hlt, ?_⟩, by simp only; omega, fun _ _ h => h⟩
      simp only
      rw [← hi2, hk2]
      simp only [List.append_assoc]
  · have hlt : ¬ i < ls.length := by simpa using of_decide_eq_false hc
    rw [List.drop_eq_nil_of_le (by omega), showL, List.append_nil] at hi2
    subst hi2
    (refine AWI.region (AR.go fun K hK => ?_); simp (disch := first | assumption | omega | (simp only [List.length_cons, List.length_nil, List.length_map, List.length_append, List.length_take, List.length_drop] <;> omega)) only [R0, R1, R2, R3, R4, R5, R6, R7, R8, M0, envOf_nil, envOf_cons, ↓reduceIte, reduceCtorEq, Nat.reduceEqDiff, Int.reduceEq, Int.reduceLT, Int.reduceLE, Nat.reduceAdd, Nat.reduceSub, Nat.reduceBEq, Nat.reduceLT]; (refine hK _ _ (AR.keep2 [2] [] ?_); clear hK K; try simp only [keep2_mk, pickR_nil, pickR_cons, pickB_some, List.map_cons, List.map_nil, lk_nil, lk_cons, lkB_t, lkB_f, Nat.reduceBEq, Option.getD_some, Option.getD_none]))
    exact AWI.ret ⟨.inl rfl, _, fun _ _ h => h.norm, rfl, rfl⟩
end Go.Proofs.Ytnealepilmobjaa
