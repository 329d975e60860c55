/- What the reference's lines are: byte by byte. -/
import Derived.Test.YtnealepilmobjaaIC
import Derived.Test.YtnealepilmobjaaFunB
set_option linter.unusedVariables false
set_option linter.unusedSimpArgs false
set_option maxRecDepth 100000
namespace Go.Proofs.Ytnealepilmobjaa
open Go.Eng
abbrev PW := List (List UInt8 × Int)
def appLast (ws : PW) (c : UInt8) : PW := ws.set (ws.length - 1) ((ws.getD (ws.length - 1) ([], 0)).1 ++ [c], (ws.getD (ws.length - 1) ([], 0)).2)
def lineOf (ws : PW) (at' : Int) : List PLine := if ws = [] then [] else [(ws, at')]
def refG (i : Nat) (ws : PW) (at' : Int) (rem op : Bool) : List UInt8 → List PLine × Option Nat
  | [] => (lineOf ws at', none)
  | c :: r =>
    if c = 10 then (lineOf ws at' ++ (refG (i + 1) [] ((i + 1 : Nat) : Int) false false r).1, (refG (i + 1) [] ((i + 1 : Nat) : Int) false false r).2)
    else if (rem || decide (c = 35) || decide (c = 32) || decide (c = 9)) = true then refG (i + 1) ws at' (rem || decide (c = 35)) false r
    else if isW c = false then ([], some i)
    else if op = true then refG (i + 1) (appLast ws c) at' false true r
    else refG (i + 1) (ws ++ [([c], (i : Int))]) at' false true r
def refR (l : List UInt8) : List PLine × Nat × Nat :=
  if 65536 < l.length then ([], 0, 3) else match (refG 0 [] 0 false false l).2 with
  | some b => ([], b, 70)
  | none => ((refG 0 [] 0 false false l).1, 0, 0)
def refWord (c : Int) : Bool := decide (33 ≤ c) && decide (c ≤ 126) && !decide (c = 35)
theorem refWord_eq (c : Int) : refWord c = isWord c := by
  unfold refWord isWord
  congr 1
  congr 1
  by_cases h : c ≤ 126
  · rw [decide_eq_true h, decide_eq_true (by omega)]
  · rw [decide_eq_false h, decide_eq_false (by omega)]
theorem rword {fr : Bool} {c : Int} : CtrE Try.prog 20 [.c (.t fr (.v (.int .u8 c)))] (.c (.t true (.v (.bool (isWord c))))) [] := by
  rw [← refWord_eq]
  refine fn20 (Nat.le_of_ble_eq_true rfl) fun Γ hP hn hX hm => ?_; have hgf := hm.1; unfold i20
  refine AWI.seq ?_
  (refine AWI.region (AR.go fun K hK => ?_); simp (disch := first | assumption | omega | (simp only [List.length_cons, List.length_nil, List.length_map, List.length_append, List.length_take, List.length_drop] <;> omega)) only [R0, R1, R2, R3, R4, R5, R6, R7, R8, M0, envOf_nil, envOf_cons, ↓reduceIte, reduceCtorEq, Nat.reduceEqDiff, Int.reduceEq, Int.reduceLT, Int.reduceLE, Nat.reduceAdd, Nat.reduceSub, Nat.reduceBEq, Nat.reduceLT]; (refine hK _ _ (AR.keep2 [0] [] ?_); clear hK K; try simp only [keep2_mk, pickR_nil, pickR_cons, pickB_some, List.map_cons, List.map_nil, lk_nil, lk_cons, lkB_t, lkB_f, Nat.reduceBEq, Option.getD_some, Option.getD_none]))
  refine AWI.seq ?_
  refine AWI.region (AR.go fun K hK => ?_)
  simp (disch := first | assumption | omega | (simp only [List.length_cons, List.length_nil, List.length_map, List.length_append, List.length_take, List.length_drop] <;> omega)) only [R0, R1, R2, R3, R4, R5, R6, R7, R8, M0, envOf_nil, envOf_cons, ↓reduceIte, reduceCtorEq, Nat.reduceEqDiff, Int.reduceEq, Int.reduceLT, Int.reduceLE, Nat.reduceAdd, Nat.reduceSub, Nat.reduceBEq, Nat.reduceLT]
  cases h1 : decide (33 ≤ c) <;> simp (disch := first | assumption | omega | (simp only [List.length_cons, List.length_nil, List.length_map, List.length_append, List.length_take, List.length_drop] <;> omega)) only [R0, R1, R2, R3, R4, R5, R6, R7, R8, M0, envOf_nil, envOf_cons, ↓reduceIte, reduceCtorEq, Nat.reduceEqDiff, Int.reduceEq, Int.reduceLT, Int.reduceLE, Nat.reduceAdd, Nat.reduceSub, Nat.reduceBEq, Nat.reduceLT]
  · (refine hK _ _ (AR.keep2 [2] [] ?_); clear hK K; try simp only [keep2_mk, pickR_nil, pickR_cons, pickB_some, List.map_cons, List.map_nil, lk_nil, lk_cons, lkB_t, lkB_f, Nat.reduceBEq, Option.getD_some, Option.getD_none])
    exact AWI.ret ⟨.inl rfl, _, fun _ _ h => h.norm, by unfold refWord; rw [h1]; rfl, rfl⟩
  cases h2 : decide (c ≤ 126) <;> simp (disch := first | assumption | omega | (simp only [List.length_cons, List.length_nil, List.length_map, List.length_append, List.length_take, List.length_drop] <;> omega)) only [R0, R1, R2, R3, R4, R5, R6, R7, R8, M0, envOf_nil, envOf_cons, ↓reduceIte, reduceCtorEq, Nat.reduceEqDiff, Int.reduceEq, Int.reduceLT, Int.reduceLE, Nat.reduceAdd, Nat.reduceSub, Nat.reduceBEq, Nat.reduceLT]
  · (refine hK _ _ (AR.keep2 [2] [] ?_); clear hK K; try simp only [keep2_mk, pickR_nil, pickR_cons, pickB_some, List.map_cons, List.map_nil, lk_nil, lk_cons, lkB_t, lkB_f, Nat.reduceBEq, Option.getD_some, Option.getD_none])
    exact AWI.ret ⟨.inl rfl, _, fun _ _ h => h.norm, by unfold refWord; rw [h1, h2]; rfl, rfl⟩
  · (refine hK _ _ (AR.keep2 [2] [] ?_); clear hK K; try simp only [keep2_mk, pickR_nil, pickR_cons, pickB_some, List.map_cons, List.map_nil, lk_nil, lk_cons, lkB_t, lkB_f, Nat.reduceBEq, Option.getD_some, Option.getD_none])
    exact AWI.ret ⟨.inl rfl, _, fun _ _ h => h.norm, by unfold refWord; rw [h1, h2]; rfl, rfl⟩
theorem byte_dec (c d : UInt8) : decide ((c.toNat : Int) = (d.toNat : Int)) = decide (c = d) := by
  by_cases h : c = d
  · subst h; simp
  · rw [decide_eq_false h, decide_eq_false]
    intro e
    exact h (UInt8.toNat_inj.1 (Int.ofNat_inj.1 e))
theorem rlines {fr : Bool} {l : List UInt8} : CtrE Try.prog 12 [.c (.t fr (.v (.string (bs l))))]
    (.tup [.c (.row 1000 0 (refR l).1.length), .c (.t true (.v (.int .i64 (refR l).2.1))), .c (.t true (.v (.int .i64 (refR l).2.2)))]) [(1000, .tr true 47 2 ((refR l).1.map lT))] := by
  refine fn12 (Nat.le_of_ble_eq_true rfl) fun Γ hP hn hX hm => ?_; have hgf := hm.1; unfold i12
  refine AWI.seq ?_
  (refine AWI.region (AR.go fun K hK => ?_); simp (disch := first | assumption | omega | (simp only [List.length_cons, List.length_nil, List.length_map, List.length_append, List.length_take, List.length_drop] <;> omega)) only [R0, R1, R2, R3, R4, R5, R6, R7, R8, M0, envOf_nil, envOf_cons, ↓reduceIte, reduceCtorEq, Nat.reduceEqDiff, Int.reduceEq, Int.reduceLT, Int.reduceLE, Nat.reduceAdd, Nat.reduceSub, Nat.reduceBEq, Nat.reduceLT]; (refine hK _ _ (AR.keep2 [0] [] ?_); clear hK K; try simp only [keep2_mk, pickR_nil, pickR_cons, pickB_some, List.map_cons, List.map_nil, lk_nil, lk_cons, lkB_t, lkB_f, Nat.reduceBEq, Option.getD_some, Option.getD_none]))
  refine AWI.seq (AWI.seq ?_)
  (refine AWI.region (AR.go fun K hK => ?_); simp (disch := first | assumption | omega | (simp only [List.length_cons, List.length_nil, List.length_map, List.length_append, List.length_take, List.length_drop] <;> omega)) only [R0, R1, R2, R3, R4, R5, R6, R7, R8, M0, envOf_nil, envOf_cons, ↓reduceIte, reduceCtorEq, Nat.reduceEqDiff, Int.reduceEq, Int.reduceLT, Int.reduceLE, Nat.reduceAdd, Nat.reduceSub, Nat.reduceBEq, Nat.reduceLT]; (refine hK _ _ (AR.keep2 [0, 13] [] ?_); clear hK K; try simp only [keep2_mk, pickR_nil, pickR_cons, pickB_some, List.map_cons, List.map_nil, lk_nil, lk_cons, lkB_t, lkB_f, Nat.reduceBEq, Option.getD_some, Option.getD_none]))
  refine AWI.cond rfl (fun hc => AWI.seq ?_) fun hc => AWI.skip (AWI.seq ?_)
  · have hc := of_decide_eq_true hc
    have hR : refR l = ([], 0, 3) := if_pos (by omega)
    rw [hR]
    refine AWI.region (AR.go fun K hK => ?_)
    simp (disch := first | assumption | omega | (simp only [List.length_cons, List.length_nil, List.length_map, List.length_append, List.length_take, List.length_drop] <;> omega)) only [R0, R1, R2, R3, R4, R5, R6, R7, R8, M0, envOf_nil, envOf_cons, ↓reduceIte, reduceCtorEq, Nat.reduceEqDiff, Int.reduceEq, Int.reduceLT, Int.reduceLE, Nat.reduceAdd, Nat.reduceSub, Nat.reduceBEq, Nat.reduceLT]
    (refine hK _ _ (AR.nilRow 2 1000 47 2 (by decide) ?_); clear hK K; simp (disch := first | assumption | omega | (simp only [List.length_cons, List.length_nil, List.length_map, List.length_append, List.length_take, List.length_drop] <;> omega)) only [R0, R1, R2, R3, R4, R5, R6, R7, R8, M0, envOf_nil, envOf_cons, ↓reduceIte, reduceCtorEq, Nat.reduceEqDiff, Int.reduceEq, Int.reduceLT, Int.reduceLE, Nat.reduceAdd, Nat.reduceSub, Nat.reduceBEq, Nat.reduceLT]; refine AR.go fun K hK => ?_; simp (disch := first | assumption | omega | (simp only [List.length_cons, List.length_nil, List.length_map, List.length_append, List.length_take, List.length_drop] <;> omega)) only [R0, R1, R2, R3, R4, R5, R6, R7, R8, M0, envOf_nil, envOf_cons, ↓reduceIte, reduceCtorEq, Nat.reduceEqDiff, Int.reduceEq, Int.reduceLT, Int.reduceLE, Nat.reduceAdd, Nat.reduceSub, Nat.reduceBEq, Nat.reduceLT])
    (refine hK _ _ (AR.keep2 [2, 3, 4] [1000] ?_); clear hK K; try simp only [keep2_mk, pickR_nil, pickR_cons, pickB_some, List.map_cons, List.map_nil, lk_nil, lk_cons, lkB_t, lkB_f, Nat.reduceBEq, Option.getD_some, Option.getD_none])
    exact AWI.ret ⟨.inl rfl, _, fun _ _ h => h.norm, rfl, rfl⟩
  have hc := of_decide_eq_false hc
  have hl : l.length ≤ 65536 := by omega
  refine AWI.region (AR.go fun K hK => ?_)
  simp (disch := first | assumption | omega | (simp only [List.length_cons, List.length_nil, List.length_map, List.length_append, List.length_take, List.length_drop] <;> omega)) only [R0, R1, R2, R3, R4, R5, R6, R7, R8, M0, envOf_nil, envOf_cons, ↓reduceIte, reduceCtorEq, Nat.reduceEqDiff, Int.reduceEq, Int.reduceLT, Int.reduceLE, Nat.reduceAdd, Nat.reduceSub, Nat.reduceBEq, Nat.reduceLT]
  (refine hK _ _ (AR.nilRow 5 1000 47 2 (by decide) ?_); clear hK K; simp (disch := first | assumption | omega | (simp only [List.length_cons, List.length_nil, List.length_map, List.length_append, List.length_take, List.length_drop] <;> omega)) only [R0, R1, R2, R3, R4, R5, R6, R7, R8, M0, envOf_nil, envOf_cons, ↓reduceIte, reduceCtorEq, Nat.reduceEqDiff, Int.reduceEq, Int.reduceLT, Int.reduceLE, Nat.reduceAdd, Nat.reduceSub, Nat.reduceBEq, Nat.reduceLT]; refine AR.go fun K hK => ?_; simp (disch := first | assumption | omega | (simp only [List.length_cons, List.length_nil, List.length_map, List.length_append, List.length_take, List.length_drop] <;> omega)) only [R0, R1, R2, R3, R4, R5, R6, R7, R8, M0, envOf_nil, envOf_cons, ↓reduceIte, reduceCtorEq, Nat.reduceEqDiff, Int.reduceEq, Int.reduceLT, Int.reduceLE, Nat.reduceAdd, Nat.reduceSub, Nat.reduceBEq, Nat.reduceLT])
  (refine hK _ _ (AR.keep2 [0, 5] [1000] ?_); clear hK K; try simp only [keep2_mk, pickR_nil, pickR_cons, pickB_some, List.map_cons, List.map_nil, lk_nil, lk_cons, lkB_t, lkB_f, Nat.reduceBEq, Option.getD_some, Option.getD_none])
  refine AWI.seq ?_
  refine AWI.region (AR.go fun K hK => ?_)
  simp (disch := first | assumption | omega | (simp only [List.length_cons, List.length_nil, List.length_map, List.length_append, List.length_take, List.length_drop] <;> omega)) only [R0, R1, R2, R3, R4, R5, R6, R7, R8, M0, envOf_nil, envOf_cons, ↓reduceIte, reduceCtorEq, Nat.reduceEqDiff, Int.reduceEq, Int.reduceLT, Int.reduceLE, Nat.reduceAdd, Nat.reduceSub, Nat.reduceBEq, Nat.reduceLT]
  (refine hK _ _ (AR.nilCell 6 0 2000 44 2 (by decide) ?_); clear hK K; simp (disch := first | assumption | omega | (simp only [List.length_cons, List.length_nil, List.length_map, List.length_append, List.length_take, List.length_drop] <;> omega)) only [R0, R1, R2, R3, R4, R5, R6, R7, R8, M0, envOf_nil, envOf_cons, ↓reduceIte, reduceCtorEq, Nat.reduceEqDiff, Int.reduceEq, Int.reduceLT, Int.reduceLE, Nat.reduceAdd, Nat.reduceSub, Nat.reduceBEq, Nat.reduceLT]; refine AR.go fun K hK => ?_; simp (disch := first | assumption | omega | (simp only [List.length_cons, List.length_nil, List.length_map, List.length_append, List.length_take, List.length_drop] <;> omega)) only [R0, R1, R2, R3, R4, R5, R6, R7, R8, M0, envOf_nil, envOf_cons, ↓reduceIte, reduceCtorEq, Nat.reduceEqDiff, Int.reduceEq, Int.reduceLT, Int.reduceLE, Nat.reduceAdd, Nat.reduceSub, Nat.reduceBEq, Nat.reduceLT])
  (refine hK _ _ (AR.keep2 [0, 5, 6] [6, 2000, 1000] ?_); clear hK K; try simp only [keep2_mk, pickR_nil, pickR_cons, pickB_some, List.map_cons, List.map_nil, lk_nil, lk_cons, lkB_t, lkB_f, Nat.reduceBEq, Option.getD_some, Option.getD_none])
  refine AWI.seq ?_
  (refine AWI.region (AR.go fun K hK => ?_); simp (disch := first | assumption | omega | (simp only [List.length_cons, List.length_nil, List.length_map, List.length_append, List.length_take, List.length_drop] <;> omega)) only [R0, R1, R2, R3, R4, R5, R6, R7, R8, M0, envOf_nil, envOf_cons, ↓reduceIte, reduceCtorEq, Nat.reduceEqDiff, Int.reduceEq, Int.reduceLT, Int.reduceLE, Nat.reduceAdd, Nat.reduceSub, Nat.reduceBEq, Nat.reduceLT]; (refine hK _ _ (AR.keep2 [0, 5, 6, 7, 8] [6, 2000, 1000] ?_); clear hK K; try simp only [keep2_mk, pickR_nil, pickR_cons, pickB_some, List.map_cons, List.map_nil, lk_nil, lk_cons, lkB_t, lkB_f, Nat.reduceBEq, Option.getD_some, Option.getD_none]))
  refine AWI.seq (AWI.seq ?_)
  (refine AWI.region (AR.go fun K hK => ?_); simp (disch := first | assumption | omega | (simp only [List.length_cons, List.length_nil, List.length_map, List.length_append, List.length_take, List.length_drop] <;> omega)) only [R0, R1, R2, R3, R4, R5, R6, R7, R8, M0, envOf_nil, envOf_cons, ↓reduceIte, reduceCtorEq, Nat.reduceEqDiff, Int.reduceEq, Int.reduceLT, Int.reduceLE, Nat.reduceAdd, Nat.reduceSub, Nat.reduceBEq, Nat.reduceLT]; (refine hK _ _ (AR.keep2 [0, 5, 6, 7, 8, 9] [6, 2000, 1000] ?_); clear hK K; try simp only [keep2_mk, pickR_nil, pickR_cons, pickB_some, List.map_cons, List.map_nil, lk_nil, lk_cons, lkB_t, lkB_f, Nat.reduceBEq, Option.getD_some, Option.getD_none]))
  refine AWI.block (AWI.loop (α := Nat × List PLine × PW × Int × Bool × Bool)
    (fun x => x.1 ≤ l.length + 1 ∧ x.2.1.length ≤ x.1 ∧ x.2.2.1.length ≤ x.1 ∧ (∀ w ∈ x.2.2.1, w.1.length ≤ x.1) ∧ (x.2.2.2.2.2 = true → x.2.2.1 ≠ []) ∧
      refG 0 [] 0 false false l = if x.1 ≤ l.length then (x.2.1 ++ (refG x.1 x.2.2.1 x.2.2.2.1 x.2.2.2.2.1 x.2.2.2.2.2 (l.drop x.1)).1, (refG x.1 x.2.2.1 x.2.2.2.1 x.2.2.2.2.1 x.2.2.2.2.2 (l.drop x.1)).2) else (x.2.1, none))
    (fun x => ⟨[(0, .c (.t fr (.v (.string (bs l))))), (5, .c (.row 1000 0 x.2.1.length)), (6, .c (.ptr 6 0 0)), (7, .c (.t true (.v (.bool x.2.2.2.2.1)))), (8, .c (.t true (.v (.bool x.2.2.2.2.2)))), (9, .c (.t true (.v (.int .i64 x.1))))],
      [(6, .bx 47 [.row 2000 0 x.2.2.1.length, .t true (.v (.int .i64 x.2.2.2.1))]), (2000, .tr true 44 2 (x.2.2.1.map wT)), (1000, .tr true 47 2 (x.2.1.map lT))]⟩)
    (fun x => l.length + 1 - x.1) (0, [], [], 0, false, false) (by simp) (fun _ _ h => h) fun x hx => ?_)
  obtain ⟨i, outs, ws, at', rem, op⟩ := x
  obtain ⟨h1, h2, h3, h4, h5, h6⟩ := hx
  simp only at h1 h2 h3 h4 h5 h6
  have hlo : outs.length = (outs.map lT).length := (List.length_map ..).symm
  have hlw : ws.length = (ws.map wT).length := (List.length_map ..).symm
  refine AWI.seq (AWI.seq ?_)
  (refine AWI.region (AR.go fun K hK => ?_); simp (disch := first | assumption | omega | (simp only [List.length_cons, List.length_nil, List.length_map, List.length_append, List.length_take, List.length_drop] <;> omega)) only [R0, R1, R2, R3, R4, R5, R6, R7, R8, M0, envOf_nil, envOf_cons, ↓reduceIte, reduceCtorEq, Nat.reduceEqDiff, Int.reduceEq, Int.reduceLT, Int.reduceLE, Nat.reduceAdd, Nat.reduceSub, Nat.reduceBEq, Nat.reduceLT]; (refine hK _ _ (AR.keep2 [0, 5, 6, 7, 8, 9, 18] [6, 2000, 1000] ?_); clear hK K; try simp only [keep2_mk, pickR_nil, pickR_cons, pickB_some, List.map_cons, List.map_nil, lk_nil, lk_cons, lkB_t, lkB_f, Nat.reduceBEq, Option.getD_some, Option.getD_none]))
  refine AWI.cond rfl (fun hc2 => AWI.skip (AWI.seq (AWI.block (AWI.seq ?_)))) fun hc2 => AWI.exit (AWI.seq ?_)
  · have hi : i ≤ l.length := of_decide_eq_true hc2
    rw [if_pos hi] at h6
    refine AWI.seq (AWI.post ⟨[(0, .c (.t fr (.v (.string (bs l))))), (5, .c (.row 1000 0 outs.length)), (6, .c (.ptr 6 0 0)), (7, .c (.t true (.v (.bool rem)))), (8, .c (.t true (.v (.bool op)))), (9, .c (.t true (.v (.int .i64 i)))), (30, .c (.t true (.v (.bool (decide (i = l.length) || decide (l.getD i 0 = 10))))))],
        [(6, .bx 47 [.row 2000 0 ws.length, .t true (.v (.int .i64 at'))]), (2000, .tr true 44 2 (ws.map wT)), (1000, .tr true 47 2 (outs.map lT))]⟩ (fun Q' q => ?_) ?_)
    · by_cases e : i = l.length
      · have e2 := decide_eq_true e
        rw [e2] at q
        refine AWI.region (AR.go fun K hK => ?_)
        simp (disch := first | assumption | omega | (simp only [List.length_cons, List.length_nil, List.length_map, List.length_append, List.length_take, List.length_drop] <;> omega)) only [R0, R1, R2, R3, R4, R5, R6, R7, R8, M0, envOf_nil, envOf_cons, ↓reduceIte, reduceCtorEq, Nat.reduceEqDiff, Int.reduceEq, Int.reduceLT, Int.reduceLE, Nat.reduceAdd, Nat.reduceSub, Nat.reduceBEq, Nat.reduceLT, e2]
        (refine hK _ _ (AR.keep2 [0, 5, 6, 7, 8, 9, 30] [6, 2000, 1000] ?_); clear hK K; try simp only [keep2_mk, pickR_nil, pickR_cons, pickB_some, List.map_cons, List.map_nil, lk_nil, lk_cons, lkB_t, lkB_f, Nat.reduceBEq, Option.getD_some, Option.getD_none])
        exact q
      · have e2 := decide_eq_false e
        rw [e2] at q
        have hlt : i < l.length := by omega
        refine AWI.region (AR.go fun K hK => ?_)
        simp (disch := first | assumption | omega | (simp only [List.length_cons, List.length_nil, List.length_map, List.length_append, List.length_take, List.length_drop] <;> omega)) only [R0, R1, R2, R3, R4, R5, R6, R7, R8, M0, envOf_nil, envOf_cons, ↓reduceIte, reduceCtorEq, Nat.reduceEqDiff, Int.reduceEq, Int.reduceLT, Int.reduceLE, Nat.reduceAdd, Nat.reduceSub, Nat.reduceBEq, Nat.reduceLT, e2, show decide (((l.getD i 0).toNat : Int) = 10) = decide (l.getD i 0 = 10) from byte_dec _ 10]
        (refine hK _ _ (AR.keep2 [0, 5, 6, 7, 8, 9, 30] [6, 2000, 1000] ?_); clear hK K; try simp only [keep2_mk, pickR_nil, pickR_cons, pickB_some, List.map_cons, List.map_nil, lk_nil, lk_cons, lkB_t, lkB_f, Nat.reduceBEq, Option.getD_some, Option.getD_none])
        exact q
    refine AWI.cond rfl (fun hb => AWI.seq (AWI.seq ?_)) fun hb => AWI.skip (AWI.seq ?_)
    · -- a line ends
      have hq : ∃ q : List PLine × Option Nat, (refG i ws at' rem op (l.drop i)) = (lineOf ws at' ++ q.1, q.2) ∧ (i + 1 ≤ l.length → q = refG (i + 1) [] ((i + 1 : Nat) : Int) false false (l.drop (i + 1))) ∧ (¬ i + 1 ≤ l.length → q = ([], none)) := by
        by_cases e : i = l.length
        · refine ⟨([], none), ?_, fun h => by omega, fun _ => rfl⟩
          rw [List.drop_eq_nil_of_le (by omega), refG]; simp
        · have hc : l.getD i 0 = 10 := by simpa [e] using hb
          have hlt : i < l.length := by omega
          refine ⟨_, ?_, fun _ => rfl, fun h => by omega⟩
          have hd : l.drop i = 10 :: l.drop (i + 1) := by
            rw [List.drop_eq_getElem_cons hlt, ← hc, List.getD_eq_getElem?_getD, List.getElem?_eq_getElem hlt]; rfl
          rw [hd, refG, if_pos rfl]
      obtain ⟨q, hq1, hq2, hq3⟩ := hq
      (refine AWI.region (AR.go fun K hK => ?_); simp (disch := first | assumption | omega | (simp only [List.length_cons, List.length_nil, List.length_map, List.length_append, List.length_take, List.length_drop] <;> omega)) only [R0, R1, R2, R3, R4, R5, R6, R7, R8, M0, envOf_nil, envOf_cons, ↓reduceIte, reduceCtorEq, Nat.reduceEqDiff, Int.reduceEq, Int.reduceLT, Int.reduceLE, Nat.reduceAdd, Nat.reduceSub, Nat.reduceBEq, Nat.reduceLT]; (refine hK _ _ (AR.keep2 [0, 5, 6, 9, 34] [6, 2000, 1000] ?_); clear hK K; try simp only [keep2_mk, pickR_nil, pickR_cons, pickB_some, List.map_cons, List.map_nil, lk_nil, lk_cons, lkB_t, lkB_f, Nat.reduceBEq, Option.getD_some, Option.getD_none]))
      refine AWI.post ⟨[(0, .c (.t fr (.v (.string (bs l))))), (5, .c (.row 1000 0 (outs ++ lineOf ws at').length)), (6, .c (.ptr 6 0 0)), (9, .c (.t true (.v (.int .i64 i))))],
          [(6, .bx 47 [.t true (.sl 2 (ws.map wT)), .t true (.v (.int .i64 at'))]), (1000, .tr true 47 2 ((outs ++ lineOf ws at').map lT))]⟩ (fun Q' q => ?_) ?_
      · refine AWI.cond rfl (fun hw => ?_) fun hw => ?_
        · have hne : ws ≠ [] := by
            have := of_decide_eq_true hw
            intro e; subst e; simp at this
          rw [show lineOf ws at' = [(ws, at')] from if_neg hne] at q
          refine AWI.region (AR.go fun K hK => ?_)
          simp (disch := first | assumption | omega | (simp only [List.length_cons, List.length_nil, List.length_map, List.length_append, List.length_take, List.length_drop] <;> omega)) only [R0, R1, R2, R3, R4, R5, R6, R7, R8, M0, envOf_nil, envOf_cons, ↓reduceIte, reduceCtorEq, Nat.reduceEqDiff, Int.reduceEq, Int.reduceLT, Int.reduceLE, Nat.reduceAdd, Nat.reduceSub, Nat.reduceBEq, Nat.reduceLT]
          (refine hK _ _ (AR.frz hX 2000 ?_); clear hK K; simp (disch := first | assumption | omega | (simp only [List.length_cons, List.length_nil, List.length_map, List.length_append, List.length_take, List.length_drop] <;> omega)) only [R0, R1, R2, R3, R4, R5, R6, R7, R8, M0, envOf_nil, envOf_cons, ↓reduceIte, reduceCtorEq, Nat.reduceEqDiff, Int.reduceEq, Int.reduceLT, Int.reduceLE, Nat.reduceAdd, Nat.reduceSub, Nat.reduceBEq, Nat.reduceLT]; refine AR.go fun K hK => ?_; simp (disch := first | assumption | omega | (simp only [List.length_cons, List.length_nil, List.length_map, List.length_append, List.length_take, List.length_drop] <;> omega)) only [R0, R1, R2, R3, R4, R5, R6, R7, R8, M0, envOf_nil, envOf_cons, ↓reduceIte, reduceCtorEq, Nat.reduceEqDiff, Int.reduceEq, Int.reduceLT, Int.reduceLE, Nat.reduceAdd, Nat.reduceSub, Nat.reduceBEq, Nat.reduceLT])
          rw [show outs.map lT ++ [[T.sl 2 (ws.map wT), T.v (.int .i64 at')]] = (outs ++ [(ws, at')]).map lT by rw [List.map_append]; rfl]
          (refine hK _ _ (AR.keep2 [0, 5, 6, 9] [6, 1000] ?_); clear hK K; try simp only [keep2_mk, pickR_nil, pickR_cons, pickB_some, List.map_cons, List.map_nil, lk_nil, lk_cons, lkB_t, lkB_f, Nat.reduceBEq, Option.getD_some, Option.getD_none])
          simpa using q
        · have he : ws = [] := by
            have := of_decide_eq_false hw
            cases ws with
            | nil => rfl
            | cons a b => simp at this
          rw [show lineOf ws at' = [] from if_pos he, List.append_nil] at q
          refine AWI.frz hX 2000 ?_
          simp (disch := first | assumption | omega | (simp only [List.length_cons, List.length_nil, List.length_map, List.length_append, List.length_take, List.length_drop] <;> omega)) only [R0, R1, R2, R3, R4, R5, R6, R7, R8, M0, envOf_nil, envOf_cons, ↓reduceIte, reduceCtorEq, Nat.reduceEqDiff, Int.reduceEq, Int.reduceLT, Int.reduceLE, Nat.reduceAdd, Nat.reduceSub, Nat.reduceBEq, Nat.reduceLT]
          exact AWI.keep2 [0, 5, 6, 9] [6, 1000] (AWI.skip q)
      refine AWI.seq ?_
      refine AWI.region (AR.go fun K hK => ?_)
      simp (disch := first | assumption | omega | (simp only [List.length_cons, List.length_nil, List.length_map, List.length_append, List.length_take, List.length_drop] <;> omega)) only [R0, R1, R2, R3, R4, R5, R6, R7, R8, M0, envOf_nil, envOf_cons, ↓reduceIte, reduceCtorEq, Nat.reduceEqDiff, Int.reduceEq, Int.reduceLT, Int.reduceLE, Nat.reduceAdd, Nat.reduceSub, Nat.reduceBEq, Nat.reduceLT]
      (refine hK _ _ (AR.nilCell 6 0 2000 44 2 (by decide) ?_); clear hK K; simp (disch := first | assumption | omega | (simp only [List.length_cons, List.length_nil, List.length_map, List.length_append, List.length_take, List.length_drop] <;> omega)) only [R0, R1, R2, R3, R4, R5, R6, R7, R8, M0, envOf_nil, envOf_cons, ↓reduceIte, reduceCtorEq, Nat.reduceEqDiff, Int.reduceEq, Int.reduceLT, Int.reduceLE, Nat.reduceAdd, Nat.reduceSub, Nat.reduceBEq, Nat.reduceLT]; refine AR.go fun K hK => ?_; simp (disch := first | assumption | omega | (simp only [List.length_cons, List.length_nil, List.length_map, List.length_append, List.length_take, List.length_drop] <;> omega)) only [R0, R1, R2, R3, R4, R5, R6, R7, R8, M0, envOf_nil, envOf_cons, ↓reduceIte, reduceCtorEq, Nat.reduceEqDiff, Int.reduceEq, Int.reduceLT, Int.reduceLE, Nat.reduceAdd, Nat.reduceSub, Nat.reduceBEq, Nat.reduceLT])
      (refine hK _ _ (AR.keep2 [0, 5, 6, 9] [6, 2000, 1000] ?_); clear hK K; try simp only [keep2_mk, pickR_nil, pickR_cons, pickB_some, List.map_cons, List.map_nil, lk_nil, lk_cons, lkB_t, lkB_f, Nat.reduceBEq, Option.getD_some, Option.getD_none])
      refine AWI.seq ?_
      (refine AWI.region (AR.go fun K hK => ?_); simp (disch := first | assumption | omega | (simp only [List.length_cons, List.length_nil, List.length_map, List.length_append, List.length_take, List.length_drop] <;> omega)) only [R0, R1, R2, R3, R4, R5, R6, R7, R8, M0, envOf_nil, envOf_cons, ↓reduceIte, reduceCtorEq, Nat.reduceEqDiff, Int.reduceEq, Int.reduceLT, Int.reduceLE, Nat.reduceAdd, Nat.reduceSub, Nat.reduceBEq, Nat.reduceLT]; (refine hK _ _ (AR.keep2 [0, 5, 6, 7, 9] [6, 2000, 1000] ?_); clear hK K; try simp only [keep2_mk, pickR_nil, pickR_cons, pickB_some, List.map_cons, List.map_nil, lk_nil, lk_cons, lkB_t, lkB_f, Nat.reduceBEq, Option.getD_some, Option.getD_none]))
      refine AWI.seq ?_
      (refine AWI.region (AR.go fun K hK => ?_); simp (disch := first | assumption | omega | (simp only [List.length_cons, List.length_nil, List.length_map, List.length_append, List.length_take, List.length_drop] <;> omega)) only [R0, R1, R2, R3, R4, R5, R6, R7, R8, M0, envOf_nil, envOf_cons, ↓reduceIte, reduceCtorEq, Nat.reduceEqDiff, Int.reduceEq, Int.reduceLT, Int.reduceLE, Nat.reduceAdd, Nat.reduceSub, Nat.reduceBEq, Nat.reduceLT]; (refine hK _ _ (AR.keep2 [0, 5, 6, 7, 8, 9] [6, 2000, 1000] ?_); clear hK K; try simp only [keep2_mk, pickR_nil, pickR_cons, pickB_some, List.map_cons, List.map_nil, lk_nil, lk_cons, lkB_t, lkB_f, Nat.reduceBEq, Option.getD_some, Option.getD_none]))
      refine AWI.exit ?_
      (refine AWI.region (AR.go fun K hK => ?_); simp (disch := first | assumption | omega | (simp only [List.length_cons, List.length_nil, List.length_map, List.length_append, List.length_take, List.length_drop] <;> omega)) only [R0, R1, R2, R3, R4, R5, R6, R7, R8, M0, envOf_nil, envOf_cons, ↓reduceIte, reduceCtorEq, Nat.reduceEqDiff, Int.reduceEq, Int.reduceLT, Int.reduceLE, Nat.reduceAdd, Nat.reduceSub, Nat.reduceBEq, Nat.reduceLT]; (refine hK _ _ (AR.keep2 [0, 5, 6, 7, 8, 9] [6, 2000, 1000] ?_); clear hK K; try simp only [keep2_mk, pickR_nil, pickR_cons, pickB_some, List.map_cons, List.map_nil, lk_nil, lk_cons, lkB_t, lkB_f, Nat.reduceBEq, Option.getD_some, Option.getD_none]))
      refine ⟨(i + 1, outs ++ lineOf ws at', [], ((i + 1 : Nat) : Int), false, false), ⟨by simp only; omega, ?_, Nat.zero_le _, by simp, by simp, ?_⟩, by simp only; omega, fun a w h => by rw [List.length_append]; exact h⟩
      · simp only [List.length_append]
        have : (lineOf ws at').length ≤ 1 := by unfold lineOf; split <;> simp
        omega
      · simp only
        rw [h6, hq1]
        by_cases e : i + 1 ≤ l.length
        · rw [if_pos e, ← hq2 e, List.append_assoc]
        · rw [if_neg e, hq3 e]; simp
    · -- a byte of a line
      have hb' : i ≠ l.length ∧ l.getD i 0 ≠ 10 := by simpa using hb
      obtain ⟨hne, hc10⟩ := hb'
      have hlt : i < l.length := by omega
      obtain ⟨c, hc⟩ : ∃ c, c = l.getD i 0 := ⟨_, rfl⟩
      rw [← hc] at hc10
      have hd : l.drop i = c :: l.drop (i + 1) := by
        rw [List.drop_eq_getElem_cons hlt, hc, List.getD_eq_getElem?_getD, List.getElem?_eq_getElem hlt]; rfl
      rw [hd, refG, if_neg hc10] at h6
      have htk : List.take (i + 1 - i) (List.drop i l) = [c] := by rw [hd, Nat.add_sub_cancel_left]; rfl
      have d35 : decide ((c.toNat : Int) = 35) = decide (c = 35) := byte_dec c 35
      have d32 : decide ((c.toNat : Int) = 32) = decide (c = 32) := byte_dec c 32
      have d9 : decide ((c.toNat : Int) = 9) = decide (c = 9) := byte_dec c 9
      refine AWI.region (AR.go fun K hK => ?_)
      simp (disch := first | assumption | omega | (simp only [List.length_cons, List.length_nil, List.length_map, List.length_append, List.length_take, List.length_drop] <;> omega)) only [R0, R1, R2, R3, R4, R5, R6, R7, R8, M0, envOf_nil, envOf_cons, ↓reduceIte, reduceCtorEq, Nat.reduceEqDiff, Int.reduceEq, Int.reduceLT, Int.reduceLE, Nat.reduceAdd, Nat.reduceSub, Nat.reduceBEq, Nat.reduceLT, ← hc]
      (refine hK _ _ (AR.keep2 [0, 5, 6, 7, 8, 9, 10] [6, 2000, 1000] ?_); clear hK K; try simp only [keep2_mk, pickR_nil, pickR_cons, pickB_some, List.map_cons, List.map_nil, lk_nil, lk_cons, lkB_t, lkB_f, Nat.reduceBEq, Option.getD_some, Option.getD_none])
      refine AWI.seq (AWI.post ⟨[(0, .c (.t fr (.v (.string (bs l))))), (5, .c (.row 1000 0 outs.length)), (6, .c (.ptr 6 0 0)), (7, .c (.t true (.v (.bool (rem || decide (c = 35)))))), (8, .c (.t true (.v (.bool op)))), (9, .c (.t true (.v (.int .i64 i)))), (10, .c (.t true (.v (.int .u8 c.toNat))))],
          [(6, .bx 47 [.row 2000 0 ws.length, .t true (.v (.int .i64 at'))]), (2000, .tr true 44 2 (ws.map wT)), (1000, .tr true 47 2 (outs.map lT))]⟩ (fun Q' q => ?_) ?_)
      · cases rem with
        | true =>
          refine AWI.region (AR.go fun K hK => ?_)
          simp (disch := first | assumption | omega | (simp only [List.length_cons, List.length_nil, List.length_map, List.length_append, List.length_take, List.length_drop] <;> omega)) only [R0, R1, R2, R3, R4, R5, R6, R7, R8, M0, envOf_nil, envOf_cons, ↓reduceIte, reduceCtorEq, Nat.reduceEqDiff, Int.reduceEq, Int.reduceLT, Int.reduceLE, Nat.reduceAdd, Nat.reduceSub, Nat.reduceBEq, Nat.reduceLT]
          refine hK _ _ (AR.keep2 [0, 5, 6, 7, 8, 9, 10] [6, 2000, 1000] ?_)
          exact q
        | false =>
          refine AWI.region (AR.go fun K hK => ?_)
          simp (disch := first | assumption | omega | (simp only [List.length_cons, List.length_nil, List.length_map, List.length_append, List.length_take, List.length_drop] <;> omega)) only [R0, R1, R2, R3, R4, R5, R6, R7, R8, M0, envOf_nil, envOf_cons, ↓reduceIte, reduceCtorEq, Nat.reduceEqDiff, Int.reduceEq, Int.reduceLT, Int.reduceLE, Nat.reduceAdd, Nat.reduceSub, Nat.reduceBEq, Nat.reduceLT, d35]
          refine hK _ _ (AR.keep2 [0, 5, 6, 7, 8, 9, 10] [6, 2000, 1000] ?_)
          exact q
      obtain ⟨rm, hrm⟩ : ∃ rm, rm = (rem || decide (c = 35)) := ⟨_, rfl⟩
      rw [← hrm] at h6 ⊢
      refine AWI.block (AWI.seq (AWI.post ⟨[(0, .c (.t fr (.v (.string (bs l))))), (5, .c (.row 1000 0 outs.length)), (6, .c (.ptr 6 0 0)), (7, .c (.t true (.v (.bool rm)))), (8, .c (.t true (.v (.bool op)))), (9, .c (.t true (.v (.int .i64 i)))), (10, .c (.t true (.v (.int .u8 c.toNat)))), (62, .c (.t true (.v (.bool (rm || decide (c = 32) || decide (c = 9))))))],
          [(6, .bx 47 [.row 2000 0 ws.length, .t true (.v (.int .i64 at'))]), (2000, .tr true 44 2 (ws.map wT)), (1000, .tr true 47 2 (outs.map lT))]⟩ (fun Q' q => ?_) ?_))
      · cases rm with
        | true =>
          refine AWI.region (AR.go fun K hK => ?_)
          simp (disch := first | assumption | omega | (simp only [List.length_cons, List.length_nil, List.length_map, List.length_append, List.length_take, List.length_drop] <;> omega)) only [R0, R1, R2, R3, R4, R5, R6, R7, R8, M0, envOf_nil, envOf_cons, ↓reduceIte, reduceCtorEq, Nat.reduceEqDiff, Int.reduceEq, Int.reduceLT, Int.reduceLE, Nat.reduceAdd, Nat.reduceSub, Nat.reduceBEq, Nat.reduceLT]
          refine hK _ _ (AR.keep2 [0, 5, 6, 7, 8, 9, 10, 62] [6, 2000, 1000] ?_)
          exact q
        | false =>
          by_cases e : c = 32
          · rw [decide_eq_true e] at d32 q
            refine AWI.region (AR.go fun K hK => ?_)
            simp (disch := first | assumption | omega | (simp only [List.length_cons, List.length_nil, List.length_map, List.length_append, List.length_take, List.length_drop] <;> omega)) only [R0, R1, R2, R3, R4, R5, R6, R7, R8, M0, envOf_nil, envOf_cons, ↓reduceIte, reduceCtorEq, Nat.reduceEqDiff, Int.reduceEq, Int.reduceLT, Int.reduceLE, Nat.reduceAdd, Nat.reduceSub, Nat.reduceBEq, Nat.reduceLT, d32]
            refine hK _ _ (AR.keep2 [0, 5, 6, 7, 8, 9, 10, 62] [6, 2000, 1000] ?_)
            exact q
          · rw [decide_eq_false e] at d32 q
            refine AWI.region (AR.go fun K hK => ?_)
            simp (disch := first | assumption | omega | (simp only [List.length_cons, List.length_nil, List.length_map, List.length_append, List.length_take, List.length_drop] <;> omega)) only [R0, R1, R2, R3, R4, R5, R6, R7, R8, M0, envOf_nil, envOf_cons, ↓reduceIte, reduceCtorEq, Nat.reduceEqDiff, Int.reduceEq, Int.reduceLT, Int.reduceLE, Nat.reduceAdd, Nat.reduceSub, Nat.reduceBEq, Nat.reduceLT, d32, d9]
            refine hK _ _ (AR.keep2 [0, 5, 6, 7, 8, 9, 10, 62] [6, 2000, 1000] ?_)
            exact q
      have hfin : ∀ ws' rm' op', ws'.length ≤ i + 1 → (∀ w ∈ ws', w.1.length ≤ i + 1) → (op' = true → ws' ≠ []) → refG 0 [] 0 false false l = (outs ++ (refG (i + 1) ws' at' rm' op' (l.drop (i + 1))).1, (refG (i + 1) ws' at' rm' op' (l.drop (i + 1))).2) →
          (i + 1 ≤ l.length + 1 ∧ outs.length ≤ i + 1 ∧ ws'.length ≤ i + 1 ∧ (∀ w ∈ ws', w.1.length ≤ i + 1) ∧ (op' = true → ws' ≠ []) ∧
            refG 0 [] 0 false false l = if i + 1 ≤ l.length then (outs ++ (refG (i + 1) ws' at' rm' op' (l.drop (i + 1))).1, (refG (i + 1) ws' at' rm' op' (l.drop (i + 1))).2) else (outs, none)) := fun ws' rm' op' g1 g2 g3 g4 => ⟨by omega, by omega, g1, g2, g3, by rw [if_pos (by omega)]; exact g4⟩
      refine AWI.cond rfl (fun hb2 => ?_) fun hb2 => AWI.seq ?_
      · rw [if_pos hb2] at h6
        (refine AWI.region (AR.go fun K hK => ?_); simp (disch := first | assumption | omega | (simp only [List.length_cons, List.length_nil, List.length_map, List.length_append, List.length_take, List.length_drop] <;> omega)) only [R0, R1, R2, R3, R4, R5, R6, R7, R8, M0, envOf_nil, envOf_cons, ↓reduceIte, reduceCtorEq, Nat.reduceEqDiff, Int.reduceEq, Int.reduceLT, Int.reduceLE, Nat.reduceAdd, Nat.reduceSub, Nat.reduceBEq, Nat.reduceLT]; (refine hK _ _ (AR.keep2 [0, 5, 6, 7, 8, 9] [6, 2000, 1000] ?_); clear hK K; try simp only [keep2_mk, pickR_nil, pickR_cons, pickB_some, List.map_cons, List.map_nil, lk_nil, lk_cons, lkB_t, lkB_f, Nat.reduceBEq, Option.getD_some, Option.getD_none]))
        (refine AWI.region (AR.go fun K hK => ?_); simp (disch := first | assumption | omega | (simp only [List.length_cons, List.length_nil, List.length_map, List.length_append, List.length_take, List.length_drop] <;> omega)) only [R0, R1, R2, R3, R4, R5, R6, R7, R8, M0, envOf_nil, envOf_cons, ↓reduceIte, reduceCtorEq, Nat.reduceEqDiff, Int.reduceEq, Int.reduceLT, Int.reduceLE, Nat.reduceAdd, Nat.reduceSub, Nat.reduceBEq, Nat.reduceLT]; (refine hK _ _ (AR.keep2 [0, 5, 6, 7, 8, 9] [6, 2000, 1000] ?_); clear hK K; try simp only [keep2_mk, pickR_nil, pickR_cons, pickB_some, List.map_cons, List.map_nil, lk_nil, lk_cons, lkB_t, lkB_f, Nat.reduceBEq, Option.getD_some, Option.getD_none]))
        exact ⟨(i + 1, outs, ws, at', rm, false), hfin ws rm false (by omega) (fun w hw => by have := h4 w hw; omega) (by simp) h6, by simp only; omega, fun _ _ h => h⟩
      rw [if_neg (by rw [hb2]; simp)] at h6
      have hb3 : rm = false := by
        cases h : rm with
        | true => rw [h] at hb2; simp at hb2
        | false => rfl
      refine AWI.region (AR.go fun K hK => ?_)
      simp (disch := first | assumption | omega | (simp only [List.length_cons, List.length_nil, List.length_map, List.length_append, List.length_take, List.length_drop] <;> omega)) only [R0, R1, R2, R3, R4, R5, R6, R7, R8, M0, envOf_nil, envOf_cons, ↓reduceIte, reduceCtorEq, Nat.reduceEqDiff, Int.reduceEq, Int.reduceLT, Int.reduceLE, Nat.reduceAdd, Nat.reduceSub, Nat.reduceBEq, Nat.reduceLT]
      (refine hK _ _ ?_; refine AR.callE rfl (by first | exact .inl rfl | exact .inr ⟨_, _, rfl, rfl⟩) (by rw [hP]; exact rword) (by first | exact .inl rfl | exact .inr ⟨rfl, rfl⟩) ⟨_, rfl⟩ ?_; clear hK K; intro K hK)
      simp (disch := first | assumption | omega | (simp only [List.length_cons, List.length_nil, List.length_map, List.length_append, List.length_take, List.length_drop] <;> omega)) only [R0, R1, R2, R3, R4, R5, R6, R7, R8, M0, envOf_nil, envOf_cons, ↓reduceIte, reduceCtorEq, Nat.reduceEqDiff, Int.reduceEq, Int.reduceLT, Int.reduceLE, Nat.reduceAdd, Nat.reduceSub, Nat.reduceBEq, Nat.reduceLT]
      (refine hK _ _ (AR.keep2 [0, 5, 6, 7, 8, 9, 72] [6, 2000, 1000] ?_); clear hK K; try simp only [keep2_mk, pickR_nil, pickR_cons, pickB_some, List.map_cons, List.map_nil, lk_nil, lk_cons, lkB_t, lkB_f, Nat.reduceBEq, Option.getD_some, Option.getD_none])
      refine AWI.cond rfl (fun hb4 => AWI.seq ?_) fun hb4 => AWI.seq ?_
      · have hw : isW c = false := by
          unfold isW
          cases h : isWord c.toNat with
          | true => rw [h] at hb4; cases hb4
          | false => rfl
        rw [if_pos hw] at h6
        have hR : refR l = ([], i, 70) := by unfold refR; rw [if_neg (by omega), h6]
        rw [hR]
        refine AWI.region (AR.go fun K hK => ?_)
        simp (disch := first | assumption | omega | (simp only [List.length_cons, List.length_nil, List.length_map, List.length_append, List.length_take, List.length_drop] <;> omega)) only [R0, R1, R2, R3, R4, R5, R6, R7, R8, M0, envOf_nil, envOf_cons, ↓reduceIte, reduceCtorEq, Nat.reduceEqDiff, Int.reduceEq, Int.reduceLT, Int.reduceLE, Nat.reduceAdd, Nat.reduceSub, Nat.reduceBEq, Nat.reduceLT]
        (refine hK _ _ (AR.nilRow 2 1000 47 2 (by decide) ?_); clear hK K; simp (disch := first | assumption | omega | (simp only [List.length_cons, List.length_nil, List.length_map, List.length_append, List.length_take, List.length_drop] <;> omega)) only [R0, R1, R2, R3, R4, R5, R6, R7, R8, M0, envOf_nil, envOf_cons, ↓reduceIte, reduceCtorEq, Nat.reduceEqDiff, Int.reduceEq, Int.reduceLT, Int.reduceLE, Nat.reduceAdd, Nat.reduceSub, Nat.reduceBEq, Nat.reduceLT]; refine AR.go fun K hK => ?_; simp (disch := first | assumption | omega | (simp only [List.length_cons, List.length_nil, List.length_map, List.length_append, List.length_take, List.length_drop] <;> omega)) only [R0, R1, R2, R3, R4, R5, R6, R7, R8, M0, envOf_nil, envOf_cons, ↓reduceIte, reduceCtorEq, Nat.reduceEqDiff, Int.reduceEq, Int.reduceLT, Int.reduceLE, Nat.reduceAdd, Nat.reduceSub, Nat.reduceBEq, Nat.reduceLT])
        (refine hK _ _ (AR.keep2 [2, 3, 4] [1000] ?_); clear hK K; try simp only [keep2_mk, pickR_nil, pickR_cons, pickB_some, List.map_cons, List.map_nil, lk_nil, lk_cons, lkB_t, lkB_f, Nat.reduceBEq, Option.getD_some, Option.getD_none])
        exact AWI.ret ⟨.inl rfl, _, fun _ _ h => h.norm, rfl, rfl⟩
      have hw : ¬ isW c = false := by
        intro h
        unfold isW at h
        rw [h] at hb4
        cases hb4
      rw [if_neg hw] at h6
      (refine AWI.region (AR.go fun K hK => ?_); simp (disch := first | assumption | omega | (simp only [List.length_cons, List.length_nil, List.length_map, List.length_append, List.length_take, List.length_drop] <;> omega)) only [R0, R1, R2, R3, R4, R5, R6, R7, R8, M0, envOf_nil, envOf_cons, ↓reduceIte, reduceCtorEq, Nat.reduceEqDiff, Int.reduceEq, Int.reduceLT, Int.reduceLE, Nat.reduceAdd, Nat.reduceSub, Nat.reduceBEq, Nat.reduceLT]; (refine hK _ _ (AR.keep2 [0, 5, 6, 7, 8, 9, 77] [6, 2000, 1000] ?_); clear hK K; try simp only [keep2_mk, pickR_nil, pickR_cons, pickB_some, List.map_cons, List.map_nil, lk_nil, lk_cons, lkB_t, lkB_f, Nat.reduceBEq, Option.getD_some, Option.getD_none]))
      refine AWI.cond rfl (fun hop => ?_) fun hop => AWI.seq ?_
      · rw [if_pos hop] at h6
        have hne := h5 hop
        have hn : 1 ≤ ws.length := List.length_pos_iff.2 hne
        obtain ⟨x, hx⟩ : ∃ x, x = ws.getD (ws.length - 1) ([], 0) := ⟨_, rfl⟩
        have hxm : x ∈ ws := by rw [hx, List.getD_eq_getElem?_getD, List.getElem?_eq_getElem (by omega)]; exact List.getElem_mem _
        have hx4 := h4 x hxm
        have hgl : getE (ws.map wT) (ws.length - 1) = wT x := by rw [getE_map' wT ws _ (by omega), hx, List.getD_eq_getElem?_getD, List.getElem?_eq_getElem (by omega)]; rfl
        obtain ⟨w, p⟩ := x
        have hx4 : w.length ≤ i := hx4
        refine AWI.drawS (by rw [hP]; rfl) [(0, ⟨some 79, none, .fad 0 (.t 6)⟩, .cc), (1, ⟨some 80, none, .load false 1 (.t 79)⟩, .cc), (2, ⟨some 81, none, .fad 0 (.t 6)⟩, .cc), (3, ⟨some 82, none, .load false 1 (.t 81)⟩, .cc), (4, ⟨some 83, none, .len false (.t 82)⟩, .cc), (5, ⟨some 84, none, .bin .sub (.t 83) (.k (.int .i64 1))⟩, .cc), (6, ⟨some 85, none, .fad 0 (.t 6)⟩, .cc), (7, ⟨some 86, none, .load false 1 (.t 85)⟩, .cc), (8, ⟨some 87, none, .fad 0 (.t 6)⟩, .cc), (9, ⟨some 88, none, .load false 1 (.t 87)⟩, .cc), (10, ⟨some 89, none, .len false (.t 88)⟩, .cc), (11, ⟨some 90, none, .bin .sub (.t 89) (.k (.int .i64 1))⟩, .cc), (12, ⟨some 91, none, .iad 2 (.t 86) (.t 90)⟩, .cc), (13, ⟨some 92, none, .fad 0 (.t 91)⟩, .cc), (14, ⟨some 93, none, .load false 1 (.t 92)⟩, .cc), (15, ⟨some 94, none, .mv (.t 0)⟩, .mv), (16, ⟨some 95, none, .mv (.t 9)⟩, .mv), (17, ⟨some 96, none, .mv (.t 9)⟩, .mv), (18, ⟨some 97, none, .bin .add (.t 96) (.k (.int .i64 1))⟩, .cc), (19, ⟨some 98, none, .slcS (.t 94) (some (.t 95)) (some (.t 97))⟩, .cc), (20, ⟨some 99, none, .bin .add (.t 93) (.t 98)⟩, .cc), (21, ⟨some 100, none, .iad 2 (.t 80) (.t 84)⟩, .cc), (22, ⟨some 101, none, .fad 0 (.t 100)⟩, .cc)] [(23, ⟨none, none, .store 1 (.t 101) (.t 99)⟩, [])] (by kernel_rfl) (by kernel_rfl) (by kernel_rfl) rfl fun Γd hΓd K hK => ?_; have hP : Γd.P = _ := (congrArg Ctx.P hΓd).trans hP; try have hX : ∀ b, ¬ Γd.X b := by rw [hΓd]; exact hX
        simp (disch := first | assumption | omega | (simp only [List.length_cons, List.length_nil, List.length_map, List.length_append, List.length_take, List.length_drop] <;> omega)) only [R0, R1, R2, R3, R4, R5, R6, R7, R8, M0, envOf_nil, envOf_cons, ↓reduceIte, reduceCtorEq, Nat.reduceEqDiff, Int.reduceEq, Int.reduceLT, Int.reduceLE, Nat.reduceAdd, Nat.reduceSub, Nat.reduceBEq, Nat.reduceLT, hgl, wT, htk]
        subst hb3 hop
        have hset : (ws.map wT).set (ws.length - 1) [T.v (.string (bs (w ++ [c]))), T.v (.int .i64 p)] = (appLast ws c).map wT := by
          unfold appLast
          rw [← hx, List.map_set]; rfl
        rw [hset]
        (refine hK _ _ (AR.keep2 [0, 5, 6, 7, 8, 9] [6, 2000, 1000] ?_); clear hK K; try simp only [keep2_mk, pickR_nil, pickR_cons, pickB_some, List.map_cons, List.map_nil, lk_nil, lk_cons, lkB_t, lkB_f, Nat.reduceBEq, Option.getD_some, Option.getD_none])
        (refine AWI.region (AR.go fun K hK => ?_); simp (disch := first | assumption | omega | (simp only [List.length_cons, List.length_nil, List.length_map, List.length_append, List.length_take, List.length_drop] <;> omega)) only [R0, R1, R2, R3, R4, R5, R6, R7, R8, M0, envOf_nil, envOf_cons, ↓reduceIte, reduceCtorEq, Nat.reduceEqDiff, Int.reduceEq, Int.reduceLT, Int.reduceLE, Nat.reduceAdd, Nat.reduceSub, Nat.reduceBEq, Nat.reduceLT]; (refine hK _ _ (AR.keep2 [0, 5, 6, 7, 8, 9] [6, 2000, 1000] ?_); clear hK K; try simp only [keep2_mk, pickR_nil, pickR_cons, pickB_some, List.map_cons, List.map_nil, lk_nil, lk_cons, lkB_t, lkB_f, Nat.reduceBEq, Option.getD_some, Option.getD_none]))
        have hal : (appLast ws c).length = ws.length := by unfold appLast; rw [List.length_set]
        refine ⟨(i + 1, outs, appLast ws c, at', false, true), hfin (appLast ws c) false true (by omega) (fun y hy => ?_) (fun _ e => ?_) h6, by simp only; omega, fun a w h => by rw [hal]; exact h⟩
        · unfold appLast at hy
          rcases List.mem_or_eq_of_mem_set hy with h | h
          · have := h4 y h; omega
          · rw [h, ← hx]; simp only [List.length_append, List.length_cons, List.length_nil]; omega
        · have e' : appLast ws c = [] := e
          rw [e'] at hal; simp only [List.length_nil] at hal; omega
      · rw [if_neg (by rw [hop]; simp)] at h6
        subst hb3 hop
        refine AWI.drawS (by rw [hP]; rfl) [(0, ⟨some 50, none, .fad 0 (.t 6)⟩, .cc), (1, ⟨some 51, none, .load false 1 (.t 50)⟩, .cc), (2, ⟨some 52, none, .mv (.t 0)⟩, .mv), (3, ⟨some 53, none, .mv (.t 9)⟩, .mv), (4, ⟨some 54, none, .mv (.t 9)⟩, .mv), (5, ⟨some 55, none, .bin .add (.t 54) (.k (.int .i64 1))⟩, .cc), (6, ⟨some 56, none, .slcS (.t 52) (some (.t 53)) (some (.t 55))⟩, .cc), (7, ⟨some 57, none, .mv (.t 9)⟩, .mv), (8, ⟨some 58, none, .build [(.string ⟨#[]⟩), (.int .i64 0)] [(0, 1, (.t 56)), (1, 1, (.t 57))]⟩, .cc)] [(9, ⟨some 59, none, .bslice 44 2 1 [(.string ⟨#[]⟩), (.int .i64 0)] [(0, (.t 58))]⟩, [0, 1]), (10, ⟨some 60, none, .app 44 2 24 [(.string ⟨#[]⟩), (.int .i64 0)] (.t 51) (.t 59)⟩, []), (11, ⟨some 61, none, .fad 0 (.t 6)⟩, []), (12, ⟨none, none, .store 1 (.t 61) (.t 60)⟩, [])] (by kernel_rfl) (by kernel_rfl) (by kernel_rfl) rfl fun Γd hΓd K hK => ?_; have hP : Γd.P = _ := (congrArg Ctx.P hΓd).trans hP; try have hX : ∀ b, ¬ Γd.X b := by rw [hΓd]; exact hX
        simp (disch := first | assumption | omega | (simp only [List.length_cons, List.length_nil, List.length_map, List.length_append, List.length_take, List.length_drop] <;> omega)) only [R0, R1, R2, R3, R4, R5, R6, R7, R8, M0, envOf_nil, envOf_cons, ↓reduceIte, reduceCtorEq, Nat.reduceEqDiff, Int.reduceEq, Int.reduceLT, Int.reduceLE, Nat.reduceAdd, Nat.reduceSub, Nat.reduceBEq, Nat.reduceLT, htk]
        (refine hK _ _ (AR.keep2 [0, 5, 6, 7, 9] [6, 2000, 1000] ?_); clear hK K; try simp only [keep2_mk, pickR_nil, pickR_cons, pickB_some, List.map_cons, List.map_nil, lk_nil, lk_cons, lkB_t, lkB_f, Nat.reduceBEq, Option.getD_some, Option.getD_none])
        (refine AWI.region (AR.go fun K hK => ?_); simp (disch := first | assumption | omega | (simp only [List.length_cons, List.length_nil, List.length_map, List.length_append, List.length_take, List.length_drop] <;> omega)) only [R0, R1, R2, R3, R4, R5, R6, R7, R8, M0, envOf_nil, envOf_cons, ↓reduceIte, reduceCtorEq, Nat.reduceEqDiff, Int.reduceEq, Int.reduceLT, Int.reduceLE, Nat.reduceAdd, Nat.reduceSub, Nat.reduceBEq, Nat.reduceLT]; (refine hK _ _ (AR.keep2 [0, 5, 6, 7, 8, 9] [6, 2000, 1000] ?_); clear hK K; try simp only [keep2_mk, pickR_nil, pickR_cons, pickB_some, List.map_cons, List.map_nil, lk_nil, lk_cons, lkB_t, lkB_f, Nat.reduceBEq, Option.getD_some, Option.getD_none]))
        (refine AWI.region (AR.go fun K hK => ?_); simp (disch := first | assumption | omega | (simp only [List.length_cons, List.length_nil, List.length_map, List.length_append, List.length_take, List.length_drop] <;> omega)) only [R0, R1, R2, R3, R4, R5, R6, R7, R8, M0, envOf_nil, envOf_cons, ↓reduceIte, reduceCtorEq, Nat.reduceEqDiff, Int.reduceEq, Int.reduceLT, Int.reduceLE, Nat.reduceAdd, Nat.reduceSub, Nat.reduceBEq, Nat.reduceLT]; (refine hK _ _ (AR.keep2 [0, 5, 6, 7, 8, 9] [6, 2000, 1000] ?_); clear hK K; try simp only [keep2_mk, pickR_nil, pickR_cons, pickB_some, List.map_cons, List.map_nil, lk_nil, lk_cons, lkB_t, lkB_f, Nat.reduceBEq, Option.getD_some, Option.getD_none]))
        refine ⟨(i + 1, outs, ws ++ [([c], (i : Int))], at', false, true), hfin (ws ++ [([c], (i : Int))]) false true (by simp only [List.length_append, List.length_cons, List.length_nil]; omega) (fun y hy => ?_) (fun _ e => by simp at e) h6, by simp only; omega, fun a w h => by simpa [wT] using h⟩
        rcases List.mem_append.1 hy with h | h
        · have := h4 y h; omega
        · simp at h; subst h; simp
  · have hi : ¬ i ≤ l.length := of_decide_eq_false hc2
    rw [if_neg hi] at h6
    have hR : refR l = (outs, 0, 0) := by unfold refR; rw [if_neg (by omega), h6]
    rw [hR]
    (refine AWI.region (AR.go fun K hK => ?_); simp (disch := first | assumption | omega | (simp only [List.length_cons, List.length_nil, List.length_map, List.length_append, List.length_take, List.length_drop] <;> omega)) only [R0, R1, R2, R3, R4, R5, R6, R7, R8, M0, envOf_nil, envOf_cons, ↓reduceIte, reduceCtorEq, Nat.reduceEqDiff, Int.reduceEq, Int.reduceLT, Int.reduceLE, Nat.reduceAdd, Nat.reduceSub, Nat.reduceBEq, Nat.reduceLT]; (refine hK _ _ (AR.keep2 [2, 3, 4] [1000] ?_); clear hK K; try simp only [keep2_mk, pickR_nil, pickR_cons, pickB_some, List.map_cons, List.map_nil, lk_nil, lk_cons, lkB_t, lkB_f, Nat.reduceBEq, Option.getD_some, Option.getD_none]))
    exact AWI.ret ⟨.inl rfl, _, fun _ _ h => h.norm, rfl, rfl⟩
end Go.Proofs.Ytnealepilmobjaa
