/- What the law's own functions over lines answer. -/
import Derived.Test.YtnealepilmobjaaIC
import Derived.Test.YtnealepilmobjaaFunA
set_option linter.unusedVariables false
set_option linter.unusedSimpArgs false
set_option maxRecDepth 100000
namespace Go.Proofs.Ytnealepilmobjaa
open Go.Eng
theorem take_succ_map {α β : Type} (f : α → β) (l : List α) (i : Nat) (h : i < l.length) : (l.take (i + 1)).map f = (l.take i).map f ++ [f l[i]] := by
  rw [List.take_add_one, List.getElem?_eq_getElem h, List.map_append]; rfl
theorem getE_map' {α : Type} (f : α → List T) (l : List α) (i : Nat) (h : i < l.length) : getE (l.map f) i = f l[i] := getE_map h
theorem ref {fr : Bool} {ls : List PLine} (hl : ls.length ≤ 100000) (hw : ∀ x ∈ ls, x.1.length ≤ 100000) : CtrE Try.prog 10 [.c (.t fr (.sl 2 (ls.map lT)))]
    (.c (.row 1000 0 ls.length)) [(1000, .tr true 47 2 (ls.map lT))] := by
  refine fn10 (Nat.le_of_ble_eq_true rfl) fun Γ hP hn hX hm => ?_; have hgf := hm.1; unfold i10
  refine AWI.seq ?_
  (refine AWI.region (AR.go fun K hK => ?_); simp (disch := first | assumption | omega | (simp only [List.length_cons, List.length_nil, List.length_map, List.length_append, List.length_take, List.length_drop] <;> omega)) only [R0, R1, R2, R3, R4, R5, R6, R7, R8, M0, envOf_nil, envOf_cons, ↓reduceIte, reduceCtorEq, Nat.reduceEqDiff, Int.reduceEq, Int.reduceLT, Int.reduceLE, Nat.reduceAdd, Nat.reduceSub, Nat.reduceBEq, Nat.reduceLT]; (refine hK _ _ (AR.keep2 [0] [] ?_); clear hK K; try simp only [keep2_mk, pickR_nil, pickR_cons, pickB_some, List.map_cons, List.map_nil, lk_nil, lk_cons, lkB_t, lkB_f, Nat.reduceBEq, Option.getD_some, Option.getD_none]))
  refine AWI.seq ?_
  refine AWI.region (AR.go fun K hK => ?_)
  simp (disch := first | assumption | omega | (simp only [List.length_cons, List.length_nil, List.length_map, List.length_append, List.length_take, List.length_drop] <;> omega)) only [R0, R1, R2, R3, R4, R5, R6, R7, R8, M0, envOf_nil, envOf_cons, ↓reduceIte, reduceCtorEq, Nat.reduceEqDiff, Int.reduceEq, Int.reduceLT, Int.reduceLE, Nat.reduceAdd, Nat.reduceSub, Nat.reduceBEq, Nat.reduceLT]
  (refine hK _ _ (AR.nilRow 3 1000 47 2 (by decide) ?_); clear hK K; simp (disch := first | assumption | omega | (simp only [List.length_cons, List.length_nil, List.length_map, List.length_append, List.length_take, List.length_drop] <;> omega)) only [R0, R1, R2, R3, R4, R5, R6, R7, R8, M0, envOf_nil, envOf_cons, ↓reduceIte, reduceCtorEq, Nat.reduceEqDiff, Int.reduceEq, Int.reduceLT, Int.reduceLE, Nat.reduceAdd, Nat.reduceSub, Nat.reduceBEq, Nat.reduceLT]; refine AR.go fun K hK => ?_; simp (disch := first | assumption | omega | (simp only [List.length_cons, List.length_nil, List.length_map, List.length_append, List.length_take, List.length_drop] <;> omega)) only [R0, R1, R2, R3, R4, R5, R6, R7, R8, M0, envOf_nil, envOf_cons, ↓reduceIte, reduceCtorEq, Nat.reduceEqDiff, Int.reduceEq, Int.reduceLT, Int.reduceLE, Nat.reduceAdd, Nat.reduceSub, Nat.reduceBEq, Nat.reduceLT])
  (refine hK _ _ (AR.keep2 [0, 3] [1000] ?_); clear hK K; try simp only [keep2_mk, pickR_nil, pickR_cons, pickB_some, List.map_cons, List.map_nil, lk_nil, lk_cons, lkB_t, lkB_f, Nat.reduceBEq, Option.getD_some, Option.getD_none])
  refine AWI.seq (AWI.seq ?_)
  (refine AWI.region (AR.go fun K hK => ?_); simp (disch := first | assumption | omega | (simp only [List.length_cons, List.length_nil, List.length_map, List.length_append, List.length_take, List.length_drop] <;> omega)) only [R0, R1, R2, R3, R4, R5, R6, R7, R8, M0, envOf_nil, envOf_cons, ↓reduceIte, reduceCtorEq, Nat.reduceEqDiff, Int.reduceEq, Int.reduceLT, Int.reduceLE, Nat.reduceAdd, Nat.reduceSub, Nat.reduceBEq, Nat.reduceLT]; (refine hK _ _ (AR.keep2 [0, 3, 4] [1000] ?_); clear hK K; try simp only [keep2_mk, pickR_nil, pickR_cons, pickB_some, List.map_cons, List.map_nil, lk_nil, lk_cons, lkB_t, lkB_f, Nat.reduceBEq, Option.getD_some, Option.getD_none]))
  refine AWI.block (AWI.loop (α := Nat) (fun i => i ≤ ls.length)
    (fun i => ⟨[(0, .c (.t fr (.sl 2 (ls.map lT)))), (3, .c (.row 1000 0 i)), (4, .c (.t true (.v (.int .i64 i))))], [(1000, .tr true 47 2 ((ls.take i).map lT))]⟩)
    (fun i => ls.length - i) 0 (Nat.zero_le _) (fun _ _ h => h) fun i hi => ?_)
  refine AWI.seq (AWI.seq ?_)
  (refine AWI.region (AR.go fun K hK => ?_); simp (disch := first | assumption | omega | (simp only [List.length_cons, List.length_nil, List.length_map, List.length_append, List.length_take, List.length_drop] <;> omega)) only [R0, R1, R2, R3, R4, R5, R6, R7, R8, M0, envOf_nil, envOf_cons, ↓reduceIte, reduceCtorEq, Nat.reduceEqDiff, Int.reduceEq, Int.reduceLT, Int.reduceLE, Nat.reduceAdd, Nat.reduceSub, Nat.reduceBEq, Nat.reduceLT]; (refine hK _ _ (AR.keep2 [0, 3, 4, 10] [1000] ?_); clear hK K; try simp only [keep2_mk, pickR_nil, pickR_cons, pickB_some, List.map_cons, List.map_nil, lk_nil, lk_cons, lkB_t, lkB_f, Nat.reduceBEq, Option.getD_some, Option.getD_none]))
  refine AWI.cond rfl (fun hc => AWI.skip (AWI.seq (AWI.block (AWI.seq ?_)))) fun hc => AWI.exit (AWI.seq ?_)
  · have hc : i < ls.length := by simpa using of_decide_eq_true hc
    obtain ⟨x, hx⟩ : ∃ x, x = ls[i] := ⟨_, rfl⟩
    have hgi : getE (ls.map lT) i = lT x := by rw [getE_map' lT ls i hc, hx]
    have hxw : x.1.length ≤ 100000 := hw x (by rw [hx]; exact List.getElem_mem _)
    obtain ⟨ws, pos⟩ := x
    have hxw : ws.length ≤ 100000 := hxw
    refine AWI.region (AR.go fun K hK => ?_)
    simp (disch := first | assumption | omega | (simp only [List.length_cons, List.length_nil, List.length_map, List.length_append, List.length_take, List.length_drop] <;> omega)) only [R0, R1, R2, R3, R4, R5, R6, R7, R8, M0, envOf_nil, envOf_cons, ↓reduceIte, reduceCtorEq, Nat.reduceEqDiff, Int.reduceEq, Int.reduceLT, Int.reduceLE, Nat.reduceAdd, Nat.reduceSub, Nat.reduceBEq, Nat.reduceLT, hgi, lT]
    (refine hK _ _ (AR.nilCell 5 0 2000 44 2 (by decide) ?_); clear hK K; simp (disch := first | assumption | omega | (simp only [List.length_cons, List.length_nil, List.length_map, List.length_append, List.length_take, List.length_drop] <;> omega)) only [R0, R1, R2, R3, R4, R5, R6, R7, R8, M0, envOf_nil, envOf_cons, ↓reduceIte, reduceCtorEq, Nat.reduceEqDiff, Int.reduceEq, Int.reduceLT, Int.reduceLE, Nat.reduceAdd, Nat.reduceSub, Nat.reduceBEq, Nat.reduceLT]; refine AR.go fun K hK => ?_; simp (disch := first | assumption | omega | (simp only [List.length_cons, List.length_nil, List.length_map, List.length_append, List.length_take, List.length_drop] <;> omega)) only [R0, R1, R2, R3, R4, R5, R6, R7, R8, M0, envOf_nil, envOf_cons, ↓reduceIte, reduceCtorEq, Nat.reduceEqDiff, Int.reduceEq, Int.reduceLT, Int.reduceLE, Nat.reduceAdd, Nat.reduceSub, Nat.reduceBEq, Nat.reduceLT])
    (refine hK _ _ (AR.keep2 [0, 3, 4, 5] [5, 2000, 1000] ?_); clear hK K; try simp only [keep2_mk, pickR_nil, pickR_cons, pickB_some, List.map_cons, List.map_nil, lk_nil, lk_cons, lkB_t, lkB_f, Nat.reduceBEq, Option.getD_some, Option.getD_none])
    have hlx : ∀ k, (ws.take k).length = ((ws.take k).map wT).length := fun k => (List.length_map ..).symm
    refine AWI.seq (AWI.seq ?_)
    (refine AWI.region (AR.go fun K hK => ?_); simp (disch := first | assumption | omega | (simp only [List.length_cons, List.length_nil, List.length_map, List.length_append, List.length_take, List.length_drop] <;> omega)) only [R0, R1, R2, R3, R4, R5, R6, R7, R8, M0, envOf_nil, envOf_cons, ↓reduceIte, reduceCtorEq, Nat.reduceEqDiff, Int.reduceEq, Int.reduceLT, Int.reduceLE, Nat.reduceAdd, Nat.reduceSub, Nat.reduceBEq, Nat.reduceLT]; (refine hK _ _ (AR.keep2 [0, 3, 4, 5, 6] [5, 2000, 1000] ?_); clear hK K; try simp only [keep2_mk, pickR_nil, pickR_cons, pickB_some, List.map_cons, List.map_nil, lk_nil, lk_cons, lkB_t, lkB_f, Nat.reduceBEq, Option.getD_some, Option.getD_none]))
    refine AWI.block (AWI.loop (α := Nat) (fun k => k ≤ ws.length)
      (fun k => ⟨[(0, .c (.t fr (.sl 2 (ls.map lT)))), (3, .c (.row 1000 0 i)), (4, .c (.t true (.v (.int .i64 i)))), (5, .c (.ptr 5 0 0)), (6, .c (.t true (.v (.int .i64 k))))],
        [(5, .bx 47 [.row 2000 0 k, .t fr (.v (.int .i64 pos))]), (2000, .tr true 44 2 ((ws.take k).map wT)), (1000, .tr true 47 2 ((ls.take i).map lT))]⟩)
      (fun k => ws.length - k) 0 (Nat.zero_le _) (fun _ _ h => h) fun k hk => ?_)
    have hkl : k = ((ws.take k).map wT).length := by rw [List.length_map, List.length_take]; omega
    refine AWI.seq (AWI.seq ?_)
    (refine AWI.region (AR.go fun K hK => ?_); simp (disch := first | assumption | omega | (simp only [List.length_cons, List.length_nil, List.length_map, List.length_append, List.length_take, List.length_drop] <;> omega)) only [R0, R1, R2, R3, R4, R5, R6, R7, R8, M0, envOf_nil, envOf_cons, ↓reduceIte, reduceCtorEq, Nat.reduceEqDiff, Int.reduceEq, Int.reduceLT, Int.reduceLE, Nat.reduceAdd, Nat.reduceSub, Nat.reduceBEq, Nat.reduceLT, hgi, lT]; (refine hK _ _ (AR.keep2 [0, 3, 4, 5, 6, 26] [5, 2000, 1000] ?_); clear hK K; try simp only [keep2_mk, pickR_nil, pickR_cons, pickB_some, List.map_cons, List.map_nil, lk_nil, lk_cons, lkB_t, lkB_f, Nat.reduceBEq, Option.getD_some, Option.getD_none]))
    refine AWI.cond rfl (fun hc2 => AWI.skip (AWI.seq (AWI.block ?_))) fun hc2 => AWI.exit ?_
    · have hc2 : k < ws.length := by simpa using of_decide_eq_true hc2
      obtain ⟨y, hy⟩ : ∃ y, y = ws[k] := ⟨_, rfl⟩
      have hgk : getE (ws.map wT) k = wT y := by rw [getE_map' wT ws k hc2, hy]
      refine AWI.drawS (by rw [hP]; rfl) [(0, ⟨some 29, none, .fad 0 (.t 5)⟩, .cc), (1, ⟨some 30, none, .load false 1 (.t 29)⟩, .cc), (2, ⟨some 31, none, .mv (.t 0)⟩, .mv), (3, ⟨some 32, none, .mv (.t 4)⟩, .mv), (4, ⟨some 33, none, .iad 2 (.t 31) (.t 32)⟩, .cc), (5, ⟨some 34, none, .fad 0 (.t 33)⟩, .cc), (6, ⟨some 35, none, .load false 1 (.t 34)⟩, .cc), (7, ⟨some 36, none, .mv (.t 6)⟩, .mv), (8, ⟨some 37, none, .iad 2 (.t 35) (.t 36)⟩, .cc), (9, ⟨some 38, none, .fad 0 (.t 37)⟩, .cc), (10, ⟨some 39, none, .load false 1 (.t 38)⟩, .cc), (11, ⟨some 40, none, .mv (.t 0)⟩, .mv), (12, ⟨some 41, none, .mv (.t 4)⟩, .mv), (13, ⟨some 42, none, .iad 2 (.t 40) (.t 41)⟩, .cc), (14, ⟨some 43, none, .fad 0 (.t 42)⟩, .cc), (15, ⟨some 44, none, .load false 1 (.t 43)⟩, .cc), (16, ⟨some 45, none, .mv (.t 6)⟩, .mv), (17, ⟨some 46, none, .iad 2 (.t 44) (.t 45)⟩, .cc), (18, ⟨some 47, none, .fad 1 (.t 46)⟩, .cc), (19, ⟨some 48, none, .load false 1 (.t 47)⟩, .cc), (20, ⟨some 49, none, .build [(.string ⟨#[]⟩), (.int .i64 0)] [(0, 1, (.t 39)), (1, 1, (.t 48))]⟩, .cc)] [(21, ⟨some 50, none, .bslice 44 2 1 [(.string ⟨#[]⟩), (.int .i64 0)] [(0, (.t 49))]⟩, [0, 1]), (22, ⟨some 51, none, .app 44 2 24 [(.string ⟨#[]⟩), (.int .i64 0)] (.t 30) (.t 50)⟩, []), (23, ⟨some 52, none, .fad 0 (.t 5)⟩, []), (24, ⟨none, none, .store 1 (.t 52) (.t 51)⟩, [])] (by kernel_rfl) (by kernel_rfl) (by kernel_rfl) rfl fun Γd hΓd K hK => ?_; have hP : Γd.P = _ := (congrArg Ctx.P hΓd).trans hP; try have hX : ∀ b, ¬ Γd.X b := by rw [hΓd]; exact hX
      simp (disch := first | assumption | omega | (simp only [List.length_cons, List.length_nil, List.length_map, List.length_append, List.length_take, List.length_drop] <;> omega)) only [R0, R1, R2, R3, R4, R5, R6, R7, R8, M0, envOf_nil, envOf_cons, ↓reduceIte, reduceCtorEq, Nat.reduceEqDiff, Int.reduceEq, Int.reduceLT, Int.reduceLE, Nat.reduceAdd, Nat.reduceSub, Nat.reduceBEq, Nat.reduceLT, hgi, lT, hgk, wT]
      (refine hK _ _ (AR.keep2 [0, 3, 4, 5, 6] [5, 2000, 1000] ?_); clear hK K; try simp only [keep2_mk, pickR_nil, pickR_cons, pickB_some, List.map_cons, List.map_nil, lk_nil, lk_cons, lkB_t, lkB_f, Nat.reduceBEq, Option.getD_some, Option.getD_none])
      (refine AWI.region (AR.go fun K hK => ?_); simp (disch := first | assumption | omega | (simp only [List.length_cons, List.length_nil, List.length_map, List.length_append, List.length_take, List.length_drop] <;> omega)) only [R0, R1, R2, R3, R4, R5, R6, R7, R8, M0, envOf_nil, envOf_cons, ↓reduceIte, reduceCtorEq, Nat.reduceEqDiff, Int.reduceEq, Int.reduceLT, Int.reduceLE, Nat.reduceAdd, Nat.reduceSub, Nat.reduceBEq, Nat.reduceLT]; (refine hK _ _ (AR.keep2 [0, 3, 4, 5, 6] [5, 2000, 1000] ?_); clear hK K; try simp only [keep2_mk, pickR_nil, pickR_cons, pickB_some, List.map_cons, List.map_nil, lk_nil, lk_cons, lkB_t, lkB_f, Nat.reduceBEq, Option.getD_some, Option.getD_none]))
      refine ⟨k + 1, hc2, by omega, fun a w h => ?_⟩
      rw [take_succ_map wT ws k hc2, ← hy]
      exact h
    · have hc2 : ¬ k < ws.length := by simpa using of_decide_eq_false hc2
      have e : k = ws.length := by omega
      subst e
      have hil : i = ((ls.take i).map lT).length := by rw [List.length_map, List.length_take]; omega
      rw [List.take_length]
      refine AWI.region (AR.frz hX 2000 ?_)
      simp (disch := first | assumption | omega | (simp only [List.length_cons, List.length_nil, List.length_map, List.length_append, List.length_take, List.length_drop] <;> omega)) only [R0, R1, R2, R3, R4, R5, R6, R7, R8, M0, envOf_nil, envOf_cons, ↓reduceIte, reduceCtorEq, Nat.reduceEqDiff, Int.reduceEq, Int.reduceLT, Int.reduceLE, Nat.reduceAdd, Nat.reduceSub, Nat.reduceBEq, Nat.reduceLT]
      refine AR.go fun K hK => ?_
      simp (disch := first | assumption | omega | (simp only [List.length_cons, List.length_nil, List.length_map, List.length_append, List.length_take, List.length_drop] <;> omega)) only [R0, R1, R2, R3, R4, R5, R6, R7, R8, M0, envOf_nil, envOf_cons, ↓reduceIte, reduceCtorEq, Nat.reduceEqDiff, Int.reduceEq, Int.reduceLT, Int.reduceLE, Nat.reduceAdd, Nat.reduceSub, Nat.reduceBEq, Nat.reduceLT]
      (refine hK _ _ (AR.keep2 [0, 3, 4] [1000] ?_); clear hK K; try simp only [keep2_mk, pickR_nil, pickR_cons, pickB_some, List.map_cons, List.map_nil, lk_nil, lk_cons, lkB_t, lkB_f, Nat.reduceBEq, Option.getD_some, Option.getD_none])
      (refine AWI.region (AR.go fun K hK => ?_); simp (disch := first | assumption | omega | (simp only [List.length_cons, List.length_nil, List.length_map, List.length_append, List.length_take, List.length_drop] <;> omega)) only [R0, R1, R2, R3, R4, R5, R6, R7, R8, M0, envOf_nil, envOf_cons, ↓reduceIte, reduceCtorEq, Nat.reduceEqDiff, Int.reduceEq, Int.reduceLT, Int.reduceLE, Nat.reduceAdd, Nat.reduceSub, Nat.reduceBEq, Nat.reduceLT]; (refine hK _ _ (AR.keep2 [0, 3, 4] [1000] ?_); clear hK K; try simp only [keep2_mk, pickR_nil, pickR_cons, pickB_some, List.map_cons, List.map_nil, lk_nil, lk_cons, lkB_t, lkB_f, Nat.reduceBEq, Option.getD_some, Option.getD_none]))
      refine ⟨i + 1, hc, by omega, fun a w h => ?_⟩
      rw [take_succ_map lT ls i hc, ← hx]
      exact h
  · have hc : ¬ i < ls.length := by simpa using of_decide_eq_false hc
    have e : i = ls.length := by omega
    subst e
    rw [List.take_length]
    (refine AWI.region (AR.go fun K hK => ?_); simp (disch := first | assumption | omega | (simp only [List.length_cons, List.length_nil, List.length_map, List.length_append, List.length_take, List.length_drop] <;> omega)) only [R0, R1, R2, R3, R4, R5, R6, R7, R8, M0, envOf_nil, envOf_cons, ↓reduceIte, reduceCtorEq, Nat.reduceEqDiff, Int.reduceEq, Int.reduceLT, Int.reduceLE, Nat.reduceAdd, Nat.reduceSub, Nat.reduceBEq, Nat.reduceLT]; (refine hK _ _ (AR.keep2 [2] [1000] ?_); clear hK K; try simp only [keep2_mk, pickR_nil, pickR_cons, pickB_some, List.map_cons, List.map_nil, lk_nil, lk_cons, lkB_t, lkB_f, Nat.reduceBEq, Option.getD_some, Option.getD_none]))
    exact AWI.ret ⟨.inl rfl, _, fun _ _ h => h.norm, rfl, rfl⟩
end Go.Proofs.Ytnealepilmobjaa
