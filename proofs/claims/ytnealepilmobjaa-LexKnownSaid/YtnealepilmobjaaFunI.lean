/- What the program shows of lines. -/
import Derived.Test.YtnealepilmobjaaIC
import Derived.Test.YtnealepilmobjaaFunH
set_option linter.unusedVariables false
set_option linter.unusedSimpArgs false
set_option maxRecDepth 100000
namespace Go.Proofs.Ytnealepilmobjaa
open Go.Eng
def shS (fr : Bool) (ls : List PLine) : Option (Nat × List UInt8) → AS
  | none => ⟨[(3, .c (.ptr 1000003 0 0)), (8, .c (.t fr (.sl 2 (ls.map lT)))), (9, .c (.t true (.v (.int .i64 ls.length)))), (10, .c (.t true (.v (.int .i64 (0 : Nat)))))], [(1000003, .bx 56 [.t true (.v (.pointer none)), .t true (.v (.slice none 0 0))])]⟩
  | some (i, out) => ⟨[(3, .c (.ptr 1000003 0 0)), (8, .c (.t fr (.sl 2 (ls.map lT)))), (9, .c (.t true (.v (.int .i64 ls.length)))), (10, .c (.t true (.v (.int .i64 i))))], bldC bldUsed false out⟩
def shI (ls : List PLine) : Option (Nat × List UInt8) → Prop
  | none => True
  | some (i, out) => i ≤ ls.length ∧ out ≠ [] ∧ out ++ showL (ls.drop i) = showL ls
def shM (ls : List PLine) : Option (Nat × List UInt8) → Nat
  | none => ls.length + 1
  | some (i, _) => ls.length - i
def shB (fr : Bool) (ls : List PLine) (i : Nat) (c0 : C) (f2 : Bool) (out : List UInt8) : AS :=
  ⟨[(3, .c (.ptr 1000003 0 0)), (8, .c (.t fr (.sl 2 (ls.map lT)))), (9, .c (.t true (.v (.int .i64 ls.length)))), (10, .c (.t true (.v (.int .i64 i))))], bldC c0 f2 out⟩
theorem shS_round {Γ : Ctx} {fr : Bool} {ls : List PLine} (x : Option (Nat × List UInt8)) (hx : shI ls x) :
    (∃ i out c0 f2, bldOk c0 ∧ i < ls.length ∧ out ++ showL (ls.drop i) = showL ls ∧ ls.length - (i + 1) < shM ls x ∧ ∀ a w, Sat Γ (shS fr ls x) a w → Sat Γ (shB fr ls i c0 f2 out) a w) ∨
    (x = none ∧ ls = []) ∨ (x = some (ls.length, showL ls) ∧ showL ls ≠ []) := by
  cases x with
  | none =>
    by_cases h : 0 < ls.length
    · refine .inl ⟨0, [], _, true, .inl rfl, h, rfl, by simp only [shM]; omega, fun a w h => ?_⟩
      have h1 := h.nilCell 1000003 1 2003 5 1 (by decide)
      exact h1.keep2 [3, 8, 9, 10] [1000003, 2003]
    · exact .inr (.inl ⟨rfl, List.eq_nil_of_length_eq_zero (by omega)⟩)
  | some p =>
    obtain ⟨i, out⟩ := p
    obtain ⟨h1, h2, h3⟩ := hx
    by_cases h : i < ls.length
    · exact .inl ⟨i, out, _, false, .inr rfl, h, h3, by simp only [shM]; omega, fun a w h => h⟩
    · have e : i = ls.length := by omega
      subst e
      rw [List.drop_length, showL, List.append_nil] at h3
      subst h3
      exact .inr (.inr ⟨rfl, h2⟩)
theorem show_ {fr : Bool} {ls : List PLine} (hl : ls.length ≤ 100000) (hw : ∀ x ∈ ls, x.1.length ≤ 100000) (hs : (showL ls).length ≤ 1000000) :
    CtrE Try.prog 16 [.c (.t fr (.sl 2 (ls.map lT)))] (.c (.t true (.v (.string (bs (showL ls)))))) [] := by
  refine fn16 (Nat.le_of_ble_eq_true rfl) fun Γ hP hn hX hm => ?_; have hgf := hm.1; unfold i16
  refine AWI.seq ?_
  (refine AWI.region (AR.go fun K hK => ?_); simp (disch := first | assumption | omega | (simp only [List.length_cons, List.length_nil, List.length_map, List.length_append, List.length_take, List.length_drop] <;> omega)) only [R0, R1, R2, R3, R4, R5, R6, R7, R8, M0, envOf_nil, envOf_cons, ↓reduceIte, reduceCtorEq, Nat.reduceEqDiff, Int.reduceEq, Int.reduceLT, Int.reduceLE, Nat.reduceAdd, Nat.reduceSub, Nat.reduceBEq, Nat.reduceLT]; (refine hK _ _ (AR.keep2 [0] [] ?_); clear hK K; try simp only [keep2_mk, pickR_nil, pickR_cons, pickB_some, List.map_cons, List.map_nil, lk_nil, lk_cons, lkB_t, lkB_f, Nat.reduceBEq, Option.getD_some, Option.getD_none]))
  refine AWI.seq ?_
  refine AWI.region (AR.go fun K hK => ?_)
  simp (disch := first | assumption | omega | (simp only [List.length_cons, List.length_nil, List.length_map, List.length_append, List.length_take, List.length_drop] <;> omega)) only [R0, R1, R2, R3, R4, R5, R6, R7, R8, M0, envOf_nil, envOf_cons, ↓reduceIte, reduceCtorEq, Nat.reduceEqDiff, Int.reduceEq, Int.reduceLT, Int.reduceLE, Nat.reduceAdd, Nat.reduceSub, Nat.reduceBEq, Nat.reduceLT]
  (refine hK _ _ (AR.ren hm.2 3 1000003 (by decide) ?_); clear hK K; simp (disch := first | assumption | omega | (simp only [List.length_cons, List.length_nil, List.length_map, List.length_append, List.length_take, List.length_drop] <;> omega)) only [R0, R1, R2, R3, R4, R5, R6, R7, R8, M0, envOf_nil, envOf_cons, ↓reduceIte, reduceCtorEq, Nat.reduceEqDiff, Int.reduceEq, Int.reduceLT, Int.reduceLE, Nat.reduceAdd, Nat.reduceSub, Nat.reduceBEq, Nat.reduceLT]; refine AR.go fun K hK => ?_; simp (disch := first | assumption | omega | (simp only [List.length_cons, List.length_nil, List.length_map, List.length_append, List.length_take, List.length_drop] <;> omega)) only [R0, R1, R2, R3, R4, R5, R6, R7, R8, M0, envOf_nil, envOf_cons, ↓reduceIte, reduceCtorEq, Nat.reduceEqDiff, Int.reduceEq, Int.reduceLT, Int.reduceLE, Nat.reduceAdd, Nat.reduceSub, Nat.reduceBEq, Nat.reduceLT])
  (refine hK _ _ (AR.keep2 [0, 3] [1000003] ?_); clear hK K; try simp only [keep2_mk, pickR_nil, pickR_cons, pickB_some, List.map_cons, List.map_nil, lk_nil, lk_cons, lkB_t, lkB_f, Nat.reduceBEq, Option.getD_some, Option.getD_none])
  refine AWI.seq (AWI.seq ?_)
  (refine AWI.region (AR.go fun K hK => ?_); simp (disch := first | assumption | omega | (simp only [List.length_cons, List.length_nil, List.length_map, List.length_append, List.length_take, List.length_drop] <;> omega)) only [R0, R1, R2, R3, R4, R5, R6, R7, R8, M0, envOf_nil, envOf_cons, ↓reduceIte, reduceCtorEq, Nat.reduceEqDiff, Int.reduceEq, Int.reduceLT, Int.reduceLE, Nat.reduceAdd, Nat.reduceSub, Nat.reduceBEq, Nat.reduceLT]; (refine hK _ _ (AR.keep2 [3, 8, 9, 10] [1000003] ?_); clear hK K; try simp only [keep2_mk, pickR_nil, pickR_cons, pickB_some, List.map_cons, List.map_nil, lk_nil, lk_cons, lkB_t, lkB_f, Nat.reduceBEq, Option.getD_some, Option.getD_none]))
  refine AWI.block (AWI.loop (α := Option (Nat × List UInt8)) (shI ls) (shS fr ls) (shM ls) none trivial (fun _ _ h => h) fun x hx => ?_)
  rcases shS_round (Γ := Γ) (fr := fr) x hx with ⟨i, out, c0, f2, hc0, hlt, hi2, hμ, hsat⟩ | ⟨rfl, rfl⟩ | ⟨rfl, hne⟩
  · refine AWI.of hsat ?_
    unfold shB bldC
    have hk5 := hc0.kill 5 (by decide)
    have hk7 := hc0.kill 7 (by decide)
    obtain ⟨x, hxx⟩ : ∃ x, x = ls[i] := ⟨_, rfl⟩
    have hgi : getE (ls.map lT) i = lT x := by rw [getE_map' lT ls i hlt, hxx]
    have hxw : x.1.length ≤ 100000 := hw x (by rw [hxx]; exact List.getElem_mem _)
    obtain ⟨ws, pos⟩ := x
    have hxw : ws.length ≤ 100000 := hxw
    rw [drop_getE ls i hlt, ← hxx, showL] at hi2
    simp only at hi2
    have hlen := congrArg List.length hi2
    simp only [List.length_append, List.length_cons, List.length_nil] at hlen
    refine AWI.seq ?_
    (refine AWI.region (AR.go fun K hK => ?_); simp (disch := first | assumption | omega | (simp only [List.length_cons, List.length_nil, List.length_map, List.length_append, List.length_take, List.length_drop] <;> omega)) only [R0, R1, R2, R3, R4, R5, R6, R7, R8, M0, envOf_nil, envOf_cons, ↓reduceIte, reduceCtorEq, Nat.reduceEqDiff, Int.reduceEq, Int.reduceLT, Int.reduceLE, Nat.reduceAdd, Nat.reduceSub, Nat.reduceBEq, Nat.reduceLT]; (refine hK _ _ (AR.keep2 [3, 8, 9, 10, 11] [1000003, 2003] ?_); clear hK K; try simp only [keep2_mk, pickR_nil, pickR_cons, pickB_some, List.map_cons, List.map_nil, lk_nil, lk_cons, lkB_t, lkB_f, Nat.reduceBEq, Option.getD_some, Option.getD_none]))
    rw [show decide (i < ls.length) = true from decide_eq_true hlt]
    refine AWI.seq (AWI.cond (b := true) rfl (fun _ => AWI.skip ?_) fun h => by cases h)
    refine AWI.seq (AWI.block (AWI.seq ?_))
    refine AWI.region (AR.go fun K hK => ?_)
    simp (disch := first | assumption | omega | (simp only [List.length_cons, List.length_nil, List.length_map, List.length_append, List.length_take, List.length_drop] <;> omega)) only [R0, R1, R2, R3, R4, R5, R6, R7, R8, M0, envOf_nil, envOf_cons, ↓reduceIte, reduceCtorEq, Nat.reduceEqDiff, Int.reduceEq, Int.reduceLT, Int.reduceLE, Nat.reduceAdd, Nat.reduceSub, Nat.reduceBEq, Nat.reduceLT, hgi, lT, hk5]
    (refine hK _ _ (AR.keep2 [3, 5, 8, 9, 10] [1000003, 2003, 5] ?_); clear hK K; try simp only [keep2_mk, pickR_nil, pickR_cons, pickB_some, List.map_cons, List.map_nil, lk_nil, lk_cons, lkB_t, lkB_f, Nat.reduceBEq, Option.getD_some, Option.getD_none])
    refine AWI.seq (AWI.seq ?_)
    refine AWI.region (AR.go fun K hK => ?_)
    simp (disch := first | assumption | omega | (simp only [List.length_cons, List.length_nil, List.length_map, List.length_append, List.length_take, List.length_drop] <;> omega)) only [R0, R1, R2, R3, R4, R5, R6, R7, R8, M0, envOf_nil, envOf_cons, ↓reduceIte, reduceCtorEq, Nat.reduceEqDiff, Int.reduceEq, Int.reduceLT, Int.reduceLE, Nat.reduceAdd, Nat.reduceSub, Nat.reduceBEq, Nat.reduceLT]
    (refine hK _ _ (AR.keep2 [3, 8, 9, 10, 15, 16, 17] [1000003, 2003] ?_); clear hK K; try simp only [keep2_mk, pickR_nil, pickR_cons, pickB_some, List.map_cons, List.map_nil, lk_nil, lk_cons, lkB_t, lkB_f, Nat.reduceBEq, Option.getD_some, Option.getD_none])
    refine AWI.block (AWI.loop (α := Nat × List UInt8 × C × Bool) (fun y => bldOk y.2.2.1 ∧ y.1 ≤ ws.length ∧ y.2.1 ++ showF (decide (y.1 = 0)) (ws.drop y.1) = out ++ showF true ws)
      (fun y => ⟨[(3, .c (.ptr 1000003 0 0)), (8, .c (.t fr (.sl 2 (ls.map lT)))), (9, .c (.t true (.v (.int .i64 ls.length)))), (10, .c (.t true (.v (.int .i64 i)))), (15, .c (.t fr (.sl 2 (ws.map wT)))), (16, .c (.t true (.v (.int .i64 ws.length)))), (17, .c (.t true (.v (.int .i64 y.1))))], bldC y.2.2.1 y.2.2.2 y.2.1⟩)
      (fun y => ws.length - y.1) (0, out, c0, f2) ⟨hc0, Nat.zero_le _, rfl⟩ (fun _ _ h => h) fun y hy => ?_)
    obtain ⟨k, o2, c1, f3⟩ := y
    obtain ⟨hc1, hk1, hk2⟩ := hy
    simp only at hc1 hk1 hk2
    unfold bldC
    have hk5 := hc1.kill 5 (by decide)
    have hk7 := hc1.kill 7 (by decide)
    have hlen2 := congrArg List.length hk2
    simp only [List.length_append] at hlen2
    refine AWI.seq ?_
    (refine AWI.region (AR.go fun K hK => ?_); simp (disch := first | assumption | omega | (simp only [List.length_cons, List.length_nil, List.length_map, List.length_append, List.length_take, List.length_drop] <;> omega)) only [R0, R1, R2, R3, R4, R5, R6, R7, R8, M0, envOf_nil, envOf_cons, ↓reduceIte, reduceCtorEq, Nat.reduceEqDiff, Int.reduceEq, Int.reduceLT, Int.reduceLE, Nat.reduceAdd, Nat.reduceSub, Nat.reduceBEq, Nat.reduceLT]; (refine hK _ _ (AR.keep2 [3, 8, 9, 10, 15, 16, 17, 18] [1000003, 2003] ?_); clear hK K; try simp only [keep2_mk, pickR_nil, pickR_cons, pickB_some, List.map_cons, List.map_nil, lk_nil, lk_cons, lkB_t, lkB_f, Nat.reduceBEq, Option.getD_some, Option.getD_none]))
    refine AWI.seq (AWI.cond rfl (fun hc2 => AWI.skip (AWI.seq (AWI.block (AWI.seq ?_)))) fun hc2 => AWI.exit ?_)
    · have hkl : k < ws.length := of_decide_eq_true hc2
      obtain ⟨y, hy⟩ : ∃ y, y = ws[k] := ⟨_, rfl⟩
      have hgk : getE (ws.map wT) k = wT y := by rw [getE_map' wT ws k hkl, hy]
      obtain ⟨t, q⟩ := y
      rw [drop_getE ws k hkl, ← hy, showF] at hk2 hlen2
      simp only at hk2 hlen2
      simp only [List.length_append] at hlen2
      refine AWI.region (AR.go fun K hK => ?_)
      simp (disch := first | assumption | omega | (simp only [List.length_cons, List.length_nil, List.length_map, List.length_append, List.length_take, List.length_drop] <;> omega)) only [R0, R1, R2, R3, R4, R5, R6, R7, R8, M0, envOf_nil, envOf_cons, ↓reduceIte, reduceCtorEq, Nat.reduceEqDiff, Int.reduceEq, Int.reduceLT, Int.reduceLE, Nat.reduceAdd, Nat.reduceSub, Nat.reduceBEq, Nat.reduceLT, hgk, wT, hk7]
      (refine hK _ _ (AR.keep2 [3, 6, 7, 8, 9, 10, 15, 16, 17] [1000003, 2003, 7] ?_); clear hK K; try simp only [keep2_mk, pickR_nil, pickR_cons, pickB_some, List.map_cons, List.map_nil, lk_nil, lk_cons, lkB_t, lkB_f, Nat.reduceBEq, Option.getD_some, Option.getD_none])
      refine AWI.seq (AWI.seq ?_)
      (refine AWI.region (AR.go fun K hK => ?_); simp (disch := first | assumption | omega | (simp only [List.length_cons, List.length_nil, List.length_map, List.length_append, List.length_take, List.length_drop] <;> omega)) only [R0, R1, R2, R3, R4, R5, R6, R7, R8, M0, envOf_nil, envOf_cons, ↓reduceIte, reduceCtorEq, Nat.reduceEqDiff, Int.reduceEq, Int.reduceLT, Int.reduceLE, Nat.reduceAdd, Nat.reduceSub, Nat.reduceBEq, Nat.reduceLT]; (refine hK _ _ (AR.keep2 [3, 7, 8, 9, 10, 15, 16, 17, 23] [1000003, 2003, 7] ?_); clear hK K; try simp only [keep2_mk, pickR_nil, pickR_cons, pickB_some, List.map_cons, List.map_nil, lk_nil, lk_cons, lkB_t, lkB_f, Nat.reduceBEq, Option.getD_some, Option.getD_none]))
      refine AWI.post ⟨[(3, .c (.ptr 1000003 0 0)), (7, .c (.ptr 7 0 0)), (8, .c (.t fr (.sl 2 (ls.map lT)))), (9, .c (.t true (.v (.int .i64 ls.length)))), (10, .c (.t true (.v (.int .i64 i)))), (15, .c (.t fr (.sl 2 (ws.map wT)))), (16, .c (.t true (.v (.int .i64 ws.length)))), (17, .c (.t true (.v (.int .i64 k))))],
          (1000003, .bx 56 [if decide (k = 0) = true then c1 else bldUsed, .row 2003 0 (o2 ++ if decide (k = 0) = true then [] else [32]).length]) :: (2003, .tr (if decide (k = 0) = true then f3 else false) 5 1 ((o2 ++ if decide (k = 0) = true then [] else [32]).map byteT)) :: [(7, .bx 37 [.t fr (.v (.string (bs t))), .t fr (.v (.int .i64 q))])]⟩ (fun Q' qq => ?_) ?_
      · refine AWI.cond rfl (fun hz => ?_) fun hz => ?_
        · have hz : ¬ k = 0 := by have := of_decide_eq_true hz; omega
          rw [decide_eq_false hz] at qq hlen2
          simp only [Bool.false_eq_true, if_false, List.length_append, List.length_cons, List.length_nil, Nat.zero_add] at qq hlen2
          refine AWI.region (AR.go fun K hK => ?_)
          simp (disch := first | assumption | omega | (simp only [List.length_cons, List.length_nil, List.length_map, List.length_append, List.length_take, List.length_drop] <;> omega)) only [R0, R1, R2, R3, R4, R5, R6, R7, R8, M0, envOf_nil, envOf_cons, ↓reduceIte, reduceCtorEq, Nat.reduceEqDiff, Int.reduceEq, Int.reduceLT, Int.reduceLE, Nat.reduceAdd, Nat.reduceSub, Nat.reduceBEq, Nat.reduceLT]
          (refine hK _ _ ?_; refine AR.callME hgf (PR := [(1000003, .bx 56 [c1, .row 2003 0 o2.length]), (2003, .tr f3 5 1 (o2.map byteT))]) rfl (by first | exact .inl rfl | exact .inr ⟨_, _, rfl, rfl⟩) (fun r row h => lk_pre _ h) (by rw [hP]; exact writeByteC (c := 32) hc1 (by omega)) rfl ?_; clear hK K; intro K hK)
          simp (disch := first | assumption | omega | (simp only [List.length_cons, List.length_nil, List.length_map, List.length_append, List.length_take, List.length_drop] <;> omega)) only [R0, R1, R2, R3, R4, R5, R6, R7, R8, M0, envOf_nil, envOf_cons, ↓reduceIte, reduceCtorEq, Nat.reduceEqDiff, Int.reduceEq, Int.reduceLT, Int.reduceLE, Nat.reduceAdd, Nat.reduceSub, Nat.reduceBEq, Nat.reduceLT, bldR, bldUsed]
          (refine hK _ _ (AR.keep2 [3, 7, 8, 9, 10, 15, 16, 17] [1000003, 2003, 7] ?_); clear hK K; try simp only [keep2_mk, pickR_nil, pickR_cons, pickB_some, List.map_cons, List.map_nil, lk_nil, lk_cons, lkB_t, lkB_f, Nat.reduceBEq, Option.getD_some, Option.getD_none])
          exact qq
        · have hz : k = 0 := by have := of_decide_eq_false hz; omega
          rw [decide_eq_true hz] at qq
          simp only [if_true, List.append_nil] at qq
          exact AWI.keep2 [3, 7, 8, 9, 10, 15, 16, 17] [1000003, 2003, 7] (AWI.skip qq)
      obtain ⟨o3, ho3⟩ : ∃ o3, o3 = o2 ++ if decide (k = 0) = true then [] else [32] := ⟨_, rfl⟩
      have hlen3 := congrArg List.length ho3
      rw [List.length_append] at hlen3
      obtain ⟨c2, hc2d⟩ : ∃ c2, c2 = if decide (k = 0) = true then c1 else bldUsed := ⟨_, rfl⟩
      have hc2ok : bldOk c2 := by rw [hc2d]; split; exact hc1; exact .inr rfl
      rw [← ho3, ← hc2d]
      generalize (if decide (k = 0) = true then f3 else false) = f4
      refine AWI.region (AR.go fun K hK => ?_)
      simp (disch := first | assumption | omega | (simp only [List.length_cons, List.length_nil, List.length_map, List.length_append, List.length_take, List.length_drop] <;> omega)) only [R0, R1, R2, R3, R4, R5, R6, R7, R8, M0, envOf_nil, envOf_cons, ↓reduceIte, reduceCtorEq, Nat.reduceEqDiff, Int.reduceEq, Int.reduceLT, Int.reduceLE, Nat.reduceAdd, Nat.reduceSub, Nat.reduceBEq, Nat.reduceLT]
      (refine hK _ _ ?_; refine AR.callME hgf (PR := [(1000003, .bx 56 [c2, .row 2003 0 o3.length]), (2003, .tr f4 5 1 (o3.map byteT))]) rfl (by first | exact .inl rfl | exact .inr ⟨_, _, rfl, rfl⟩) (fun r row h => lk_pre _ h) (by rw [hP]; exact writeStringC (s := t) hc2ok (by omega) (by omega)) rfl ?_; clear hK K; intro K hK)
      simp (disch := first | assumption | omega | (simp only [List.length_cons, List.length_nil, List.length_map, List.length_append, List.length_take, List.length_drop] <;> omega)) only [R0, R1, R2, R3, R4, R5, R6, R7, R8, M0, envOf_nil, envOf_cons, ↓reduceIte, reduceCtorEq, Nat.reduceEqDiff, Int.reduceEq, Int.reduceLT, Int.reduceLE, Nat.reduceAdd, Nat.reduceSub, Nat.reduceBEq, Nat.reduceLT, bldR, bldUsed]
      (refine hK _ _ (AR.keep2 [3, 8, 9, 10, 15, 16, 17] [1000003, 2003] ?_); clear hK K; try simp only [keep2_mk, pickR_nil, pickR_cons, pickB_some, List.map_cons, List.map_nil, lk_nil, lk_cons, lkB_t, lkB_f, Nat.reduceBEq, Option.getD_some, Option.getD_none])
      (refine AWI.region (AR.go fun K hK => ?_); simp (disch := first | assumption | omega | (simp only [List.length_cons, List.length_nil, List.length_map, List.length_append, List.length_take, List.length_drop] <;> omega)) only [R0, R1, R2, R3, R4, R5, R6, R7, R8, M0, envOf_nil, envOf_cons, ↓reduceIte, reduceCtorEq, Nat.reduceEqDiff, Int.reduceEq, Int.reduceLT, Int.reduceLE, Nat.reduceAdd, Nat.reduceSub, Nat.reduceBEq, Nat.reduceLT]; (refine hK _ _ (AR.keep2 [3, 8, 9, 10, 15, 16, 17] [1000003, 2003] ?_); clear hK K; try simp only [keep2_mk, pickR_nil, pickR_cons, pickB_some, List.map_cons, List.map_nil, lk_nil, lk_cons, lkB_t, lkB_f, Nat.reduceBEq, Option.getD_some, Option.getD_none]))
      refine ⟨(k + 1, o3 ++ t, bldUsed, false), ⟨.inr rfl, hkl, ?_⟩, by simp only; omega, fun a w h => ?_⟩
      · simp only [show decide (k + 1 = 0) = false from decide_eq_false (by omega)]
        rw [← hk2, ho3]
        simp only [List.append_assoc]
      · simp only [List.length_append]
        exact h
    · have hkl : ¬ k < ws.length := of_decide_eq_false hc2
      rw [List.drop_eq_nil_of_le (by omega), showF, List.append_nil] at hk2
      rw [List.drop_eq_nil_of_le (by omega)] at hlen2
      simp only [showF, List.length_nil] at hlen2
      refine AWI.region (AR.go fun K hK => ?_)
      simp (disch := first | assumption | omega | (simp only [List.length_cons, List.length_nil, List.length_map, List.length_append, List.length_take, List.length_drop] <;> omega)) only [R0, R1, R2, R3, R4, R5, R6, R7, R8, M0, envOf_nil, envOf_cons, ↓reduceIte, reduceCtorEq, Nat.reduceEqDiff, Int.reduceEq, Int.reduceLT, Int.reduceLE, Nat.reduceAdd, Nat.reduceSub, Nat.reduceBEq, Nat.reduceLT]
      (refine hK _ _ ?_; refine AR.callME hgf (PR := [(1000003, .bx 56 [c1, .row 2003 0 o2.length]), (2003, .tr f3 5 1 (o2.map byteT))]) rfl (by first | exact .inl rfl | exact .inr ⟨_, _, rfl, rfl⟩) (fun r row h => lk_pre _ h) (by rw [hP]; exact writeByteC (c := 10) hc1 (by omega)) rfl ?_; clear hK K; intro K hK)
      simp (disch := first | assumption | omega | (simp only [List.length_cons, List.length_nil, List.length_map, List.length_append, List.length_take, List.length_drop] <;> omega)) only [R0, R1, R2, R3, R4, R5, R6, R7, R8, M0, envOf_nil, envOf_cons, ↓reduceIte, reduceCtorEq, Nat.reduceEqDiff, Int.reduceEq, Int.reduceLT, Int.reduceLE, Nat.reduceAdd, Nat.reduceSub, Nat.reduceBEq, Nat.reduceLT, bldR, bldUsed]
      (refine hK _ _ (AR.keep2 [3, 8, 9, 10] [1000003, 2003] ?_); clear hK K; try simp only [keep2_mk, pickR_nil, pickR_cons, pickB_some, List.map_cons, List.map_nil, lk_nil, lk_cons, lkB_t, lkB_f, Nat.reduceBEq, Option.getD_some, Option.getD_none])
      (refine AWI.region (AR.go fun K hK => ?_); simp (disch := first | assumption | omega | (simp only [List.length_cons, List.length_nil, List.length_map, List.length_append, List.length_take, List.length_drop] <;> omega)) only [R0, R1, R2, R3, R4, R5, R6, R7, R8, M0, envOf_nil, envOf_cons, ↓reduceIte, reduceCtorEq, Nat.reduceEqDiff, Int.reduceEq, Int.reduceLT, Int.reduceLE, Nat.reduceAdd, Nat.reduceSub, Nat.reduceBEq, Nat.reduceLT]; (refine hK _ _ (AR.keep2 [3, 8, 9, 10] [1000003, 2003] ?_); clear hK K; try simp only [keep2_mk, pickR_nil, pickR_cons, pickB_some, List.map_cons, List.map_nil, lk_nil, lk_cons, lkB_t, lkB_f, Nat.reduceBEq, Option.getD_some, Option.getD_none]))
      refine ⟨some (i + 1, o2 ++ [10]), ⟨hlt, by simp, ?_⟩, hμ, fun a w h => ?_⟩
      · rw [← hi2, hk2]
        simp only [List.append_assoc]
      · simp only [shS, bldC, List.length_append]
        exact h
  · unfold shS
    refine AWI.seq ?_
    (refine AWI.region (AR.go fun K hK => ?_); simp (disch := first | assumption | omega | (simp only [List.length_cons, List.length_nil, List.length_map, List.length_append, List.length_take, List.length_drop] <;> omega)) only [R0, R1, R2, R3, R4, R5, R6, R7, R8, M0, envOf_nil, envOf_cons, ↓reduceIte, reduceCtorEq, Nat.reduceEqDiff, Int.reduceEq, Int.reduceLT, Int.reduceLE, Nat.reduceAdd, Nat.reduceSub, Nat.reduceBEq, Nat.reduceLT]; (refine hK _ _ (AR.keep2 [3, 8, 9, 10, 11] [1000003] ?_); clear hK K; try simp only [keep2_mk, pickR_nil, pickR_cons, pickB_some, List.map_cons, List.map_nil, lk_nil, lk_cons, lkB_t, lkB_f, Nat.reduceBEq, Option.getD_some, Option.getD_none]))
    refine AWI.seq (AWI.cond (b := false) rfl (fun h => by cases h) fun _ => AWI.exit (AWI.seq ?_))
    refine AWI.region (AR.go fun K hK => ?_)
    simp (disch := first | assumption | omega | (simp only [List.length_cons, List.length_nil, List.length_map, List.length_append, List.length_take, List.length_drop] <;> omega)) only [R0, R1, R2, R3, R4, R5, R6, R7, R8, M0, envOf_nil, envOf_cons, ↓reduceIte, reduceCtorEq, Nat.reduceEqDiff, Int.reduceEq, Int.reduceLT, Int.reduceLE, Nat.reduceAdd, Nat.reduceSub, Nat.reduceBEq, Nat.reduceLT]
    refine hK _ _ (AR.bldString (l := []) hP hX hm rfl rfl rfl (.inl ⟨rfl, _, _, rfl⟩) ?_)
    clear hK K
    refine AR.go fun K hK => ?_
    simp (disch := first | assumption | omega | (simp only [List.length_cons, List.length_nil, List.length_map, List.length_append, List.length_take, List.length_drop] <;> omega)) only [R0, R1, R2, R3, R4, R5, R6, R7, R8, M0, envOf_nil, envOf_cons, ↓reduceIte, reduceCtorEq, Nat.reduceEqDiff, Int.reduceEq, Int.reduceLT, Int.reduceLE, Nat.reduceAdd, Nat.reduceSub, Nat.reduceBEq, Nat.reduceLT]
    (refine hK _ _ (AR.keep2 [2] [] ?_); clear hK K; try simp only [keep2_mk, pickR_nil, pickR_cons, pickB_some, List.map_cons, List.map_nil, lk_nil, lk_cons, lkB_t, lkB_f, Nat.reduceBEq, Option.getD_some, Option.getD_none])
    exact AWI.ret ⟨.inl rfl, _, fun _ _ h => h.norm, rfl, rfl⟩
  · unfold shS bldC
    refine AWI.seq ?_
    (refine AWI.region (AR.go fun K hK => ?_); simp (disch := first | assumption | omega | (simp only [List.length_cons, List.length_nil, List.length_map, List.length_append, List.length_take, List.length_drop] <;> omega)) only [R0, R1, R2, R3, R4, R5, R6, R7, R8, M0, envOf_nil, envOf_cons, ↓reduceIte, reduceCtorEq, Nat.reduceEqDiff, Int.reduceEq, Int.reduceLT, Int.reduceLE, Nat.reduceAdd, Nat.reduceSub, Nat.reduceBEq, Nat.reduceLT]; (refine hK _ _ (AR.keep2 [3, 8, 9, 10, 11] [1000003, 2003] ?_); clear hK K; try simp only [keep2_mk, pickR_nil, pickR_cons, pickB_some, List.map_cons, List.map_nil, lk_nil, lk_cons, lkB_t, lkB_f, Nat.reduceBEq, Option.getD_some, Option.getD_none]))
    rw [show decide (ls.length < ls.length) = false from decide_eq_false (by omega)]
    refine AWI.seq (AWI.cond (b := false) rfl (fun h => by cases h) fun _ => AWI.exit (AWI.seq ?_))
    refine AWI.region (AR.go fun K hK => ?_)
    simp (disch := first | assumption | omega | (simp only [List.length_cons, List.length_nil, List.length_map, List.length_append, List.length_take, List.length_drop] <;> omega)) only [R0, R1, R2, R3, R4, R5, R6, R7, R8, M0, envOf_nil, envOf_cons, ↓reduceIte, reduceCtorEq, Nat.reduceEqDiff, Int.reduceEq, Int.reduceLT, Int.reduceLE, Nat.reduceAdd, Nat.reduceSub, Nat.reduceBEq, Nat.reduceLT]
    refine hK _ _ (AR.bldString (l := showL ls) hP hX hm rfl rfl rfl (.inr ⟨hne, rfl, _, rfl⟩) ?_)
    clear hK K
    refine AR.go fun K hK => ?_
    simp (disch := first | assumption | omega | (simp only [List.length_cons, List.length_nil, List.length_map, List.length_append, List.length_take, List.length_drop] <;> omega)) only [R0, R1, R2, R3, R4, R5, R6, R7, R8, M0, envOf_nil, envOf_cons, ↓reduceIte, reduceCtorEq, Nat.reduceEqDiff, Int.reduceEq, Int.reduceLT, Int.reduceLE, Nat.reduceAdd, Nat.reduceSub, Nat.reduceBEq, Nat.reduceLT]
    (refine hK _ _ (AR.keep2 [2] [] ?_); clear hK K; try simp only [keep2_mk, pickR_nil, pickR_cons, pickB_some, List.map_cons, List.map_nil, lk_nil, lk_cons, lkB_t, lkB_f, Nat.reduceBEq, Option.getD_some, Option.getD_none])
    exact AWI.ret ⟨.inl rfl, _, fun _ _ h => h.norm, rfl, rfl⟩
end Go.Proofs.Ytnealepilmobjaa
