/- What the functions of the package lex answer. -/
import Derived.Test.YtnealepilmobjaaIC
import Derived.Test.YtnealepilmobjaaEng21
import Derived.Test.YtnealepilmobjaaShelf
set_option linter.unusedVariables false
set_option linter.unusedSimpArgs false
set_option maxRecDepth 100000
namespace Go.Proofs.Ytnealepilmobjaa
open Go.Eng
def isBlank (c : Int) : Bool := decide (c = 32) || decide (c = 9)
def isWord (c : Int) : Bool := decide (32 < c) && decide (c < 127) && !decide (c = 35)
theorem blank {fr : Bool} {c : Int} : CtrE Try.prog 29 [.c (.t fr (.v (.int .u8 c)))] (.c (.t true (.v (.bool (isBlank c))))) [] := by
  refine fn29 (Nat.le_of_ble_eq_true rfl) fun Γ hP hn hX hm => ?_
  unfold i29
  refine AWI.seq ?_
  refine AWI.region (AR.go fun K hK => ?_)
  simp (disch := first | assumption | omega | (simp only [List.length_cons, List.length_nil, List.length_map, List.length_append, List.length_take, List.length_drop] <;> omega)) only [R0, R1, R2, R3, R4, R5, R6, R7, R8, M0, envOf_nil, envOf_cons, ↓reduceIte, reduceCtorEq, Nat.reduceEqDiff, Int.reduceEq, Int.reduceLT, Int.reduceLE, Nat.reduceAdd, Nat.reduceSub, Nat.reduceBEq, Nat.reduceLT]
  (refine hK _ _ (AR.keep [0,6,7] ?_); clear hK K; try simp only [keep_mk, List.map_cons, List.map_nil, lk_nil, lk_cons, lkB_t, lkB_f, Nat.reduceBEq, Option.getD_some, Option.getD_none])
  refine AWI.seq ?_
  refine AWI.region (AR.go fun K hK => ?_)
  simp (disch := first | assumption | omega | (simp only [List.length_cons, List.length_nil, List.length_map, List.length_append, List.length_take, List.length_drop] <;> omega)) only [R0, R1, R2, R3, R4, R5, R6, R7, R8, M0, envOf_nil, envOf_cons, ↓reduceIte, reduceCtorEq, Nat.reduceEqDiff, Int.reduceEq, Int.reduceLT, Int.reduceLE, Nat.reduceAdd, Nat.reduceSub, Nat.reduceBEq, Nat.reduceLT]
  cases h1 : decide (c = 32) <;> simp (disch := first | assumption | omega | (simp only [List.length_cons, List.length_nil, List.length_map, List.length_append, List.length_take, List.length_drop] <;> omega)) only [R0, R1, R2, R3, R4, R5, R6, R7, R8, M0, envOf_nil, envOf_cons, ↓reduceIte, reduceCtorEq, Nat.reduceEqDiff, Int.reduceEq, Int.reduceLT, Int.reduceLE, Nat.reduceAdd, Nat.reduceSub, Nat.reduceBEq, Nat.reduceLT] <;> (refine hK _ _ (AR.keep [2] ?_); clear hK K; try simp only [keep_mk, List.map_cons, List.map_nil, lk_nil, lk_cons, lkB_t, lkB_f, Nat.reduceBEq, Option.getD_some, Option.getD_none]) <;> refine AWI.ret ⟨.inl rfl, _, fun _ _ h => h, ?_, rfl⟩ <;> simp only [resAV, get_mk, lk_cons, lkB_t, lkB_f, Nat.reduceBEq, Option.getD_some, List.map_cons, List.map_nil] <;> simp only [isBlank, h1, Bool.true_or, Bool.false_or]
theorem word {fr : Bool} {c : Int} : CtrE Try.prog 22 [.c (.t fr (.v (.int .u8 c)))] (.c (.t true (.v (.bool (isWord c))))) [] := by
  refine fn22 (Nat.le_of_ble_eq_true rfl) fun Γ hP hn hX hm => ?_
  unfold i22
  refine AWI.seq ?_
  refine AWI.region (AR.go fun K hK => ?_)
  simp (disch := first | assumption | omega | (simp only [List.length_cons, List.length_nil, List.length_map, List.length_append, List.length_take, List.length_drop] <;> omega)) only [R0, R1, R2, R3, R4, R5, R6, R7, R8, M0, envOf_nil, envOf_cons, ↓reduceIte, reduceCtorEq, Nat.reduceEqDiff, Int.reduceEq, Int.reduceLT, Int.reduceLE, Nat.reduceAdd, Nat.reduceSub, Nat.reduceBEq, Nat.reduceLT]
  (refine hK _ _ (AR.keep [0, 6, 7, 10, 11] ?_); clear hK K; try simp only [keep_mk, List.map_cons, List.map_nil, lk_nil, lk_cons, lkB_t, lkB_f, Nat.reduceBEq, Option.getD_some, Option.getD_none])
  refine AWI.seq ?_
  refine AWI.region (AR.go fun K hK => ?_)
  simp (disch := first | assumption | omega | (simp only [List.length_cons, List.length_nil, List.length_map, List.length_append, List.length_take, List.length_drop] <;> omega)) only [R0, R1, R2, R3, R4, R5, R6, R7, R8, M0, envOf_nil, envOf_cons, ↓reduceIte, reduceCtorEq, Nat.reduceEqDiff, Int.reduceEq, Int.reduceLT, Int.reduceLE, Nat.reduceAdd, Nat.reduceSub, Nat.reduceBEq, Nat.reduceLT]
  cases h1 : decide (32 < c) <;> simp (disch := first | assumption | omega | (simp only [List.length_cons, List.length_nil, List.length_map, List.length_append, List.length_take, List.length_drop] <;> omega)) only [R0, R1, R2, R3, R4, R5, R6, R7, R8, M0, envOf_nil, envOf_cons, ↓reduceIte, reduceCtorEq, Nat.reduceEqDiff, Int.reduceEq, Int.reduceLT, Int.reduceLE, Nat.reduceAdd, Nat.reduceSub, Nat.reduceBEq, Nat.reduceLT]
  · (refine hK _ _ (AR.keep [2] ?_); clear hK K; try simp only [keep_mk, List.map_cons, List.map_nil, lk_nil, lk_cons, lkB_t, lkB_f, Nat.reduceBEq, Option.getD_some, Option.getD_none])
    refine AWI.ret ⟨.inl rfl, _, fun _ _ h => h, ?_, rfl⟩
    simp only [resAV, get_mk, lk_cons, lkB_t, lkB_f, Nat.reduceBEq, Option.getD_some, List.map_cons, List.map_nil] <;> simp only [isWord, h1, Bool.false_and]
  cases h2 : decide (c < 127) <;> simp (disch := first | assumption | omega | (simp only [List.length_cons, List.length_nil, List.length_map, List.length_append, List.length_take, List.length_drop] <;> omega)) only [R0, R1, R2, R3, R4, R5, R6, R7, R8, M0, envOf_nil, envOf_cons, ↓reduceIte, reduceCtorEq, Nat.reduceEqDiff, Int.reduceEq, Int.reduceLT, Int.reduceLE, Nat.reduceAdd, Nat.reduceSub, Nat.reduceBEq, Nat.reduceLT] <;> (refine hK _ _ (AR.keep [2] ?_); clear hK K; try simp only [keep_mk, List.map_cons, List.map_nil, lk_nil, lk_cons, lkB_t, lkB_f, Nat.reduceBEq, Option.getD_some, Option.getD_none]) <;> refine AWI.ret ⟨.inl rfl, _, fun _ _ h => h, ?_, rfl⟩ <;> simp only [resAV, get_mk, lk_cons, lkB_t, lkB_f, Nat.reduceBEq, Option.getD_some, List.map_cons, List.map_nil] <;> simp only [isWord, h1, h2, Bool.true_and, Bool.false_and]
def runLen (p : UInt8 → Bool) (l : List UInt8) : Nat := (l.takeWhile p).length
theorem run_ctr {p : UInt8 → Bool} {f : Nat} (hf : ∀ c : UInt8, CtrE Try.prog f [.c (.t false (.v (.int .u8 c.toNat)))] (.c (.t true (.v (.bool (p c))))) []) {fr fr' : Bool} {l : List UInt8} {i : Nat} (hl : l.length ≤ 9223372036854775807) (hi : i ≤ l.length) :
    CtrE Try.prog 21 [.c (.t fr (.v (.string (bs l)))), .c (.t fr' (.v (.int .i64 i))), .c (.fn f [])] (.c (.t true (.v (.int .i64 (runLen p (l.drop i)))))) [] := by
  refine fn21 (Nat.le_of_ble_eq_true rfl) fun Γ hP hn hX hm => ?_
  unfold i21
  refine AWI.seq ?_
  refine AWI.region (AR.go fun K hK => ?_)
  simp (disch := first | assumption | omega | (simp only [List.length_cons, List.length_nil, List.length_map, List.length_append, List.length_take, List.length_drop] <;> omega)) only [R0, R1, R2, R3, R4, R5, R6, R7, R8, M0, envOf_nil, envOf_cons, ↓reduceIte, reduceCtorEq, Nat.reduceEqDiff, Int.reduceEq, Int.reduceLT, Int.reduceLE, Nat.reduceAdd, Nat.reduceSub, Nat.reduceBEq, Nat.reduceLT]
  (refine hK _ _ (AR.keep2 [0, 1, 2] [] ?_); clear hK K; try simp only [keep2_mk, pickR_nil, pickR_cons, pickB_some, List.map_cons, List.map_nil, lk_nil, lk_cons, lkB_t, lkB_f, Nat.reduceBEq, Option.getD_some, Option.getD_none])
  refine AWI.seq ?_
  refine AWI.region (AR.go fun K hK => ?_)
  simp (disch := first | assumption | omega | (simp only [List.length_cons, List.length_nil, List.length_map, List.length_append, List.length_take, List.length_drop] <;> omega)) only [R0, R1, R2, R3, R4, R5, R6, R7, R8, M0, envOf_nil, envOf_cons, ↓reduceIte, reduceCtorEq, Nat.reduceEqDiff, Int.reduceEq, Int.reduceLT, Int.reduceLE, Nat.reduceAdd, Nat.reduceSub, Nat.reduceBEq, Nat.reduceLT]
  (refine hK _ _ (AR.keep2 [0, 1, 2, 7] [] ?_); clear hK K; try simp only [keep2_mk, pickR_nil, pickR_cons, pickB_some, List.map_cons, List.map_nil, lk_nil, lk_cons, lkB_t, lkB_f, Nat.reduceBEq, Option.getD_some, Option.getD_none])
  refine AWI.seq (AWI.block ?_)
  refine AWI.loop (α := Nat) (fun n => i + n ≤ l.length ∧ runLen p (l.drop i) = n + runLen p (l.drop (i + n)))
    (fun n => ⟨[(0, .c (.t fr (.v (.string (bs l))))), (1, .c (.t fr' (.v (.int .i64 i)))), (2, .c (.fn f [])), (7, .c (.t true (.v (.int .i64 n))))], []⟩) (fun n => l.length - (i + n)) 0 (by simp [hi]) (fun _ _ h => h) fun n hn => ?_
  obtain ⟨hn1, hn2⟩ := hn
  refine AWI.seq (AWI.seq ?_)
  refine AWI.region (AR.go fun K hK => ?_)
  simp (disch := first | assumption | omega | (simp only [List.length_cons, List.length_nil, List.length_map, List.length_append, List.length_take, List.length_drop] <;> omega)) only [R0, R1, R2, R3, R4, R5, R6, R7, R8, M0, envOf_nil, envOf_cons, ↓reduceIte, reduceCtorEq, Nat.reduceEqDiff, Int.reduceEq, Int.reduceLT, Int.reduceLE, Nat.reduceAdd, Nat.reduceSub, Nat.reduceBEq, Nat.reduceLT]
  cases h1 : decide (i + n < l.length)
  · have h1' := of_decide_eq_false h1
    simp (disch := first | assumption | omega | (simp only [List.length_cons, List.length_nil, List.length_map, List.length_append, List.length_take, List.length_drop] <;> omega)) only [R0, R1, R2, R3, R4, R5, R6, R7, R8, M0, envOf_nil, envOf_cons, ↓reduceIte, reduceCtorEq, Nat.reduceEqDiff, Int.reduceEq, Int.reduceLT, Int.reduceLE, Nat.reduceAdd, Nat.reduceSub, Nat.reduceBEq, Nat.reduceLT]
    (refine hK _ _ (AR.keep2 [0, 1, 2, 7, 22] [] ?_); clear hK K; try simp only [keep2_mk, pickR_nil, pickR_cons, pickB_some, List.map_cons, List.map_nil, lk_nil, lk_cons, lkB_t, lkB_f, Nat.reduceBEq, Option.getD_some, Option.getD_none])
    refine AWI.cond rfl (fun h => by cases h) fun _ => AWI.exit (AWI.seq ?_)
    have h2 : runLen p (l.drop (i + n)) = 0 := by rw [List.drop_eq_nil_of_le (by omega)]; rfl
    rw [h2] at hn2
    refine AWI.region (AR.go fun K hK => ?_)
    simp (disch := first | assumption | omega | (simp only [List.length_cons, List.length_nil, List.length_map, List.length_append, List.length_take, List.length_drop] <;> omega)) only [R0, R1, R2, R3, R4, R5, R6, R7, R8, M0, envOf_nil, envOf_cons, ↓reduceIte, reduceCtorEq, Nat.reduceEqDiff, Int.reduceEq, Int.reduceLT, Int.reduceLE, Nat.reduceAdd, Nat.reduceSub, Nat.reduceBEq, Nat.reduceLT]
    (refine hK _ _ (AR.keep2 [6] [] ?_); clear hK K; try simp only [keep2_mk, pickR_nil, pickR_cons, pickB_some, List.map_cons, List.map_nil, lk_nil, lk_cons, lkB_t, lkB_f, Nat.reduceBEq, Option.getD_some, Option.getD_none])
    exact AWI.ret ⟨.inl rfl, _, fun _ _ h => h, by rw [hn2]; rfl, rfl⟩
  · have h1' := of_decide_eq_true h1
    simp (disch := first | assumption | omega | (simp only [List.length_cons, List.length_nil, List.length_map, List.length_append, List.length_take, List.length_drop] <;> omega)) only [R0, R1, R2, R3, R4, R5, R6, R7, R8, M0, envOf_nil, envOf_cons, ↓reduceIte, reduceCtorEq, Nat.reduceEqDiff, Int.reduceEq, Int.reduceLT, Int.reduceLE, Nat.reduceAdd, Nat.reduceSub, Nat.reduceBEq, Nat.reduceLT]
    (refine hK _ _ ?_; refine AR.callvE rfl rfl (by first | exact .inl rfl | exact .inr ⟨_, _, rfl, rfl⟩) (by rw [hP]; exact hf _) (by first | exact .inl rfl | exact .inr ⟨rfl, rfl⟩) ⟨_, rfl⟩ ?_; clear hK K; intro K hK)
    simp (disch := first | assumption | omega | (simp only [List.length_cons, List.length_nil, List.length_map, List.length_append, List.length_take, List.length_drop] <;> omega)) only [R0, R1, R2, R3, R4, R5, R6, R7, R8, M0, envOf_nil, envOf_cons, ↓reduceIte, reduceCtorEq, Nat.reduceEqDiff, Int.reduceEq, Int.reduceLT, Int.reduceLE, Nat.reduceAdd, Nat.reduceSub, Nat.reduceBEq, Nat.reduceLT]
    (refine hK _ _ (AR.keep2 [0, 1, 2, 7, 22] [] ?_); clear hK K; try simp only [keep2_mk, pickR_nil, pickR_cons, pickB_some, List.map_cons, List.map_nil, lk_nil, lk_cons, lkB_t, lkB_f, Nat.reduceBEq, Option.getD_some, Option.getD_none])
    have hd : l.drop (i + n) = l.getD (i + n) 0 :: l.drop (i + (n + 1)) := by
      rw [List.drop_eq_getElem_cons h1', List.getD_eq_getElem?_getD, List.getElem?_eq_getElem h1']; rfl
    have h3 : runLen p (l.drop (i + n)) = if p (l.getD (i + n) 0) = true then runLen p (l.drop (i + (n + 1))) + 1 else 0 := by
      rw [hd]; unfold runLen; rw [List.takeWhile_cons]; split <;> rfl
    refine AWI.cond rfl (fun h => ?_) fun h => AWI.exit (AWI.seq ?_)
    · rw [h] at h3
      refine AWI.skip (AWI.block ?_)
      refine AWI.region (AR.go fun K hK => ?_)
      simp (disch := first | assumption | omega | (simp only [List.length_cons, List.length_nil, List.length_map, List.length_append, List.length_take, List.length_drop] <;> omega)) only [R0, R1, R2, R3, R4, R5, R6, R7, R8, M0, envOf_nil, envOf_cons, ↓reduceIte, reduceCtorEq, Nat.reduceEqDiff, Int.reduceEq, Int.reduceLT, Int.reduceLE, Nat.reduceAdd, Nat.reduceSub, Nat.reduceBEq, Nat.reduceLT]
      (refine hK _ _ (AR.keep2 [0, 1, 2, 7] [] ?_); clear hK K; try simp only [keep2_mk, pickR_nil, pickR_cons, pickB_some, List.map_cons, List.map_nil, lk_nil, lk_cons, lkB_t, lkB_f, Nat.reduceBEq, Option.getD_some, Option.getD_none])
      exact ⟨n + 1, ⟨by omega, by rw [hn2, h3, if_pos rfl]; omega⟩, by omega, fun _ _ h => h⟩
    · rw [h] at h3
      refine AWI.region (AR.go fun K hK => ?_)
      simp (disch := first | assumption | omega | (simp only [List.length_cons, List.length_nil, List.length_map, List.length_append, List.length_take, List.length_drop] <;> omega)) only [R0, R1, R2, R3, R4, R5, R6, R7, R8, M0, envOf_nil, envOf_cons, ↓reduceIte, reduceCtorEq, Nat.reduceEqDiff, Int.reduceEq, Int.reduceLT, Int.reduceLE, Nat.reduceAdd, Nat.reduceSub, Nat.reduceBEq, Nat.reduceLT]
      (refine hK _ _ (AR.keep2 [6] [] ?_); clear hK K; try simp only [keep2_mk, pickR_nil, pickR_cons, pickB_some, List.map_cons, List.map_nil, lk_nil, lk_cons, lkB_t, lkB_f, Nat.reduceBEq, Option.getD_some, Option.getD_none])
      exact AWI.ret ⟨.inl rfl, _, fun _ _ h => h, by rw [hn2, h3]; rfl, rfl⟩
def isB (c : UInt8) : Bool := isBlank c.toNat
def isW (c : UInt8) : Bool := isWord c.toNat
theorem clone32 {fr : Bool} {l : List UInt8} (hl : l.length ≤ 281474976710656) : CtrE Try.prog 32 [.c (.t fr (.v (.string (bs l))))] (.c (.t true (.v (.string (bs l))))) [] :=
  CtrE.of_calls (by kernel_rfl) rfl rfl fun w => Try.stringslite_Clone (bs l) w (by rw [bs_size]; exact hl)
theorem clone {fr : Bool} {l : List UInt8} (hl : l.length ≤ 281474976710656) : CtrE Try.prog 28 [.c (.t fr (.v (.string (bs l))))] (.c (.t true (.v (.string (bs l))))) [] := by
  refine fn28 (Nat.le_of_ble_eq_true rfl) fun Γ hP hn hX hm => ?_
  unfold i28
  refine AWI.seq ?_
  refine AWI.region (AR.go fun K hK => ?_)
  simp (disch := first | assumption | omega | (simp only [List.length_cons, List.length_nil, List.length_map, List.length_append, List.length_take, List.length_drop] <;> omega)) only [R0, R1, R2, R3, R4, R5, R6, R7, R8, M0, envOf_nil, envOf_cons, ↓reduceIte, reduceCtorEq, Nat.reduceEqDiff, Int.reduceEq, Int.reduceLT, Int.reduceLE, Nat.reduceAdd, Nat.reduceSub, Nat.reduceBEq, Nat.reduceLT]
  (refine hK _ _ (AR.keep2 [0] [] ?_); clear hK K; try simp only [keep2_mk, pickR_nil, pickR_cons, pickB_some, List.map_cons, List.map_nil, lk_nil, lk_cons, lkB_t, lkB_f, Nat.reduceBEq, Option.getD_some, Option.getD_none])
  refine AWI.seq ?_
  refine AWI.region (AR.go fun K hK => ?_)
  simp (disch := first | assumption | omega | (simp only [List.length_cons, List.length_nil, List.length_map, List.length_append, List.length_take, List.length_drop] <;> omega)) only [R0, R1, R2, R3, R4, R5, R6, R7, R8, M0, envOf_nil, envOf_cons, ↓reduceIte, reduceCtorEq, Nat.reduceEqDiff, Int.reduceEq, Int.reduceLT, Int.reduceLE, Nat.reduceAdd, Nat.reduceSub, Nat.reduceBEq, Nat.reduceLT]
  (refine hK _ _ ?_; refine AR.callE rfl (by first | exact .inl rfl | exact .inr ⟨_, _, rfl, rfl⟩) (by rw [hP]; exact clone32 hl) (by first | exact .inl rfl | exact .inr ⟨rfl, rfl⟩) ⟨_, rfl⟩ ?_; clear hK K; intro K hK)
  simp (disch := first | assumption | omega | (simp only [List.length_cons, List.length_nil, List.length_map, List.length_append, List.length_take, List.length_drop] <;> omega)) only [R0, R1, R2, R3, R4, R5, R6, R7, R8, M0, envOf_nil, envOf_cons, ↓reduceIte, reduceCtorEq, Nat.reduceEqDiff, Int.reduceEq, Int.reduceLT, Int.reduceLE, Nat.reduceAdd, Nat.reduceSub, Nat.reduceBEq, Nat.reduceLT]
  (refine hK _ _ (AR.keep2 [2] [] ?_); clear hK K; try simp only [keep2_mk, pickR_nil, pickR_cons, pickB_some, List.map_cons, List.map_nil, lk_nil, lk_cons, lkB_t, lkB_f, Nat.reduceBEq, Option.getD_some, Option.getD_none])
  exact AWI.ret ⟨.inl rfl, _, fun _ _ h => h, rfl, rfl⟩
theorem here {p : UInt8 → Bool} {f : Nat} (hf : ∀ c : UInt8, CtrE Try.prog f [.c (.t false (.v (.int .u8 c.toNat)))] (.c (.t true (.v (.bool (p c))))) []) {fr fr' : Bool} {l : List UInt8} {i : Nat} (hl : l.length ≤ 9223372036854775807) (hi : i ≤ l.length) :
    CtrE Try.prog 27 [.c (.fn f []), .c (.elt fr [.v (.string (bs l))]), .c (.elt fr' [.v (.int .i64 i)])] (.c (.t true (.v (.int .i64 (runLen p (l.drop i)))))) [] := by
  refine fn27 (Nat.le_of_ble_eq_true rfl) fun Γ hP hn hX hm => ?_
  unfold i27
  refine AWI.seq ?_
  refine AWI.region (AR.go fun K hK => ?_)
  simp (disch := first | assumption | omega | (simp only [List.length_cons, List.length_nil, List.length_map, List.length_append, List.length_take, List.length_drop] <;> omega)) only [R0, R1, R2, R3, R4, R5, R6, R7, R8, M0, envOf_nil, envOf_cons, ↓reduceIte, reduceCtorEq, Nat.reduceEqDiff, Int.reduceEq, Int.reduceLT, Int.reduceLE, Nat.reduceAdd, Nat.reduceSub, Nat.reduceBEq, Nat.reduceLT]
  (refine hK _ _ (AR.keep2 [0, 1, 2] [] ?_); clear hK K; try simp only [keep2_mk, pickR_nil, pickR_cons, pickB_some, List.map_cons, List.map_nil, lk_nil, lk_cons, lkB_t, lkB_f, Nat.reduceBEq, Option.getD_some, Option.getD_none])
  refine AWI.seq ?_
  refine AWI.region (AR.go fun K hK => ?_)
  simp (disch := first | assumption | omega | (simp only [List.length_cons, List.length_nil, List.length_map, List.length_append, List.length_take, List.length_drop] <;> omega)) only [R0, R1, R2, R3, R4, R5, R6, R7, R8, M0, envOf_nil, envOf_cons, ↓reduceIte, reduceCtorEq, Nat.reduceEqDiff, Int.reduceEq, Int.reduceLT, Int.reduceLE, Nat.reduceAdd, Nat.reduceSub, Nat.reduceBEq, Nat.reduceLT]
  (refine hK _ _ ?_; refine AR.callE rfl (by first | exact .inl rfl | exact .inr ⟨_, _, rfl, rfl⟩) (by rw [hP]; exact run_ctr hf hl hi) (by first | exact .inl rfl | exact .inr ⟨rfl, rfl⟩) ⟨_, rfl⟩ ?_; clear hK K; intro K hK)
  simp (disch := first | assumption | omega | (simp only [List.length_cons, List.length_nil, List.length_map, List.length_append, List.length_take, List.length_drop] <;> omega)) only [R0, R1, R2, R3, R4, R5, R6, R7, R8, M0, envOf_nil, envOf_cons, ↓reduceIte, reduceCtorEq, Nat.reduceEqDiff, Int.reduceEq, Int.reduceLT, Int.reduceLE, Nat.reduceAdd, Nat.reduceSub, Nat.reduceBEq, Nat.reduceLT]
  (refine hK _ _ (AR.keep2 [4] [] ?_); clear hK K; try simp only [keep2_mk, pickR_nil, pickR_cons, pickB_some, List.map_cons, List.map_nil, lk_nil, lk_cons, lkB_t, lkB_f, Nat.reduceBEq, Option.getD_some, Option.getD_none])
  exact AWI.ret ⟨.inl rfl, _, fun _ _ h => h, rfl, rfl⟩

theorem runLen_pos {p : UInt8 → Bool} {c : UInt8} {r : List UInt8} (h : p c = true) : 0 < runLen p (c :: r) := by simp [runLen, List.takeWhile_cons, h]
theorem runLen_zero {p : UInt8 → Bool} {c : UInt8} {r : List UInt8} (h : p c = false) : runLen p (c :: r) = 0 := by simp [runLen, List.takeWhile_cons, h]
theorem runLen_le (p : UInt8 → Bool) (l : List UInt8) : runLen p l ≤ l.length := by
  unfold runLen
  exact (List.takeWhile_prefix p).length_le
/-- the words of a line that begins at a place, and a bad byte's place -/
def wordsL (pos : Nat) : List UInt8 → List (List UInt8 × Int) × Option Nat
  | [] => ([], none)
  | c :: r =>
    if h : isW c = true then
      let q := wordsL (pos + runLen isW (c :: r)) ((c :: r).drop (runLen isW (c :: r)))
      (((c :: r).take (runLen isW (c :: r)), (pos : Int)) :: q.1, q.2)
    else if h2 : isB c = true then wordsL (pos + runLen isB (c :: r)) ((c :: r).drop (runLen isB (c :: r)))
    else if c = 35 then ([], none)
    else ([], some pos)
termination_by l => l.length
decreasing_by
  · have := runLen_pos (r := r) h; simp only [List.length_drop, List.length_cons]; omega
  · have := runLen_pos (r := r) h2; simp only [List.length_drop, List.length_cons]; omega
def wordsR (pos : Nat) (l : List UInt8) : List (List UInt8 × Int) × Int := match (wordsL pos l).2 with
  | none => ((wordsL pos l).1, -1)
  | some b => ([], b)
def wT (w : List UInt8 × Int) : List T := [.v (.string (bs w.1)), .v (.int .i64 w.2)]
theorem words {fr fr' : Bool} {l : List UInt8} {pos : Nat} (hl : l.length ≤ 65536) (hp : pos ≤ 65536) :
    CtrE Try.prog 19 [.c (.t fr (.v (.string (bs l)))), .c (.t fr' (.v (.int .i64 pos)))]
      (.tup [.c (.row 1000 0 (wordsR pos l).1.length), .c (.t true (.v (.int .i64 (wordsR pos l).2)))]) [(1000, .tr true 37 2 ((wordsR pos l).1.map wT))] := by
  refine fn19 (Nat.le_of_ble_eq_true rfl) fun Γ hP hn hX hm => ?_
  unfold i19
  refine AWI.seq ?_
  refine AWI.region (AR.go fun K hK => ?_)
  simp (disch := first | assumption | omega | (simp only [List.length_cons, List.length_nil, List.length_map, List.length_append, List.length_take, List.length_drop] <;> omega)) only [R0, R1, R2, R3, R4, R5, R6, R7, R8, M0, envOf_nil, envOf_cons, ↓reduceIte, reduceCtorEq, Nat.reduceEqDiff, Int.reduceEq, Int.reduceLT, Int.reduceLE, Nat.reduceAdd, Nat.reduceSub, Nat.reduceBEq, Nat.reduceLT]
  (refine hK _ _ (AR.keep2 [1, 2, 4] [2] ?_); clear hK K; try simp only [keep2_mk, pickR_nil, pickR_cons, pickB_some, List.map_cons, List.map_nil, lk_nil, lk_cons, lkB_t, lkB_f, Nat.reduceBEq, Option.getD_some, Option.getD_none])
  refine AWI.nilRow 4 1000 37 2 (by decide) ?_
  simp (disch := first | assumption | omega | (simp only [List.length_cons, List.length_nil, List.length_map, List.length_append, List.length_take, List.length_drop] <;> omega)) only [R0, R1, R2, R3, R4, R5, R6, R7, R8, M0, envOf_nil, envOf_cons, ↓reduceIte, reduceCtorEq, Nat.reduceEqDiff, Int.reduceEq, Int.reduceLT, Int.reduceLE, Nat.reduceAdd, Nat.reduceSub, Nat.reduceBEq, Nat.reduceLT]
  refine AWI.seq (AWI.seq ?_)
  refine AWI.region (AR.go fun K hK => ?_)
  simp (disch := first | assumption | omega | (simp only [List.length_cons, List.length_nil, List.length_map, List.length_append, List.length_take, List.length_drop] <;> omega)) only [R0, R1, R2, R3, R4, R5, R6, R7, R8, M0, envOf_nil, envOf_cons, ↓reduceIte, reduceCtorEq, Nat.reduceEqDiff, Int.reduceEq, Int.reduceLT, Int.reduceLE, Nat.reduceAdd, Nat.reduceSub, Nat.reduceBEq, Nat.reduceLT]
  (refine hK _ _ (AR.keep2 [1, 2, 4, 6] [2, 6, 1000] ?_); clear hK K; try simp only [keep2_mk, pickR_nil, pickR_cons, pickB_some, List.map_cons, List.map_nil, lk_nil, lk_cons, lkB_t, lkB_f, Nat.reduceBEq, Option.getD_some, Option.getD_none])
  refine AWI.block (AWI.loop (α := Nat × List (List UInt8 × Int)) (fun x => x.1 ≤ l.length ∧ x.2.length ≤ x.1 ∧ (wordsL pos l).1 = x.2 ++ (wordsL (pos + x.1) (l.drop x.1)).1 ∧ (wordsL pos l).2 = (wordsL (pos + x.1) (l.drop x.1)).2)
    (fun x => ⟨[(1, .c (.t fr' (.v (.int .i64 pos)))), (2, .c (.ptr 2 0 0)), (4, .c (.row 1000 0 x.2.length)), (6, .c (.ptr 6 0 0))],
      [(2, .bx 9 [.t fr (.v (.string (bs l)))]), (6, .bx 3 [.t true (.v (.int .i64 x.1))]), (1000, .tr true 37 2 (x.2.map wT))]⟩) (fun x => l.length - x.1) (0, []) (by simp) (fun _ _ h => h) fun x hx => ?_)
  obtain ⟨i, ws⟩ := x
  obtain ⟨h1, h2, h3, h4⟩ := hx
  simp only at h1 h2 h3 h4
  have hlen : ws.length = (ws.map wT).length := (List.length_map ..).symm
  refine AWI.seq (AWI.seq ?_)
  refine AWI.region (AR.go fun K hK => ?_)
  simp (disch := first | assumption | omega | (simp only [List.length_cons, List.length_nil, List.length_map, List.length_append, List.length_take, List.length_drop] <;> omega)) only [R0, R1, R2, R3, R4, R5, R6, R7, R8, M0, envOf_nil, envOf_cons, ↓reduceIte, reduceCtorEq, Nat.reduceEqDiff, Int.reduceEq, Int.reduceLT, Int.reduceLE, Nat.reduceAdd, Nat.reduceSub, Nat.reduceBEq, Nat.reduceLT]
  (refine hK _ _ (AR.keep2 [1, 2, 4, 6, 12] [2, 6, 1000] ?_); clear hK K; try simp only [keep2_mk, pickR_nil, pickR_cons, pickB_some, List.map_cons, List.map_nil, lk_nil, lk_cons, lkB_t, lkB_f, Nat.reduceBEq, Option.getD_some, Option.getD_none])
  refine AWI.cond rfl (fun hc => AWI.skip ?_) fun hc => AWI.exit ?_
  · have hc := of_decide_eq_true hc
    obtain ⟨c, r, hcr⟩ : ∃ c r, l.drop i = c :: r := ⟨l[i], l.drop (i + 1), List.drop_eq_getElem_cons hc⟩
    have hget : l.getD i 0 = c := by
      have := congrArg (fun l => l.getD 0 0) hcr
      simpa [List.getD_eq_getElem?_getD] using this
    have hrl := congrArg List.length hcr
    rw [List.length_drop, List.length_cons] at hrl
    refine AWI.seq (AWI.block (AWI.seq ?_))
    refine AWI.region (AR.go fun K hK => ?_)
    simp (disch := first | assumption | omega | (simp only [List.length_cons, List.length_nil, List.length_map, List.length_append, List.length_take, List.length_drop] <;> omega)) only [R0, R1, R2, R3, R4, R5, R6, R7, R8, M0, envOf_nil, envOf_cons, ↓reduceIte, reduceCtorEq, Nat.reduceEqDiff, Int.reduceEq, Int.reduceLT, Int.reduceLE, Nat.reduceAdd, Nat.reduceSub, Nat.reduceBEq, Nat.reduceLT]
    (refine hK _ _ (AR.keep2 [1, 2, 4, 6, 7] [2, 6, 1000] ?_); clear hK K; try simp only [keep2_mk, pickR_nil, pickR_cons, pickB_some, List.map_cons, List.map_nil, lk_nil, lk_cons, lkB_t, lkB_f, Nat.reduceBEq, Option.getD_some, Option.getD_none])
    refine AWI.seq ?_
    refine AWI.region (AR.go fun K hK => ?_)
    simp (disch := first | assumption | omega | (simp only [List.length_cons, List.length_nil, List.length_map, List.length_append, List.length_take, List.length_drop] <;> omega)) only [R0, R1, R2, R3, R4, R5, R6, R7, R8, M0, envOf_nil, envOf_cons, ↓reduceIte, reduceCtorEq, Nat.reduceEqDiff, Int.reduceEq, Int.reduceLT, Int.reduceLE, Nat.reduceAdd, Nat.reduceSub, Nat.reduceBEq, Nat.reduceLT]
    (refine hK _ _ ?_; refine AR.callvE rfl rfl (by first | exact .inl rfl | exact .inr ⟨_, _, rfl, rfl⟩) (by rw [hP]; exact here (p := isW) (fun c => word) (by omega) h1) (by first | exact .inl rfl | exact .inr ⟨rfl, rfl⟩) ⟨_, rfl⟩ ?_; clear hK K; intro K hK)
    simp (disch := first | assumption | omega | (simp only [List.length_cons, List.length_nil, List.length_map, List.length_append, List.length_take, List.length_drop] <;> omega)) only [R0, R1, R2, R3, R4, R5, R6, R7, R8, M0, envOf_nil, envOf_cons, ↓reduceIte, reduceCtorEq, Nat.reduceEqDiff, Int.reduceEq, Int.reduceLT, Int.reduceLE, Nat.reduceAdd, Nat.reduceSub, Nat.reduceBEq, Nat.reduceLT]
    (refine hK _ _ (AR.keep2 [1, 2, 4, 6, 7, 8] [2, 6, 1000] ?_); clear hK K; try simp only [keep2_mk, pickR_nil, pickR_cons, pickB_some, List.map_cons, List.map_nil, lk_nil, lk_cons, lkB_t, lkB_f, Nat.reduceBEq, Option.getD_some, Option.getD_none])
    refine AWI.block (AWI.seq ?_)
    refine AWI.region (AR.go fun K hK => ?_)
    simp (disch := first | assumption | omega | (simp only [List.length_cons, List.length_nil, List.length_map, List.length_append, List.length_take, List.length_drop] <;> omega)) only [R0, R1, R2, R3, R4, R5, R6, R7, R8, M0, envOf_nil, envOf_cons, ↓reduceIte, reduceCtorEq, Nat.reduceEqDiff, Int.reduceEq, Int.reduceLT, Int.reduceLE, Nat.reduceAdd, Nat.reduceSub, Nat.reduceBEq, Nat.reduceLT]
    (refine hK _ _ (AR.keep2 [1, 2, 4, 6, 7, 8, 19] [2, 6, 1000] ?_); clear hK K; try simp only [keep2_mk, pickR_nil, pickR_cons, pickB_some, List.map_cons, List.map_nil, lk_nil, lk_cons, lkB_t, lkB_f, Nat.reduceBEq, Option.getD_some, Option.getD_none])
    have hn := runLen_le isW (l.drop i)
    rw [List.length_drop] at hn
    refine AWI.cond rfl (fun hc2 => AWI.seq ?_) fun hc2 => AWI.seq ?_
    · have hc2 := of_decide_eq_true hc2
      refine AWI.drawS (by rw [hP]; rfl) [(0, ⟨some 22, none, .mv (.t 4)⟩, .mv), (1, ⟨some 23, none, .load false 1 (.t 2)⟩, .cc), (2, ⟨some 24, none, .load false 1 (.t 6)⟩, .cc), (3, ⟨some 25, none, .load false 1 (.t 6)⟩, .cc), (4, ⟨some 26, none, .mv (.t 8)⟩, .mv), (5, ⟨some 27, none, .bin .add (.t 25) (.t 26)⟩, .cc), (6, ⟨some 28, none, .slcS (.t 23) (some (.t 24)) (some (.t 27))⟩, .cc), (8, ⟨some 30, none, .mv (.t 1)⟩, .mv), (9, ⟨some 31, none, .load false 1 (.t 6)⟩, .cc), (10, ⟨some 32, none, .bin .add (.t 30) (.t 31)⟩, .cc)] [(7, ⟨some 29, none, .call 28 [(.t 28)]⟩, [0, 8, 9, 10]), (11, ⟨some 33, none, .build [(.string ⟨#[]⟩), (.int .i64 0)] [(0, 1, (.t 29)), (1, 1, (.t 32))]⟩, [0]), (12, ⟨some 34, none, .bslice 37 2 1 [(.string ⟨#[]⟩), (.int .i64 0)] [(0, (.t 33))]⟩, [0]), (13, ⟨some 35, none, .app 37 2 24 [(.string ⟨#[]⟩), (.int .i64 0)] (.t 22) (.t 34)⟩, []), (14, ⟨some 4, none, .mv (.t 35)⟩, [])] (by kernel_rfl) (by kernel_rfl) (by kernel_rfl) rfl fun Γd hΓd K hK => ?_; have hP : Γd.P = _ := (congrArg Ctx.P hΓd).trans hP; try have hX : ∀ b, ¬ Γd.X b := by rw [hΓd]; exact hX
      simp (disch := first | assumption | omega | (simp only [List.length_cons, List.length_nil, List.length_map, List.length_append, List.length_take, List.length_drop] <;> omega)) only [R0, R1, R2, R3, R4, R5, R6, R7, R8, M0, envOf_nil, envOf_cons, ↓reduceIte, reduceCtorEq, Nat.reduceEqDiff, Int.reduceEq, Int.reduceLT, Int.reduceLE, Nat.reduceAdd, Nat.reduceSub, Nat.reduceBEq, Nat.reduceLT]
      (refine hK _ _ ?_; refine AR.callE rfl (by first | exact .inl rfl | exact .inr ⟨_, _, rfl, rfl⟩) (by rw [hP]; exact clone (by simp; omega)) (by first | exact .inl rfl | exact .inr ⟨rfl, rfl⟩) ⟨_, rfl⟩ ?_; clear hK K; intro K hK)
      simp (disch := first | assumption | omega | (simp only [List.length_cons, List.length_nil, List.length_map, List.length_append, List.length_take, List.length_drop] <;> omega)) only [R0, R1, R2, R3, R4, R5, R6, R7, R8, M0, envOf_nil, envOf_cons, ↓reduceIte, reduceCtorEq, Nat.reduceEqDiff, Int.reduceEq, Int.reduceLT, Int.reduceLE, Nat.reduceAdd, Nat.reduceSub, Nat.reduceBEq, Nat.reduceLT]
      (refine hK _ _ (AR.keep2 [1, 2, 4, 6, 8] [2, 6, 1000] ?_); clear hK K; try simp only [keep2_mk, pickR_nil, pickR_cons, pickB_some, List.map_cons, List.map_nil, lk_nil, lk_cons, lkB_t, lkB_f, Nat.reduceBEq, Option.getD_some, Option.getD_none])
      refine AWI.region (AR.go fun K hK => ?_)
      simp (disch := first | assumption | omega | (simp only [List.length_cons, List.length_nil, List.length_map, List.length_append, List.length_take, List.length_drop] <;> omega)) only [R0, R1, R2, R3, R4, R5, R6, R7, R8, M0, envOf_nil, envOf_cons, ↓reduceIte, reduceCtorEq, Nat.reduceEqDiff, Int.reduceEq, Int.reduceLT, Int.reduceLE, Nat.reduceAdd, Nat.reduceSub, Nat.reduceBEq, Nat.reduceLT]
      (refine hK _ _ (AR.keep2 [1, 2, 4, 6] [2, 6, 1000] ?_); clear hK K; try simp only [keep2_mk, pickR_nil, pickR_cons, pickB_some, List.map_cons, List.map_nil, lk_nil, lk_cons, lkB_t, lkB_f, Nat.reduceBEq, Option.getD_some, Option.getD_none])
      refine AWI.seq ?_
      refine AWI.region (AR.go fun K hK => ?_)
      simp (disch := first | assumption | omega | (simp only [List.length_cons, List.length_nil, List.length_map, List.length_append, List.length_take, List.length_drop] <;> omega)) only [R0, R1, R2, R3, R4, R5, R6, R7, R8, M0, envOf_nil, envOf_cons, ↓reduceIte, reduceCtorEq, Nat.reduceEqDiff, Int.reduceEq, Int.reduceLT, Int.reduceLE, Nat.reduceAdd, Nat.reduceSub, Nat.reduceBEq, Nat.reduceLT]
      (refine hK _ _ (AR.keep2 [1, 2, 4, 54] [2, 1000] ?_); clear hK K; try simp only [keep2_mk, pickR_nil, pickR_cons, pickB_some, List.map_cons, List.map_nil, lk_nil, lk_cons, lkB_t, lkB_f, Nat.reduceBEq, Option.getD_some, Option.getD_none])
      refine AWI.region (AR.go fun K hK => ?_)
      simp (disch := first | assumption | omega | (simp only [List.length_cons, List.length_nil, List.length_map, List.length_append, List.length_take, List.length_drop] <;> omega)) only [R0, R1, R2, R3, R4, R5, R6, R7, R8, M0, envOf_nil, envOf_cons, ↓reduceIte, reduceCtorEq, Nat.reduceEqDiff, Int.reduceEq, Int.reduceLT, Int.reduceLE, Nat.reduceAdd, Nat.reduceSub, Nat.reduceBEq, Nat.reduceLT]
      (refine hK _ _ (AR.keep2 [1, 2, 4, 6] [2, 6, 1000] ?_); clear hK K; try simp only [keep2_mk, pickR_nil, pickR_cons, pickB_some, List.map_cons, List.map_nil, lk_nil, lk_cons, lkB_t, lkB_f, Nat.reduceBEq, Option.getD_some, Option.getD_none])
      have hw : isW c = true := by
        cases h : isW c with
        | true => rfl
        | false => rw [hcr, runLen_zero h] at hc2; omega
      rw [hcr, wordsL, dif_pos hw] at h3 h4
      rw [← hcr, List.drop_drop, Nat.add_assoc] at h3 h4
      refine ⟨(i + runLen isW (l.drop i), ws ++ [((l.drop i).take (runLen isW (l.drop i)), ((pos + i : Nat) : Int))]), ⟨by simp only; omega, by simp only [List.length_append, List.length_cons, List.length_nil]; omega, by simp only [h3, List.append_assoc, List.cons_append, List.nil_append], h4⟩, by simp only; omega, fun a w h => ?_⟩
      simpa [wT, Nat.add_sub_cancel_left] using h
    · have hc2 := of_decide_eq_false hc2
      have hw : isW c = false := by
        cases h : isW c with
        | false => rfl
        | true => rw [hcr] at hc2; have := runLen_pos (r := r) h; omega
      rw [hcr, wordsL, dif_neg (by rw [hw]; simp)] at h3 h4
      refine AWI.region (AR.go fun K hK => ?_)
      simp (disch := first | assumption | omega | (simp only [List.length_cons, List.length_nil, List.length_map, List.length_append, List.length_take, List.length_drop] <;> omega)) only [R0, R1, R2, R3, R4, R5, R6, R7, R8, M0, envOf_nil, envOf_cons, ↓reduceIte, reduceCtorEq, Nat.reduceEqDiff, Int.reduceEq, Int.reduceLT, Int.reduceLE, Nat.reduceAdd, Nat.reduceSub, Nat.reduceBEq, Nat.reduceLT]
      (refine hK _ _ ?_; refine AR.callE rfl (by first | exact .inl rfl | exact .inr ⟨_, _, rfl, rfl⟩) (by rw [hP]; exact blank) (by first | exact .inl rfl | exact .inr ⟨rfl, rfl⟩) ⟨_, rfl⟩ ?_; clear hK K; intro K hK)
      simp (disch := first | assumption | omega | (simp only [List.length_cons, List.length_nil, List.length_map, List.length_append, List.length_take, List.length_drop] <;> omega)) only [R0, R1, R2, R3, R4, R5, R6, R7, R8, M0, envOf_nil, envOf_cons, ↓reduceIte, reduceCtorEq, Nat.reduceEqDiff, Int.reduceEq, Int.reduceLT, Int.reduceLE, Nat.reduceAdd, Nat.reduceSub, Nat.reduceBEq, Nat.reduceLT]
      (refine hK _ _ (AR.keep2 [1, 2, 4, 6, 7, 39] [2, 6, 1000] ?_); clear hK K; try simp only [keep2_mk, pickR_nil, pickR_cons, pickB_some, List.map_cons, List.map_nil, lk_nil, lk_cons, lkB_t, lkB_f, Nat.reduceBEq, Option.getD_some, Option.getD_none])
      rw [hget]
      refine AWI.cond rfl (fun hc3 => ?_) fun hc3 => AWI.seq ?_
      · have hb : isB c = true := hc3
        rw [dif_pos hb] at h3 h4
        rw [← hcr, List.drop_drop, Nat.add_assoc] at h3 h4
        have hn := runLen_le isB (l.drop i)
        rw [List.length_drop] at hn
        have hn2 := runLen_pos (p := isB) (r := r) hb
        rw [← hcr] at hn2
        refine AWI.drawS (by rw [hP]; rfl) [(0, ⟨some 44, none, .load false 1 (.t 6)⟩, .cc)] [(1, ⟨some 45, none, .mv (.t 7)⟩, [0]), (2, ⟨some 46, none, .callv (.t 45) [(.f 29)]⟩, [0]), (3, ⟨some 47, none, .bin .add (.t 44) (.t 46)⟩, []), (4, ⟨none, none, .store 1 (.t 6) (.t 47)⟩, [])] (by kernel_rfl) (by kernel_rfl) (by kernel_rfl) rfl fun Γd hΓd K hK => ?_; have hP : Γd.P = _ := (congrArg Ctx.P hΓd).trans hP; try have hX : ∀ b, ¬ Γd.X b := by rw [hΓd]; exact hX
        simp (disch := first | assumption | omega | (simp only [List.length_cons, List.length_nil, List.length_map, List.length_append, List.length_take, List.length_drop] <;> omega)) only [R0, R1, R2, R3, R4, R5, R6, R7, R8, M0, envOf_nil, envOf_cons, ↓reduceIte, reduceCtorEq, Nat.reduceEqDiff, Int.reduceEq, Int.reduceLT, Int.reduceLE, Nat.reduceAdd, Nat.reduceSub, Nat.reduceBEq, Nat.reduceLT]
        (refine hK _ _ ?_; refine AR.callvE rfl rfl (by first | exact .inl rfl | exact .inr ⟨_, _, rfl, rfl⟩) (by rw [hP]; exact here (p := isB) (fun c => blank) (by omega) h1) (by first | exact .inl rfl | exact .inr ⟨rfl, rfl⟩) ⟨_, rfl⟩ ?_; clear hK K; intro K hK)
        simp (disch := first | assumption | omega | (simp only [List.length_cons, List.length_nil, List.length_map, List.length_append, List.length_take, List.length_drop] <;> omega)) only [R0, R1, R2, R3, R4, R5, R6, R7, R8, M0, envOf_nil, envOf_cons, ↓reduceIte, reduceCtorEq, Nat.reduceEqDiff, Int.reduceEq, Int.reduceLT, Int.reduceLE, Nat.reduceAdd, Nat.reduceSub, Nat.reduceBEq, Nat.reduceLT]
        (refine hK _ _ (AR.keep2 [1, 2, 4, 6] [2, 6, 1000] ?_); clear hK K; try simp only [keep2_mk, pickR_nil, pickR_cons, pickB_some, List.map_cons, List.map_nil, lk_nil, lk_cons, lkB_t, lkB_f, Nat.reduceBEq, Option.getD_some, Option.getD_none])
        refine AWI.seq ?_
        refine AWI.region (AR.go fun K hK => ?_)
        simp (disch := first | assumption | omega | (simp only [List.length_cons, List.length_nil, List.length_map, List.length_append, List.length_take, List.length_drop] <;> omega)) only [R0, R1, R2, R3, R4, R5, R6, R7, R8, M0, envOf_nil, envOf_cons, ↓reduceIte, reduceCtorEq, Nat.reduceEqDiff, Int.reduceEq, Int.reduceLT, Int.reduceLE, Nat.reduceAdd, Nat.reduceSub, Nat.reduceBEq, Nat.reduceLT]
        (refine hK _ _ (AR.keep2 [1, 2, 4, 54] [2, 1000] ?_); clear hK K; try simp only [keep2_mk, pickR_nil, pickR_cons, pickB_some, List.map_cons, List.map_nil, lk_nil, lk_cons, lkB_t, lkB_f, Nat.reduceBEq, Option.getD_some, Option.getD_none])
        refine AWI.region (AR.go fun K hK => ?_)
        simp (disch := first | assumption | omega | (simp only [List.length_cons, List.length_nil, List.length_map, List.length_append, List.length_take, List.length_drop] <;> omega)) only [R0, R1, R2, R3, R4, R5, R6, R7, R8, M0, envOf_nil, envOf_cons, ↓reduceIte, reduceCtorEq, Nat.reduceEqDiff, Int.reduceEq, Int.reduceLT, Int.reduceLE, Nat.reduceAdd, Nat.reduceSub, Nat.reduceBEq, Nat.reduceLT]
        (refine hK _ _ (AR.keep2 [1, 2, 4, 6] [2, 6, 1000] ?_); clear hK K; try simp only [keep2_mk, pickR_nil, pickR_cons, pickB_some, List.map_cons, List.map_nil, lk_nil, lk_cons, lkB_t, lkB_f, Nat.reduceBEq, Option.getD_some, Option.getD_none])
        exact ⟨(i + runLen isB (l.drop i), ws), ⟨by simp only; omega, by simp only; omega, h3, h4⟩, by simp only; omega, fun a w h => h⟩
      · have hb : isB c = false := hc3
        rw [dif_neg (by rw [hb]; simp)] at h3 h4
        refine AWI.region (AR.go fun K hK => ?_)
        simp (disch := first | assumption | omega | (simp only [List.length_cons, List.length_nil, List.length_map, List.length_append, List.length_take, List.length_drop] <;> omega)) only [R0, R1, R2, R3, R4, R5, R6, R7, R8, M0, envOf_nil, envOf_cons, ↓reduceIte, reduceCtorEq, Nat.reduceEqDiff, Int.reduceEq, Int.reduceLT, Int.reduceLE, Nat.reduceAdd, Nat.reduceSub, Nat.reduceBEq, Nat.reduceLT]
        (refine hK _ _ (AR.keep2 [1, 4, 6, 48] [6, 1000] ?_); clear hK K; try simp only [keep2_mk, pickR_nil, pickR_cons, pickB_some, List.map_cons, List.map_nil, lk_nil, lk_cons, lkB_t, lkB_f, Nat.reduceBEq, Option.getD_some, Option.getD_none])
        rw [hget]
        refine AWI.cond rfl (fun hc4 => AWI.seq ?_) fun hc4 => AWI.seq ?_
        · have hc4 := of_decide_eq_true hc4
          have e : c = 35 := UInt8.toNat_inj.1 (by simpa using Int.ofNat_inj.1 (by simpa using hc4))
          rw [if_pos e] at h3 h4
          have hR : wordsR pos l = (ws, -1) := by unfold wordsR; rw [h4, h3]; simp
          rw [hR]
          refine AWI.region (AR.go fun K hK => ?_)
          simp (disch := first | assumption | omega | (simp only [List.length_cons, List.length_nil, List.length_map, List.length_append, List.length_take, List.length_drop] <;> omega)) only [R0, R1, R2, R3, R4, R5, R6, R7, R8, M0, envOf_nil, envOf_cons, ↓reduceIte, reduceCtorEq, Nat.reduceEqDiff, Int.reduceEq, Int.reduceLT, Int.reduceLE, Nat.reduceAdd, Nat.reduceSub, Nat.reduceBEq, Nat.reduceLT]
          (refine hK _ _ (AR.keep2 [4, 5] [1000] ?_); clear hK K; try simp only [keep2_mk, pickR_nil, pickR_cons, pickB_some, List.map_cons, List.map_nil, lk_nil, lk_cons, lkB_t, lkB_f, Nat.reduceBEq, Option.getD_some, Option.getD_none])
          exact AWI.ret ⟨.inl rfl, _, fun _ _ h => h, rfl, rfl⟩
        · have hc4 := of_decide_eq_false hc4
          have e : c ≠ 35 := fun e => hc4 (by subst e; rfl)
          rw [if_neg e] at h3 h4
          have hR : wordsR pos l = ([], ((pos + i : Nat) : Int)) := by unfold wordsR; rw [h4]
          rw [hR]
          refine AWI.drawS (by rw [hP]; rfl) [(0, ⟨some 16, none, .mv (.t 1)⟩, .mv), (1, ⟨some 17, none, .load false 1 (.t 6)⟩, .cc), (2, ⟨some 18, none, .bin .add (.t 16) (.t 17)⟩, .cc)] [(3, ⟨some 4, none, .mv (.k (.slice none 0 0))⟩, [0, 1, 2]), (4, ⟨some 5, none, .mv (.t 18)⟩, [])] (by kernel_rfl) (by kernel_rfl) (by kernel_rfl) rfl fun Γd hΓd K hK => ?_; have hP : Γd.P = _ := (congrArg Ctx.P hΓd).trans hP; try have hX : ∀ b, ¬ Γd.X b := by rw [hΓd]; exact hX
          simp (disch := first | assumption | omega | (simp only [List.length_cons, List.length_nil, List.length_map, List.length_append, List.length_take, List.length_drop] <;> omega)) only [R0, R1, R2, R3, R4, R5, R6, R7, R8, M0, envOf_nil, envOf_cons, ↓reduceIte, reduceCtorEq, Nat.reduceEqDiff, Int.reduceEq, Int.reduceLT, Int.reduceLE, Nat.reduceAdd, Nat.reduceSub, Nat.reduceBEq, Nat.reduceLT]
          refine hK _ _ (AR.nilRow 4 1000 37 2 (by decide) ?_)
          clear hK K
          simp (disch := first | assumption | omega | (simp only [List.length_cons, List.length_nil, List.length_map, List.length_append, List.length_take, List.length_drop] <;> omega)) only [R0, R1, R2, R3, R4, R5, R6, R7, R8, M0, envOf_nil, envOf_cons, ↓reduceIte, reduceCtorEq, Nat.reduceEqDiff, Int.reduceEq, Int.reduceLT, Int.reduceLE, Nat.reduceAdd, Nat.reduceSub, Nat.reduceBEq, Nat.reduceLT]
          refine AR.go fun K hK => ?_
          simp (disch := first | assumption | omega | (simp only [List.length_cons, List.length_nil, List.length_map, List.length_append, List.length_take, List.length_drop] <;> omega)) only [R0, R1, R2, R3, R4, R5, R6, R7, R8, M0, envOf_nil, envOf_cons, ↓reduceIte, reduceCtorEq, Nat.reduceEqDiff, Int.reduceEq, Int.reduceLT, Int.reduceLE, Nat.reduceAdd, Nat.reduceSub, Nat.reduceBEq, Nat.reduceLT]
          (refine hK _ _ (AR.keep2 [4, 5] [1000] ?_); clear hK K; try simp only [keep2_mk, pickR_nil, pickR_cons, pickB_some, List.map_cons, List.map_nil, lk_nil, lk_cons, lkB_t, lkB_f, Nat.reduceBEq, Option.getD_some, Option.getD_none])
          exact AWI.ret ⟨.inl rfl, _, fun _ _ h => h, rfl, rfl⟩
  · have hc := of_decide_eq_false hc
    rw [List.drop_eq_nil_of_le (by omega), wordsL] at h3 h4
    have hR : wordsR pos l = (ws, -1) := by unfold wordsR; rw [h4, h3]; simp
    rw [hR]
    refine AWI.seq ?_
    refine AWI.region (AR.go fun K hK => ?_)
    simp (disch := first | assumption | omega | (simp only [List.length_cons, List.length_nil, List.length_map, List.length_append, List.length_take, List.length_drop] <;> omega)) only [R0, R1, R2, R3, R4, R5, R6, R7, R8, M0, envOf_nil, envOf_cons, ↓reduceIte, reduceCtorEq, Nat.reduceEqDiff, Int.reduceEq, Int.reduceLT, Int.reduceLE, Nat.reduceAdd, Nat.reduceSub, Nat.reduceBEq, Nat.reduceLT]
    (refine hK _ _ (AR.keep2 [4, 5] [1000] ?_); clear hK K; try simp only [keep2_mk, pickR_nil, pickR_cons, pickB_some, List.map_cons, List.map_nil, lk_nil, lk_cons, lkB_t, lkB_f, Nat.reduceBEq, Option.getD_some, Option.getD_none])
    exact AWI.ret ⟨.inl rfl, _, fun _ _ h => h, rfl, rfl⟩
/-- how many bytes stand ahead of the first byte 10 -/
def lineLen (l : List UInt8) : Nat := runLen (fun c => !(c == 10)) l
theorem lineLen_le (l : List UInt8) : lineLen l ≤ l.length := (List.takeWhile_prefix _).length_le
theorem indexByte_line (l : List UInt8) : Lib.indexByte l 10 = if lineLen l < l.length then (lineLen l : Int) else -1 := by
  induction l with
  | nil => rfl
  | cons c l ih =>
    unfold Lib.indexByte
    rw [ih]
    have hle := lineLen_le l
    unfold lineLen runLen at *
    rw [List.takeWhile_cons]
    cases h : (c == 10) with
    | true => simp
    | false =>
      simp only [Bool.not_false, if_true, List.length_cons, Bool.false_eq_true, if_false]
      generalize (List.takeWhile (fun c => !c == 10) l).length = n at *
      have hn : ((n : Int) == -1) = false := by rw [beq_eq_false_iff_ne]; omega
      by_cases h2 : n < l.length
      · rw [if_pos h2, if_pos (show n + 1 < l.length + 1 by omega), hn]
        simp
      · rw [if_neg h2, if_neg (show ¬ n + 1 < l.length + 1 by omega)]
        simp
theorem index31 {fr fr' : Bool} {l : List UInt8} : CtrE Try.prog 31 [.c (.t fr (.v (.string (bs l)))), (.c (.t fr' (.v (.string (bs [10])))))] (.c (.t true (.v (.int .i64 (if lineLen l < l.length then (lineLen l : Int) else -1))))) [] :=
  CtrE.of_calls (by kernel_rfl) rfl rfl fun w => by
    rw [← indexByte_line]
    exact (Try.stringslite_Index_one (bs l) 10 w).mono fun e w' ⟨h1, h2⟩ => ⟨by rw [h1]; simp [bs], by subst h2; exact RowKit.Below.refl _ _⟩
def cutAV (l : List UInt8) : AV := if lineLen l < l.length then
    .tup [.c (.t true (.v (.string (bs (l.take (lineLen l)))))), .c (.t true (.v (.string (bs (l.drop (lineLen l + 1)))))), .c (.t true (.v (.bool true)))]
  else .tup [.c (.t true (.v (.string (bs l)))), .c (.t true (.v (.string (bs [])))), .c (.t true (.v (.bool false)))]
theorem cut26 {fr fr' : Bool} {l : List UInt8} (hl : l.length ≤ 65536) : CtrE Try.prog 26 [.c (.t fr (.v (.string (bs l)))), .c (.t fr' (.v (.string (bs [10]))))] (cutAV l) [] := by
  refine fn26 (Nat.le_of_ble_eq_true rfl) fun Γ hP hn hX hm => ?_; have hgf := hm.1; unfold i26
  refine AWI.seq ?_
  (refine AWI.region (AR.go fun K hK => ?_); simp (disch := first | assumption | omega | (simp only [List.length_cons, List.length_nil, List.length_map, List.length_append, List.length_take, List.length_drop] <;> omega)) only [R0, R1, R2, R3, R4, R5, R6, R7, R8, M0, envOf_nil, envOf_cons, ↓reduceIte, reduceCtorEq, Nat.reduceEqDiff, Int.reduceEq, Int.reduceLT, Int.reduceLE, Nat.reduceAdd, Nat.reduceSub, Nat.reduceBEq, Nat.reduceLT]; (refine hK _ _ (AR.keep2 [0, 1] [] ?_); clear hK K; try simp only [keep2_mk, pickR_nil, pickR_cons, pickB_some, List.map_cons, List.map_nil, lk_nil, lk_cons, lkB_t, lkB_f, Nat.reduceBEq, Option.getD_some, Option.getD_none]))
  refine AWI.seq (AWI.seq ?_)
  refine AWI.region (AR.go fun K hK => ?_)
  simp (disch := first | assumption | omega | (simp only [List.length_cons, List.length_nil, List.length_map, List.length_append, List.length_take, List.length_drop] <;> omega)) only [R0, R1, R2, R3, R4, R5, R6, R7, R8, M0, envOf_nil, envOf_cons, ↓reduceIte, reduceCtorEq, Nat.reduceEqDiff, Int.reduceEq, Int.reduceLT, Int.reduceLE, Nat.reduceAdd, Nat.reduceSub, Nat.reduceBEq, Nat.reduceLT]
  (refine hK _ _ ?_; refine AR.callE rfl (by first | exact .inl rfl | exact .inr ⟨_, _, rfl, rfl⟩) (by rw [hP]; exact index31) (by first | exact .inl rfl | exact .inr ⟨rfl, rfl⟩) ⟨_, rfl⟩ ?_; clear hK K; intro K hK)
  simp (disch := first | assumption | omega | (simp only [List.length_cons, List.length_nil, List.length_map, List.length_append, List.length_take, List.length_drop] <;> omega)) only [R0, R1, R2, R3, R4, R5, R6, R7, R8, M0, envOf_nil, envOf_cons, ↓reduceIte, reduceCtorEq, Nat.reduceEqDiff, Int.reduceEq, Int.reduceLT, Int.reduceLE, Nat.reduceAdd, Nat.reduceSub, Nat.reduceBEq, Nat.reduceLT]
  (refine hK _ _ (AR.keep2 [0, 1, 7] [] ?_); clear hK K; try simp only [keep2_mk, pickR_nil, pickR_cons, pickB_some, List.map_cons, List.map_nil, lk_nil, lk_cons, lkB_t, lkB_f, Nat.reduceBEq, Option.getD_some, Option.getD_none])
  have hle := lineLen_le l
  by_cases h : lineLen l < l.length
  · rw [if_pos h]
    unfold cutAV
    rw [if_pos h]
    refine AWI.seq ?_
    (refine AWI.region (AR.go fun K hK => ?_); simp (disch := first | assumption | omega | (simp only [List.length_cons, List.length_nil, List.length_map, List.length_append, List.length_take, List.length_drop] <;> omega)) only [R0, R1, R2, R3, R4, R5, R6, R7, R8, M0, envOf_nil, envOf_cons, ↓reduceIte, reduceCtorEq, Nat.reduceEqDiff, Int.reduceEq, Int.reduceLT, Int.reduceLE, Nat.reduceAdd, Nat.reduceSub, Nat.reduceBEq, Nat.reduceLT]; (refine hK _ _ (AR.keep2 [0, 1, 7, 12] [] ?_); clear hK K; try simp only [keep2_mk, pickR_nil, pickR_cons, pickB_some, List.map_cons, List.map_nil, lk_nil, lk_cons, lkB_t, lkB_f, Nat.reduceBEq, Option.getD_some, Option.getD_none]))
    refine AWI.cond (b := true) rfl (fun _ => AWI.seq ?_) fun h => by cases h
    refine AWI.drawS (by rw [hP]; rfl) [(0, ⟨some 13, none, .mv (.t 0)⟩, .mv), (1, ⟨some 14, none, .mv (.t 7)⟩, .mv), (2, ⟨some 15, none, .slcS (.t 13) none (some (.t 14))⟩, .cc), (3, ⟨some 16, none, .mv (.t 0)⟩, .mv), (4, ⟨some 17, none, .mv (.t 7)⟩, .mv), (5, ⟨some 18, none, .mv (.t 1)⟩, .mv), (6, ⟨some 19, none, .len true (.t 18)⟩, .cc), (7, ⟨some 20, none, .bin .add (.t 17) (.t 19)⟩, .cc), (8, ⟨some 21, none, .slcS (.t 16) (some (.t 20)) none⟩, .cc), (9, ⟨some 4, none, .mv (.t 15)⟩, .mv), (10, ⟨some 5, none, .mv (.t 21)⟩, .mv), (11, ⟨some 6, none, .mv (.k (.bool true))⟩, .mv)] [] (by kernel_rfl) (by kernel_rfl) (by kernel_rfl) rfl fun Γd hΓd K hK => ?_; have hP : Γd.P = _ := (congrArg Ctx.P hΓd).trans hP; try have hX : ∀ b, ¬ Γd.X b := by rw [hΓd]; exact hX
    simp (disch := first | assumption | omega | (simp only [List.length_cons, List.length_nil, List.length_map, List.length_append, List.length_take, List.length_drop] <;> omega)) only [R0, R1, R2, R3, R4, R5, R6, R7, R8, M0, envOf_nil, envOf_cons, ↓reduceIte, reduceCtorEq, Nat.reduceEqDiff, Int.reduceEq, Int.reduceLT, Int.reduceLE, Nat.reduceAdd, Nat.reduceSub, Nat.reduceBEq, Nat.reduceLT]
    (refine hK _ _ (AR.keep2 [4, 5, 6] [] ?_); clear hK K; try simp only [keep2_mk, pickR_nil, pickR_cons, pickB_some, List.map_cons, List.map_nil, lk_nil, lk_cons, lkB_t, lkB_f, Nat.reduceBEq, Option.getD_some, Option.getD_none])
    exact AWI.ret ⟨.inl rfl, _, fun _ _ h => h.norm, rfl, rfl⟩
  · rw [if_neg h]
    unfold cutAV
    rw [if_neg h]
    refine AWI.seq ?_
    (refine AWI.region (AR.go fun K hK => ?_); simp (disch := first | assumption | omega | (simp only [List.length_cons, List.length_nil, List.length_map, List.length_append, List.length_take, List.length_drop] <;> omega)) only [R0, R1, R2, R3, R4, R5, R6, R7, R8, M0, envOf_nil, envOf_cons, ↓reduceIte, reduceCtorEq, Nat.reduceEqDiff, Int.reduceEq, Int.reduceLT, Int.reduceLE, Nat.reduceAdd, Nat.reduceSub, Nat.reduceBEq, Nat.reduceLT]; (refine hK _ _ (AR.keep2 [0, 1, 7, 12] [] ?_); clear hK K; try simp only [keep2_mk, pickR_nil, pickR_cons, pickB_some, List.map_cons, List.map_nil, lk_nil, lk_cons, lkB_t, lkB_f, Nat.reduceBEq, Option.getD_some, Option.getD_none]))
    refine AWI.cond rfl (fun h => by cases h) fun _ => AWI.skip (AWI.seq ?_)
    (refine AWI.region (AR.go fun K hK => ?_); simp (disch := first | assumption | omega | (simp only [List.length_cons, List.length_nil, List.length_map, List.length_append, List.length_take, List.length_drop] <;> omega)) only [R0, R1, R2, R3, R4, R5, R6, R7, R8, M0, envOf_nil, envOf_cons, ↓reduceIte, reduceCtorEq, Nat.reduceEqDiff, Int.reduceEq, Int.reduceLT, Int.reduceLE, Nat.reduceAdd, Nat.reduceSub, Nat.reduceBEq, Nat.reduceLT]; (refine hK _ _ (AR.keep2 [4, 5, 6] [] ?_); clear hK K; try simp only [keep2_mk, pickR_nil, pickR_cons, pickB_some, List.map_cons, List.map_nil, lk_nil, lk_cons, lkB_t, lkB_f, Nat.reduceBEq, Option.getD_some, Option.getD_none]))
    exact AWI.ret ⟨.inl rfl, _, fun _ _ h => h.norm, rfl, rfl⟩
theorem cut {fr fr' : Bool} {l : List UInt8} (hl : l.length ≤ 65536) : CtrE Try.prog 18 [.c (.t fr (.v (.string (bs l)))), .c (.t fr' (.v (.string (bs [10]))))] (cutAV l) [] := by
  have c := cut26 (fr := false) (fr' := false) hl
  unfold cutAV at *
  by_cases h : lineLen l < l.length
  · rw [if_pos h] at *
    refine fn18 (Nat.le_of_ble_eq_true rfl) fun Γ hP hn hX hm => ?_; have hgf := hm.1; unfold i18
    refine AWI.seq ?_
    (refine AWI.region (AR.go fun K hK => ?_); simp (disch := first | assumption | omega | (simp only [List.length_cons, List.length_nil, List.length_map, List.length_append, List.length_take, List.length_drop] <;> omega)) only [R0, R1, R2, R3, R4, R5, R6, R7, R8, M0, envOf_nil, envOf_cons, ↓reduceIte, reduceCtorEq, Nat.reduceEqDiff, Int.reduceEq, Int.reduceLT, Int.reduceLE, Nat.reduceAdd, Nat.reduceSub, Nat.reduceBEq, Nat.reduceLT]; (refine hK _ _ (AR.keep2 [0, 1] [] ?_); clear hK K; try simp only [keep2_mk, pickR_nil, pickR_cons, pickB_some, List.map_cons, List.map_nil, lk_nil, lk_cons, lkB_t, lkB_f, Nat.reduceBEq, Option.getD_some, Option.getD_none]))
    refine AWI.seq ?_
    refine AWI.region (AR.go fun K hK => ?_)
    simp (disch := first | assumption | omega | (simp only [List.length_cons, List.length_nil, List.length_map, List.length_append, List.length_take, List.length_drop] <;> omega)) only [R0, R1, R2, R3, R4, R5, R6, R7, R8, M0, envOf_nil, envOf_cons, ↓reduceIte, reduceCtorEq, Nat.reduceEqDiff, Int.reduceEq, Int.reduceLT, Int.reduceLE, Nat.reduceAdd, Nat.reduceSub, Nat.reduceBEq, Nat.reduceLT]
    (refine hK _ _ ?_; refine AR.callE rfl (by first | exact .inl rfl | exact .inr ⟨_, _, rfl, rfl⟩) (by rw [hP]; exact c) (by first | exact .inl rfl | exact .inr ⟨rfl, rfl⟩) ⟨_, rfl⟩ ?_; clear hK K; intro K hK)
    simp (disch := first | assumption | omega | (simp only [List.length_cons, List.length_nil, List.length_map, List.length_append, List.length_take, List.length_drop] <;> omega)) only [R0, R1, R2, R3, R4, R5, R6, R7, R8, M0, envOf_nil, envOf_cons, ↓reduceIte, reduceCtorEq, Nat.reduceEqDiff, Int.reduceEq, Int.reduceLT, Int.reduceLE, Nat.reduceAdd, Nat.reduceSub, Nat.reduceBEq, Nat.reduceLT]
    (refine hK _ _ (AR.keep2 [4, 5, 6] [] ?_); clear hK K; try simp only [keep2_mk, pickR_nil, pickR_cons, pickB_some, List.map_cons, List.map_nil, lk_nil, lk_cons, lkB_t, lkB_f, Nat.reduceBEq, Option.getD_some, Option.getD_none])
    exact AWI.ret ⟨.inl rfl, _, fun _ _ h => h.norm, rfl, rfl⟩
  · rw [if_neg h] at *
    refine fn18 (Nat.le_of_ble_eq_true rfl) fun Γ hP hn hX hm => ?_; have hgf := hm.1; unfold i18
    refine AWI.seq ?_
    (refine AWI.region (AR.go fun K hK => ?_); simp (disch := first | assumption | omega | (simp only [List.length_cons, List.length_nil, List.length_map, List.length_append, List.length_take, List.length_drop] <;> omega)) only [R0, R1, R2, R3, R4, R5, R6, R7, R8, M0, envOf_nil, envOf_cons, ↓reduceIte, reduceCtorEq, Nat.reduceEqDiff, Int.reduceEq, Int.reduceLT, Int.reduceLE, Nat.reduceAdd, Nat.reduceSub, Nat.reduceBEq, Nat.reduceLT]; (refine hK _ _ (AR.keep2 [0, 1] [] ?_); clear hK K; try simp only [keep2_mk, pickR_nil, pickR_cons, pickB_some, List.map_cons, List.map_nil, lk_nil, lk_cons, lkB_t, lkB_f, Nat.reduceBEq, Option.getD_some, Option.getD_none]))
    refine AWI.seq ?_
    refine AWI.region (AR.go fun K hK => ?_)
    simp (disch := first | assumption | omega | (simp only [List.length_cons, List.length_nil, List.length_map, List.length_append, List.length_take, List.length_drop] <;> omega)) only [R0, R1, R2, R3, R4, R5, R6, R7, R8, M0, envOf_nil, envOf_cons, ↓reduceIte, reduceCtorEq, Nat.reduceEqDiff, Int.reduceEq, Int.reduceLT, Int.reduceLE, Nat.reduceAdd, Nat.reduceSub, Nat.reduceBEq, Nat.reduceLT]
    (refine hK _ _ ?_; refine AR.callE rfl (by first | exact .inl rfl | exact .inr ⟨_, _, rfl, rfl⟩) (by rw [hP]; exact c) (by first | exact .inl rfl | exact .inr ⟨rfl, rfl⟩) ⟨_, rfl⟩ ?_; clear hK K; intro K hK)
    simp (disch := first | assumption | omega | (simp only [List.length_cons, List.length_nil, List.length_map, List.length_append, List.length_take, List.length_drop] <;> omega)) only [R0, R1, R2, R3, R4, R5, R6, R7, R8, M0, envOf_nil, envOf_cons, ↓reduceIte, reduceCtorEq, Nat.reduceEqDiff, Int.reduceEq, Int.reduceLT, Int.reduceLE, Nat.reduceAdd, Nat.reduceSub, Nat.reduceBEq, Nat.reduceLT]
    (refine hK _ _ (AR.keep2 [4, 5, 6] [] ?_); clear hK K; try simp only [keep2_mk, pickR_nil, pickR_cons, pickB_some, List.map_cons, List.map_nil, lk_nil, lk_cons, lkB_t, lkB_f, Nat.reduceBEq, Option.getD_some, Option.getD_none])
    exact AWI.ret ⟨.inl rfl, _, fun _ _ h => h.norm, rfl, rfl⟩
/-- what Cut answers, in one form -/
theorem cutAV_eq (l : List UInt8) : cutAV l = .tup [.c (.t true (.v (.string (bs (l.take (lineLen l)))))), .c (.t true (.v (.string (bs (l.drop (lineLen l + 1)))))), .c (.t true (.v (.bool (decide (lineLen l < l.length)))))] := by
  have := lineLen_le l
  unfold cutAV
  by_cases h : lineLen l < l.length
  · rw [if_pos h, decide_eq_true h]
  · rw [if_neg h, decide_eq_false h, List.take_of_length_le (by omega), List.drop_eq_nil_of_le (by omega)]
abbrev PLine := List (List UInt8 × Int) × Int
/-- a text's lines, which begins at a place; a bad byte's place -/
def linesF (pos : Nat) (l : List UInt8) : List PLine × Option Nat :=
  match wordsL pos (l.take (lineLen l)) with
  | (_, some b) => ([], some b)
  | (ws, none) =>
    if h : lineLen l < l.length then
      let q := linesF (pos + (lineLen l + 1)) (l.drop (lineLen l + 1))
      ((if ws = [] then [] else [(ws, (pos : Int))]) ++ q.1, q.2)
    else (if ws = [] then [] else [(ws, (pos : Int))], none)
termination_by l.length
decreasing_by simp only [List.length_drop]; omega
def linesR (l : List UInt8) : List PLine × Nat × Nat :=
  if 65536 < l.length then ([], 0, 3) else match (linesF 0 l).2 with
  | some b => ([], b, 70)
  | none => ((linesF 0 l).1, 0, 0)
def lT (x : PLine) : List T := [.sl 2 (x.1.map wT), .v (.int .i64 x.2)]
theorem lines {fr : Bool} {l : List UInt8} (hl : l.length ≤ 9223372036854775807) : CtrE Try.prog 9 [.c (.t fr (.v (.string (bs l))))]
    (.tup [.c (.row 1000 0 (linesR l).1.length), .c (.t true (.v (.int .i64 (linesR l).2.1))), .c (.t true (.v (.int .i64 (linesR l).2.2)))]) [(1000, .tr true 35 2 ((linesR l).1.map lT))] := by
  refine fn9 (Nat.le_of_ble_eq_true rfl) fun Γ hP hn hX hm => ?_; have hgf := hm.1; unfold i9
  refine AWI.seq ?_
  (refine AWI.region (AR.go fun K hK => ?_); simp (disch := first | assumption | omega | (simp only [List.length_cons, List.length_nil, List.length_map, List.length_append, List.length_take, List.length_drop] <;> omega)) only [R0, R1, R2, R3, R4, R5, R6, R7, R8, M0, envOf_nil, envOf_cons, ↓reduceIte, reduceCtorEq, Nat.reduceEqDiff, Int.reduceEq, Int.reduceLT, Int.reduceLE, Nat.reduceAdd, Nat.reduceSub, Nat.reduceBEq, Nat.reduceLT]; (refine hK _ _ (AR.keep2 [0, 2, 3] [] ?_); clear hK K; try simp only [keep2_mk, pickR_nil, pickR_cons, pickB_some, List.map_cons, List.map_nil, lk_nil, lk_cons, lkB_t, lkB_f, Nat.reduceBEq, Option.getD_some, Option.getD_none]))
  refine AWI.seq (AWI.seq ?_)
  (refine AWI.region (AR.go fun K hK => ?_); simp (disch := first | assumption | omega | (simp only [List.length_cons, List.length_nil, List.length_map, List.length_append, List.length_take, List.length_drop] <;> omega)) only [R0, R1, R2, R3, R4, R5, R6, R7, R8, M0, envOf_nil, envOf_cons, ↓reduceIte, reduceCtorEq, Nat.reduceEqDiff, Int.reduceEq, Int.reduceLT, Int.reduceLE, Nat.reduceAdd, Nat.reduceSub, Nat.reduceBEq, Nat.reduceLT]; (refine hK _ _ (AR.keep2 [0, 2, 3, 12] [] ?_); clear hK K; try simp only [keep2_mk, pickR_nil, pickR_cons, pickB_some, List.map_cons, List.map_nil, lk_nil, lk_cons, lkB_t, lkB_f, Nat.reduceBEq, Option.getD_some, Option.getD_none]))
  refine AWI.cond rfl (fun hc => AWI.seq ?_) fun hc => AWI.skip (AWI.seq (AWI.seq ?_))
  · have hc := of_decide_eq_true hc
    have hR : linesR l = ([], 0, 3) := if_pos (by omega)
    rw [hR]
    refine AWI.region (AR.go fun K hK => ?_)
    simp (disch := first | assumption | omega | (simp only [List.length_cons, List.length_nil, List.length_map, List.length_append, List.length_take, List.length_drop] <;> omega)) only [R0, R1, R2, R3, R4, R5, R6, R7, R8, M0, envOf_nil, envOf_cons, ↓reduceIte, reduceCtorEq, Nat.reduceEqDiff, Int.reduceEq, Int.reduceLT, Int.reduceLE, Nat.reduceAdd, Nat.reduceSub, Nat.reduceBEq, Nat.reduceLT]
    (refine hK _ _ (AR.nilRow 2 1000 35 2 (by decide) ?_); clear hK K; simp (disch := first | assumption | omega | (simp only [List.length_cons, List.length_nil, List.length_map, List.length_append, List.length_take, List.length_drop] <;> omega)) only [R0, R1, R2, R3, R4, R5, R6, R7, R8, M0, envOf_nil, envOf_cons, ↓reduceIte, reduceCtorEq, Nat.reduceEqDiff, Int.reduceEq, Int.reduceLT, Int.reduceLE, Nat.reduceAdd, Nat.reduceSub, Nat.reduceBEq, Nat.reduceLT]; refine AR.go fun K hK => ?_; simp (disch := first | assumption | omega | (simp only [List.length_cons, List.length_nil, List.length_map, List.length_append, List.length_take, List.length_drop] <;> omega)) only [R0, R1, R2, R3, R4, R5, R6, R7, R8, M0, envOf_nil, envOf_cons, ↓reduceIte, reduceCtorEq, Nat.reduceEqDiff, Int.reduceEq, Int.reduceLT, Int.reduceLE, Nat.reduceAdd, Nat.reduceSub, Nat.reduceBEq, Nat.reduceLT])
    (refine hK _ _ (AR.keep2 [2, 3, 4] [1000] ?_); clear hK K; try simp only [keep2_mk, pickR_nil, pickR_cons, pickB_some, List.map_cons, List.map_nil, lk_nil, lk_cons, lkB_t, lkB_f, Nat.reduceBEq, Option.getD_some, Option.getD_none])
    exact AWI.ret ⟨.inl rfl, _, fun _ _ h => h.norm, rfl, rfl⟩
  have hc := of_decide_eq_false hc
  refine AWI.region (AR.go fun K hK => ?_)
  simp (disch := first | assumption | omega | (simp only [List.length_cons, List.length_nil, List.length_map, List.length_append, List.length_take, List.length_drop] <;> omega)) only [R0, R1, R2, R3, R4, R5, R6, R7, R8, M0, envOf_nil, envOf_cons, ↓reduceIte, reduceCtorEq, Nat.reduceEqDiff, Int.reduceEq, Int.reduceLT, Int.reduceLE, Nat.reduceAdd, Nat.reduceSub, Nat.reduceBEq, Nat.reduceLT]
  (refine hK _ _ (AR.nilRow 2 1000 35 2 (by decide) ?_); clear hK K; simp (disch := first | assumption | omega | (simp only [List.length_cons, List.length_nil, List.length_map, List.length_append, List.length_take, List.length_drop] <;> omega)) only [R0, R1, R2, R3, R4, R5, R6, R7, R8, M0, envOf_nil, envOf_cons, ↓reduceIte, reduceCtorEq, Nat.reduceEqDiff, Int.reduceEq, Int.reduceLT, Int.reduceLE, Nat.reduceAdd, Nat.reduceSub, Nat.reduceBEq, Nat.reduceLT]; refine AR.go fun K hK => ?_; simp (disch := first | assumption | omega | (simp only [List.length_cons, List.length_nil, List.length_map, List.length_append, List.length_take, List.length_drop] <;> omega)) only [R0, R1, R2, R3, R4, R5, R6, R7, R8, M0, envOf_nil, envOf_cons, ↓reduceIte, reduceCtorEq, Nat.reduceEqDiff, Int.reduceEq, Int.reduceLT, Int.reduceLE, Nat.reduceAdd, Nat.reduceSub, Nat.reduceBEq, Nat.reduceLT])
  (refine hK _ _ (AR.keep2 [0, 2, 3, 5] [1000] ?_); clear hK K; try simp only [keep2_mk, pickR_nil, pickR_cons, pickB_some, List.map_cons, List.map_nil, lk_nil, lk_cons, lkB_t, lkB_f, Nat.reduceBEq, Option.getD_some, Option.getD_none])
  have hl : l.length ≤ 65536 := by omega
  refine AWI.block (AWI.loop (α := Nat × List UInt8 × List PLine × Bool)
    (fun x => x.2.2.1.length ≤ x.1 ∧ (x.2.2.2 = true → x.1 + x.2.1.length ≤ l.length) ∧ x.1 ≤ l.length + 1 ∧
      linesF 0 l = (x.2.2.1 ++ (if x.2.2.2 = true then linesF x.1 x.2.1 else ([], none)).1, (if x.2.2.2 = true then linesF x.1 x.2.1 else ([], none)).2))
    (fun x => ⟨[(0, .c (.t true (.v (.string (bs x.2.1))))), (2, .c (.row 1000 0 x.2.2.1.length)), (3, .c (.t true (.v (.int .i64 x.1)))), (5, .c (.t true (.v (.bool x.2.2.2))))],
      [(1000, .tr true 35 2 (x.2.2.1.map lT))]⟩) (fun x => if x.2.2.2 = true then x.2.1.length + 1 else 0) (0, l, [], true) (by simp [hl]) (fun _ _ h => h.norm) fun x hx => ?_)
  obtain ⟨pos, rest, ls, more⟩ := x
  obtain ⟨h1, h2, h3, h4⟩ := hx
  simp only at h1 h2 h3 h4
  have hlen : ls.length = (ls.map lT).length := (List.length_map ..).symm
  refine AWI.seq (AWI.seq ?_)
  (refine AWI.region (AR.go fun K hK => ?_); simp (disch := first | assumption | omega | (simp only [List.length_cons, List.length_nil, List.length_map, List.length_append, List.length_take, List.length_drop] <;> omega)) only [R0, R1, R2, R3, R4, R5, R6, R7, R8, M0, envOf_nil, envOf_cons, ↓reduceIte, reduceCtorEq, Nat.reduceEqDiff, Int.reduceEq, Int.reduceLT, Int.reduceLE, Nat.reduceAdd, Nat.reduceSub, Nat.reduceBEq, Nat.reduceLT]; (refine hK _ _ (AR.keep2 [0, 2, 3, 13] [1000] ?_); clear hK K; try simp only [keep2_mk, pickR_nil, pickR_cons, pickB_some, List.map_cons, List.map_nil, lk_nil, lk_cons, lkB_t, lkB_f, Nat.reduceBEq, Option.getD_some, Option.getD_none]))
  refine AWI.cond rfl (fun hc => AWI.skip (AWI.block (AWI.seq ?_))) fun hc => AWI.exit (AWI.seq ?_)
  · subst hc
    have h2 := h2 rfl
    simp only [if_true] at h4
    have hle := lineLen_le rest
    (refine AWI.region (AR.go fun K hK => ?_); simp (disch := first | assumption | omega | (simp only [List.length_cons, List.length_nil, List.length_map, List.length_append, List.length_take, List.length_drop] <;> omega)) only [R0, R1, R2, R3, R4, R5, R6, R7, R8, M0, envOf_nil, envOf_cons, ↓reduceIte, reduceCtorEq, Nat.reduceEqDiff, Int.reduceEq, Int.reduceLT, Int.reduceLE, Nat.reduceAdd, Nat.reduceSub, Nat.reduceBEq, Nat.reduceLT]; (refine hK _ _ (AR.keep2 [0, 2, 3] [1000] ?_); clear hK K; try simp only [keep2_mk, pickR_nil, pickR_cons, pickB_some, List.map_cons, List.map_nil, lk_nil, lk_cons, lkB_t, lkB_f, Nat.reduceBEq, Option.getD_some, Option.getD_none]))
    refine AWI.seq ?_
    (refine AWI.region (AR.go fun K hK => ?_); simp (disch := first | assumption | omega | (simp only [List.length_cons, List.length_nil, List.length_map, List.length_append, List.length_take, List.length_drop] <;> omega)) only [R0, R1, R2, R3, R4, R5, R6, R7, R8, M0, envOf_nil, envOf_cons, ↓reduceIte, reduceCtorEq, Nat.reduceEqDiff, Int.reduceEq, Int.reduceLT, Int.reduceLE, Nat.reduceAdd, Nat.reduceSub, Nat.reduceBEq, Nat.reduceLT]; (refine hK _ _ (AR.keep2 [0, 2, 3, 7] [1000] ?_); clear hK K; try simp only [keep2_mk, pickR_nil, pickR_cons, pickB_some, List.map_cons, List.map_nil, lk_nil, lk_cons, lkB_t, lkB_f, Nat.reduceBEq, Option.getD_some, Option.getD_none]))
    refine AWI.seq ?_
    refine AWI.region (AR.go fun K hK => ?_)
    simp (disch := first | assumption | omega | (simp only [List.length_cons, List.length_nil, List.length_map, List.length_append, List.length_take, List.length_drop] <;> omega)) only [R0, R1, R2, R3, R4, R5, R6, R7, R8, M0, envOf_nil, envOf_cons, ↓reduceIte, reduceCtorEq, Nat.reduceEqDiff, Int.reduceEq, Int.reduceLT, Int.reduceLE, Nat.reduceAdd, Nat.reduceSub, Nat.reduceBEq, Nat.reduceLT]
    (refine hK _ _ ?_; refine AR.callE rfl (by first | exact .inl rfl | exact .inr ⟨_, _, rfl, rfl⟩) (by rw [hP]; exact cut (l := rest) (by omega)) (by first | exact .inl rfl | exact .inr ⟨rfl, rfl⟩) ⟨_, rfl⟩ ?_; clear hK K; intro K hK)
    simp (disch := first | assumption | omega | (simp only [List.length_cons, List.length_nil, List.length_map, List.length_append, List.length_take, List.length_drop] <;> omega)) only [R0, R1, R2, R3, R4, R5, R6, R7, R8, M0, envOf_nil, envOf_cons, ↓reduceIte, reduceCtorEq, Nat.reduceEqDiff, Int.reduceEq, Int.reduceLT, Int.reduceLE, Nat.reduceAdd, Nat.reduceSub, Nat.reduceBEq, Nat.reduceLT, cutAV_eq]
    (refine hK _ _ (AR.keep2 [0, 2, 3, 5, 6, 7] [1000] ?_); clear hK K; try simp only [keep2_mk, pickR_nil, pickR_cons, pickB_some, List.map_cons, List.map_nil, lk_nil, lk_cons, lkB_t, lkB_f, Nat.reduceBEq, Option.getD_some, Option.getD_none])
    refine AWI.seq ?_
    refine AWI.region (AR.go fun K hK => ?_)
    simp (disch := first | assumption | omega | (simp only [List.length_cons, List.length_nil, List.length_map, List.length_append, List.length_take, List.length_drop] <;> omega)) only [R0, R1, R2, R3, R4, R5, R6, R7, R8, M0, envOf_nil, envOf_cons, ↓reduceIte, reduceCtorEq, Nat.reduceEqDiff, Int.reduceEq, Int.reduceLT, Int.reduceLE, Nat.reduceAdd, Nat.reduceSub, Nat.reduceBEq, Nat.reduceLT, List.length_take, Nat.min_eq_left]
    (refine hK _ _ (AR.keep2 [0, 2, 3, 5, 6, 7] [1000] ?_); clear hK K; try simp only [keep2_mk, pickR_nil, pickR_cons, pickB_some, List.map_cons, List.map_nil, lk_nil, lk_cons, lkB_t, lkB_f, Nat.reduceBEq, Option.getD_some, Option.getD_none])
    refine AWI.seq ?_
    refine AWI.region (AR.go fun K hK => ?_)
    simp (disch := first | assumption | omega | (simp only [List.length_cons, List.length_nil, List.length_map, List.length_append, List.length_take, List.length_drop] <;> omega)) only [R0, R1, R2, R3, R4, R5, R6, R7, R8, M0, envOf_nil, envOf_cons, ↓reduceIte, reduceCtorEq, Nat.reduceEqDiff, Int.reduceEq, Int.reduceLT, Int.reduceLE, Nat.reduceAdd, Nat.reduceSub, Nat.reduceBEq, Nat.reduceLT]
    (refine hK _ _ ?_; refine AR.callE rfl (by first | exact .inl rfl | exact .inr ⟨_, _, rfl, rfl⟩) (by rw [hP]; exact words (l := rest.take (lineLen rest)) (pos := pos) (by rw [List.length_take]; omega) (by omega)) (by first | exact .inl rfl | exact .inr ⟨rfl, rfl⟩) ⟨_, rfl⟩ ?_; clear hK K; intro K hK)
    simp (disch := first | assumption | omega | (simp only [List.length_cons, List.length_nil, List.length_map, List.length_append, List.length_take, List.length_drop] <;> omega)) only [R0, R1, R2, R3, R4, R5, R6, R7, R8, M0, envOf_nil, envOf_cons, ↓reduceIte, reduceCtorEq, Nat.reduceEqDiff, Int.reduceEq, Int.reduceLT, Int.reduceLE, Nat.reduceAdd, Nat.reduceSub, Nat.reduceBEq, Nat.reduceLT]
    (refine hK _ _ (AR.frz hX 29 ?_); clear hK K; simp (disch := first | assumption | omega | (simp only [List.length_cons, List.length_nil, List.length_map, List.length_append, List.length_take, List.length_drop] <;> omega)) only [R0, R1, R2, R3, R4, R5, R6, R7, R8, M0, envOf_nil, envOf_cons, ↓reduceIte, reduceCtorEq, Nat.reduceEqDiff, Int.reduceEq, Int.reduceLT, Int.reduceLE, Nat.reduceAdd, Nat.reduceSub, Nat.reduceBEq, Nat.reduceLT]; refine AR.go fun K hK => ?_; simp (disch := first | assumption | omega | (simp only [List.length_cons, List.length_nil, List.length_map, List.length_append, List.length_take, List.length_drop] <;> omega)) only [R0, R1, R2, R3, R4, R5, R6, R7, R8, M0, envOf_nil, envOf_cons, ↓reduceIte, reduceCtorEq, Nat.reduceEqDiff, Int.reduceEq, Int.reduceLT, Int.reduceLE, Nat.reduceAdd, Nat.reduceSub, Nat.reduceBEq, Nat.reduceLT])
    (refine hK _ _ (AR.keep2 [0, 2, 3, 5, 7, 8, 9] [1000] ?_); clear hK K; try simp only [keep2_mk, pickR_nil, pickR_cons, pickB_some, List.map_cons, List.map_nil, lk_nil, lk_cons, lkB_t, lkB_f, Nat.reduceBEq, Option.getD_some, Option.getD_none])
    cases hw : wordsL pos (rest.take (lineLen rest)) with
    | mk ws o =>
    cases o with
    | some b =>
      have hw2 : wordsR pos (rest.take (lineLen rest)) = ([], (b : Int)) := by unfold wordsR; rw [hw]
      have hF : linesF pos rest = ([], some b) := by rw [linesF]; simp only [hw]
      have hR : linesR l = ([], b, 70) := by unfold linesR; rw [if_neg (by omega), h4, hF]
      rw [hw2, hR]
      refine AWI.seq (AWI.seq ?_)
      (refine AWI.region (AR.go fun K hK => ?_); simp (disch := first | assumption | omega | (simp only [List.length_cons, List.length_nil, List.length_map, List.length_append, List.length_take, List.length_drop] <;> omega)) only [R0, R1, R2, R3, R4, R5, R6, R7, R8, M0, envOf_nil, envOf_cons, ↓reduceIte, reduceCtorEq, Nat.reduceEqDiff, Int.reduceEq, Int.reduceLT, Int.reduceLE, Nat.reduceAdd, Nat.reduceSub, Nat.reduceBEq, Nat.reduceLT]; (refine hK _ _ (AR.keep2 [0, 2, 3, 5, 7, 8, 9, 33] [1000] ?_); clear hK K; try simp only [keep2_mk, pickR_nil, pickR_cons, pickB_some, List.map_cons, List.map_nil, lk_nil, lk_cons, lkB_t, lkB_f, Nat.reduceBEq, Option.getD_some, Option.getD_none]))
      refine AWI.cond (b := true) rfl (fun _ => AWI.seq ?_) fun h => by cases h
      refine AWI.region (AR.go fun K hK => ?_)
      simp (disch := first | assumption | omega | (simp only [List.length_cons, List.length_nil, List.length_map, List.length_append, List.length_take, List.length_drop] <;> omega)) only [R0, R1, R2, R3, R4, R5, R6, R7, R8, M0, envOf_nil, envOf_cons, ↓reduceIte, reduceCtorEq, Nat.reduceEqDiff, Int.reduceEq, Int.reduceLT, Int.reduceLE, Nat.reduceAdd, Nat.reduceSub, Nat.reduceBEq, Nat.reduceLT]
      (refine hK _ _ (AR.nilRow 2 1000 35 2 (by decide) ?_); clear hK K; simp (disch := first | assumption | omega | (simp only [List.length_cons, List.length_nil, List.length_map, List.length_append, List.length_take, List.length_drop] <;> omega)) only [R0, R1, R2, R3, R4, R5, R6, R7, R8, M0, envOf_nil, envOf_cons, ↓reduceIte, reduceCtorEq, Nat.reduceEqDiff, Int.reduceEq, Int.reduceLT, Int.reduceLE, Nat.reduceAdd, Nat.reduceSub, Nat.reduceBEq, Nat.reduceLT]; refine AR.go fun K hK => ?_; simp (disch := first | assumption | omega | (simp only [List.length_cons, List.length_nil, List.length_map, List.length_append, List.length_take, List.length_drop] <;> omega)) only [R0, R1, R2, R3, R4, R5, R6, R7, R8, M0, envOf_nil, envOf_cons, ↓reduceIte, reduceCtorEq, Nat.reduceEqDiff, Int.reduceEq, Int.reduceLT, Int.reduceLE, Nat.reduceAdd, Nat.reduceSub, Nat.reduceBEq, Nat.reduceLT])
      (refine hK _ _ (AR.keep2 [2, 3, 4] [1000] ?_); clear hK K; try simp only [keep2_mk, pickR_nil, pickR_cons, pickB_some, List.map_cons, List.map_nil, lk_nil, lk_cons, lkB_t, lkB_f, Nat.reduceBEq, Option.getD_some, Option.getD_none])
      exact AWI.ret ⟨.inl rfl, _, fun _ _ h => h.norm, rfl, rfl⟩
    | none =>
      have hw2 : wordsR pos (rest.take (lineLen rest)) = (ws, -1) := by unfold wordsR; rw [hw]
      rw [hw2]
      refine AWI.seq (AWI.seq ?_)
      (refine AWI.region (AR.go fun K hK => ?_); simp (disch := first | assumption | omega | (simp only [List.length_cons, List.length_nil, List.length_map, List.length_append, List.length_take, List.length_drop] <;> omega)) only [R0, R1, R2, R3, R4, R5, R6, R7, R8, M0, envOf_nil, envOf_cons, ↓reduceIte, reduceCtorEq, Nat.reduceEqDiff, Int.reduceEq, Int.reduceLT, Int.reduceLE, Nat.reduceAdd, Nat.reduceSub, Nat.reduceBEq, Nat.reduceLT]; (refine hK _ _ (AR.keep2 [0, 2, 3, 5, 7, 8, 9, 33] [1000] ?_); clear hK K; try simp only [keep2_mk, pickR_nil, pickR_cons, pickB_some, List.map_cons, List.map_nil, lk_nil, lk_cons, lkB_t, lkB_f, Nat.reduceBEq, Option.getD_some, Option.getD_none]))
      refine AWI.cond (b := false) rfl (fun h => by cases h) fun _ => AWI.skip (AWI.seq ?_)
      (refine AWI.region (AR.go fun K hK => ?_); simp (disch := first | assumption | omega | (simp only [List.length_cons, List.length_nil, List.length_map, List.length_append, List.length_take, List.length_drop] <;> omega)) only [R0, R1, R2, R3, R4, R5, R6, R7, R8, M0, envOf_nil, envOf_cons, ↓reduceIte, reduceCtorEq, Nat.reduceEqDiff, Int.reduceEq, Int.reduceLT, Int.reduceLE, Nat.reduceAdd, Nat.reduceSub, Nat.reduceBEq, Nat.reduceLT]; (refine hK _ _ (AR.keep2 [0, 2, 3, 5, 7, 8, 37] [1000] ?_); clear hK K; try simp only [keep2_mk, pickR_nil, pickR_cons, pickB_some, List.map_cons, List.map_nil, lk_nil, lk_cons, lkB_t, lkB_f, Nat.reduceBEq, Option.getD_some, Option.getD_none]))
      have hF : linesF pos rest = if lineLen rest < rest.length then ((if ws = [] then [] else [(ws, (pos : Int))]) ++ (linesF (pos + (lineLen rest + 1)) (rest.drop (lineLen rest + 1))).1, (linesF (pos + (lineLen rest + 1)) (rest.drop (lineLen rest + 1))).2)
          else (if ws = [] then [] else [(ws, (pos : Int))], none) := by rw [linesF]; simp only [hw]; by_cases h : lineLen rest < rest.length <;> simp [h]
      have hfin : ∀ ls', ls' = ls ++ (if ws = [] then [] else [(ws, (pos : Int))]) → ls'.length ≤ pos + (lineLen rest + 1) ∧ (decide (lineLen rest < rest.length) = true → pos + (lineLen rest + 1) + (rest.drop (lineLen rest + 1)).length ≤ l.length) ∧ pos + (lineLen rest + 1) ≤ l.length + 1 ∧
          linesF 0 l = (ls' ++ (if decide (lineLen rest < rest.length) = true then linesF (pos + (lineLen rest + 1)) (rest.drop (lineLen rest + 1)) else ([], none)).1, (if decide (lineLen rest < rest.length) = true then linesF (pos + (lineLen rest + 1)) (rest.drop (lineLen rest + 1)) else ([], none)).2) := by
        intro ls' e
        subst e
        refine ⟨?_, fun h => ?_, by omega, ?_⟩
        · rw [List.length_append]; split <;> simp only [List.length_cons, List.length_nil] <;> omega
        · have := of_decide_eq_true h; rw [List.length_drop]; omega
        · rw [h4, hF]
          by_cases h : lineLen rest < rest.length
          · simp [h]
          · simp [h]
      have hμ : (if decide (lineLen rest < rest.length) = true then (rest.drop (lineLen rest + 1)).length + 1 else 0) < rest.length + 1 := by
        split
        · rename_i h; have := of_decide_eq_true h; rw [List.length_drop]; omega
        · omega
      refine AWI.cond rfl (fun hc => ?_) fun hc => AWI.skip ?_
      · have hne : ws ≠ [] := by
          have := of_decide_eq_true hc
          intro e; subst e; simp at this
        rw [if_neg hne] at hfin
        (refine AWI.region (AR.go fun K hK => ?_); simp (disch := first | assumption | omega | (simp only [List.length_cons, List.length_nil, List.length_map, List.length_append, List.length_take, List.length_drop] <;> omega)) only [R0, R1, R2, R3, R4, R5, R6, R7, R8, M0, envOf_nil, envOf_cons, ↓reduceIte, reduceCtorEq, Nat.reduceEqDiff, Int.reduceEq, Int.reduceLT, Int.reduceLE, Nat.reduceAdd, Nat.reduceSub, Nat.reduceBEq, Nat.reduceLT]; (refine hK _ _ (AR.keep2 [0, 2, 3, 5] [1000] ?_); clear hK K; try simp only [keep2_mk, pickR_nil, pickR_cons, pickB_some, List.map_cons, List.map_nil, lk_nil, lk_cons, lkB_t, lkB_f, Nat.reduceBEq, Option.getD_some, Option.getD_none]))
        exact ⟨(pos + (lineLen rest + 1), rest.drop (lineLen rest + 1), ls ++ [(ws, (pos : Int))], decide (lineLen rest < rest.length)), hfin _ rfl, hμ, fun a w h => by simpa [lT] using h⟩
      · have he : ws = [] := by
          have := of_decide_eq_false hc
          cases ws with
          | nil => rfl
          | cons a b => simp at this
        rw [if_pos he, List.append_nil] at hfin
        refine ⟨(pos + (lineLen rest + 1), rest.drop (lineLen rest + 1), ls, decide (lineLen rest < rest.length)), hfin _ rfl, hμ, fun a w h => ?_⟩
        exact h.keep2 [0, 2, 3, 5] [1000]
  · subst hc
    simp only [Bool.false_eq_true, if_false, List.append_nil] at h4
    have hR : linesR l = (ls, 0, 0) := by unfold linesR; rw [if_neg (by omega), h4]
    rw [hR]
    (refine AWI.region (AR.go fun K hK => ?_); simp (disch := first | assumption | omega | (simp only [List.length_cons, List.length_nil, List.length_map, List.length_append, List.length_take, List.length_drop] <;> omega)) only [R0, R1, R2, R3, R4, R5, R6, R7, R8, M0, envOf_nil, envOf_cons, ↓reduceIte, reduceCtorEq, Nat.reduceEqDiff, Int.reduceEq, Int.reduceLT, Int.reduceLE, Nat.reduceAdd, Nat.reduceSub, Nat.reduceBEq, Nat.reduceLT]; (refine hK _ _ (AR.keep2 [2, 3, 4] [1000] ?_); clear hK K; try simp only [keep2_mk, pickR_nil, pickR_cons, pickB_some, List.map_cons, List.map_nil, lk_nil, lk_cons, lkB_t, lkB_f, Nat.reduceBEq, Option.getD_some, Option.getD_none]))
    exact AWI.ret ⟨.inl rfl, _, fun _ _ h => h.norm, rfl, rfl⟩
end Go.Proofs.Ytnealepilmobjaa
