/- Are two rows of lines the same? -/
import Derived.Test.YtnealepilmobjaaIC
import Derived.Test.YtnealepilmobjaaFunB
set_option linter.unusedVariables false
set_option linter.unusedSimpArgs false
set_option maxRecDepth 100000
namespace Go.Proofs.Ytnealepilmobjaa
open Go.Eng
/-- a word, a line, with no places if so told -/
def nW (p : Bool) (w : List UInt8 × Int) : List UInt8 × Int := (w.1, if p = true then w.2 else 0)
def nL (p : Bool) (x : PLine) : PLine := (x.1.map (nW p), if p = true then x.2 else 0)
theorem map_ne_of_get {α β : Type} (f : α → β) {a b : List α} {i : Nat} (ha : i < a.length) (hb : i < b.length) (h : f a[i] ≠ f b[i]) : a.map f ≠ b.map f := by
  intro e
  have := congrArg (fun l => l[i]?) e
  simp [ha, hb] at this
  exact h this
theorem map_take_succ {α β : Type} (f : α → β) {a b : List α} {i : Nat} (ha : i < a.length) (hb : i < b.length) (h : (a.take i).map f = (b.take i).map f) (h2 : f a[i] = f b[i]) : (a.take (i + 1)).map f = (b.take (i + 1)).map f := by
  rw [take_succ_map f a i ha, take_succ_map f b i hb, h, h2]
theorem same {fa fb fp : Bool} {us vs : List PLine} {p : Bool} (hla : us.length ≤ 4611686018427387904) (hlb : vs.length ≤ 4611686018427387904) (hwa : ∀ x ∈ us, x.1.length ≤ 4611686018427387904) (hwb : ∀ x ∈ vs, x.1.length ≤ 4611686018427387904) :
    CtrE Try.prog 11 [.c (.t fa (.sl 2 (us.map lT))), .c (.t fb (.sl 2 (vs.map lT))), .c (.t fp (.v (.bool p)))]
    (.c (.t true (.v (.bool (decide (us.map (nL p) = vs.map (nL p))))))) [] := by
  refine fn11 (Nat.le_of_ble_eq_true rfl) fun Γ hP hn hX => ?_; unfold i11
  refine AWI.seq ?_
  (refine AWI.region (AR.go fun K hK => ?_); simp (disch := first | assumption | omega | (simp only [List.length_cons, List.length_nil, List.length_map, List.length_append, List.length_take, List.length_drop] <;> omega)) only [R0, R1, R2, R3, R4, R5, R6, R7, R8, envOf_nil, envOf_cons, ↓reduceIte, reduceCtorEq, Nat.reduceEqDiff, Int.reduceEq, Int.reduceLT, Int.reduceLE, Nat.reduceAdd, Nat.reduceSub, Nat.reduceBEq]; (refine hK _ _ (AR.keep2 [0, 1, 2] [] ?_); clear hK K; try simp only [keep2_mk, pickR_nil, pickR_cons, pickB_some, List.map_cons, List.map_nil, lk_nil, lk_cons, lkB_t, lkB_f, Nat.reduceBEq, Option.getD_some, Option.getD_none]))
  refine AWI.seq (AWI.seq ?_)
  (refine AWI.region (AR.go fun K hK => ?_); simp (disch := first | assumption | omega | (simp only [List.length_cons, List.length_nil, List.length_map, List.length_append, List.length_take, List.length_drop] <;> omega)) only [R0, R1, R2, R3, R4, R5, R6, R7, R8, envOf_nil, envOf_cons, ↓reduceIte, reduceCtorEq, Nat.reduceEqDiff, Int.reduceEq, Int.reduceLT, Int.reduceLE, Nat.reduceAdd, Nat.reduceSub, Nat.reduceBEq]; (refine hK _ _ (AR.keep2 [0, 1, 2, 13] [] ?_); clear hK K; try simp only [keep2_mk, pickR_nil, pickR_cons, pickB_some, List.map_cons, List.map_nil, lk_nil, lk_cons, lkB_t, lkB_f, Nat.reduceBEq, Option.getD_some, Option.getD_none]))
  refine AWI.cond rfl (fun hc => AWI.seq ?_) fun hc => AWI.skip (AWI.seq (AWI.seq ?_))
  · have hc : us.length ≠ vs.length := by simpa using hc
    have hR : decide (us.map (nL p) = vs.map (nL p)) = false := decide_eq_false fun e => hc (by simpa using congrArg List.length e)
    rw [hR]
    (refine AWI.region (AR.go fun K hK => ?_); simp (disch := first | assumption | omega | (simp only [List.length_cons, List.length_nil, List.length_map, List.length_append, List.length_take, List.length_drop] <;> omega)) only [R0, R1, R2, R3, R4, R5, R6, R7, R8, envOf_nil, envOf_cons, ↓reduceIte, reduceCtorEq, Nat.reduceEqDiff, Int.reduceEq, Int.reduceLT, Int.reduceLE, Nat.reduceAdd, Nat.reduceSub, Nat.reduceBEq]; (refine hK _ _ (AR.keep2 [6] [] ?_); clear hK K; try simp only [keep2_mk, pickR_nil, pickR_cons, pickB_some, List.map_cons, List.map_nil, lk_nil, lk_cons, lkB_t, lkB_f, Nat.reduceBEq, Option.getD_some, Option.getD_none]))
    exact AWI.ret ⟨.inl rfl, _, fun _ _ h => h.norm, rfl, rfl⟩
  have hc : us.length = vs.length := by simpa using hc
  (refine AWI.region (AR.go fun K hK => ?_); simp (disch := first | assumption | omega | (simp only [List.length_cons, List.length_nil, List.length_map, List.length_append, List.length_take, List.length_drop] <;> omega)) only [R0, R1, R2, R3, R4, R5, R6, R7, R8, envOf_nil, envOf_cons, ↓reduceIte, reduceCtorEq, Nat.reduceEqDiff, Int.reduceEq, Int.reduceLT, Int.reduceLE, Nat.reduceAdd, Nat.reduceSub, Nat.reduceBEq]; (refine hK _ _ (AR.keep2 [0, 1, 2, 7] [] ?_); clear hK K; try simp only [keep2_mk, pickR_nil, pickR_cons, pickB_some, List.map_cons, List.map_nil, lk_nil, lk_cons, lkB_t, lkB_f, Nat.reduceBEq, Option.getD_some, Option.getD_none]))
  refine AWI.block (AWI.loop (α := Nat) (fun i => i ≤ us.length ∧ (us.take i).map (nL p) = (vs.take i).map (nL p))
    (fun i => ⟨[(0, .c (.t fa (.sl 2 (us.map lT)))), (1, .c (.t fb (.sl 2 (vs.map lT)))), (2, .c (.t fp (.v (.bool p)))), (7, .c (.t true (.v (.int .i64 i))))], []⟩)
    (fun i => us.length - i) 0 ⟨Nat.zero_le _, rfl⟩ (fun _ _ h => h) fun i hi => ?_)
  obtain ⟨hi1, hi2⟩ := hi
  refine AWI.seq (AWI.seq ?_)
  (refine AWI.region (AR.go fun K hK => ?_); simp (disch := first | assumption | omega | (simp only [List.length_cons, List.length_nil, List.length_map, List.length_append, List.length_take, List.length_drop] <;> omega)) only [R0, R1, R2, R3, R4, R5, R6, R7, R8, envOf_nil, envOf_cons, ↓reduceIte, reduceCtorEq, Nat.reduceEqDiff, Int.reduceEq, Int.reduceLT, Int.reduceLE, Nat.reduceAdd, Nat.reduceSub, Nat.reduceBEq]; (refine hK _ _ (AR.keep2 [0, 1, 2, 7, 17] [] ?_); clear hK K; try simp only [keep2_mk, pickR_nil, pickR_cons, pickB_some, List.map_cons, List.map_nil, lk_nil, lk_cons, lkB_t, lkB_f, Nat.reduceBEq, Option.getD_some, Option.getD_none]))
  refine AWI.cond rfl (fun hc2 => AWI.skip (AWI.seq (AWI.block (AWI.seq (AWI.seq ?_))))) fun hc2 => AWI.exit (AWI.seq ?_)
  · have hia : i < us.length := by simpa using of_decide_eq_true hc2
    have hib : i < vs.length := by omega
    obtain ⟨x, hx⟩ : ∃ x, x = us[i] := ⟨_, rfl⟩
    obtain ⟨y, hy⟩ : ∃ y, y = vs[i] := ⟨_, rfl⟩
    have hgx : getE (us.map lT) i = lT x := by rw [getE_map' lT us i hia, hx]
    have hgy : getE (vs.map lT) i = lT y := by rw [getE_map' lT vs i hib, hy]
    have hxw : x.1.length ≤ 4611686018427387904 := hwa x (by rw [hx]; exact List.getElem_mem _)
    have hyw : y.1.length ≤ 4611686018427387904 := hwb y (by rw [hy]; exact List.getElem_mem _)
    obtain ⟨wa, pa⟩ := x
    obtain ⟨wb, pb⟩ := y
    have hxw : wa.length ≤ 4611686018427387904 := hxw
    have hyw : wb.length ≤ 4611686018427387904 := hyw
    have hbad : ∀ z, nL p (wa, pa) ≠ nL p (wb, pb) → z = decide (us.map (nL p) = vs.map (nL p)) → z = false := fun z h e => by
      rw [e]; exact decide_eq_false (map_ne_of_get _ hia hib (by rw [← hx, ← hy]; exact h))
    refine AWI.post ⟨[(0, .c (.t fa (.sl 2 (us.map lT)))), (1, .c (.t fb (.sl 2 (vs.map lT)))), (2, .c (.t fp (.v (.bool p)))), (7, .c (.t true (.v (.int .i64 i)))), (48, .c (.t true (.v (.bool (!(decide (wa.length = wb.length) && (!p || decide (pa = pb))))))))], []⟩ (fun Q' q => ?_) ?_
    · by_cases e : wa.length = wb.length
      · have e := decide_eq_true e
        rw [e] at q
        cases p with
        | true =>
          refine AWI.drawG (by rw [hP]; rfl) [(0, ⟨some 20, none, .mv (.t 0)⟩, .mv), (1, ⟨some 21, none, .mv (.t 7)⟩, .mv), (2, ⟨some 22, none, .iad 2 (.t 20) (.t 21)⟩, .cc), (3, ⟨some 23, none, .fad 0 (.t 22)⟩, .cc), (4, ⟨some 24, none, .load false 1 (.t 23)⟩, .cc), (5, ⟨some 25, none, .len false (.t 24)⟩, .cc), (6, ⟨some 26, none, .mv (.t 1)⟩, .mv), (7, ⟨some 27, none, .mv (.t 7)⟩, .mv), (8, ⟨some 28, none, .iad 2 (.t 26) (.t 27)⟩, .cc), (9, ⟨some 29, none, .fad 0 (.t 28)⟩, .cc), (10, ⟨some 30, none, .load false 1 (.t 29)⟩, .cc), (11, ⟨some 31, none, .len false (.t 30)⟩, .cc), (12, ⟨some 32, none, .bin .neq (.t 25) (.t 31)⟩, .cc), (13, ⟨some 33, none, .mv (.t 32)⟩, .mv), (14, ⟨some 34, some (33, false), .mv (.t 2)⟩, .mv), (15, ⟨some 35, some (33, false), .mv (.t 34)⟩, .mv), (16, ⟨some 36, some (35, true), .mv (.t 0)⟩, .mv), (17, ⟨some 37, some (35, true), .mv (.t 7)⟩, .mv), (18, ⟨some 38, some (35, true), .iad 2 (.t 36) (.t 37)⟩, .cc), (19, ⟨some 39, some (35, true), .fad 1 (.t 38)⟩, .cc), (20, ⟨some 40, some (35, true), .load false 1 (.t 39)⟩, .cc), (21, ⟨some 41, some (35, true), .mv (.t 1)⟩, .mv), (22, ⟨some 42, some (35, true), .mv (.t 7)⟩, .mv), (23, ⟨some 43, some (35, true), .iad 2 (.t 41) (.t 42)⟩, .cc), (24, ⟨some 44, some (35, true), .fad 1 (.t 43)⟩, .cc), (25, ⟨some 45, some (35, true), .load false 1 (.t 44)⟩, .cc), (26, ⟨some 46, some (35, true), .bin .neq (.t 40) (.t 45)⟩, .cc), (27, ⟨some 47, some (33, false), .pick (.t 35) (.t 46) (.k (.bool false))⟩, .cc), (28, ⟨some 48, none, .pick (.t 33) (.k (.bool true)) (.t 47)⟩, .cc)] (by kernel_rfl) (by kernel_rfl) rfl fun K hK => ?_
          simp (disch := first | assumption | omega | (simp only [List.length_cons, List.length_nil, List.length_map, List.length_append, List.length_take, List.length_drop] <;> omega)) only [R0, R1, R2, R3, R4, R5, R6, R7, R8, envOf_nil, envOf_cons, ↓reduceIte, reduceCtorEq, Nat.reduceEqDiff, Int.reduceEq, Int.reduceLT, Int.reduceLE, Nat.reduceAdd, Nat.reduceSub, Nat.reduceBEq, hgx, hgy, lT, e]
          (refine hK _ _ (AR.keep2 [0, 1, 2, 7, 48] [] ?_); clear hK K; try simp only [keep2_mk, pickR_nil, pickR_cons, pickB_some, List.map_cons, List.map_nil, lk_nil, lk_cons, lkB_t, lkB_f, Nat.reduceBEq, Option.getD_some, Option.getD_none])
          exact q
        | false =>
          refine AWI.drawG (by rw [hP]; rfl) [(0, ⟨some 20, none, .mv (.t 0)⟩, .mv), (1, ⟨some 21, none, .mv (.t 7)⟩, .mv), (2, ⟨some 22, none, .iad 2 (.t 20) (.t 21)⟩, .cc), (3, ⟨some 23, none, .fad 0 (.t 22)⟩, .cc), (4, ⟨some 24, none, .load false 1 (.t 23)⟩, .cc), (5, ⟨some 25, none, .len false (.t 24)⟩, .cc), (6, ⟨some 26, none, .mv (.t 1)⟩, .mv), (7, ⟨some 27, none, .mv (.t 7)⟩, .mv), (8, ⟨some 28, none, .iad 2 (.t 26) (.t 27)⟩, .cc), (9, ⟨some 29, none, .fad 0 (.t 28)⟩, .cc), (10, ⟨some 30, none, .load false 1 (.t 29)⟩, .cc), (11, ⟨some 31, none, .len false (.t 30)⟩, .cc), (12, ⟨some 32, none, .bin .neq (.t 25) (.t 31)⟩, .cc), (13, ⟨some 33, none, .mv (.t 32)⟩, .mv), (14, ⟨some 34, some (33, false), .mv (.t 2)⟩, .mv), (15, ⟨some 35, some (33, false), .mv (.t 34)⟩, .mv), (16, ⟨some 36, some (35, true), .mv (.t 0)⟩, .sk), (17, ⟨some 37, some (35, true), .mv (.t 7)⟩, .sk), (18, ⟨some 38, some (35, true), .iad 2 (.t 36) (.t 37)⟩, .sk), (19, ⟨some 39, some (35, true), .fad 1 (.t 38)⟩, .sk), (20, ⟨some 40, some (35, true), .load false 1 (.t 39)⟩, .sk), (21, ⟨some 41, some (35, true), .mv (.t 1)⟩, .sk), (22, ⟨some 42, some (35, true), .mv (.t 7)⟩, .sk), (23, ⟨some 43, some (35, true), .iad 2 (.t 41) (.t 42)⟩, .sk), (24, ⟨some 44, some (35, true), .fad 1 (.t 43)⟩, .sk), (25, ⟨some 45, some (35, true), .load false 1 (.t 44)⟩, .sk), (26, ⟨some 46, some (35, true), .bin .neq (.t 40) (.t 45)⟩, .sk), (27, ⟨some 47, some (33, false), .pick (.t 35) (.t 46) (.k (.bool false))⟩, .cc), (28, ⟨some 48, none, .pick (.t 33) (.k (.bool true)) (.t 47)⟩, .cc)] (by kernel_rfl) (by kernel_rfl) rfl fun K hK => ?_
          simp (disch := first | assumption | omega | (simp only [List.length_cons, List.length_nil, List.length_map, List.length_append, List.length_take, List.length_drop] <;> omega)) only [R0, R1, R2, R3, R4, R5, R6, R7, R8, envOf_nil, envOf_cons, ↓reduceIte, reduceCtorEq, Nat.reduceEqDiff, Int.reduceEq, Int.reduceLT, Int.reduceLE, Nat.reduceAdd, Nat.reduceSub, Nat.reduceBEq, hgx, hgy, lT, e]
          (refine hK _ _ (AR.keep2 [0, 1, 2, 7, 48] [] ?_); clear hK K; try simp only [keep2_mk, pickR_nil, pickR_cons, pickB_some, List.map_cons, List.map_nil, lk_nil, lk_cons, lkB_t, lkB_f, Nat.reduceBEq, Option.getD_some, Option.getD_none])
          exact q
      · have e := decide_eq_false e
        rw [e] at q
        refine AWI.drawG (by rw [hP]; rfl) [(0, ⟨some 20, none, .mv (.t 0)⟩, .mv), (1, ⟨some 21, none, .mv (.t 7)⟩, .mv), (2, ⟨some 22, none, .iad 2 (.t 20) (.t 21)⟩, .cc), (3, ⟨some 23, none, .fad 0 (.t 22)⟩, .cc), (4, ⟨some 24, none, .load false 1 (.t 23)⟩, .cc), (5, ⟨some 25, none, .len false (.t 24)⟩, .cc), (6, ⟨some 26, none, .mv (.t 1)⟩, .mv), (7, ⟨some 27, none, .mv (.t 7)⟩, .mv), (8, ⟨some 28, none, .iad 2 (.t 26) (.t 27)⟩, .cc), (9, ⟨some 29, none, .fad 0 (.t 28)⟩, .cc), (10, ⟨some 30, none, .load false 1 (.t 29)⟩, .cc), (11, ⟨some 31, none, .len false (.t 30)⟩, .cc), (12, ⟨some 32, none, .bin .neq (.t 25) (.t 31)⟩, .cc), (13, ⟨some 33, none, .mv (.t 32)⟩, .mv), (14, ⟨some 34, some (33, false), .mv (.t 2)⟩, .sk), (15, ⟨some 35, some (33, false), .mv (.t 34)⟩, .sk), (16, ⟨some 36, some (35, true), .mv (.t 0)⟩, .sk), (17, ⟨some 37, some (35, true), .mv (.t 7)⟩, .sk), (18, ⟨some 38, some (35, true), .iad 2 (.t 36) (.t 37)⟩, .sk), (19, ⟨some 39, some (35, true), .fad 1 (.t 38)⟩, .sk), (20, ⟨some 40, some (35, true), .load false 1 (.t 39)⟩, .sk), (21, ⟨some 41, some (35, true), .mv (.t 1)⟩, .sk), (22, ⟨some 42, some (35, true), .mv (.t 7)⟩, .sk), (23, ⟨some 43, some (35, true), .iad 2 (.t 41) (.t 42)⟩, .sk), (24, ⟨some 44, some (35, true), .fad 1 (.t 43)⟩, .sk), (25, ⟨some 45, some (35, true), .load false 1 (.t 44)⟩, .sk), (26, ⟨some 46, some (35, true), .bin .neq (.t 40) (.t 45)⟩, .sk), (27, ⟨some 47, some (33, false), .pick (.t 35) (.t 46) (.k (.bool false))⟩, .sk), (28, ⟨some 48, none, .pick (.t 33) (.k (.bool true)) (.t 47)⟩, .cc)] (by kernel_rfl) (by kernel_rfl) rfl fun K hK => ?_
        simp (disch := first | assumption | omega | (simp only [List.length_cons, List.length_nil, List.length_map, List.length_append, List.length_take, List.length_drop] <;> omega)) only [R0, R1, R2, R3, R4, R5, R6, R7, R8, envOf_nil, envOf_cons, ↓reduceIte, reduceCtorEq, Nat.reduceEqDiff, Int.reduceEq, Int.reduceLT, Int.reduceLE, Nat.reduceAdd, Nat.reduceSub, Nat.reduceBEq, hgx, hgy, lT, e]
        (refine hK _ _ (AR.keep2 [0, 1, 2, 7, 48] [] ?_); clear hK K; try simp only [keep2_mk, pickR_nil, pickR_cons, pickB_some, List.map_cons, List.map_nil, lk_nil, lk_cons, lkB_t, lkB_f, Nat.reduceBEq, Option.getD_some, Option.getD_none])
        exact q
    refine AWI.cond rfl (fun h => AWI.seq ?_) fun h => AWI.skip (AWI.seq ?_)
    · have hne : nL p (wa, pa) ≠ nL p (wb, pb) := by
        intro e
        have e1 : wa.length = wb.length := by simpa [nL] using congrArg (fun z => z.1.length) e
        have e2 : p = true → pa = pb := fun hp => by simpa [nL, hp] using congrArg (fun z => z.2) e
        cases p <;> simp_all
      have hR := hbad _ hne rfl
      rw [hR]
      (refine AWI.region (AR.go fun K hK => ?_); simp (disch := first | assumption | omega | (simp only [List.length_cons, List.length_nil, List.length_map, List.length_append, List.length_take, List.length_drop] <;> omega)) only [R0, R1, R2, R3, R4, R5, R6, R7, R8, envOf_nil, envOf_cons, ↓reduceIte, reduceCtorEq, Nat.reduceEqDiff, Int.reduceEq, Int.reduceLT, Int.reduceLE, Nat.reduceAdd, Nat.reduceSub, Nat.reduceBEq]; (refine hK _ _ (AR.keep2 [6] [] ?_); clear hK K; try simp only [keep2_mk, pickR_nil, pickR_cons, pickB_some, List.map_cons, List.map_nil, lk_nil, lk_cons, lkB_t, lkB_f, Nat.reduceBEq, Option.getD_some, Option.getD_none]))
      exact AWI.ret ⟨.inl rfl, _, fun _ _ h => h.norm, rfl, rfl⟩
    have hlw : wa.length = wb.length ∧ (p = true → pa = pb) := by cases p <;> simp_all
    obtain ⟨hlw, hpp⟩ := hlw
    (refine AWI.region (AR.go fun K hK => ?_); simp (disch := first | assumption | omega | (simp only [List.length_cons, List.length_nil, List.length_map, List.length_append, List.length_take, List.length_drop] <;> omega)) only [R0, R1, R2, R3, R4, R5, R6, R7, R8, envOf_nil, envOf_cons, ↓reduceIte, reduceCtorEq, Nat.reduceEqDiff, Int.reduceEq, Int.reduceLT, Int.reduceLE, Nat.reduceAdd, Nat.reduceSub, Nat.reduceBEq]; (refine hK _ _ (AR.keep2 [0, 1, 2, 7, 8] [] ?_); clear hK K; try simp only [keep2_mk, pickR_nil, pickR_cons, pickB_some, List.map_cons, List.map_nil, lk_nil, lk_cons, lkB_t, lkB_f, Nat.reduceBEq, Option.getD_some, Option.getD_none]))
    refine AWI.block (AWI.loop (α := Nat) (fun k => k ≤ wa.length ∧ (wa.take k).map (nW p) = (wb.take k).map (nW p))
      (fun k => ⟨[(0, .c (.t fa (.sl 2 (us.map lT)))), (1, .c (.t fb (.sl 2 (vs.map lT)))), (2, .c (.t fp (.v (.bool p)))), (7, .c (.t true (.v (.int .i64 i)))), (8, .c (.t true (.v (.int .i64 k))))], []⟩)
      (fun k => wa.length - k) 0 ⟨Nat.zero_le _, rfl⟩ (fun _ _ h => h) fun k hk => ?_)
    obtain ⟨hk1, hk2⟩ := hk
    refine AWI.seq (AWI.seq ?_)
    (refine AWI.region (AR.go fun K hK => ?_); simp (disch := first | assumption | omega | (simp only [List.length_cons, List.length_nil, List.length_map, List.length_append, List.length_take, List.length_drop] <;> omega)) only [R0, R1, R2, R3, R4, R5, R6, R7, R8, envOf_nil, envOf_cons, ↓reduceIte, reduceCtorEq, Nat.reduceEqDiff, Int.reduceEq, Int.reduceLT, Int.reduceLE, Nat.reduceAdd, Nat.reduceSub, Nat.reduceBEq, hgx, lT]; (refine hK _ _ (AR.keep2 [0, 1, 2, 7, 8, 56] [] ?_); clear hK K; try simp only [keep2_mk, pickR_nil, pickR_cons, pickB_some, List.map_cons, List.map_nil, lk_nil, lk_cons, lkB_t, lkB_f, Nat.reduceBEq, Option.getD_some, Option.getD_none]))
    refine AWI.cond rfl (fun hc2 => AWI.skip (AWI.seq (AWI.block (AWI.seq ?_)))) fun hc2 => AWI.exit ?_
    · have hka : k < wa.length := by simpa using of_decide_eq_true hc2
      have hkb : k < wb.length := by omega
      obtain ⟨s, hs⟩ : ∃ s, s = wa[k] := ⟨_, rfl⟩
      obtain ⟨t, ht⟩ : ∃ t, t = wb[k] := ⟨_, rfl⟩
      have hgs : getE (wa.map wT) k = wT s := by rw [getE_map' wT wa k hka, hs]
      have hgt : getE (wb.map wT) k = wT t := by rw [getE_map' wT wb k hkb, ht]
      obtain ⟨s, ps⟩ := s
      obtain ⟨t, pt⟩ := t
      refine AWI.post ⟨[(0, .c (.t fa (.sl 2 (us.map lT)))), (1, .c (.t fb (.sl 2 (vs.map lT)))), (2, .c (.t fp (.v (.bool p)))), (7, .c (.t true (.v (.int .i64 i)))), (8, .c (.t true (.v (.int .i64 k)))), (101, .c (.t true (.v (.bool (!(decide (s = t) && (!p || decide (ps = pt))))))))], []⟩ (fun Q' q => ?_) ?_
      · by_cases e : s = t
        · have e := decide_eq_true e
          rw [e] at q
          cases p with
          | true =>
            refine AWI.drawG (by rw [hP]; rfl) [(0, ⟨some 59, none, .mv (.t 0)⟩, .mv), (1, ⟨some 60, none, .mv (.t 7)⟩, .mv), (2, ⟨some 61, none, .iad 2 (.t 59) (.t 60)⟩, .cc), (3, ⟨some 62, none, .fad 0 (.t 61)⟩, .cc), (4, ⟨some 63, none, .load false 1 (.t 62)⟩, .cc), (5, ⟨some 64, none, .mv (.t 8)⟩, .mv), (6, ⟨some 65, none, .iad 2 (.t 63) (.t 64)⟩, .cc), (7, ⟨some 66, none, .fad 0 (.t 65)⟩, .cc), (8, ⟨some 67, none, .load false 1 (.t 66)⟩, .cc), (9, ⟨some 68, none, .mv (.t 1)⟩, .mv), (10, ⟨some 69, none, .mv (.t 7)⟩, .mv), (11, ⟨some 70, none, .iad 2 (.t 68) (.t 69)⟩, .cc), (12, ⟨some 71, none, .fad 0 (.t 70)⟩, .cc), (13, ⟨some 72, none, .load false 1 (.t 71)⟩, .cc), (14, ⟨some 73, none, .mv (.t 8)⟩, .mv), (15, ⟨some 74, none, .iad 2 (.t 72) (.t 73)⟩, .cc), (16, ⟨some 75, none, .fad 0 (.t 74)⟩, .cc), (17, ⟨some 76, none, .load false 1 (.t 75)⟩, .cc), (18, ⟨some 77, none, .bin .neq (.t 67) (.t 76)⟩, .cc), (19, ⟨some 78, none, .mv (.t 77)⟩, .mv), (20, ⟨some 79, some (78, false), .mv (.t 2)⟩, .mv), (21, ⟨some 80, some (78, false), .mv (.t 79)⟩, .mv), (22, ⟨some 81, some (80, true), .mv (.t 0)⟩, .mv), (23, ⟨some 82, some (80, true), .mv (.t 7)⟩, .mv), (24, ⟨some 83, some (80, true), .iad 2 (.t 81) (.t 82)⟩, .cc), (25, ⟨some 84, some (80, true), .fad 0 (.t 83)⟩, .cc), (26, ⟨some 85, some (80, true), .load false 1 (.t 84)⟩, .cc), (27, ⟨some 86, some (80, true), .mv (.t 8)⟩, .mv), (28, ⟨some 87, some (80, true), .iad 2 (.t 85) (.t 86)⟩, .cc), (29, ⟨some 88, some (80, true), .fad 1 (.t 87)⟩, .cc), (30, ⟨some 89, some (80, true), .load false 1 (.t 88)⟩, .cc), (31, ⟨some 90, some (80, true), .mv (.t 1)⟩, .mv), (32, ⟨some 91, some (80, true), .mv (.t 7)⟩, .mv), (33, ⟨some 92, some (80, true), .iad 2 (.t 90) (.t 91)⟩, .cc), (34, ⟨some 93, some (80, true), .fad 0 (.t 92)⟩, .cc), (35, ⟨some 94, some (80, true), .load false 1 (.t 93)⟩, .cc), (36, ⟨some 95, some (80, true), .mv (.t 8)⟩, .mv), (37, ⟨some 96, some (80, true), .iad 2 (.t 94) (.t 95)⟩, .cc), (38, ⟨some 97, some (80, true), .fad 1 (.t 96)⟩, .cc), (39, ⟨some 98, some (80, true), .load false 1 (.t 97)⟩, .cc), (40, ⟨some 99, some (80, true), .bin .neq (.t 89) (.t 98)⟩, .cc), (41, ⟨some 100, some (78, false), .pick (.t 80) (.t 99) (.k (.bool false))⟩, .cc), (42, ⟨some 101, none, .pick (.t 78) (.k (.bool true)) (.t 100)⟩, .cc)] (by kernel_rfl) (by kernel_rfl) rfl fun K hK => ?_
            simp (disch := first | assumption | omega | (simp only [List.length_cons, List.length_nil, List.length_map, List.length_append, List.length_take, List.length_drop] <;> omega)) only [R0, R1, R2, R3, R4, R5, R6, R7, R8, envOf_nil, envOf_cons, ↓reduceIte, reduceCtorEq, Nat.reduceEqDiff, Int.reduceEq, Int.reduceLT, Int.reduceLE, Nat.reduceAdd, Nat.reduceSub, Nat.reduceBEq, hgx, hgy, lT, hgs, hgt, wT, e]
            (refine hK _ _ (AR.keep2 [0, 1, 2, 7, 8, 101] [] ?_); clear hK K; try simp only [keep2_mk, pickR_nil, pickR_cons, pickB_some, List.map_cons, List.map_nil, lk_nil, lk_cons, lkB_t, lkB_f, Nat.reduceBEq, Option.getD_some, Option.getD_none])
            exact q
          | false =>
            refine AWI.drawG (by rw [hP]; rfl) [(0, ⟨some 59, none, .mv (.t 0)⟩, .mv), (1, ⟨some 60, none, .mv (.t 7)⟩, .mv), (2, ⟨some 61, none, .iad 2 (.t 59) (.t 60)⟩, .cc), (3, ⟨some 62, none, .fad 0 (.t 61)⟩, .cc), (4, ⟨some 63, none, .load false 1 (.t 62)⟩, .cc), (5, ⟨some 64, none, .mv (.t 8)⟩, .mv), (6, ⟨some 65, none, .iad 2 (.t 63) (.t 64)⟩, .cc), (7, ⟨some 66, none, .fad 0 (.t 65)⟩, .cc), (8, ⟨some 67, none, .load false 1 (.t 66)⟩, .cc), (9, ⟨some 68, none, .mv (.t 1)⟩, .mv), (10, ⟨some 69, none, .mv (.t 7)⟩, .mv), (11, ⟨some 70, none, .iad 2 (.t 68) (.t 69)⟩, .cc), (12, ⟨some 71, none, .fad 0 (.t 70)⟩, .cc), (13, ⟨some 72, none, .load false 1 (.t 71)⟩, .cc), (14, ⟨some 73, none, .mv (.t 8)⟩, .mv), (15, ⟨some 74, none, .iad 2 (.t 72) (.t 73)⟩, .cc), (16, ⟨some 75, none, .fad 0 (.t 74)⟩, .cc), (17, ⟨some 76, none, .load false 1 (.t 75)⟩, .cc), (18, ⟨some 77, none, .bin .neq (.t 67) (.t 76)⟩, .cc), (19, ⟨some 78, none, .mv (.t 77)⟩, .mv), (20, ⟨some 79, some (78, false), .mv (.t 2)⟩, .mv), (21, ⟨some 80, some (78, false), .mv (.t 79)⟩, .mv), (22, ⟨some 81, some (80, true), .mv (.t 0)⟩, .sk), (23, ⟨some 82, some (80, true), .mv (.t 7)⟩, .sk), (24, ⟨some 83, some (80, true), .iad 2 (.t 81) (.t 82)⟩, .sk), (25, ⟨some 84, some (80, true), .fad 0 (.t 83)⟩, .sk), (26, ⟨some 85, some (80, true), .load false 1 (.t 84)⟩, .sk), (27, ⟨some 86, some (80, true), .mv (.t 8)⟩, .sk), (28, ⟨some 87, some (80, true), .iad 2 (.t 85) (.t 86)⟩, .sk), (29, ⟨some 88, some (80, true), .fad 1 (.t 87)⟩, .sk), (30, ⟨some 89, some (80, true), .load false 1 (.t 88)⟩, .sk), (31, ⟨some 90, some (80, true), .mv (.t 1)⟩, .sk), (32, ⟨some 91, some (80, true), .mv (.t 7)⟩, .sk), (33, ⟨some 92, some (80, true), .iad 2 (.t 90) (.t 91)⟩, .sk), (34, ⟨some 93, some (80, true), .fad 0 (.t 92)⟩, .sk), (35, ⟨some 94, some (80, true), .load false 1 (.t 93)⟩, .sk), (36, ⟨some 95, some (80, true), .mv (.t 8)⟩, .sk), (37, ⟨some 96, some (80, true), .iad 2 (.t 94) (.t 95)⟩, .sk), (38, ⟨some 97, some (80, true), .fad 1 (.t 96)⟩, .sk), (39, ⟨some 98, some (80, true), .load false 1 (.t 97)⟩, .sk), (40, ⟨some 99, some (80, true), .bin .neq (.t 89) (.t 98)⟩, .sk), (41, ⟨some 100, some (78, false), .pick (.t 80) (.t 99) (.k (.bool false))⟩, .cc), (42, ⟨some 101, none, .pick (.t 78) (.k (.bool true)) (.t 100)⟩, .cc)] (by kernel_rfl) (by kernel_rfl) rfl fun K hK => ?_
            simp (disch := first | assumption | omega | (simp only [List.length_cons, List.length_nil, List.length_map, List.length_append, List.length_take, List.length_drop] <;> omega)) only [R0, R1, R2, R3, R4, R5, R6, R7, R8, envOf_nil, envOf_cons, ↓reduceIte, reduceCtorEq, Nat.reduceEqDiff, Int.reduceEq, Int.reduceLT, Int.reduceLE, Nat.reduceAdd, Nat.reduceSub, Nat.reduceBEq, hgx, hgy, lT, hgs, hgt, wT, e]
            (refine hK _ _ (AR.keep2 [0, 1, 2, 7, 8, 101] [] ?_); clear hK K; try simp only [keep2_mk, pickR_nil, pickR_cons, pickB_some, List.map_cons, List.map_nil, lk_nil, lk_cons, lkB_t, lkB_f, Nat.reduceBEq, Option.getD_some, Option.getD_none])
            exact q
        · have e := decide_eq_false e
          rw [e] at q
          refine AWI.drawG (by rw [hP]; rfl) [(0, ⟨some 59, none, .mv (.t 0)⟩, .mv), (1, ⟨some 60, none, .mv (.t 7)⟩, .mv), (2, ⟨some 61, none, .iad 2 (.t 59) (.t 60)⟩, .cc), (3, ⟨some 62, none, .fad 0 (.t 61)⟩, .cc), (4, ⟨some 63, none, .load false 1 (.t 62)⟩, .cc), (5, ⟨some 64, none, .mv (.t 8)⟩, .mv), (6, ⟨some 65, none, .iad 2 (.t 63) (.t 64)⟩, .cc), (7, ⟨some 66, none, .fad 0 (.t 65)⟩, .cc), (8, ⟨some 67, none, .load false 1 (.t 66)⟩, .cc), (9, ⟨some 68, none, .mv (.t 1)⟩, .mv), (10, ⟨some 69, none, .mv (.t 7)⟩, .mv), (11, ⟨some 70, none, .iad 2 (.t 68) (.t 69)⟩, .cc), (12, ⟨some 71, none, .fad 0 (.t 70)⟩, .cc), (13, ⟨some 72, none, .load false 1 (.t 71)⟩, .cc), (14, ⟨some 73, none, .mv (.t 8)⟩, .mv), (15, ⟨some 74, none, .iad 2 (.t 72) (.t 73)⟩, .cc), (16, ⟨some 75, none, .fad 0 (.t 74)⟩, .cc), (17, ⟨some 76, none, .load false 1 (.t 75)⟩, .cc), (18, ⟨some 77, none, .bin .neq (.t 67) (.t 76)⟩, .cc), (19, ⟨some 78, none, .mv (.t 77)⟩, .mv), (20, ⟨some 79, some (78, false), .mv (.t 2)⟩, .sk), (21, ⟨some 80, some (78, false), .mv (.t 79)⟩, .sk), (22, ⟨some 81, some (80, true), .mv (.t 0)⟩, .sk), (23, ⟨some 82, some (80, true), .mv (.t 7)⟩, .sk), (24, ⟨some 83, some (80, true), .iad 2 (.t 81) (.t 82)⟩, .sk), (25, ⟨some 84, some (80, true), .fad 0 (.t 83)⟩, .sk), (26, ⟨some 85, some (80, true), .load false 1 (.t 84)⟩, .sk), (27, ⟨some 86, some (80, true), .mv (.t 8)⟩, .sk), (28, ⟨some 87, some (80, true), .iad 2 (.t 85) (.t 86)⟩, .sk), (29, ⟨some 88, some (80, true), .fad 1 (.t 87)⟩, .sk), (30, ⟨some 89, some (80, true), .load false 1 (.t 88)⟩, .sk), (31, ⟨some 90, some (80, true), .mv (.t 1)⟩, .sk), (32, ⟨some 91, some (80, true), .mv (.t 7)⟩, .sk), (33, ⟨some 92, some (80, true), .iad 2 (.t 90) (.t 91)⟩, .sk), (34, ⟨some 93, some (80, true), .fad 0 (.t 92)⟩, .sk), (35, ⟨some 94, some (80, true), .load false 1 (.t 93)⟩, .sk), (36, ⟨some 95, some (80, true), .mv (.t 8)⟩, .sk), (37, ⟨some 96, some (80, true), .iad 2 (.t 94) (.t 95)⟩, .sk), (38, ⟨some 97, some (80, true), .fad 1 (.t 96)⟩, .sk), (39, ⟨some 98, some (80, true), .load false 1 (.t 97)⟩, .sk), (40, ⟨some 99, some (80, true), .bin .neq (.t 89) (.t 98)⟩, .sk), (41, ⟨some 100, some (78, false), .pick (.t 80) (.t 99) (.k (.bool false))⟩, .sk), (42, ⟨some 101, none, .pick (.t 78) (.k (.bool true)) (.t 100)⟩, .cc)] (by kernel_rfl) (by kernel_rfl) rfl fun K hK => ?_
          simp (disch := first | assumption | omega | (simp only [List.length_cons, List.length_nil, List.length_map, List.length_append, List.length_take, List.length_drop] <;> omega)) only [R0, R1, R2, R3, R4, R5, R6, R7, R8, envOf_nil, envOf_cons, ↓reduceIte, reduceCtorEq, Nat.reduceEqDiff, Int.reduceEq, Int.reduceLT, Int.reduceLE, Nat.reduceAdd, Nat.reduceSub, Nat.reduceBEq, hgx, hgy, lT, hgs, hgt, wT, e]
          (refine hK _ _ (AR.keep2 [0, 1, 2, 7, 8, 101] [] ?_); clear hK K; try simp only [keep2_mk, pickR_nil, pickR_cons, pickB_some, List.map_cons, List.map_nil, lk_nil, lk_cons, lkB_t, lkB_f, Nat.reduceBEq, Option.getD_some, Option.getD_none])
          exact q
      refine AWI.cond rfl (fun h => AWI.seq ?_) fun h => AWI.skip ?_
      · have hne : nW p (s, ps) ≠ nW p (t, pt) := by
          intro e
          have e1 : s = t := by simpa [nW] using congrArg (fun z => z.1) e
          have e2 : p = true → ps = pt := fun hp => by simpa [nW, hp] using congrArg (fun z => z.2) e
          cases p <;> simp_all
        have hne2 : nL p (wa, pa) ≠ nL p (wb, pb) := fun e => map_ne_of_get (nW p) hka hkb (by rw [← hs, ← ht]; exact hne) (congrArg (fun z => z.1) e)
        have hR := hbad _ hne2 rfl
        rw [hR]
        (refine AWI.region (AR.go fun K hK => ?_); simp (disch := first | assumption | omega | (simp only [List.length_cons, List.length_nil, List.length_map, List.length_append, List.length_take, List.length_drop] <;> omega)) only [R0, R1, R2, R3, R4, R5, R6, R7, R8, envOf_nil, envOf_cons, ↓reduceIte, reduceCtorEq, Nat.reduceEqDiff, Int.reduceEq, Int.reduceLT, Int.reduceLE, Nat.reduceAdd, Nat.reduceSub, Nat.reduceBEq]; (refine hK _ _ (AR.keep2 [6] [] ?_); clear hK K; try simp only [keep2_mk, pickR_nil, pickR_cons, pickB_some, List.map_cons, List.map_nil, lk_nil, lk_cons, lkB_t, lkB_f, Nat.reduceBEq, Option.getD_some, Option.getD_none]))
        exact AWI.ret ⟨.inl rfl, _, fun _ _ h => h.norm, rfl, rfl⟩
      · have he : nW p (s, ps) = nW p (t, pt) := by
          cases p <;> simp_all [nW]
        (refine AWI.region (AR.go fun K hK => ?_); simp (disch := first | assumption | omega | (simp only [List.length_cons, List.length_nil, List.length_map, List.length_append, List.length_take, List.length_drop] <;> omega)) only [R0, R1, R2, R3, R4, R5, R6, R7, R8, envOf_nil, envOf_cons, ↓reduceIte, reduceCtorEq, Nat.reduceEqDiff, Int.reduceEq, Int.reduceLT, Int.reduceLE, Nat.reduceAdd, Nat.reduceSub, Nat.reduceBEq]; (refine hK _ _ (AR.keep2 [0, 1, 2, 7, 8] [] ?_); clear hK K; try simp only [keep2_mk, pickR_nil, pickR_cons, pickB_some, List.map_cons, List.map_nil, lk_nil, lk_cons, lkB_t, lkB_f, Nat.reduceBEq, Option.getD_some, Option.getD_none]))
        exact ⟨k + 1, ⟨hka, map_take_succ _ hka hkb hk2 (by rw [← hs, ← ht]; exact he)⟩, by omega, fun _ _ h => h⟩
    · have hka : ¬ k < wa.length := by simpa using of_decide_eq_false hc2
      have he : nL p us[i] = nL p vs[i] := by
        rw [← hx, ← hy]
        have h3 : k = wa.length := by omega
        rw [h3, List.take_length, List.take_of_length_le (by omega)] at hk2
        unfold nL
        rw [hk2]
        cases p <;> simp_all
      (refine AWI.region (AR.go fun K hK => ?_); simp (disch := first | assumption | omega | (simp only [List.length_cons, List.length_nil, List.length_map, List.length_append, List.length_take, List.length_drop] <;> omega)) only [R0, R1, R2, R3, R4, R5, R6, R7, R8, envOf_nil, envOf_cons, ↓reduceIte, reduceCtorEq, Nat.reduceEqDiff, Int.reduceEq, Int.reduceLT, Int.reduceLE, Nat.reduceAdd, Nat.reduceSub, Nat.reduceBEq]; (refine hK _ _ (AR.keep2 [0, 1, 2, 7] [] ?_); clear hK K; try simp only [keep2_mk, pickR_nil, pickR_cons, pickB_some, List.map_cons, List.map_nil, lk_nil, lk_cons, lkB_t, lkB_f, Nat.reduceBEq, Option.getD_some, Option.getD_none]))
      exact ⟨i + 1, ⟨hia, map_take_succ _ hia hib hi2 he⟩, by omega, fun _ _ h => h⟩
  · have hia : ¬ i < us.length := by simpa using of_decide_eq_false hc2
    have h3 : i = us.length := by omega
    rw [h3, List.take_length, List.take_of_length_le (by omega)] at hi2
    have hR : decide (us.map (nL p) = vs.map (nL p)) = true := decide_eq_true hi2
    rw [hR]
    (refine AWI.region (AR.go fun K hK => ?_); simp (disch := first | assumption | omega | (simp only [List.length_cons, List.length_nil, List.length_map, List.length_append, List.length_take, List.length_drop] <;> omega)) only [R0, R1, R2, R3, R4, R5, R6, R7, R8, envOf_nil, envOf_cons, ↓reduceIte, reduceCtorEq, Nat.reduceEqDiff, Int.reduceEq, Int.reduceLT, Int.reduceLE, Nat.reduceAdd, Nat.reduceSub, Nat.reduceBEq]; (refine hK _ _ (AR.keep2 [6] [] ?_); clear hK K; try simp only [keep2_mk, pickR_nil, pickR_cons, pickB_some, List.map_cons, List.map_nil, lk_nil, lk_cons, lkB_t, lkB_f, Nat.reduceBEq, Option.getD_some, Option.getD_none]))
    exact AWI.ret ⟨.inl rfl, _, fun _ _ h => h.norm, rfl, rfl⟩
end Go.Proofs.Ytnealepilmobjaa
