/- Plain law: the program's lines are the reference's. -/
import Derived.Test.YtnealepilmobjaaFunE
import Derived.Test.YtnealepilmobjaaFunP
set_option linter.unusedVariables false
set_option linter.unusedSimpArgs false
namespace Go.Proofs.Ytnealepilmobjaa
open Go.Eng
theorem bytes_all {P : UInt8 → Bool} (h : (List.range 256).all (fun n => P (UInt8.ofNat n)) = true) (c : UInt8) : P c = true := by
  have := List.all_eq_true.1 h c.toNat (List.mem_range.2 c.toNat_lt)
  simpa using this
theorem isW_ne {c : UInt8} (h : isW c = true) : c ≠ 10 ∧ c ≠ 35 ∧ c ≠ 32 ∧ c ≠ 9 ∧ isB c = false := by
  have := bytes_all (P := fun c => !isW c || (decide (c ≠ 10 ∧ c ≠ 35 ∧ c ≠ 32 ∧ c ≠ 9) && !isB c)) (by decide +kernel) c
  simp [h] at this
  exact ⟨this.1.1, this.1.2.1, this.1.2.2.1, this.1.2.2.2, this.2⟩
theorem isB_iff (c : UInt8) : isB c = (decide (c = 32) || decide (c = 9)) := by
  have := bytes_all (P := fun c => isB c == (decide (c = 32) || decide (c = 9))) (by decide +kernel) c
  simpa using this
theorem isW_35 : isW 35 = false := by decide
def Tail (r : List UInt8) : Prop := r = [] ∨ ∃ r', r = 10 :: r'
theorem refG_tail {r : List UInt8} (h : Tail r) (i : Nat) (ws : PW) (a : Int) (m m' o o' : Bool) : refG i ws a m o r = refG i ws a m' o' r := by
  rcases h with rfl | ⟨r', rfl⟩
  · rw [refG, refG]
  · rw [refG, refG, if_pos rfl, if_pos rfl]
theorem appLast_snoc (ws : PW) (w : List UInt8) (p : Int) (c : UInt8) : appLast (ws ++ [(w, p)]) c = ws ++ [(w ++ [c], p)] := by
  unfold appLast
  simp
theorem runLen_cons_t {p : UInt8 → Bool} {c : UInt8} {r : List UInt8} (h : p c = true) : runLen p (c :: r) = runLen p r + 1 := by simp [runLen, List.takeWhile_cons, h]
/-- a word goes on -/
theorem refG_word {r : List UInt8} (hr : Tail r) (a : Int) : ∀ (u : List UInt8) (j : Nat) (ws : PW) (w : List UInt8) (p : Int),
    refG j (ws ++ [(w, p)]) a false true (u ++ r) = refG (j + runLen isW u) (ws ++ [(w ++ u.take (runLen isW u), p)]) a false false (u.drop (runLen isW u) ++ r) := by
  intro u
  induction u with
  | nil => intro j ws w p; simp only [runLen, List.takeWhile_nil, List.length_nil, List.take_nil, List.append_nil, List.drop_nil, List.nil_append, Nat.add_zero]; exact refG_tail hr ..
  | cons c u ih =>
    intro j ws w p
    cases h : isW c with
    | true =>
      obtain ⟨h1, h2, h3, h4, h5⟩ := isW_ne h
      rw [runLen_cons_t h, List.cons_append, refG, if_neg h1, if_neg (by simp [h2, h3, h4]), if_neg (by rw [h]; simp), if_pos rfl, appLast_snoc, ih]
      rw [List.take_succ_cons, List.drop_succ_cons, List.append_assoc, show j + 1 + runLen isW u = j + (runLen isW u + 1) by omega]
      rfl
    | false =>
      rw [runLen_zero h, List.take_zero, List.drop_zero, List.append_nil, Nat.add_zero, List.cons_append, refG, refG]
      by_cases h1 : c = 10
      · rw [if_pos h1, if_pos h1]
      · rw [if_neg h1, if_neg h1]
        by_cases h2 : (false || decide (c = 35) || decide (c = 32) || decide (c = 9)) = true
        · rw [if_pos h2, if_pos h2]
        · rw [if_neg h2, if_neg h2, if_pos h, if_pos h]
theorem refG_blanks {r : List UInt8} (a : Int) (ws : PW) : ∀ (u : List UInt8) (j : Nat), refG j ws a false false (u ++ r) = refG (j + runLen isB u) ws a false false (u.drop (runLen isB u) ++ r) := by
  intro u
  induction u with
  | nil => intro j; rfl
  | cons c u ih =>
    intro j
    cases h : isB c with
    | true =>
      have hb := h
      rw [isB_iff] at hb
      have h1 : c ≠ 10 := by rintro rfl; revert hb; decide
      have h2 : c ≠ 35 := by rintro rfl; revert hb; decide
      rw [runLen_cons_t h, List.cons_append, refG, if_neg h1, if_pos (by simp only [decide_eq_false h2, Bool.or_false, Bool.false_or]; exact hb)]
      simp only [decide_eq_false h2, Bool.or_false]
      rw [ih, List.drop_succ_cons, show j + 1 + runLen isB u = j + (runLen isB u + 1) by omega]
    | false => rw [runLen_zero h]; rfl
theorem refG_rem {r : List UInt8} (hr : Tail r) (a : Int) (ws : PW) : ∀ (u : List UInt8) (j : Nat) (o : Bool), (∀ c ∈ u, c ≠ 10) → refG j ws a true o (u ++ r) = refG (j + u.length) ws a false false r := by
  intro u
  induction u with
  | nil => intro j o _; exact refG_tail hr ..
  | cons c u ih =>
    intro j o h
    rw [List.cons_append, refG, if_neg (h c (by simp)), if_pos (by simp), Bool.true_or, ih _ _ fun d hd => h d (by simp [hd]), List.length_cons, show j + 1 + u.length = j + (u.length + 1) by omega]
/-- a line -/
theorem refG_line {r : List UInt8} (hr : Tail r) (a : Int) (t : List UInt8) : (∀ c ∈ t, c ≠ 10) → ∀ (i : Nat) (ws : PW), refG i ws a false false (t ++ r) = match (wordsL i t).2 with
    | some b => ([], some b)
    | none => refG (i + t.length) (ws ++ (wordsL i t).1) a false false r := by
  induction t using words_ind with
  | h0 => intro _ i ws; rw [wordsL_nil]; simp
  | hw c u h ih =>
    intro hn i ws
    obtain ⟨h1, h2, h3, h4, h5⟩ := isW_ne h
    have hd : ∀ x ∈ (c :: u).drop (runLen isW (c :: u)), x ≠ 10 := fun x hx => hn x (List.mem_of_mem_drop hx)
    have hle := runLen_le isW (c :: u)
    rw [wordsL_w h, List.cons_append, refG, if_neg h1, if_neg (by simp [h2, h3, h4]), if_neg (by rw [h]; simp), if_neg (by simp), refG_word hr]
    have e1 : [c] ++ u.take (runLen isW u) = (c :: u).take (runLen isW (c :: u)) := by rw [runLen_cons_t h, List.take_succ_cons]; rfl
    have e2 : u.drop (runLen isW u) = (c :: u).drop (runLen isW (c :: u)) := by rw [runLen_cons_t h, List.drop_succ_cons]
    have e3 : i + 1 + runLen isW u = i + runLen isW (c :: u) := by rw [runLen_cons_t h]; omega
    rw [e1, e2, e3, ih hd]
    simp only
    rw [List.length_drop, show i + runLen isW (c :: u) + ((c :: u).length - runLen isW (c :: u)) = i + (c :: u).length by omega, List.append_assoc]
    rfl
  | hb c u h h2 ih =>
    intro hn i ws
    have hd : ∀ x ∈ (c :: u).drop (runLen isB (c :: u)), x ≠ 10 := fun x hx => hn x (List.mem_of_mem_drop hx)
    have hle := runLen_le isB (c :: u)
    rw [wordsL_b h h2, refG_blanks, ih hd]
    rw [List.length_drop, show i + runLen isB (c :: u) + ((c :: u).length - runLen isB (c :: u)) = i + (c :: u).length by omega]
  | hr u =>
    intro hn i ws
    rw [wordsL_r, List.cons_append, refG, if_neg (by decide), if_pos (by decide)]
    simp only
    rw [show (false || decide True) = true by decide, refG_rem hr _ _ _ _ _ fun x hx => hn x (by simp [hx]), List.append_nil, List.length_cons, show i + 1 + u.length = i + (u.length + 1) by omega]
  | hx c u h h2 h3 =>
    intro hn i ws
    have hb := h2
    rw [isB_iff] at hb
    rw [wordsL_x h h2 h3, List.cons_append, refG, if_neg (hn c (by simp)), if_neg (by simp only [Bool.false_or, decide_eq_false h3]; rw [hb]; simp), if_pos h]
theorem lineLen_ne (l : List UInt8) : ∀ c ∈ l.take (lineLen l), c ≠ 10 := by
  intro c hc
  have : l.take (lineLen l) = l.takeWhile (fun c => !(c == 10)) := by
    unfold lineLen runLen
    have := List.prefix_iff_eq_take.1 (List.takeWhile_prefix (p := fun c => !(c == 10)) (l := l))
    exact this.symm
  rw [this] at hc
  have := List.all_takeWhile (p := fun c : UInt8 => !(c == 10)) (l := l)
  have := List.all_eq_true.1 this c hc
  simpa using this
theorem lineLen_at (l : List UInt8) (h : lineLen l < l.length) : l.drop (lineLen l) = 10 :: l.drop (lineLen l + 1) := by
  have key : ∀ l : List UInt8, lineLen l < l.length → l[lineLen l]? = some 10 := by
    intro l
    induction l with
    | nil => intro h; simp at h
    | cons c l ih =>
      intro h
      cases hc : (c == 10) with
      | true =>
        have : lineLen (c :: l) = 0 := by unfold lineLen; exact runLen_zero (by simp [hc])
        rw [this]; simp at hc; simp [hc]
      | false =>
        have e : lineLen (c :: l) = lineLen l + 1 := by unfold lineLen; exact runLen_cons_t (by simp [hc])
        rw [e] at h ⊢
        simpa using ih (by simpa using h)
  rw [List.drop_eq_getElem_cons h]
  have := key l h
  rw [List.getElem?_eq_getElem h] at this
  injection this with this
  rw [this]
theorem refG_lines (l : List UInt8) : ∀ pos : Nat, (refG pos [] (pos : Int) false false l).2 = (linesF pos l).2 ∧ ((linesF pos l).2 = none → (refG pos [] (pos : Int) false false l).1 = (linesF pos l).1) := by
  induction l using lines_ind with
  | h l ih =>
    intro pos
    have hle := lineLen_le l
    have hlen : (l.take (lineLen l)).length = lineLen l := by rw [List.length_take]; omega
    have hT : Tail (l.drop (lineLen l)) := by
      by_cases h : lineLen l < l.length
      · exact .inr ⟨_, lineLen_at l h⟩
      · exact .inl (List.drop_eq_nil_of_le (by omega))
    have e := refG_line hT (pos : Int) (l.take (lineLen l)) (lineLen_ne l) pos []
    rw [List.take_append_drop, hlen] at e
    rw [linesF_eq, e]
    cases hw : wordsL pos (l.take (lineLen l)) with
    | mk ws o =>
      cases o with
      | some b => simp
      | none =>
        simp only [List.nil_append]
        by_cases h : lineLen l < l.length
        · rw [if_pos h, lineLen_at l h, refG, if_pos rfl, show pos + lineLen l + 1 = pos + (lineLen l + 1) by omega]
          have hi := ih h (pos + (lineLen l + 1))
          refine ⟨hi.1, fun hn => ?_⟩
          simp only at hn ⊢
          rw [hi.2 hn]
          rfl
        · rw [if_neg h, List.drop_eq_nil_of_le (by omega), refG]
          exact ⟨rfl, fun _ => rfl⟩
theorem refR_eq (l : List UInt8) : refR l = linesR l := by
  unfold refR linesR
  split
  · rfl
  · have h := refG_lines l 0
    have h1 : (refG 0 [] 0 false false l).2 = (linesF 0 l).2 := h.1
    have h2 : (linesF 0 l).2 = none → (refG 0 [] 0 false false l).1 = (linesF 0 l).1 := h.2
    rw [h1]
    cases hb : (linesF 0 l).2 with
    | some b => rfl
    | none => simp only; rw [h2 hb]
end Go.Proofs.Ytnealepilmobjaa
