/- Plain laws of lines and words. -/
import Derived.Test.YtnealepilmobjaaFunA
set_option linter.unusedVariables false
set_option linter.unusedSimpArgs false
namespace Go.Proofs.Ytnealepilmobjaa
open Go.Eng
theorem wordsL_nil (pos : Nat) : wordsL pos [] = ([], none) := by rw [wordsL]
theorem wordsL_w {pos : Nat} {c : UInt8} {r : List UInt8} (h : isW c = true) : wordsL pos (c :: r) =
    (((c :: r).take (runLen isW (c :: r)), (pos : Int)) :: (wordsL (pos + runLen isW (c :: r)) ((c :: r).drop (runLen isW (c :: r)))).1, (wordsL (pos + runLen isW (c :: r)) ((c :: r).drop (runLen isW (c :: r)))).2) := by
  rw [wordsL, dif_pos h]
theorem wordsL_b {pos : Nat} {c : UInt8} {r : List UInt8} (h : isW c = false) (h2 : isB c = true) : wordsL pos (c :: r) = wordsL (pos + runLen isB (c :: r)) ((c :: r).drop (runLen isB (c :: r))) := by
  rw [wordsL, dif_neg (by rw [h]; simp), dif_pos h2]
theorem wordsL_r {pos : Nat} {r : List UInt8} : wordsL pos (35 :: r) = ([], none) := by
  rw [wordsL, dif_neg (by decide), dif_neg (by decide), if_pos rfl]
theorem wordsL_x {pos : Nat} {c : UInt8} {r : List UInt8} (h : isW c = false) (h2 : isB c = false) (h3 : c ≠ 35) : wordsL pos (c :: r) = ([], some pos) := by
  rw [wordsL, dif_neg (by rw [h]; simp), dif_neg (by rw [h2]; simp), if_neg h3]
/-- induction along words -/
theorem words_ind {P : List UInt8 → Prop} (h0 : P []) (hw : ∀ c r, isW c = true → P ((c :: r).drop (runLen isW (c :: r))) → P (c :: r)) (hb : ∀ c r, isW c = false → isB c = true → P ((c :: r).drop (runLen isB (c :: r))) → P (c :: r))
    (hr : ∀ r, P (35 :: r)) (hx : ∀ c r, isW c = false → isB c = false → c ≠ 35 → P (c :: r)) (l : List UInt8) : P l := by
  have key : ∀ n, ∀ l : List UInt8, l.length ≤ n → P l := by
    intro n
    induction n with
    | zero => intro l h; have e : l = [] := List.eq_nil_of_length_eq_zero (by omega); rw [e]; exact h0
    | succ n ih =>
      intro l h
      cases l with
      | nil => exact h0
      | cons c r =>
        simp only [List.length_cons] at h
        cases h1 : isW c with
        | true =>
          have := runLen_pos (r := r) h1
          exact hw c r h1 (ih _ (by rw [List.length_drop, List.length_cons]; omega))
        | false =>
          cases h2 : isB c with
          | true =>
            have := runLen_pos (r := r) h2
            exact hb c r h1 h2 (ih _ (by rw [List.length_drop, List.length_cons]; omega))
          | false =>
            by_cases h3 : c = 35
            · subst h3; exact hr r
            · exact hx c r h1 h2 h3
  exact key _ l (Nat.le_refl _)
/-- words, a place further on -/
def wSh (d : Nat) (x : List (List UInt8 × Int) × Option Nat) : List (List UInt8 × Int) × Option Nat := (x.1.map fun w => (w.1, w.2 + (d : Int)), x.2.map (· + d))
theorem wordsL_shift (l : List UInt8) : ∀ pos d, wordsL (pos + d) l = wSh d (wordsL pos l) := by
  induction l using words_ind with
  | h0 => intro pos d; rw [wordsL_nil, wordsL_nil]; rfl
  | hw c r h ih =>
    intro pos d
    rw [wordsL_w h, wordsL_w h, show pos + d + runLen isW (c :: r) = pos + runLen isW (c :: r) + d by omega, ih]
    simp [wSh]
  | hb c r h h2 ih =>
    intro pos d
    rw [wordsL_b h h2, wordsL_b h h2, show pos + d + runLen isB (c :: r) = pos + runLen isB (c :: r) + d by omega, ih]
  | hr r => intro pos d; rw [wordsL_r, wordsL_r]; rfl
  | hx c r h h2 h3 => intro pos d; rw [wordsL_x h h2 h3, wordsL_x h h2 h3]; rfl
theorem wordsL_len (l : List UInt8) : ∀ pos, (wordsL pos l).1.length ≤ l.length := by
  induction l using words_ind with
  | h0 => intro pos; rw [wordsL_nil]; exact Nat.le_refl _
  | hw c r h ih =>
    intro pos
    have := ih (pos + runLen isW (c :: r))
    have h2 := runLen_pos (r := r) h
    have h3 := runLen_le isW (c :: r)
    rw [List.length_drop] at this
    rw [wordsL_w h]
    simp only [List.length_cons] at *
    omega
  | hb c r h h2 ih =>
    intro pos
    have := ih (pos + runLen isB (c :: r))
    rw [List.length_drop] at this
    rw [wordsL_b h h2]
    omega
  | hr r => intro pos; rw [wordsL_r]; exact Nat.zero_le _
  | hx c r h h2 h3 => intro pos; rw [wordsL_x h h2 h3]; exact Nat.zero_le _
theorem linesF_eq (pos : Nat) (l : List UInt8) : linesF pos l = match (wordsL pos (l.take (lineLen l))).2 with
    | some b => ([], some b)
    | none => if lineLen l < l.length then
        ((if (wordsL pos (l.take (lineLen l))).1 = [] then [] else [((wordsL pos (l.take (lineLen l))).1, (pos : Int))]) ++ (linesF (pos + (lineLen l + 1)) (l.drop (lineLen l + 1))).1, (linesF (pos + (lineLen l + 1)) (l.drop (lineLen l + 1))).2)
      else (if (wordsL pos (l.take (lineLen l))).1 = [] then [] else [((wordsL pos (l.take (lineLen l))).1, (pos : Int))], none) := by
  rw [linesF]
  cases hw : wordsL pos (l.take (lineLen l)) with
  | mk ws o =>
    cases o with
    | some b => rfl
    | none =>
      by_cases h : lineLen l < l.length
      · simp [h]
      · simp [h]
theorem lines_ind {P : List UInt8 → Prop} (h : ∀ l, (lineLen l < l.length → P (l.drop (lineLen l + 1))) → P l) (l : List UInt8) : P l := by
  have key : ∀ n, ∀ l : List UInt8, l.length ≤ n → P l := by
    intro n
    induction n with
    | zero => intro l hl; exact h l fun h => by omega
    | succ n ih => intro l hl; exact h l fun h => ih _ (by rw [List.length_drop]; omega)
  exact key _ l (Nat.le_refl _)
def lSh (d : Nat) (x : List PLine × Option Nat) : List PLine × Option Nat := (x.1.map fun y => (y.1.map (fun w => (w.1, w.2 + (d : Int))), y.2 + (d : Int)), x.2.map (· + d))
theorem linesF_shift (l : List UInt8) : ∀ pos d, linesF (pos + d) l = lSh d (linesF pos l) := by
  induction l using lines_ind with
  | h l ih =>
    intro pos d
    rw [linesF_eq (pos + d), linesF_eq pos, wordsL_shift]
    cases hw : wordsL pos (l.take (lineLen l)) with
    | mk ws o =>
      cases o with
      | some b => rfl
      | none =>
        simp only [wSh, Option.map_none]
        by_cases h : lineLen l < l.length
        · rw [if_pos h, if_pos h, show pos + d + (lineLen l + 1) = pos + (lineLen l + 1) + d by omega, ih h]
          cases ws <;> simp [lSh]
        · rw [if_neg h, if_neg h]
          cases ws <;> simp [lSh]
theorem linesF_len (l : List UInt8) : ∀ pos, (linesF pos l).1.length ≤ l.length ∧ ∀ x ∈ (linesF pos l).1, x.1.length ≤ l.length := by
  induction l using lines_ind with
  | h l ih =>
    intro pos
    rw [linesF_eq]
    have hle := lineLen_le l
    have hwl := wordsL_len (l.take (lineLen l)) pos
    rw [List.length_take] at hwl
    cases hw : wordsL pos (l.take (lineLen l)) with
    | mk ws o =>
      rw [hw] at hwl
      cases o with
      | some b => exact ⟨Nat.zero_le _, by simp⟩
      | none =>
        simp only at hwl ⊢
        by_cases h : lineLen l < l.length
        · have hi := ih h (pos + (lineLen l + 1))
          rw [List.length_drop] at hi
          rw [if_pos h]
          constructor
          · simp only [List.length_append]
            have h1 : (if ws = [] then [] else [(ws, (pos : Int))]).length ≤ 1 := by split <;> simp
            omega
          · intro x hx
            simp only [List.mem_append] at hx
            rcases hx with hx | hx
            · split at hx
              · simp at hx
              · simp at hx; subst hx; simp only; omega
            · have := hi.2 x hx; omega
        · rw [if_neg h]
          constructor
          · split
            · simp
            · rename_i hne
              have : 0 < ws.length := List.length_pos_iff.2 hne
              simp only [List.length_cons, List.length_nil]; omega
          · intro x hx
            simp only at hx
            split at hx
            · simp at hx
            · simp at hx; subst hx; simp only; omega
theorem lineLen_append (a b : List UInt8) : lineLen (a ++ 10 :: b) = lineLen a := by
  unfold lineLen runLen
  induction a with
  | nil => simp
  | cons c a ih => simp only [List.cons_append, List.takeWhile_cons]; split <;> simp_all
/-- a text with a byte 10 behind, and another text behind that -/
theorem linesF_join (a b : List UInt8) : ∀ pos, (linesF pos (a ++ 10 :: b)).2 = (match (linesF pos a).2 with | some x => some x | none => (linesF (pos + (a.length + 1)) b).2) ∧
    ((linesF pos a).2 = none → (linesF pos (a ++ 10 :: b)).1 = (linesF pos a).1 ++ (linesF (pos + (a.length + 1)) b).1) := by
  induction a using lines_ind with
  | h a ih =>
    intro pos
    have hle := lineLen_le a
    have hlt : lineLen (a ++ 10 :: b) < (a ++ 10 :: b).length := by rw [lineLen_append, List.length_append, List.length_cons]; omega
    have htk : (a ++ 10 :: b).take (lineLen (a ++ 10 :: b)) = a.take (lineLen a) := by rw [lineLen_append, List.take_append_of_le_length hle]
    rw [linesF_eq pos (a ++ 10 :: b), linesF_eq pos a, htk, lineLen_append]
    rw [lineLen_append] at hlt
    cases hw : wordsL pos (a.take (lineLen a)) with
    | mk ws o =>
      cases o with
      | some x => simp
      | none =>
        simp only
        rw [if_pos hlt]
        by_cases h : lineLen a < a.length
        · rw [if_pos h]
          have hd : (a ++ 10 :: b).drop (lineLen a + 1) = a.drop (lineLen a + 1) ++ 10 :: b := by rw [List.drop_append_of_le_length (by omega)]
          have hi := ih h (pos + (lineLen a + 1))
          rw [List.length_drop, show pos + (lineLen a + 1) + (a.length - (lineLen a + 1) + 1) = pos + (a.length + 1) by omega] at hi
          rw [hd]
          refine ⟨hi.1, fun hn => ?_⟩
          simp only at hn ⊢
          rw [hi.2 hn, List.append_assoc]
        · rw [if_neg h]
          have he : lineLen a = a.length := by omega
          have hd : (a ++ 10 :: b).drop (lineLen a + 1) = b := by rw [he, ← List.drop_drop]; simp
          rw [hd, he]
          exact ⟨rfl, fun _ => rfl⟩
theorem wordsL_lt (l : List UInt8) : ∀ pos b, (wordsL pos l).2 = some b → b < pos + l.length := by
  induction l using words_ind with
  | h0 => intro pos b h; rw [wordsL_nil] at h; cases h
  | hw c r h ih =>
    intro pos b hb
    rw [wordsL_w h] at hb
    have := ih _ _ hb
    have h3 := runLen_le isW (c :: r)
    rw [List.length_drop] at this
    omega
  | hb c r h h2 ih =>
    intro pos b hb
    rw [wordsL_b h h2] at hb
    have := ih _ _ hb
    have h3 := runLen_le isB (c :: r)
    rw [List.length_drop] at this
    omega
  | hr r => intro pos b h; rw [wordsL_r] at h; cases h
  | hx c r h h2 h3 => intro pos b hb; rw [wordsL_x h h2 h3] at hb; injection hb with hb; subst hb; simp
theorem linesF_lt (l : List UInt8) : ∀ pos b, (linesF pos l).2 = some b → b < pos + l.length := by
  induction l using lines_ind with
  | h l ih =>
    intro pos b hb
    rw [linesF_eq] at hb
    have hle := lineLen_le l
    have hwl := wordsL_lt (l.take (lineLen l)) pos
    rw [List.length_take] at hwl
    cases hw : wordsL pos (l.take (lineLen l)) with
    | mk ws o =>
      rw [hw] at hb hwl
      cases o with
      | some x => simp only at hb hwl; injection hb with hb; subst hb; have := hwl x rfl; omega
      | none =>
        simp only at hb
        by_cases h : lineLen l < l.length
        · rw [if_pos h] at hb
          have := ih h _ _ hb
          rw [List.length_drop] at this
          omega
        · rw [if_neg h] at hb; cases hb
end Go.Proofs.Ytnealepilmobjaa
