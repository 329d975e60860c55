/- Plain law: what is shown has the same lines. -/
import Derived.Test.YtnealepilmobjaaFunQ
import Derived.Test.YtnealepilmobjaaFunF
import Derived.Test.YtnealepilmobjaaFunK
set_option linter.unusedVariables false
set_option linter.unusedSimpArgs false
namespace Go.Proofs.Ytnealepilmobjaa
open Go.Eng
def Sep (r : List UInt8) : Prop := r = [] ∨ ∃ r', r = 32 :: r'
theorem isL_spec {w : List UInt8} (h : isL w = true) : w ≠ [] ∧ ∀ c ∈ w, isW c = true := by
  unfold isL at h
  simp only [Bool.and_eq_true, Bool.not_eq_true', List.isEmpty_eq_false_iff] at h
  exact ⟨h.1, List.all_eq_true.1 h.2⟩
theorem runLen_app {w r : List UInt8} (hw : ∀ c ∈ w, isW c = true) (hr : Sep r) : runLen isW (w ++ r) = w.length := by
  induction w with
  | nil =>
    rcases hr with rfl | ⟨r', rfl⟩
    · rfl
    · exact runLen_zero (by decide)
  | cons c w ih =>
    rw [List.cons_append, runLen_cons_t (hw c (by simp)), ih (fun d hd => hw d (by simp [hd])), List.length_cons]
theorem words_one {w r : List UInt8} (hw : isL w = true) (hr : Sep r) (pos : Nat) : wordsL pos (w ++ r) = ((w, (pos : Int)) :: (wordsL (pos + w.length) r).1, (wordsL (pos + w.length) r).2) := by
  obtain ⟨h1, h2⟩ := isL_spec hw
  cases w with
  | nil => exact absurd rfl h1
  | cons c w =>
    have e := runLen_app h2 hr
    rw [List.cons_append] at e ⊢
    rw [wordsL_w (h2 c (by simp)), e]
    have e1 : (c :: (w ++ r)).take (c :: w).length = c :: w := by rw [← List.cons_append, List.take_left]
    have e2 : (c :: (w ++ r)).drop (c :: w).length = r := by rw [← List.cons_append, List.drop_left]
    rw [e1, e2]
theorem words_sep {v r : List UInt8} (hv : isL v = true) (pos : Nat) : wordsL pos (32 :: (v ++ r)) = wordsL (pos + 1) (v ++ r) := by
  obtain ⟨h1, h2⟩ := isL_spec hv
  cases v with
  | nil => exact absurd rfl h1
  | cons c v =>
    have hb := (isW_ne (h2 c (by simp))).2.2.2.2
    have e : runLen isB (32 :: (c :: v ++ r)) = 1 := by
      rw [runLen_cons_t (by decide), List.cons_append, runLen_zero hb]
    rw [wordsL_b (by decide) (by decide), e]
    rfl
theorem sep_showF (ws : List (List UInt8 × Int)) : Sep (showF false ws) := by
  cases ws with
  | nil => exact .inl rfl
  | cons w ws => exact .inr ⟨w.1 ++ showF false ws, by simp [showF]⟩
theorem words_show (ws : List (List UInt8 × Int)) : (∀ w ∈ ws, isL w.1 = true) → ∀ pos : Nat, (wordsL pos (showF true ws)).2 = none ∧ (wordsL pos (showF true ws)).1.map (·.1) = ws.map (·.1) := by
  induction ws with
  | nil => intro _ pos; rw [showF, wordsL_nil]; exact ⟨rfl, rfl⟩
  | cons w ws ih =>
    intro h pos
    rw [showF]
    simp only [if_true, List.nil_append]
    rw [words_one (h w (by simp)) (sep_showF ws)]
    have key : ∀ p : Nat, (wordsL p (showF false ws)).2 = none ∧ (wordsL p (showF false ws)).1.map (·.1) = ws.map (·.1) := by
      intro p
      cases ws with
      | nil => rw [showF, wordsL_nil]; exact ⟨rfl, rfl⟩
      | cons v vs =>
        have e : showF false (v :: vs) = 32 :: (v.1 ++ showF false vs) := by simp [showF]
        have e2 : showF true (v :: vs) = v.1 ++ showF false vs := by simp [showF]
        rw [e, words_sep (h v (by simp)), ← e2]
        exact ih (fun x hx => h x (by simp [hx])) (p + 1)
    have := key (pos + w.1.length)
    simp only [List.map_cons]
    exact ⟨this.1, by rw [this.2]⟩
theorem showF_no10 (ws : List (List UInt8 × Int)) : ∀ b, (∀ w ∈ ws, isL w.1 = true) → ∀ c ∈ showF b ws, c ≠ 10 := by
  induction ws with
  | nil => intro b _ c hc; simp [showF] at hc
  | cons w ws ih =>
    intro b h c hc
    rw [showF, List.mem_append, List.mem_append] at hc
    rcases hc with (hc | hc) | hc
    · split at hc
      · simp at hc
      · simp at hc; subst hc; decide
    · exact (isW_ne ((isL_spec (h w (by simp))).2 c hc)).1
    · exact ih false (fun x hx => h x (by simp [hx])) c hc
theorem lineLen_all {l : List UInt8} (h : ∀ c ∈ l, c ≠ 10) : lineLen l = l.length := by
  have : l.takeWhile (fun c => !(c == 10)) = l := by
    induction l with
    | nil => rfl
    | cons c l ih =>
      rw [List.takeWhile_cons, if_pos (by simpa using h c (by simp)), ih fun d hd => h d (by simp [hd])]
  unfold lineLen runLen
  rw [this]
def okLine (x : PLine) : Prop := x.1 ≠ [] ∧ ∀ w ∈ x.1, isL w.1 = true
theorem nW_false (w : List UInt8 × Int) : nW false w = (w.1, 0) := by simp [nW]
theorem texts_eq {us vs : List (List UInt8 × Int)} (h : us.map (·.1) = vs.map (·.1)) : us.map (nW false) = vs.map (nW false) := by
  have e : ∀ l : List (List UInt8 × Int), l.map (nW false) = (l.map (·.1)).map fun t => (t, (0 : Int)) := fun l => by
    rw [List.map_map]; exact List.map_congr_left fun w _ => nW_false w
  rw [e, e, h]
theorem lines_show (ls : List PLine) : (∀ x ∈ ls, okLine x) → ∀ pos : Nat, (linesF pos (showL ls)).2 = none ∧ (linesF pos (showL ls)).1.map (nL false) = ls.map (nL false) := by
  induction ls with
  | nil =>
    intro _ pos
    rw [showL, linesF_eq]
    simp [wordsL_nil, lineLen, runLen]
  | cons x xs ih =>
    intro h pos
    obtain ⟨hx1, hx2⟩ := h x (by simp)
    have hn := showF_no10 x.1 true hx2
    have hws := words_show x.1 hx2 pos
    have e : showL (x :: xs) = showF true x.1 ++ 10 :: showL xs := by simp [showL]
    have hline : linesF pos (showF true x.1) = ([((wordsL pos (showF true x.1)).1, (pos : Int))], none) := by
      rw [linesF_eq, lineLen_all hn, List.take_length, hws.1]
      simp only
      rw [if_neg (by omega), if_neg]
      intro e2
      have := hws.2
      rw [e2] at this
      cases hx : x.1 with
      | nil => exact hx1 hx
      | cons a b => rw [hx] at this; simp at this
    have hj := linesF_join (showF true x.1) (showL xs) pos
    rw [← e, hline] at hj
    simp only at hj
    have hi := ih (fun y hy => h y (by simp [hy])) (pos + ((showF true x.1).length + 1))
    refine ⟨hj.1.trans hi.1, ?_⟩
    rw [hj.2 trivial, List.map_append, hi.2, List.map_cons, List.map_cons, List.map_nil]
    have : nL false ((wordsL pos (showF true x.1)).1, (pos : Int)) = nL false x := by
      unfold nL
      rw [texts_eq hws.2]
      simp
    rw [this]
    rfl
theorem wordsL_ok (l : List UInt8) : ∀ pos, ∀ w ∈ (wordsL pos l).1, isL w.1 = true := by
  induction l using words_ind with
  | h0 => intro pos w hw; rw [wordsL_nil] at hw; cases hw
  | hw c r h ih =>
    intro pos w hw
    rw [wordsL_w h] at hw
    rcases List.mem_cons.1 hw with rfl | hw
    · unfold isL
      have e1 : ((c :: r).take (runLen isW (c :: r))).isEmpty = false := by rw [runLen_cons_t h]; rfl
      have e2 : ((c :: r).take (runLen isW (c :: r))).all isW = true := by
        have : (c :: r).take (runLen isW (c :: r)) = (c :: r).takeWhile isW := (List.prefix_iff_eq_take.1 (List.takeWhile_prefix isW)).symm
        rw [this]
        exact List.all_takeWhile
      simp only [e1, e2]; rfl
    · exact ih _ w hw
  | hb c r h h2 ih => intro pos w hw; rw [wordsL_b h h2] at hw; exact ih _ w hw
  | hr r => intro pos w hw; rw [wordsL_r] at hw; cases hw
  | hx c r h h2 h3 => intro pos w hw; rw [wordsL_x h h2 h3] at hw; cases hw
theorem linesF_ok (l : List UInt8) : ∀ pos, ∀ x ∈ (linesF pos l).1, okLine x := by
  induction l using lines_ind with
  | h l ih =>
    intro pos x hx
    rw [linesF_eq] at hx
    have hok := wordsL_ok (l.take (lineLen l)) pos
    cases hw : wordsL pos (l.take (lineLen l)) with
    | mk ws o =>
      rw [hw] at hx hok
      have hone : ∀ y : PLine, y ∈ (if ws = [] then [] else [(ws, (pos : Int))]) → okLine y := by
        intro y hy
        split at hy
        · cases hy
        · rename_i hne
          simp at hy
          subst hy
          exact ⟨hne, hok⟩
      cases o with
      | some b => cases hx
      | none =>
        simp only at hx
        by_cases h : lineLen l < l.length
        · rw [if_pos h] at hx
          simp only [List.mem_append] at hx
          rcases hx with hx | hx
          · exact hone x hx
          · exact ih h _ x hx
        · rw [if_neg h] at hx
          exact hone x hx
theorem showF_words (l : List UInt8) : ∀ pos b, (showF b (wordsL pos l).1).length ≤ 2 * l.length := by
  induction l using words_ind with
  | h0 => intro pos b; rw [wordsL_nil]; simp [showF]
  | hw c r h ih =>
    intro pos b
    rw [wordsL_w h, showF]
    have h1 := ih (pos + runLen isW (c :: r)) false
    have h2 := runLen_pos (r := r) h
    have h3 := runLen_le isW (c :: r)
    have h4 : (if b = true then ([] : List UInt8) else [32]).length ≤ 1 := by split <;> simp
    rw [List.length_drop] at h1
    rw [List.length_append, List.length_append, List.length_take]
    omega
  | hb c r h h2 ih =>
    intro pos b
    rw [wordsL_b h h2]
    have h1 := ih (pos + runLen isB (c :: r)) b
    rw [List.length_drop] at h1
    omega
  | hr r => intro pos b; rw [wordsL_r]; simp [showF]
  | hx c r h h2 h3 => intro pos b; rw [wordsL_x h h2 h3]; simp [showF]
theorem showL_app (a b : List PLine) : showL (a ++ b) = showL a ++ showL b := by
  induction a with
  | nil => rfl
  | cons x a ih => rw [List.cons_append, showL, showL, ih]; simp
theorem showL_lines (l : List UInt8) : ∀ pos, (showL (linesF pos l).1).length ≤ 2 * l.length + 1 := by
  induction l using lines_ind with
  | h l ih =>
    intro pos
    rw [linesF_eq]
    have hle := lineLen_le l
    have hb := showF_words (l.take (lineLen l)) pos true
    rw [List.length_take] at hb
    cases hw : wordsL pos (l.take (lineLen l)) with
    | mk ws o =>
      rw [hw] at hb
      have hone : (showL (if ws = [] then [] else [(ws, (pos : Int))])).length ≤ 2 * lineLen l + 1 := by
        split
        · simp [showL]
        · simp only [showL, List.length_append, List.length_cons, List.length_nil]; simp only at hb; omega
      cases o with
      | some b => simp [showL]
      | none =>
        simp only
        by_cases h : lineLen l < l.length
        · rw [if_pos h]
          have hi := ih h (pos + (lineLen l + 1))
          rw [List.length_drop] at hi
          simp only [showL_app, List.length_append]
          omega
        · rw [if_neg h]
          simp only
          omega
end Go.Proofs.Ytnealepilmobjaa
