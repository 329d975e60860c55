/-
  The engine, part 3: new rows, stores, appends, what is settled.
-/
import Derived.Test.YtnealepilmobjaaEng2
set_option linter.unusedVariables false
set_option linter.unusedSimpArgs false
namespace Go.Eng
open Go.RowKit

def upd (ρ : Nat → Option RowAt) (r : Nat) (la : Option RowAt) : Nat → Option RowAt := fun r' => if r' = r then la else ρ r'
theorem upd_same (ρ : Nat → Option RowAt) (r : Nat) (la : Option RowAt) : upd ρ r la r = la := by simp [upd]
theorem upd_other (ρ : Nat → Option RowAt) (r : Nat) (la : Option RowAt) : ∀ r', r' ≠ r → upd ρ r la r' = ρ r' := by intro r' h; simp [upd, h]

section
variable {Γ : Ctx} {ρ : Nat → Option RowAt} {st : AS} {a : Act} {w w' : World}

/-- row r lies anew (in a new block, or where it lay), or nowhere; its handles are struck out -/
theorem SatAt.renew (h : SatAt Γ ρ st a w) (r : Nat) (hpb : r < 1000000) (row' : Row) (la' : Option RowAt)
    (hg : ∀ la, la' = some la → w.heap.size ≤ la.b ∨ ∃ row la0, st.row r = some row ∧ ρ r = some la0 ∧ la0.b = la.b)
    (ho : w'.os = w.os) (ht : w'.tape = w.tape) (hu : w'.output = w.output) (hsz : w.heap.size ≤ w'.heap.size) (hlt : ∀ la, la' = some la → la.b < w'.heap.size)
    (hb : ∀ b, b < w.heap.size → (∀ la, la' = some la → b ≠ la.b) → w'.heap[b]? = w.heap[b]?)
    (hrep : (∀ b, SFof Γ st ρ w b → SFof Γ (st.new r row') (upd ρ r la') w' b) → (∀ b, SAof Γ st ρ w b → SAof Γ (st.new r row') (upd ρ r la') w' b) →
      (∀ b, SFof Γ st ρ w b → w'.heap[b]? = w.heap[b]?) → (∀ b, SAof Γ st ρ w b → w'.heap[b]? = w.heap[b]?) →
      RowRep (upd ρ r la') (SFof Γ (st.new r row') (upd ρ r la') w') (SAof Γ (st.new r row') (upd ρ r la') w') w' r row') :
    SatAt Γ (upd ρ r la') (st.new r row') a w' := by
  have hne : ∀ b, ¬ RowB st ρ b → b < w.heap.size → ∀ la, la' = some la → b ≠ la.b := by
    intro b hn hbl la hla e
    rcases hg la hla with h1 | ⟨row, la0, h1, h2, h3⟩
    · omega
    · exact hn ⟨r, row, la0, h1, h2, h3.trans e.symm⟩
  have hB : ∀ b, b < w.heap.size → RowB (st.new r row') (upd ρ r la') b → RowB st ρ b := by
    intro b hbl ⟨r1, row1, la1, h1, h2, h3⟩
    by_cases e : r = r1
    · subst e
      rw [upd_same] at h2
      rcases hg la1 h2 with h4 | ⟨row, la0, h4, h5, h6⟩
      · omega
      · exact ⟨r, row, la0, h4, h5, h6.trans h3⟩
    · rw [row_new, if_neg e] at h1
      rw [upd_other _ _ _ _ (Ne.symm e)] at h2
      cases hr1 : st.row r1 with
      | none => simp [hr1] at h1
      | some row2 => exact ⟨r1, row2, la1, hr1, h2, h3⟩
  have hF : ∀ b, SFof Γ st ρ w b → SFof Γ (st.new r row') (upd ρ r la') w' b := fun b hb' => ⟨hb'.1, Nat.lt_of_lt_of_le hb'.2.1 hsz, fun hx => hb'.2.2.1 (hB b hb'.2.1 hx), hb'.2.2.2.eq (hb b hb'.2.1 (hne b hb'.2.2.1 hb'.2.1))⟩
  have hA : ∀ b, SAof Γ st ρ w b → SAof Γ (st.new r row') (upd ρ r la') w' b := fun b hb' => ⟨hb'.1, Nat.lt_of_lt_of_le hb'.2.1 hsz, fun hx => hb'.2.2 (hB b hb'.2.1 hx)⟩
  have hwF : ∀ b, SFof Γ st ρ w b → w'.heap[b]? = w.heap[b]? := fun b hb' => hb b hb'.2.1 (hne b hb'.2.2.1 hb'.2.1)
  have hwA : ∀ b, SAof Γ st ρ w b → w'.heap[b]? = w.heap[b]? := fun b hb' => hb b hb'.2.1 (hne b hb'.2.2 hb'.2.1)
  have hC : ∀ c x, CRep ρ (SFof Γ st ρ w) (SAof Γ st ρ w) w c x → CRep (upd ρ r la') (SFof Γ (st.new r row') (upd ρ r la') w') (SAof Γ (st.new r row') (upd ρ r la') w') w' (kill r c) x :=
    fun c x hc => (hc.mono rfl hF hA hwF hwA).kill (upd_other ρ r la')
  refine ⟨h.defers, h.size, fun i => ?_, fun r1 row1 hr1 => ?_, ?_, ?_, ?_, h.lent, fun r1 la1 hp => ⟨(h.pins r1 la1 hp).1, (upd_other ρ r la' r1 (by have := (h.pins r1 la1 hp).1; omega)).trans (h.pins r1 la1 hp).2⟩⟩
  · rw [get_new]
    exact (h.env i).kill hC
  · by_cases e : r = r1
    · subst e
      rw [row_new, if_pos rfl] at hr1
      injection hr1 with hr1
      subst hr1
      exact hrep hF hA hwF hwA
    · rw [row_new, if_neg e] at hr1
      cases hr2 : st.row r1 with
      | none => simp [hr2] at hr1
      | some row2 =>
        simp [hr2] at hr1
        subst hr1
        have hot := upd_other ρ r la' r1 (Ne.symm e)
        have hblk : ∀ la, ρ r1 = some la → w'.heap[la.b]? = w.heap[la.b]? := by
          intro la hla
          refine hb _ (h.own r1 _ la hr2 hla).2 fun la1 hla1 hx => ?_
          rcases hg la1 hla1 with h1 | ⟨row, la0, h1, h2, h3⟩
          · have := (h.own r1 _ la hr2 hla).2; omega
          · exact e (h.inj r r1 row row2 la0 la h1 hr2 h2 hla (h3.trans hx.symm))
        have hrr := h.rows r1 row2 hr2
        cases hrr with
        | nil fr ty size hn => exact .nil fr ty size (by rw [hot]; exact hn)
        | tr fr ty size es la cur hla hss hh htt hl hz hf =>
          refine .tr fr ty size es la cur (by rw [hot]; exact hla) hss (by rw [hblk la hla]; exact hh) htt hl hz fun k i e t hk hi => ?_
          obtain ⟨x, hx, ht⟩ := hf k i e t hk hi
          refine ⟨x, hx, ?_⟩
          cases fr
          · exact ht.mono (by simpa using hA) (by simpa using hwA)
          · exact ht.mono (by simpa using hF) (by simpa using hwF)
        | bx ty cs la cur hla hss hh htt hf =>
          refine .bx ty _ la cur (by rw [hot]; exact hla) (by simpa using hss) (by rw [hblk la hla]; exact hh) (by simpa using htt) fun i c hi => ?_
          rw [List.getElem?_map] at hi
          cases hci : cs[i]? with
          | none => simp [hci] at hi
          | some c0 =>
            simp [hci] at hi
            subst hi
            obtain ⟨x, hx, ht⟩ := hf i c0 hci
            exact ⟨x, hx, hC c0 x ht⟩
  · intro r1 r2 row1 row2 la1 la2 hr1 hr2 hl1 hl2 e
    have key : ∀ r1 row1 la1, r ≠ r1 → (st.new r row').row r1 = some row1 → upd ρ r la' r1 = some la1 → ∃ row, st.row r1 = some row ∧ ρ r1 = some la1 := by
      intro r1 row1 la1 e hr1 hl1
      rw [row_new, if_neg e] at hr1
      rw [upd_other _ _ _ _ (Ne.symm e)] at hl1
      cases hr3 : st.row r1 with
      | none => simp [hr3] at hr1
      | some row3 => exact ⟨row3, rfl, hl1⟩
    have apart : ∀ r1 row1 la1 la2, r ≠ r1 → (st.new r row').row r1 = some row1 → upd ρ r la' r1 = some la1 → upd ρ r la' r = some la2 → la1.b ≠ la2.b := by
      intro r1 row1 la1 la2 e hr1 hl1 hl2 hx
      obtain ⟨row, h1, h2⟩ := key r1 row1 la1 e hr1 hl1
      rw [upd_same] at hl2
      rcases hg la2 hl2 with h3 | ⟨row3, la3, h3, h4, h5⟩
      · have := (h.own r1 _ la1 h1 h2).2; omega
      · exact e (h.inj r r1 row3 row la3 la1 h3 h1 h4 h2 (h5.trans hx.symm))
    by_cases e1 : r = r1
    · by_cases e2 : r = r2
      · exact e1.symm.trans e2
      · subst e1; exact absurd e.symm (apart r2 row2 la2 la1 e2 hr2 hl2 hl1)
    · by_cases e2 : r = r2
      · subst e2; exact absurd e (apart r1 row1 la1 la2 e1 hr1 hl1 hl2)
      · obtain ⟨rw1, h1, h2⟩ := key r1 row1 la1 e1 hr1 hl1
        obtain ⟨rw2, h3, h4⟩ := key r2 row2 la2 e2 hr2 hl2
        exact h.inj r1 r2 rw1 rw2 la1 la2 h1 h3 h2 h4 e
  · intro r1 row1 la1 hr1 hl1
    by_cases e1 : r = r1
    · subst e1
      rw [upd_same] at hl1
      refine ⟨?_, hlt la1 hl1⟩
      rcases hg la1 hl1 with h1 | ⟨row, la0, h1, h2, h3⟩
      · exact .inl (Nat.le_trans h.fr.size h1)
      · rw [← h3]; exact (h.own r row la0 h1 h2).1
    · rw [row_new, if_neg e1] at hr1
      rw [upd_other _ _ _ _ (Ne.symm e1)] at hl1
      cases hr3 : st.row r1 with
      | none => simp [hr3] at hr1
      | some row3 => exact ⟨(h.own r1 row3 la1 hr3 hl1).1, Nat.lt_of_lt_of_le (h.own r1 row3 la1 hr3 hl1).2 hsz⟩
  · refine h.fr.next ho ht hu hsz fun b hb' hX => hb b (Nat.lt_of_lt_of_le hb' h.fr.size) fun la hla hx => ?_
    rcases hg la hla with h1 | ⟨row, la0, h1, h2, h3⟩
    · have := h.fr.size; omega
    · rcases (h.own r row la0 h1 h2).1 with h4 | h4
      · omega
      · exact hX (by rw [hx, ← h3]; exact h4)

/-- row r turns where it lies -/
theorem SatAt.upd_ (h : SatAt Γ ρ st a w) (r : Nat) (row row' : Row) (la : RowAt) (hr : st.row r = some row) (hla : ρ r = some la)
    (ho : w'.os = w.os) (ht : w'.tape = w.tape) (hu : w'.output = w.output) (hsz : w.heap.size = w'.heap.size)
    (hb : ∀ b, b ≠ la.b → w'.heap[b]? = w.heap[b]?)
    (hrep : (∀ b, SFof Γ st ρ w b → w'.heap[b]? = w.heap[b]?) → (∀ b, SAof Γ st ρ w b → w'.heap[b]? = w.heap[b]?) →
      RowRep ρ (SFof Γ st ρ w) (SAof Γ st ρ w) w' r row') :
    SatAt Γ ρ (st.setRow r row') a w' := by
  have hB : RowB (st.setRow r row') ρ = RowB st ρ := by
    funext b
    refine propext ⟨fun ⟨r1, row1, la1, h1, h2, h3⟩ => ?_, fun ⟨r1, row1, la1, h1, h2, h3⟩ => ?_⟩
    · rw [row_setRow] at h1
      by_cases e : r = r1
      · subst e; exact ⟨r, row, la1, hr, h2, h3⟩
      · rw [if_neg e] at h1; exact ⟨r1, row1, la1, h1, h2, h3⟩
    · by_cases e : r = r1
      · subst e; exact ⟨r, row', la1, by rw [row_setRow, if_pos rfl], h2, h3⟩
      · exact ⟨r1, row1, la1, by rw [row_setRow, if_neg e]; exact h1, h2, h3⟩
  have hFe : SFof Γ (st.setRow r row') ρ w' = SFof Γ st ρ w := by
    funext b
    simp only [SFof, hB, hsz]
    refine propext ⟨fun ⟨h1, h2, h3, h4⟩ => ⟨h1, h2, h3, h4.eq (hb b fun e => h3 ⟨r, row, la, hr, hla, e.symm⟩).symm⟩, fun ⟨h1, h2, h3, h4⟩ => ⟨h1, h2, h3, h4.eq (hb b fun e => h3 ⟨r, row, la, hr, hla, e.symm⟩)⟩⟩
  have hAe : SAof Γ (st.setRow r row') ρ w' = SAof Γ st ρ w := by funext b; simp only [SAof, hB, hsz]
  have hwF : ∀ b, SFof Γ st ρ w b → w'.heap[b]? = w.heap[b]? := fun b hb' => hb b fun e => hb'.2.2.1 ⟨r, row, la, hr, hla, e.symm⟩
  have hwA : ∀ b, SAof Γ st ρ w b → w'.heap[b]? = w.heap[b]? := fun b hb' => hb b fun e => hb'.2.2 ⟨r, row, la, hr, hla, e.symm⟩
  have hC : ∀ c x, CRep ρ (SFof Γ st ρ w) (SAof Γ st ρ w) w c x → CRep ρ (SFof Γ st ρ w) (SAof Γ st ρ w) w' c x := fun c x hc => hc.mono rfl (fun _ h => h) (fun _ h => h) hwF hwA
  refine ⟨h.defers, h.size, fun i => ?_, fun r1 row1 hr1 => ?_, ?_, ?_, ?_, h.lent, h.pins⟩
  · rw [get_setRow, hFe, hAe]; exact (h.env i).mono hC
  · rw [hFe, hAe]
    rw [row_setRow] at hr1
    by_cases e : r = r1
    · subst e
      rw [if_pos rfl] at hr1
      injection hr1 with hr1
      subst hr1
      exact hrep hwF hwA
    · rw [if_neg e] at hr1
      have hblk : ∀ la1, ρ r1 = some la1 → w'.heap[la1.b]? = w.heap[la1.b]? := fun la1 hl1 => hb _ fun hx => e (h.inj r r1 row row1 la la1 hr hr1 hla hl1 hx.symm)
      have hrr := h.rows r1 row1 hr1
      cases hrr with
      | nil fr ty size hn => exact .nil fr ty size hn
      | tr fr ty size es la1 cur hl1 hss hh htt hl hz hf =>
        refine .tr fr ty size es la1 cur hl1 hss (by rw [hblk la1 hl1]; exact hh) htt hl hz fun k i e t hk hi => ?_
        obtain ⟨x, hx, ht⟩ := hf k i e t hk hi
        refine ⟨x, hx, ?_⟩
        cases fr
        · exact ht.mono (fun _ h => h) (by simpa using hwA)
        · exact ht.mono (fun _ h => h) (by simpa using hwF)
      | bx ty cs la1 cur hl1 hss hh htt hf =>
        refine .bx ty cs la1 cur hl1 hss (by rw [hblk la1 hl1]; exact hh) htt fun i c hi => ?_
        obtain ⟨x, hx, ht⟩ := hf i c hi
        exact ⟨x, hx, hC c x ht⟩
  · intro r1 r2 row1 row2 la1 la2 hr1 hr2 hl1 hl2 e
    have key : ∀ r1 row1, (st.setRow r row').row r1 = some row1 → ∃ row2, st.row r1 = some row2 := by
      intro r1 row1 h1
      rw [row_setRow] at h1
      by_cases e : r = r1
      · subst e; exact ⟨row, hr⟩
      · rw [if_neg e] at h1; exact ⟨row1, h1⟩
    obtain ⟨q1, k1⟩ := key r1 row1 hr1
    obtain ⟨q2, k2⟩ := key r2 row2 hr2
    exact h.inj r1 r2 q1 q2 la1 la2 k1 k2 hl1 hl2 e
  · intro r1 row1 la1 hr1 hl1
    rw [row_setRow] at hr1
    rw [← hsz]
    by_cases e : r = r1
    · subst e; exact h.own r row la1 hr hl1
    · rw [if_neg e] at hr1; exact h.own r1 row1 la1 hr1 hl1
  · refine h.fr.next ho ht hu (by omega) fun b hb' hX => hb b fun hx => ?_
    rcases (h.own r row la hr hla).1 with h1 | h1
    · omega
    · exact hX (by rw [hx]; exact h1)
end
end Go.Eng
