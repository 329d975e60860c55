/-
  The engine, part 2: how an abstract state goes on.
-/
import Derived.Test.YtnealepilmobjaaEng1
set_option linter.unusedVariables false
set_option linter.unusedSimpArgs false
namespace Go.Eng
open Go.RowKit

def AS.put (st : AS) (d : Nat) (v : AV) : AS := ⟨(d, v) :: st.env, st.rows⟩
def AS.putO (st : AS) (d : Option Nat) (v : AV) : AS := match d with | some d => st.put d v | none => st
def AS.new (st : AS) (d : Nat) (row : Row) : AS := ⟨st.env.map fun p => (p.1, p.2.kill d), (d, row) :: st.rows.map fun p => (p.1, p.2.kill d)⟩
def AS.setRow (st : AS) (r : Nat) (row : Row) : AS := ⟨st.env, (r, row) :: st.rows⟩

theorem lk_map {α β : Type} (f : α → β) (l : List (Nat × α)) (i : Nat) : lk (l.map fun p => (p.1, f p.2)) i = (lk l i).map f := by
  induction l with
  | nil => rfl
  | cons p l ih =>
    obtain ⟨j, x⟩ := p
    simp only [List.map_cons, lk]
    split
    · rfl
    · exact ih
theorem get_put (st : AS) (d i : Nat) (v : AV) : (st.put d v).get i = if d = i then v else st.get i := by
  simp only [AS.get, AS.put, lk]
  split <;> rfl
theorem row_put (st : AS) (d : Nat) (v : AV) : (st.put d v).row = st.row := rfl
theorem get_new (st : AS) (d i : Nat) (row : Row) : (st.new d row).get i = (st.get i).kill d := by
  simp only [AS.get, AS.new, lk_map]
  cases lk st.env i <;> rfl
theorem row_new (st : AS) (d r : Nat) (row : Row) : (st.new d row).row r = if d = r then some row else (st.row r).map (Row.kill d) := by
  simp only [AS.row, AS.new, lk, lk_map]
theorem get_setRow (st : AS) (r i : Nat) (row : Row) : (st.setRow r row).get i = st.get i := rfl
theorem row_setRow (st : AS) (r r' : Nat) (row : Row) : (st.setRow r row).row r' = if r = r' then some row else st.row r' := rfl

theorem lk_mem {α : Type} {l : List (Nat × α)} {i : Nat} {x : α} (h : lk l i = some x) : (i, x) ∈ l := by
  induction l with
  | nil => simp [lk] at h
  | cons p l ih =>
    obtain ⟨j, y⟩ := p
    simp only [lk] at h
    split at h
    · rename_i e
      simp at h
      subst h e
      exact List.mem_cons_self
    · exact List.mem_cons_of_mem _ (ih h)

section
variable {Γ : Ctx} {ρ : Nat → Option RowAt} {st : AS} {a : Act} {w w' : World}

theorem SF_lt {b : Nat} (h : SFof Γ st ρ w b) : b < w.heap.size := h.2.1
theorem SA_lt {b : Nat} (h : SAof Γ st ρ w b) : b < w.heap.size := h.2.1

/-- a slot is written -/
theorem SatAt.put (h : SatAt Γ ρ st a w) (d : Nat) (hd : d < Γ.n) {v : AV} {x : Value} (hv : AVRep (CRep ρ (SFof Γ st ρ w) (SAof Γ st ρ w) w) v x) :
    SatAt Γ ρ (st.put d v) (a.put (some d) x) w := by
  refine ⟨h.defers, by simp [Act.put, h.size], fun i => ?_, h.rows, h.inj, h.own, h.fr, h.lent, h.pins⟩
  rw [get_put]
  by_cases e : d = i
  · subst e
    have hd' : d < a.tmps.size := by rw [h.size]; exact hd
    simp only [if_true, Act.put]
    have : (a.tmps.setIfInBounds d x).getD d undef = x := by simp [Array.getD, hd']
    rw [this]
    exact hv
  · simp only [e, if_false, Act.put]
    have : (a.tmps.setIfInBounds d x).getD i undef = a.tmps.getD i undef := by
      simp only [Array.getD_eq_getD_getElem?]
      rw [Array.getElem?_setIfInBounds_ne e]
    rw [this]
    exact h.env i
theorem SatAt.putO (h : SatAt Γ ρ st a w) (d : Option Nat) (hd : ∀ i, d = some i → i < Γ.n) {v : AV} {x : Value} (hv : AVRep (CRep ρ (SFof Γ st ρ w) (SAof Γ st ρ w) w) v x) :
    SatAt Γ ρ (st.putO d v) (a.put d x) w := by
  cases d with
  | none => exact h
  | some d => exact h.put d (hd d rfl) hv

theorem Fr.next {w0 : World} {X : Nat → Prop} (h : Fr w0 X w) (ho : w'.os = w.os) (ht : w'.tape = w.tape) (hu : w'.output = w.output) (hs : w.heap.size ≤ w'.heap.size)
    (hb : ∀ b, b < w0.heap.size → ¬ X b → w'.heap[b]? = w.heap[b]?) : Fr w0 X w' :=
  ⟨ho.trans h.os, ht.trans h.tape, hu.trans h.output, Nat.le_trans h.size hs, fun b hb' hX => (hb b hb' hX).trans (h.block b hb' hX)⟩

/-- the world has grown, nothing else has turned -/
theorem SatAt.world (h : SatAt Γ ρ st a w) (ho : w'.os = w.os) (ht : w'.tape = w.tape) (hu : w'.output = w.output) (hs : w.heap.size ≤ w'.heap.size)
    (hb : ∀ b, b < w.heap.size → w'.heap[b]? = w.heap[b]?) : SatAt Γ ρ st a w' := by
  have hF : ∀ b, SFof Γ st ρ w b → SFof Γ st ρ w' b := fun b hb' => ⟨hb'.1, Nat.lt_of_lt_of_le hb'.2.1 hs, hb'.2.2.1, hb'.2.2.2.eq (hb b hb'.2.1)⟩
  have hA : ∀ b, SAof Γ st ρ w b → SAof Γ st ρ w' b := fun b hb => ⟨hb.1, Nat.lt_of_lt_of_le hb.2.1 hs, hb.2.2⟩
  have hC : ∀ c x, CRep ρ (SFof Γ st ρ w) (SAof Γ st ρ w) w c x → CRep ρ (SFof Γ st ρ w') (SAof Γ st ρ w') w' c x :=
    fun c x hc => hc.mono rfl hF hA (fun b hb' => hb b hb'.2.1) (fun b hb' => hb b hb'.2.1)
  refine ⟨h.defers, h.size, fun i => (h.env i).mono hC, fun r row hr => ?_, h.inj, fun r row la hr hl => ⟨(h.own r row la hr hl).1, Nat.lt_of_lt_of_le (h.own r row la hr hl).2 hs⟩,
    h.fr.next ho ht hu hs (fun b hb' _ => hb b (Nat.lt_of_lt_of_le hb' h.fr.size)), h.lent, h.pins⟩
  have hrr := h.rows r row hr
  cases hrr with
  | nil fr ty size hn => exact .nil fr ty size hn
  | tr fr ty size es la cur hla hsz hh htt hl hz hf =>
    refine .tr fr ty size es la cur hla hsz (by rw [hb _ (h.own r _ la hr hla).2]; exact hh) htt hl hz fun k i e t hk hi => ?_
    obtain ⟨x, hx, ht⟩ := hf k i e t hk hi
    refine ⟨x, hx, ?_⟩
    cases fr
    · exact ht.mono (by simpa using hA) (fun b hb' => hb b (by simpa using SA_lt (by simpa using hb')))
    · exact ht.mono (by simpa using hF) (fun b hb' => hb b (by simpa using SF_lt (by simpa using hb')))
  | bx ty cs la cur hla hsz hh htt hf =>
    refine .bx ty cs la cur hla hsz (by rw [hb _ (h.own r _ la hr hla).2]; exact hh) htt fun i c hi => ?_
    obtain ⟨x, hx, ht⟩ := hf i c hi
    exact ⟨x, hx, hC c x ht⟩
theorem SatAt.drew (h : SatAt Γ ρ st a w) : SatAt Γ ρ st a w.drew := h.world rfl rfl rfl (Nat.le_refl _) (fun _ _ => rfl)

/-- less is known -/
def Ent (st' st : AS) : Prop := (∀ p, p ∈ st.env → st'.get p.1 = p.2) ∧ (∀ p, p ∈ st.rows → st'.row p.1 = some p.2)
theorem Ent.get {st' st : AS} (h : Ent st' st) (i : Nat) : st.get i = .any ∨ st'.get i = st.get i := by
  cases hl : lk st.env i with
  | none => exact .inl (by simp [AS.get, hl])
  | some x => exact .inr (by rw [h.1 _ (lk_mem hl)]; simp [AS.get, hl])
theorem Ent.row {st' st : AS} (h : Ent st' st) {r : Nat} {row : Row} (hr : st.row r = some row) : st'.row r = some row := h.2 _ (lk_mem hr)

/-- a state of which less is known, its rows being some of the rows -/
theorem SatAt.weaken {st' : AS} (h : SatAt Γ ρ st a w) (hrow : ∀ r row, st'.row r = some row → st.row r = some row)
    (henv : ∀ i, AVRep (CRep ρ (SFof Γ st ρ w) (SAof Γ st ρ w) w) (st'.get i) (a.tmps.getD i undef)) : SatAt Γ ρ st' a w := by
  have hB : ∀ b, RowB st' ρ b → RowB st ρ b := fun b ⟨r, row, la, h1, h2, h3⟩ => ⟨r, row, la, hrow _ _ h1, h2, h3⟩
  have hF : ∀ b, SFof Γ st ρ w b → SFof Γ st' ρ w b := fun b hb => ⟨hb.1, hb.2.1, fun hx => hb.2.2.1 (hB b hx), hb.2.2.2⟩
  have hA : ∀ b, SAof Γ st ρ w b → SAof Γ st' ρ w b := fun b hb => ⟨hb.1, hb.2.1, fun hx => hb.2.2 (hB b hx)⟩
  have hC : ∀ c x, CRep ρ (SFof Γ st ρ w) (SAof Γ st ρ w) w c x → CRep ρ (SFof Γ st' ρ w) (SAof Γ st' ρ w) w c x :=
    fun c x hc => hc.mono rfl hF hA (fun b hb' => rfl) (fun b hb' => rfl)
  refine ⟨h.defers, h.size, fun i => (henv i).mono hC, fun r row hr => ?_, fun r r' row row' la la' hr hr' hl hl' e => h.inj r r' row row' la la' (hrow _ _ hr) (hrow _ _ hr') hl hl' e,
    fun r row la hr hl => h.own r row la (hrow _ _ hr) hl, h.fr, h.lent, h.pins⟩
  have hrr := h.rows r row (hrow _ _ hr)
  cases hrr with
  | nil fr ty size hn => exact .nil fr ty size hn
  | tr fr ty size es la cur hla hsz hh htt hl hz hf =>
    refine .tr fr ty size es la cur hla hsz hh htt hl hz fun k i e t hk hi => ?_
    obtain ⟨x, hx, ht⟩ := hf k i e t hk hi
    refine ⟨x, hx, ?_⟩
    cases fr
    · exact ht.mono (by simpa using hA) (fun b hb' => rfl)
    · exact ht.mono (by simpa using hF) (fun b hb' => rfl)
  | bx ty cs la cur hla hsz hh htt hf =>
    refine .bx ty cs la cur hla hsz hh htt fun i c hi => ?_
    obtain ⟨x, hx, ht⟩ := hf i c hi
    exact ⟨x, hx, hC c x ht⟩
theorem SatAt.ent {st' : AS} (h : SatAt Γ ρ st a w) (he : Ent st st') : SatAt Γ ρ st' a w := by
  refine h.weaken (fun r row hr => he.row hr) fun i => ?_
  rcases he.get i with hi | hi
  · rw [hi]; exact .any _
  · rw [← hi]; exact h.env i
theorem Sat.ent {st' : AS} (h : Sat Γ st a w) (he : Ent st st') : Sat Γ st' a w := let ⟨ρ, hs⟩ := h; ⟨ρ, hs.ent he⟩
end
end Go.Eng
