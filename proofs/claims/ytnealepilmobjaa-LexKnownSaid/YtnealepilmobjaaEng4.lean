/-
  The engine, part 4: a row that is settled becomes a tree; operations, small and all told.
-/
import Derived.Test.YtnealepilmobjaaEng3
set_option linter.unusedVariables false
set_option linter.unusedSimpArgs false
namespace Go.Eng
open Go.RowKit

def fz (r size : Nat) (fr : Bool) (es : List (List T)) : C → C
  | .row r' off n => if r' = r then (if off + n ≤ es.length then .t fr (.sl size ((es.drop off).take n)) else .any) else .row r' off n
  | .ptr r' k j => if r' = r then .any else .ptr r' k j
  | .fn f caps => .fn f (caps.map (killL r))
  | .t fr t => .t fr t
  | .elt fr ts => .elt fr ts
  | .any => .any
def AV.fz (r size : Nat) (fr : Bool) (es : List (List T)) : AV → AV
  | .any => .any
  | .c x => .c (Eng.fz r size fr es x)
  | .agg cs => .agg (cs.map (Eng.fz r size fr es))
  | .tup _ => .any
def Row.fz (r size : Nat) (fr : Bool) (es : List (List T)) : Row → Row
  | .tr fr' ty size' es' => .tr fr' ty size' es'
  | .bx ty cs => .bx ty (cs.map (Eng.fz r size fr es))
def del {α : Type} (r : Nat) : List (Nat × α) → List (Nat × α)
  | [] => []
  | (j, x) :: l => if j = r then del r l else (j, x) :: del r l
theorem lk_del {α : Type} (l : List (Nat × α)) (r i : Nat) : lk (del r l) i = if i = r then none else lk l i := by
  induction l with
  | nil => simp [del, lk]
  | cons p l ih =>
    obtain ⟨j, x⟩ := p
    simp only [del]
    by_cases e : j = r
    · subst e
      rw [if_pos rfl, ih]
      by_cases e2 : i = j
      · simp [e2]
      · simp [e2, lk, Ne.symm e2]
    · rw [if_neg e]
      simp only [lk]
      by_cases e2 : j = i
      · subst e2; simp [e]
      · simp only [e2, if_false]; exact ih
/-- row r is settled: where its handles stood its trees stand -/
def AS.frz (st : AS) (r : Nat) : AS :=
  match st.row r with
  | some (.tr fr _ size es) => ⟨st.env.map fun p => (p.1, p.2.fz r size fr es), (del r st.rows).map fun p => (p.1, p.2.fz r size fr es)⟩
  | _ => st

def AV.mapC (g : C → C) : AV → AV
  | .any => .any
  | .c y => .c (g y)
  | .agg cs => .agg (cs.map g)
  | .tup _ => .any
theorem AVRep.map {R R' : C → Value → Prop} (g : C → C) (hR : ∀ c x, R c x → R' (g c) x) {v : AV} {x : Value} (h : AVRep R v x) :
    AVRep R' (v.mapC g) x := by
  cases h with
  | any x => exact .any x
  | c c x h => exact .c _ x (hR _ _ h)
  | agg cs xs hs h =>
    refine .agg _ xs (by simpa using hs) fun i c hc => ?_
    rw [List.getElem?_map] at hc
    cases hci : cs[i]? with
    | none => simp [hci] at hc
    | some c0 =>
      simp [hci] at hc
      subst hc
      exact hR _ _ (h i c0 hci)
  | tup vs xs hs h => exact .any _

section
variable {Γ : Ctx} {ρ : Nat → Option RowAt} {st : AS} {a : Act} {w w' : World}

theorem SatAt.frz (h : SatAt Γ ρ st a w) (hX : ∀ b, ¬ Γ.X b) (r : Nat) : SatAt Γ ρ (st.frz r) a w := by
  unfold AS.frz
  split
  case h_2 => exact h
  rename_i fr ty size es hr
  generalize hst' : (⟨st.env.map fun p => (p.1, p.2.fz r size fr es), (del r st.rows).map fun p => (p.1, p.2.fz r size fr es)⟩ : AS) = st'
  have hget : ∀ i, st'.get i = (st.get i).fz r size fr es := by
    intro i
    subst hst'
    simp only [AS.get, lk_map]
    cases lk st.env i <;> rfl
  have hrow : ∀ i, st'.row i = if i = r then none else (st.row i).map (Row.fz r size fr es) := by
    intro i
    subst hst'
    simp only [AS.row, lk_map, lk_del]
    split <;> rfl
  have hB : ∀ b, RowB st' ρ b → RowB st ρ b ∧ ∀ la, ρ r = some la → b ≠ la.b := by
    intro b ⟨r1, row1, la1, h1, h2, h3⟩
    rw [hrow] at h1
    by_cases e : r1 = r
    · simp [e] at h1
    · rw [if_neg e] at h1
      cases hr1 : st.row r1 with
      | none => simp [hr1] at h1
      | some row2 => exact ⟨⟨r1, row2, la1, hr1, h2, h3⟩, fun la hla hx => e (h.inj r1 r row2 _ la1 la hr1 hr h2 hla (h3.trans hx))⟩
  have hF : ∀ b, SFof Γ st ρ w b → SFof Γ st' ρ w b := fun b hb => ⟨hb.1, hb.2.1, fun hx => hb.2.2.1 (hB b hx).1, hb.2.2.2⟩
  have hA : ∀ b, SAof Γ st ρ w b → SAof Γ st' ρ w b := fun b hb => ⟨hb.1, hb.2.1, fun hx => hb.2.2 (hB b hx).1⟩
  have hFA : ∀ (fr : Bool) b, (if fr = true then SFof Γ st ρ w else SAof Γ st ρ w) b → (if fr = true then SFof Γ st' ρ w else SAof Γ st' ρ w) b := by
    intro fr b hb
    cases fr
    · exact hA b (by simpa using hb)
    · exact hF b (by simpa using hb)
  have hown : ∀ la, ρ r = some la → (if fr = true then SFof Γ st' ρ w else SAof Γ st' ρ w) la.b := by
    intro la hla
    have ho := h.own r _ la hr hla
    have h1 : Γ.w0.heap.size ≤ la.b := ho.1.resolve_right (hX _)
    have h2 : ¬ RowB st' ρ la.b := fun hx => (hB _ hx).2 la hla rfl
    have h3 : Thaw w la.b := by
      cases h.rows r _ hr with
      | nil _ _ _ hn => rw [hla] at hn; cases hn
      | tr _ _ _ _ la1 cur hla1 _ hh => rw [hla] at hla1; injection hla1 with e; subst e; exact ⟨_, _, hh⟩
    cases fr
    · exact ⟨.inr h1, ho.2, h2⟩
    · exact ⟨h1, ho.2, h2, h3⟩
  have hC : ∀ c x, CRep ρ (SFof Γ st ρ w) (SAof Γ st ρ w) w c x → CRep ρ (SFof Γ st' ρ w) (SAof Γ st' ρ w) w (fz r size fr es c) x := by
    intro c x hc
    have h1 := hc.one
    have hm : CRep ρ (SFof Γ st' ρ w) (SAof Γ st' ρ w) w c x := hc.mono rfl hF hA (fun _ _ => rfl) (fun _ _ => rfl)
    have hrr := h.rows r _ hr
    cases c with
    | any => exact hm
    | t fr t => exact hm
    | elt fr ts => exact hm
    | fn f caps =>
      cases hm with
      | fn _ _ vs hs hh =>
        refine .fn f _ vs (by simpa using hs) fun i c hc => ?_
        rw [List.getElem?_map] at hc
        cases hci : caps[i]? with
        | none => simp [hci] at hc
        | some c0 =>
          simp [hci] at hc
          subst hc
          exact (hh i c0 hci).killL (fun _ _ => rfl)
    | ptr r' k j =>
      by_cases e : r' = r
      · simp only [Eng.fz, e, if_true]; exact .any _ h1
      · simp only [Eng.fz, e, if_false]; exact hm
    | row r' off n =>
      by_cases e : r' = r
      · subst e
        simp only [Eng.fz, if_true]
        split
        case isFalse => exact .any _ h1
        case isTrue hle =>
          have hlen : ((es.drop off).take n).length = n := by simp; omega
          cases hm with
          | row0 _ _ A =>
            have := TRep.sl (S := if fr = true then SFof Γ st' ρ w else SAof Γ st' ρ w) (w := w) size [] A 0 (fun _ _ => undef) (by simp) (by simp [maxLen]) (by simp) (.inl rfl) (by simp)
            simp only [List.take_zero]
            exact .t fr _ _ this
          | row _ _ _ cap la hla hb hn hm' =>
            cases hrr with
            | nil _ _ _ hnil => rw [hnil] at hla; cases hla
            | tr _ _ _ _ la1 cur hl1 hss hh htt hl hz hf =>
              rw [hl1] at hla
              injection hla with hla
              subst hla
              have hgoal := TRep.sl (S := if fr = true then SFof Γ st' ρ w else SAof Γ st' ρ w) (w := w) size ((es.drop off).take n) (some ⟨la1.b, off * la1.size, none⟩) cap
                (fun k i => cur.getD ((off + k) * size + i) undef) (by rw [hlen]; exact hn) hm' (fun e he => hz e (List.mem_of_mem_drop (List.mem_of_mem_take he))) ?_ ?_
              · rw [hlen] at hgoal
                exact .t fr _ _ hgoal
              · refine .inr ⟨la1.b, off * la1.size, rfl, hown la1 hl1, fun k i hk hi => ?_⟩
                rw [hlen] at hk
                have hek : ∃ e, es[off + k]? = some e := ⟨es[off + k]'(by omega), List.getElem?_eq_getElem (by omega)⟩
                obtain ⟨e, he⟩ := hek
                have hle' : e.length = size := hz e (List.mem_of_getElem? he)
                obtain ⟨x, hx, _⟩ := hf (off + k) i e (e[i]'(by omega)) he (List.getElem?_eq_getElem (by omega))
                rw [cell_of_row w la1.b _ cur ty (0, 0) hh, hss]
                have : off * size + (k * size + i) = (off + k) * size + i := by rw [Nat.add_mul]; omega
                rw [this, hx]
                simp [Array.getD_eq_getD_getElem?, hx]
              · intro k i e t hk hi
                rw [List.getElem?_take] at hk
                split at hk
                · rw [List.getElem?_drop] at hk
                  obtain ⟨x, hx, hxt⟩ := hf (off + k) i e t hk hi
                  simp only [Array.getD_eq_getD_getElem?, hx, Option.getD_some]
                  exact hxt.mono (hFA fr) (fun _ _ => rfl)
                · cases hk
      · simp only [Eng.fz, e, if_false]; exact hm
  refine ⟨h.defers, h.size, fun i => ?_, fun r1 row1 hr1 => ?_, ?_, ?_, h.fr, h.lent, h.pins⟩
  · rw [hget]
    have hm := AVRep.map (fz r size fr es) hC (h.env i)
    have he : ∀ v : AV, v.mapC (fz r size fr es) = v.fz r size fr es := fun v => by cases v <;> rfl
    rw [he] at hm
    exact hm
  · rw [hrow] at hr1
    by_cases e : r1 = r
    · simp [e] at hr1
    · rw [if_neg e] at hr1
      cases hr2 : st.row r1 with
      | none => simp [hr2] at hr1
      | some row2 =>
        simp [hr2] at hr1
        subst hr1
        have hrr := h.rows r1 row2 hr2
        cases hrr with
        | nil fr1 ty1 size1 hn => exact .nil fr1 ty1 size1 hn
        | tr fr1 ty1 size1 es1 la1 cur hl1 hss hh htt hl hz hf =>
          refine .tr fr1 ty1 size1 es1 la1 cur hl1 hss hh htt hl hz fun k i e t hk hi => ?_
          obtain ⟨x, hx, ht⟩ := hf k i e t hk hi
          exact ⟨x, hx, ht.mono (hFA fr1) (fun _ _ => rfl)⟩
        | bx ty1 cs la1 cur hl1 hss hh htt hf =>
          refine .bx ty1 _ la1 cur hl1 (by simpa using hss) hh (by simpa using htt) fun i c hi => ?_
          rw [List.getElem?_map] at hi
          cases hci : cs[i]? with
          | none => simp [hci] at hi
          | some c0 =>
            simp [hci] at hi
            subst hi
            obtain ⟨x, hx, ht⟩ := hf i c0 hci
            exact ⟨x, hx, hC c0 x ht⟩
  · intro r1 r2 row1 row2 la1 la2 hr1 hr2 hl1 hl2 e
    have key : ∀ r1 row1, st'.row r1 = some row1 → ∃ row2, st.row r1 = some row2 := by
      intro r1 row1 h1
      rw [hrow] at h1
      by_cases e : r1 = r
      · simp [e] at h1
      · rw [if_neg e] at h1
        cases hr2 : st.row r1 with
        | none => simp [hr2] at h1
        | some row2 => exact ⟨row2, rfl⟩
    obtain ⟨q1, k1⟩ := key r1 row1 hr1
    obtain ⟨q2, k2⟩ := key r2 row2 hr2
    exact h.inj r1 r2 q1 q2 la1 la2 k1 k2 hl1 hl2 e
  · intro r1 row1 la1 hr1 hl1
    rw [hrow] at hr1
    by_cases e : r1 = r
    · simp [e] at hr1
    · rw [if_neg e] at hr1
      cases hr2 : st.row r1 with
      | none => simp [hr2] at hr1
      | some row2 => exact h.own r1 row2 la1 hr2 hl1
end
end Go.Eng
