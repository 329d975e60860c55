/-
  The engine, part 27: memory that was made is written through trees; what was there before a mark stays.
-/
import Derived.Test.YtnealepilmobjaaEng25
set_option linter.unusedVariables false
set_option linter.unusedSimpArgs false
namespace Go.Eng
open Go.RowKit

mutual
/-- cells of kind κ are unknown -/
def blurT (κ : Nat) : T → T
  | .v x => if kd x = κ then .w κ else .v x
  | .w k => .w k
  | .sl s es => .sl s (blurLL κ es)
def blurL (κ : Nat) : List T → List T
  | [] => []
  | t :: r => blurT κ t :: blurL κ r
def blurLL (κ : Nat) : List (List T) → List (List T)
  | [] => []
  | e :: r => blurL κ e :: blurLL κ r
end
theorem blurL_eq (κ : Nat) (l : List T) : blurL κ l = l.map (blurT κ) := by
  induction l with
  | nil => simp [blurL]
  | cons t r ih => simp [blurL, ih]
theorem blurLL_eq (κ : Nat) (l : List (List T)) : blurLL κ l = l.map (·.map (blurT κ)) := by
  induction l with
  | nil => simp [blurLL]
  | cons t r ih => simp [blurLL, ih, blurL_eq]
theorem blurT_sl (κ s : Nat) (es : List (List T)) : blurT κ (.sl s es) = .sl s (es.map (·.map (blurT κ))) := by rw [blurT, blurLL_eq]
theorem blurT_w (κ k : Nat) : blurT κ (.w k) = .w k := by rw [blurT]
theorem blurT_v (κ : Nat) (x : Value) : blurT κ (.v x) = if kd x = κ then .w κ else .v x := by rw [blurT]
/-- a cell that lies in no such memory -/
def topT (κ : Nat) : T → T
  | .sl s es => .sl s (es.map (·.map (blurT κ)))
  | t => t
def C.blur (κ : Nat) : C → C
  | .t fr (.v x) => .t fr (.v x)
  | .t fr (.w k) => .t fr (.w k)
  | .t true (.sl s es) => .t true (.sl s (es.map (·.map (blurT κ))))
  | .t false (.sl _ _) => .any
  | .row r off n => .row r off n
  | .ptr r k j => .ptr r k j
  | .elt true ts => .elt true (ts.map (blurT κ))
  | .elt false _ => .any
  | .fn _ _ => .any
  | .any => .any
def Row.blur (κ : Nat) : Row → Row
  | .tr true ty s es => .tr true ty s (es.map (·.map (topT κ)))
  | .tr false ty s _ => .tr false ty s []
  | .bx ty cs => .bx ty (cs.map (C.blur κ))
def AS.blur (κ : Nat) (st : AS) : AS := ⟨st.env.map fun p => (p.1, p.2.mapC (C.blur κ)), st.rows.map fun p => (p.1, p.2.blur κ)⟩
theorem get_blur (κ : Nat) (st : AS) (i : Nat) : (st.blur κ).get i = (st.get i).mapC (C.blur κ) := by
  simp only [AS.get, AS.blur, lk_map]
  cases lk st.env i <;> rfl
theorem row_blur (κ : Nat) (st : AS) (r : Nat) : (st.blur κ).row r = (st.row r).map (Row.blur κ) := by
  simp only [AS.row, AS.blur, lk_map]

def Near (κ : Nat) (x x' : Value) : Prop := x' = x ∨ (kd x = κ ∧ kd x' = κ ∧ x'.oneCell' = true)
def CellsNear (κ : Nat) (w w' : World) : Prop := ∀ b o x, w.cell? ⟨b, o, none⟩ = some x → ∃ x', w'.cell? ⟨b, o, none⟩ = some x' ∧ Near κ x x'

section
variable {S S' : Nat → Prop} {w w' : World} {κ : Nat}
theorem sl_blur {size : Nat} {es : List (List T)} {A : Option Addr} {cap : Nat} {f : Nat → Nat → Value} (hS : ∀ b, S b → S' b) (hc : CellsNear κ w w')
    (h1 : es.length ≤ cap) (h2 : cap ≤ maxLen) (hz : ∀ e, e ∈ es → e.length = size)
    (hA : es = [] ∨ ∃ b o, A = some ⟨b, o, none⟩ ∧ S b ∧ ∀ k i, k < es.length → i < size → w.cell? ⟨b, o + (k * size + i), none⟩ = some (f k i))
    (hf : ∀ (k i : Nat) (e : List T) (t : T), es[k]? = some e → e[i]? = some t → ∀ x', Near κ (f k i) x' → TRep S' w' (blurT κ t) x') :
    TRep S' w' (.sl size (es.map (·.map (blurT κ)))) (.slice A es.length cap) := by
  have hz' : ∀ e, e ∈ es.map (·.map (blurT κ)) → e.length = size := by
    intro e he
    obtain ⟨e0, he0, rfl⟩ := List.mem_map.1 he
    rw [List.length_map]; exact hz e0 he0
  rcases hA with rfl | ⟨b, o, rfl, hb, hcell⟩
  · exact .sl size [] A cap (fun _ _ => undef) h1 h2 (by simp) (.inl rfl) (by simp)
  · have hcell' : ∀ k i, k < es.length → i < size → w'.cell? ⟨b, o + (k * size + i), none⟩ = some ((w'.cell? ⟨b, o + (k * size + i), none⟩).getD undef) ∧ Near κ (f k i) ((w'.cell? ⟨b, o + (k * size + i), none⟩).getD undef) := by
      intro k i hk hi
      obtain ⟨x', hx, hn⟩ := hc b _ _ (hcell k i hk hi)
      rw [hx]
      exact ⟨rfl, hn⟩
    have := TRep.sl (S := S') (w := w') size (es.map (·.map (blurT κ))) (some ⟨b, o, none⟩) cap (fun k i => (w'.cell? ⟨b, o + (k * size + i), none⟩).getD undef) (by simpa using h1) h2 hz'
      (.inr ⟨b, o, rfl, hS b hb, fun k i hk hi => (hcell' k i (by simpa using hk) hi).1⟩) (fun k i e t hk hi => by
        rw [List.getElem?_map] at hk
        cases hk0 : es[k]? with
        | none => simp [hk0] at hk
        | some e0 =>
          simp [hk0] at hk
          subst hk
          rw [List.getElem?_map] at hi
          cases hi0 : e0[i]? with
          | none => simp [hi0] at hi
          | some t0 =>
            simp [hi0] at hi
            subst hi
            have hkl : k < es.length := (List.getElem?_eq_some_iff.1 hk0).1
            have hil : i < size := by
              have := (List.getElem?_eq_some_iff.1 hi0).1
              rwa [hz e0 (List.mem_of_getElem? hk0)] at this
            exact hf k i e0 t0 hk0 hi0 _ (hcell' k i hkl hil).2)
    rwa [List.length_map] at this
theorem TRep.blur (hκ : κ ≠ 0) (hS : ∀ b, S b → S' b) (hc : CellsNear κ w w') {t : T} {x : Value} (h : TRep S w t x) : ∀ x', Near κ x x' → TRep S' w' (blurT κ t) x' := by
  induction h with
  | v x h1 =>
    intro x' hn
    rw [blurT_v]
    rcases hn with rfl | ⟨h2, h3, h4⟩
    · split
      · exact .w _ _ h1 ‹_›
      · exact .v _ h1
    · rw [if_pos h2]; exact .w _ _ h4 h3
  | w k x h1 hk =>
    intro x' hn
    rw [blurT_w]
    rcases hn with rfl | ⟨h2, h3, h4⟩
    · exact .w _ _ h1 hk
    · exact .w _ _ h4 (by rw [h3, ← h2, hk])
  | sl size es A cap f h1 h2 hz hA hf ih =>
    intro x' hn
    rw [blurT_sl]
    rcases hn with rfl | ⟨h3, _, _⟩
    · exact sl_blur hS hc h1 h2 hz hA ih
    · exact absurd h3.symm hκ
theorem TRep.top (hκ : κ ≠ 0) (hS : ∀ b, S b → S' b) (hc : CellsNear κ w w') {t : T} {x : Value} (h : TRep S w t x) : TRep S' w' (topT κ t) x := by
  cases h with
  | v x h1 => exact .v x h1
  | w k x h1 hk => exact .w k x h1 hk
  | sl size es A cap f h1 h2 hz hA hf => exact sl_blur hS hc h1 h2 hz hA fun k i e t hk hi => (hf k i e t hk hi).blur hκ hS hc
theorem CRep.blur {ρ : Nat → Option RowAt} {SF SA SF' SA' : Nat → Prop} (hκ : κ ≠ 0) (hF : ∀ b, SF b → SF' b) (hc : CellsNear κ w w') {c : C} {x : Value} (h : CRep ρ SF SA w c x) : CRep ρ SF' SA' w' (c.blur κ) x := by
  have h1 := h.one
  cases h with
  | any x h => exact .any x h
  | t fr t x ht =>
    cases t with
    | v u => cases ht with | v _ h => exact .t fr _ _ (.v _ h)
    | w k => cases ht with | w _ _ h hk => exact .t fr _ _ (.w _ _ h hk)
    | sl s es =>
      cases fr
      · exact .any _ h1
      · have ht' : TRep SF w (.sl s es) x := by simpa using ht
        have := TRep.top (S' := SF') hκ hF hc ht'
        exact .t true _ _ (by simpa only [if_true, topT] using this)
  | row r off n cap la h hb hn hm => exact .row r off n cap la h hb hn hm
  | row0 r off A => exact .row0 r off A
  | ptr r k j la h => exact .ptr r k j la h
  | elt fr ts b o f hb hcell hf =>
    cases fr
    · exact .any _ h1
    · refine .elt true _ b o (fun i => (w'.cell? ⟨b, o + i, none⟩).getD undef) (by simpa using hF b (by simpa using hb)) (fun i hi => ?_) fun i t ht => ?_
      · obtain ⟨x', hx, _⟩ := hc b _ _ (hcell i (by simpa using hi))
        rw [hx]; rfl
      · rw [List.getElem?_map] at ht
        cases ht0 : ts[i]? with
        | none => simp [ht0] at ht
        | some t0 =>
          simp [ht0] at ht
          subst ht
          obtain ⟨x', hx, hn⟩ := hc b _ _ (hcell i (List.getElem?_eq_some_iff.1 ht0).1)
          rw [hx]
          simpa using TRep.blur (S' := SF') hκ hF hc (by simpa using hf i t0 ht0) x' hn
  | fn => exact .any _ h1
end

section
variable {Γ : Ctx} {ρ : Nat → Option RowAt} {st : AS} {a : Act} {w w' : World} {κ : Nat}
theorem SatAt.blur (hκ : κ ≠ 0) (h : SatAt Γ ρ st a w) (ho : w'.os = w.os) (ht : w'.tape = w.tape) (hu : w'.output = w.output) (hsz : w'.heap.size = w.heap.size) (hc : CellsNear κ w w')
    (hb : ∀ b, (b < Γ.w0.heap.size ∨ RowB st ρ b) → w'.heap[b]? = w.heap[b]?) (hth : ∀ b, SFof Γ st ρ w b → Thaw w' b) : SatAt Γ ρ (st.blur κ) a w' := by
  have hB : ∀ b, RowB (st.blur κ) ρ b ↔ RowB st ρ b := by
    intro b
    constructor
    · rintro ⟨r, row, la, h1, h2, h3⟩
      rw [row_blur] at h1
      cases hr : st.row r with
      | none => simp [hr] at h1
      | some row0 => exact ⟨r, row0, la, hr, h2, h3⟩
    · rintro ⟨r, row, la, h1, h2, h3⟩
      exact ⟨r, row.blur κ, la, by rw [row_blur, h1]; rfl, h2, h3⟩
  have hF : ∀ b, SFof Γ st ρ w b → SFof Γ (st.blur κ) ρ w' b := fun b hx => ⟨hx.1, by rw [hsz]; exact hx.2.1, fun hy => hx.2.2.1 ((hB b).1 hy), hth b hx⟩
  have hC : ∀ c x, CRep ρ (SFof Γ st ρ w) (SAof Γ st ρ w) w c x → CRep ρ (SFof Γ (st.blur κ) ρ w') (SAof Γ (st.blur κ) ρ w') w' (c.blur κ) x := fun c x hx => hx.blur hκ hF hc
  have hrow : ∀ r row, (st.blur κ).row r = some row → ∃ row0, st.row r = some row0 ∧ row = row0.blur κ := by
    intro r row hr
    rw [row_blur] at hr
    cases hr0 : st.row r with
    | none => simp [hr0] at hr
    | some row0 => simp [hr0] at hr; exact ⟨row0, rfl, hr.symm⟩
  refine ⟨h.defers, h.size, fun i => ?_, fun r row hr => ?_, fun r r' row row' la la' hr hr' hl hl' e => ?_, fun r row la hr hl => ?_,
    h.fr.next ho ht hu (Nat.le_of_eq hsz.symm) fun b hx _ => hb b (.inl hx), h.lent, h.pins⟩
  · rw [get_blur]; exact (h.env i).map _ hC
  · obtain ⟨row0, hr0, rfl⟩ := hrow r row hr
    have hh := h.rows r row0 hr0
    cases hh with
    | nil fr ty size hn => cases fr <;> exact .nil _ ty size hn
    | tr fr ty size es la cur hla hsz' hh htt hl hz hf =>
      have hsame := hb la.b (.inr ⟨r, _, la, hr0, hla, rfl⟩)
      cases fr
      · exact .tr false ty size [] la cur hla hsz' (hsame.trans hh) htt (by simp) (by simp) (by simp)
      · refine .tr true ty size _ la cur hla hsz' (hsame.trans hh) htt (by simpa using hl) (fun e he => ?_) fun k i e t hk hi => ?_
        · obtain ⟨e0, he0, rfl⟩ := List.mem_map.1 he
          rw [List.length_map]; exact hz e0 he0
        · rw [List.getElem?_map] at hk
          cases hk0 : es[k]? with
          | none => simp [hk0] at hk
          | some e0 =>
            simp [hk0] at hk
            subst hk
            rw [List.getElem?_map] at hi
            cases hi0 : e0[i]? with
            | none => simp [hi0] at hi
            | some t0 =>
              simp [hi0] at hi
              subst hi
              obtain ⟨x, hx, htr⟩ := hf k i e0 t0 hk0 hi0
              exact ⟨x, hx, by simpa using TRep.top (S' := SFof Γ (st.blur κ) ρ w') hκ hF hc (by simpa using htr)⟩
    | bx ty cs la cur hla hsz' hh htt hf =>
      have hsame := hb la.b (.inr ⟨r, _, la, hr0, hla, rfl⟩)
      refine .bx ty _ la cur hla (by rw [List.length_map]; exact hsz') (hsame.trans hh) (by rw [List.length_map]; exact htt) fun i c hi => ?_
      rw [List.getElem?_map] at hi
      cases hi0 : cs[i]? with
      | none => simp [hi0] at hi
      | some c0 =>
        simp [hi0] at hi
        subst hi
        obtain ⟨x, hx, hcr⟩ := hf i c0 hi0
        exact ⟨x, hx, hC c0 x hcr⟩
  · obtain ⟨row0, hr0, _⟩ := hrow r row hr
    obtain ⟨row0', hr0', _⟩ := hrow r' row' hr'
    exact h.inj r r' row0 row0' la la' hr0 hr0' hl hl' e
  · obtain ⟨row0, hr0, _⟩ := hrow r row hr
    rw [hsz]
    exact h.own r row0 la hr0 hl
theorem CellsNear.rfl' : CellsNear κ w w := fun _ _ x h => ⟨x, h, .inl rfl⟩
theorem Sat.blur (hκ : κ ≠ 0) (h : Sat Γ st a w) : Sat Γ (st.blur κ) a w := let ⟨ρ, h⟩ := h; ⟨ρ, h.blur hκ rfl rfl rfl rfl .rfl' (fun _ _ => rfl) fun _ hx => hx.2.2.2⟩
end

section
variable {Γ : Ctx} {Q : Exit → AS → Prop} {st : AS} {l : List I}
theorem AR.blur (κ : Nat) (hκ : κ ≠ 0) (h : AR Γ l Q (st.blur κ)) : AR Γ l Q st := AR.of (fun a w hs => hs.blur hκ) h
theorem AWI.blur {c : IC} (κ : Nat) (hκ : κ ≠ 0) (h : AWI Γ c Q (st.blur κ)) : AWI Γ c Q st := AWI.of (fun a w hs => hs.blur hκ) h

theorem store_of {P : Program} {op : Op} {s : Nat} {p y : Od} (h : Ins.of P op = .store s p y) : ∃ t x y', op = .store t x y' ∧ sizeT P t = some s ∧ p = Od.of x ∧ y = Od.of y' := by
  unfold Ins.of at h
  split at h
  all_goals first
    | (rename_i t x y'
       split at h
       · rename_i s' hs
         injection h with h1 h2 h3
         subst h1; subst h2; subst h3
         exact ⟨t, x, y', rfl, hs, rfl, rfl⟩
       · cases h)
    | (unfold Ins.ofCall at h; repeat' split at h)
    | (repeat' split at h)
    | skip
  all_goals cases h
/-- a cell of memory that was made is written -/
theorem AR.wild {i : I} {p y : Od} {t0 : T} {ts : List T} {b : Bool} {y0 : Value} (κ : Nat) (hκ : κ ≠ 0) (hi : i.o = .store 1 p y) (hg : i.g = none) (hd : i.d = none) (hp : st.ev p = .c (.elt true (t0 :: ts))) (hy : st.ev y = .c (.t b (.v y0)))
    (h0 : t0 = .w κ ∨ ∃ x, t0 = .v x ∧ kd x = κ) (h1 : kd y0 = κ) (h : AR Γ l Q (st.blur κ)) : AR Γ (i :: l) Q st := by
  intro ops j o ho hx a w R K hs hk
  obtain ⟨ρ, hs⟩ := hs
  unfold wpOp
  simp only [ho]
  obtain ⟨hdd, hoo⟩ := of_o hx
  rcases hoo with ⟨_, hb⟩ | ⟨hins, hlt, hgg⟩
  · rw [hi] at hb; cases hb
  have hgd : o.guard = none := by
    rcases hgg with ⟨_, hgd⟩ | ⟨q, b', s, hg', _, _⟩
    · exact hgd
    · rw [hg] at hg'; cases hg'
  have hw : Region.wanted o (yielded ops a.tmps) = true := by simp [Region.wanted, hgd]
  rw [if_pos hw]
  refine .inl ?_
  rw [hi] at hins
  obtain ⟨t, x, y', hop, hsz, rfl, rfl⟩ := store_of hins.symm
  have hev := hs.ev x
  rw [hp] at hev
  obtain ⟨bb, oo, f, hxv, hbF, hcell, hrep⟩ := hev.cInv.eltInv
  simp only [if_true] at hbF
  have hyv := (hs.ev y')
  rw [hy] at hyv
  have hyv := hyv.vEq
  have hone : y0.oneCell' = true := by
    have := hs.ev y'
    rw [hy] at this
    have h2 := this.cInv.one
    rwa [hyv] at h2
  obtain ⟨cur, ty, hh⟩ := hbF.2.2.2
  have hcell0 := hcell 0 (by simp)
  have hr0 := hrep 0 t0 rfl
  rw [Nat.add_zero] at hcell0
  have hcur : cur[oo]? = some (f 0) := by
    unfold World.cell? at hcell0
    simp only [hh] at hcell0
    simpa using hcell0
  have hkd : kd (f 0) = κ := by
    rcases h0 with rfl | ⟨u, rfl, hu⟩
    · cases hr0 with | w _ _ _ hk => exact hk
    · cases hr0 with | v _ _ => exact hu
  have hol : oo < cur.size := (Array.getElem?_eq_some_iff.1 hcur).1
  have hycells : (a.eval y').cells = #[y0] := by rw [hyv]; exact cells_one hone
  have hst := run_storeVar_at (w := w) (P := Γ.P) hsz bb oo ty cur (a.eval y') hh (by rw [hycells]; rfl) (by omega) (by rw [hycells]; intro z hz; simp at hz; subst hz; exact hone)
  have hrun : (execOp a.eval o).run Γ.P w = .ok .skip (w.setRow bb (setL cur.toList oo (a.eval y').cells.toList).toArray) := by
    simp [execOp, hop, Instr.storeAt, Instr.sureAddr, hxv, hst]
  rw [hycells] at hrun
  have hfit : oo + [y0].length ≤ cur.toList.length := by simp; omega
  have hheap := setRow_heap w bb cur (setL cur.toList oo [y0]).toArray ty (0, 0) hh
  have hnear : CellsNear κ w (w.setRow bb (setL cur.toList oo [y0]).toArray) := by
    intro b1 o1 x1 hx1
    by_cases e : b1 = bb
    · subst e
      unfold World.cell? at hx1 ⊢
      simp only [hh] at hx1
      simp only [hheap]
      simp at hx1 ⊢
      rw [setL_get _ _ _ hfit]
      by_cases h2 : o1 < oo
      · rw [if_pos h2]; exact ⟨x1, by simpa using hx1, .inl rfl⟩
      · rw [if_neg h2]
        by_cases h3 : o1 < oo + [y0].length
        · have : o1 = oo := by simp at h3; omega
          subst this
          rw [if_pos h3]
          rw [hcur] at hx1
          injection hx1 with hx1
          subst hx1
          exact ⟨y0, by simp, .inr ⟨hkd, h1, hone⟩⟩
        · rw [if_neg h3]; exact ⟨x1, by simpa using hx1, .inl rfl⟩
    · refine ⟨x1, ?_, .inl rfl⟩
      rw [World.cell?_of_block (w := w) (setRow_other w bb b1 _ e)]
      exact hx1
  have hsat : SatAt Γ ρ (st.blur κ) a (w.setRow bb (setL cur.toList oo [y0]).toArray) := by
    refine hs.blur hκ rfl rfl rfl (by simp) hnear (fun b1 hb1 => setRow_other w bb b1 _ ?_) fun b1 hb1 => ?_
    · rintro rfl
      rcases hb1 with h2 | h2
      · exact absurd hbF.1 (by omega)
      · exact hbF.2.2.1 h2
    · by_cases e : b1 = bb
      · subst e; exact ⟨_, _, hheap⟩
      · exact hb1.2.2.2.eq (setRow_other w bb b1 _ e)
  unfold Oper.wp
  rw [hrun]
  have hdst : o.dst = none := by rw [← hdd]; exact hd
  exact hk undef (w.setRow bb (setL cur.toList oo [y0]).toArray) (st.blur κ) trivial h (by rw [hdst]; exact ⟨ρ, hsat⟩) fun _ hq => by rw [hop] at hq; cases hq
end

/-- what was there before a mark -/
def C.age : C → C
  | .t _ (.v x) => .t true (.v x)
  | .t fr (.w k) => .t fr (.w k)
  | .t _ (.sl s es) => .t false (.sl s es)
  | .elt _ ts => .elt false ts
  | _ => .any
def AS.mark (st : AS) (ks : List Nat) (hd : Nat → Value) : AS := ⟨st.env.map fun p => (p.1, if ks.contains p.1 = true then .c (.t true (.v (hd p.1))) else p.2.mapC C.age), []⟩
theorem get_mark (st : AS) (ks : List Nat) (hd : Nat → Value) (i : Nat) : (st.mark ks hd).get i = .any ∨ (i ∈ ks ∧ (∃ v, lk st.env i = some v) ∧ (st.mark ks hd).get i = .c (.t true (.v (hd i)))) ∨ (i ∉ ks ∧ (st.mark ks hd).get i = (st.get i).mapC C.age) := by
  unfold AS.mark AS.get
  induction st.env with
  | nil => exact .inl rfl
  | cons p l ih =>
    obtain ⟨j, v⟩ := p
    simp only [List.map_cons, lk]
    by_cases e : j = i
    · subst e
      simp only [if_true]
      by_cases h : j ∈ ks
      · exact .inr (.inl ⟨h, ⟨v, rfl⟩, by simp [h]⟩)
      · exact .inr (.inr ⟨h, by simp [h]⟩)
    · simp only [if_neg e]
      exact ih
/-- the slots behind a mark, as they were or as they are -/
def BackL (st : AS) (ks : List Nat) (hd : Nat → Value) : List (Nat × AV) → List (Nat × AV) → Prop
  | [], [] => True
  | (i, v) :: l, (i', v') :: l' => i = i' ∧ (v' = v ∨ (i ∈ ks ∧ v = .c (.t true (.v (hd i))) ∧ v' = st.get i)) ∧ BackL st ks hd l l'
  | _, _ => False
theorem BackL.get {st : AS} {ks : List Nat} {hd : Nat → Value} : ∀ {l l' : List (Nat × AV)}, BackL st ks hd l l' → ∀ i, (lk l' i).getD .any = (lk l i).getD .any ∨ (i ∈ ks ∧ (lk l i).getD .any = .c (.t true (.v (hd i))) ∧ (lk l' i).getD .any = st.get i)
  | [], [], _, i => .inl rfl
  | (j, v) :: l, (j', v') :: l', h, i => by
    obtain ⟨rfl, h1, h2⟩ := h
    simp only [lk]
    by_cases e : j = i
    · subst e
      simp only [if_true, Option.getD_some]
      rcases h1 with rfl | ⟨h3, h4, h5⟩
      · exact .inl rfl
      · exact .inr ⟨h3, h4, h5⟩
    · simp only [if_neg e]
      exact BackL.get h2 i
  | [], _ :: _, h, _ => by simp [BackL] at h
  | _ :: _, [], h, _ => by simp [BackL] at h

theorem BackL.nil {st : AS} {ks : List Nat} {hd : Nat → Value} : BackL st ks hd [] [] := trivial
theorem BackL.same {st : AS} {ks : List Nat} {hd : Nat → Value} {i : Nat} {v : AV} {l l' : List (Nat × AV)} (h : BackL st ks hd l l') : BackL st ks hd ((i, v) :: l) ((i, v) :: l') := ⟨rfl, .inl rfl, h⟩
theorem BackL.old {st : AS} {ks : List Nat} {hd : Nat → Value} {i : Nat} {v : AV} {l l' : List (Nat × AV)} (hi : ks.contains i = true) (hv : v = st.get i) (h : BackL st ks hd l l') : BackL st ks hd ((i, .c (.t true (.v (hd i)))) :: l) ((i, v) :: l') := ⟨rfl, .inr ⟨by simpa using hi, rfl, hv⟩, h⟩

def Ctx.marked (Γ : Ctx) (A : Nat → Prop) (w : World) : Ctx := ⟨Γ.P, w, fun _ => False, A, Γ.n, fun _ => none, false⟩

section
variable {Γ : Ctx} {Q : Exit → AS → Prop} {st : AS}
theorem no_rows {st : AS} (h : st.rows = []) {ρ : Nat → Option RowAt} {b : Nat} : ¬ RowB st ρ b := fun ⟨r, row, la, h1, _, _⟩ => by simp [AS.row, h, lk] at h1
def isTree : AV → Bool
  | .c (.t _ _) => true
  | _ => false
theorem AWI.mark {c : IC} (ks : List Nat) (hX : ∀ b, ¬ Γ.X b) (hm : Γ.g = false ∧ ∀ r, Γ.pin r = none) (hr : st.rows = []) (hks : (ks.all fun k => isTree (st.get k)) = true)
    (h : ∀ (Γ1 : Ctx) (hd : Nat → Value), Γ1.P = Γ.P → Γ1.n = Γ.n → (∀ b, ¬ Γ1.X b) → (Γ1.g = false ∧ ∀ r, Γ1.pin r = none) → (∀ k fr t, k ∈ ks → st.get k = .c (.t fr t) → TRep Γ1.A Γ1.w0 t (hd k)) →
      AWI Γ1 c (fun e st1 => ∃ env', st1.rows = [] ∧ BackL st ks hd st1.env env' ∧ Q e ⟨env', []⟩) (st.mark ks hd)) : AWI Γ c Q st := by
  intro code hc a w hs
  obtain ⟨ρ, hs⟩ := hs
  have hAA : ∀ (fr : Bool) b, (if fr = true then SFof Γ st ρ w else SAof Γ st ρ w) b → SAof Γ st ρ w b := by
    intro fr b hb
    cases fr
    · simpa using hb
    · exact SF_sub b (by simpa using hb)
  have hAs : ∀ (st1 : AS) (ρ1 : Nat → Option RowAt) b, st1.rows = [] → SAof Γ st ρ w b → SAof (Γ.marked (SAof Γ st ρ w) w) st1 ρ1 w b := fun st1 ρ1 b h1 hb => ⟨.inl hb, hb.2.1, no_rows h1⟩
  have htree : ∀ k, k ∈ ks → ∃ fr t, st.get k = .c (.t fr t) := by
    intro k hk
    have := List.all_eq_true.1 hks k hk
    unfold isTree at this
    split at this
    · exact ⟨_, _, ‹_›⟩
    · cases this
  obtain ⟨hd, hhd⟩ : ∃ hd : Nat → Value, hd = fun k => a.tmps.getD k undef := ⟨_, rfl⟩
  obtain ⟨st1, hst1⟩ : ∃ st1, st1 = st.mark ks hd := ⟨_, rfl⟩
  have hrow1 : st1.rows = [] := by rw [hst1]; rfl
  have hsat1 : SatAt (Γ.marked (SAof Γ st ρ w) w) (fun _ => none) st1 a w := by
    have hno : ∀ r row, st1.row r = some row → False := fun r row h => by simp [AS.row, hrow1, lk] at h
    refine ⟨hs.defers, hs.size, fun i => ?_, fun r row hr => (hno r row hr).elim, fun r r' row row' la la' hr => (hno r row hr).elim, fun r row la hr => (hno r row hr).elim,
      ⟨rfl, rfl, rfl, Nat.le_refl _, fun _ _ _ => rfl⟩, fun b hb => ⟨fun h => h, hb.2.1⟩, fun r la h => by cases h⟩
    have hg := get_mark st ks hd i
    rw [← hst1] at hg
    rcases hg with h0 | ⟨hi, _, h0⟩ | ⟨_, h0⟩
    · rw [h0]; exact .any _
    · rw [h0, hhd]
      have hh := hs.env i
      obtain ⟨fr, t, ht⟩ := htree i hi
      rw [ht] at hh
      exact .c _ _ (.t true _ _ (.v _ hh.cInv.one))
    · rw [h0]
      refine (hs.env i).map C.age fun c x hcx => ?_
      have h1 := hcx.one
      cases hcx with
      | any x h => exact .any x h
      | t fr t x ht =>
        cases t with
        | v u => cases ht with | v _ h => exact .t true _ _ (.v _ h)
        | w k => cases ht with | w _ _ h hk => exact .t fr _ _ (.w _ _ h hk)
        | sl s es =>
          refine .t false _ _ ?_
          simp only [Bool.false_eq_true, if_false]
          exact ht.mono (fun b hb => hAs _ _ b hrow1 (hAA fr b hb)) (fun _ _ => rfl)
      | elt fr ts b o f hb hcell hf =>
        refine .elt false ts b o f ?_ hcell fun i t ht => ?_
        · simp only [Bool.false_eq_true, if_false]; exact hAs _ _ b hrow1 (hAA fr b hb)
        · simp only [Bool.false_eq_true, if_false]
          exact (hf i t ht).mono (fun b hb => hAs _ _ b hrow1 (hAA fr b hb)) (fun _ _ => rfl)
      | _ => exact .any _ h1
  have hgh : ∀ k fr t, k ∈ ks → st.get k = .c (.t fr t) → TRep (SAof Γ st ρ w) w t (hd k) := by
    intro k fr t _ hg
    have := hs.env k
    rw [hg] at this
    have h2 := this.cInv
    rw [hhd]
    cases h2 with
    | t _ _ _ ht => exact ht.mono (fun b hb => hAA fr b hb) (fun _ _ => rfl)
  have hw := h (Γ.marked (SAof Γ st ρ w) w) hd rfl rfl (fun _ h => h) ⟨rfl, fun _ => rfl⟩ hgh code hc a w ⟨_, by rw [← hst1]; exact hsat1⟩
  refine wp_mono hw fun e a' w' ⟨st2, ⟨env', hr2, hback, hq⟩, ρ2, hs2⟩ => ⟨_, hq, ρ2, ?_⟩
  have hsz : w.heap.size ≤ w'.heap.size := hs2.fr.size
  have hblk : ∀ b, b < w.heap.size → w'.heap[b]? = w.heap[b]? := fun b hb => hs2.fr.block b hb fun h => h
  have hno : ∀ r row, (⟨env', []⟩ : AS).row r = some row → False := fun r row h => by simp [AS.row, lk] at h
  have hnr : ∀ b, ¬ RowB (⟨env', []⟩ : AS) ρ2 b := fun b => no_rows rfl
  have hF2 : ∀ b, SFof (Γ.marked (SAof Γ st ρ w) w) st2 ρ2 w' b → SFof Γ ⟨env', []⟩ ρ2 w' b := fun b hb => ⟨Nat.le_trans hs.fr.size hb.1, hb.2.1, hnr b, hb.2.2.2⟩
  have hA2 : ∀ b, SAof (Γ.marked (SAof Γ st ρ w) w) st2 ρ2 w' b → SAof Γ ⟨env', []⟩ ρ2 w' b := by
    intro b hb
    rcases hb.1 with h1 | h1
    · exact ⟨h1.1, hb.2.1, hnr b⟩
    · exact ⟨.inr (Nat.le_trans hs.fr.size h1), hb.2.1, hnr b⟩
  refine ⟨hs2.defers, hs2.size, fun i => ?_, fun r row hr => (hno r row hr).elim, fun r r' row row' la la' hr => (hno r row hr).elim, fun r row la hr => (hno r row hr).elim,
    hs.fr.next hs2.fr.os hs2.fr.tape hs2.fr.output hsz fun b hb _ => hblk b (Nat.lt_of_lt_of_le hb hs.fr.size), hs.lent, fun r la h => by rw [hm.2] at h; cases h⟩
  rcases hback.get i with h1 | ⟨hi, h2, h3⟩
  · have h4 : (⟨env', []⟩ : AS).get i = st2.get i := h1
    rw [h4]
    exact (hs2.env i).mono fun c x hcx => hcx.mono rfl hF2 hA2 (fun _ _ => rfl) (fun _ _ => rfl)
  · have h4 : (⟨env', []⟩ : AS).get i = st.get i := h3
    have h5 : st2.get i = .c (.t true (.v (hd i))) := h2
    have h6 := hs2.env i
    rw [h5] at h6
    have h7 := h6.vEq
    rw [h4, h7, hhd]
    obtain ⟨fr, t, ht⟩ := htree i hi
    have h8 := hs.env i
    rw [ht] at h8 ⊢
    have hlt : ∀ b, (if fr = true then SFof Γ st ρ w else SAof Γ st ρ w) b → b < w.heap.size := fun b hb => (hAA fr b hb).2.1
    refine .c _ _ ?_
    cases h8.cInv with
    | t _ _ _ ht' =>
      refine .t fr _ _ (ht'.mono (fun b hb => ?_) (fun b hb => hblk b (hlt b hb)))
      cases fr
      · simp only [Bool.false_eq_true, if_false] at hb ⊢
        exact ⟨hb.1, Nat.lt_of_lt_of_le hb.2.1 hsz, hnr b⟩
      · simp only [if_true] at hb ⊢
        exact ⟨hb.1, Nat.lt_of_lt_of_le hb.2.1 hsz, hnr b, hb.2.2.2.eq (hblk b hb.2.1)⟩

/-- a slot's header leads to what was there at the mark -/
theorem SatAt.reveal {ρ : Nat → Option RowAt} {a : Act} {w : World} (h : SatAt Γ ρ st a w) (s : Nat) {b : Bool} {x : Value} {t : T} (hs : st.get s = .c (.t b (.v x))) (hv : TRep Γ.A Γ.w0 t x) : SatAt Γ ρ ⟨(s, .c (.t false t)) :: st.env, st.rows⟩ a w := by
  refine h.weaken (fun r row hr => hr) fun i => ?_
  have hg : (⟨(s, .c (.t false t)) :: st.env, st.rows⟩ : AS).get i = if s = i then .c (.t false t) else st.get i := by
    simp only [AS.get, lk]
    split <;> rfl
  rw [hg]
  split
  · rename_i e
    subst e
    have h1 := h.env s
    rw [hs] at h1
    rw [h1.vEq]
    refine .c _ _ (.t false _ _ ?_)
    simp only [Bool.false_eq_true, if_false]
    refine hv.mono (fun b hb => ⟨.inl hb, Nat.lt_of_lt_of_le (h.lent b hb).2 h.fr.size, ?_⟩) fun b hb => h.fr.block b (h.lent b hb).2 (h.lent b hb).1
    rintro ⟨r, row, la, h1, h2, rfl⟩
    rcases (h.own r row la h1 h2).1 with h3 | h3
    · have := (h.lent _ hb).2; omega
    · exact (h.lent _ hb).1 h3
  · exact h.env i
theorem AR.reveal {l : List I} (s : Nat) {b : Bool} {x : Value} {t : T} (hs : st.get s = .c (.t b (.v x))) (hv : TRep Γ.A Γ.w0 t x) (h : AR Γ l Q ⟨(s, .c (.t false t)) :: st.env, st.rows⟩) : AR Γ l Q st :=
  AR.of (fun a w ⟨ρ, hsat⟩ => ⟨ρ, hsat.reveal s hs hv⟩) h
end

section rules
variable {κ : Nat} {st : AS} {fr : Bool} {ts : List T} {es : List (List T)} {x : Value} {env : List (Nat × AV)} {rows : List (Nat × Row)} {c : C} {cs : List C} {vs : List AV} {ds : Option (List C)} {size r off n k j ty : Nat}
theorem storeS_elt : storeS st size (.c (.elt fr ts)) ds = none := by cases ds <;> rfl
theorem blur_mk : AS.blur κ ⟨env, rows⟩ = ⟨env.map fun p => (p.1, p.2.mapC (C.blur κ)), rows.map fun p => (p.1, p.2.blur κ)⟩ := rfl
theorem mapC_any {g : C → C} : AV.mapC g .any = .any := rfl
theorem mapC_c {g : C → C} : AV.mapC g (.c c) = .c (g c) := rfl
theorem mapC_agg {g : C → C} : AV.mapC g (.agg cs) = .agg (cs.map g) := rfl
theorem mapC_tup {g : C → C} : AV.mapC g (.tup vs) = .any := rfl
theorem blur_v : C.blur κ (.t fr (.v x)) = .t fr (.v x) := by cases fr <;> rfl
theorem blur_w : C.blur κ (.t fr (.w k)) = .t fr (.w k) := by cases fr <;> rfl
theorem blur_sl : C.blur κ (.t true (.sl size es)) = .t true (.sl size (es.map (·.map (blurT κ)))) := rfl
theorem blur_slf : C.blur κ (.t false (.sl size es)) = .any := rfl
theorem blur_row : C.blur κ (.row r off n) = .row r off n := rfl
theorem blur_ptr : C.blur κ (.ptr r k j) = .ptr r k j := rfl
theorem blur_elt : C.blur κ (.elt true ts) = .elt true (ts.map (blurT κ)) := rfl
theorem blur_eltf : C.blur κ (.elt false ts) = .any := rfl
theorem blur_any : C.blur κ .any = .any := rfl
theorem blur_fn {f : FuncId} : C.blur κ (.fn f cs) = .any := rfl
theorem rblur_tr : Row.blur κ (.tr true ty size es) = .tr true ty size (es.map (·.map (topT κ))) := rfl
theorem rblur_bx : Row.blur κ (.bx ty cs) = .bx ty (cs.map (C.blur κ)) := rfl
theorem topT_v : topT κ (.v x) = .v x := rfl
theorem topT_w : topT κ (.w k) = .w k := rfl
theorem topT_sl : topT κ (.sl size es) = .sl size (es.map (·.map (blurT κ))) := rfl
end rules
set_option linter.defProp false in
def W0 := And.intro @storeS_elt <| And.intro @blur_mk <| And.intro @mapC_any <| And.intro @mapC_c <| And.intro @mapC_agg <| And.intro @mapC_tup <| And.intro @blur_v <| And.intro @blur_w <| And.intro @blur_sl <|
  And.intro @blur_slf <| And.intro @blur_row <| And.intro @blur_ptr <| And.intro @blur_elt <| And.intro @blur_eltf <| And.intro @blur_any <| And.intro @blur_fn <| And.intro @rblur_tr <| @rblur_bx
end Go.Eng
