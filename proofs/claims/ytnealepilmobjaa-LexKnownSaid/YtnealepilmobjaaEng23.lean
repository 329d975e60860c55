/-
  The engine, part 23: functions that turn what lies behind a pointer: contracts over rows that are lent.
-/
import Derived.Test.YtnealepilmobjaaEng22
set_option linter.unusedVariables false
set_option linter.unusedSimpArgs false
namespace Go.Eng
open Go.RowKit

def lendC : C → C
  | .t _ t => .t false t
  | .elt _ ts => .elt false ts
  | .fn f [] => .fn f []
  | .fn _ _ => .any
  | c => c
def AV.lend : AV → AV
  | .c x => .c (lendC x)
  | .agg cs => .agg (cs.map lendC)
  | _ => .any
def lendR : Row → Row
  | .tr _ ty size es => .tr false ty size es
  | .bx ty cs => .bx ty (cs.map lendC)
def hasR (R : List Nat) (r : Nat) : Bool := R.contains r
/-- behind such a call: handles of rows that may lie elsewhere now are struck out -/
def strikeC (R : List Nat) : C → C
  | .row r off n => if hasR R r = true then .any else .row r off n
  | .ptr r k j => if hasR R r = true ∧ r < 1000000 then .any else .ptr r k j
  | .fn f [] => .fn f []
  | .fn _ _ => .any
  | c => c
def AV.strike (R : List Nat) : AV → AV
  | .c x => .c (strikeC R x)
  | .agg cs => .agg (cs.map (strikeC R))
  | .tup [] => .tup []
  | _ => .any
def Row.strike (R : List Nat) : Row → Row
  | .tr fr ty size es => .tr fr ty size es
  | .bx ty cs => .bx ty (cs.map (strikeC R))
/-- of what such a call hands back, the handles of its rows alone -/
def ownC (R : List Nat) : C → C
  | .row r off n => if hasR R r = true then .row r off n else .any
  | .ptr r k j => if hasR R r = true then .ptr r k j else .any
  | .fn f [] => .fn f []
  | .fn _ _ => .any
  | c => c
def AV.own1 (R : List Nat) : AV → AV
  | .c x => .c (ownC R x)
  | .agg cs => .agg (cs.map (ownC R))
  | .tup _ => .any
  | .any => .any
def AV.own (R : List Nat) : AV → AV
  | .c x => .c (ownC R x)
  | .agg cs => .agg (cs.map (ownC R))
  | .tup vs => .tup (vs.map (AV.own1 R))
  | .any => .any
def Row.own (R : List Nat) : Row → Row
  | .tr fr ty size es => .tr fr ty size es
  | .bx ty cs => .bx ty (cs.map (ownC R))
def outR (R : List Nat) : List (Nat × Row) → List (Nat × Row)
  | [] => []
  | (r, row) :: l => if hasR R r = true then outR R l else (r, row.strike R) :: outR R l
def AS.callM (st : AS) (R : List Nat) (rs' : List (Nat × Row)) : AS := ⟨st.env.map fun p => (p.1, p.2.strike R), (rs'.map fun p => (p.1, p.2.own R)) ++ outR R st.rows⟩

def CtxM (P : Program) (w : World) (S : Nat → Prop) (ρ : Nat → Option RowAt) (rs : List (Nat × Row)) : Ctx :=
  ⟨P, w, fun b => RowB ⟨[], rs⟩ ρ b, S, 0, fun r => if 1000000 ≤ r ∧ (lk rs r).isSome = true then ρ r else none, false⟩
def CtrM (P : Program) (f : FuncId) (args : List AV) (rs : List (Nat × Row)) (Q : AV → List (Nat × Row) → Prop) : Prop :=
  callable P f = true ∧ ∀ (S : Nat → Prop) (w : World) (vs : Array Value) (ρ : Nat → Option RowAt), SatAt (CtxM P w S ρ rs) ρ ⟨[], rs⟩ ⟨#[], []⟩ w → vs.size = args.length →
    (∀ i v, args[i]? = some v → AVRep (CRep ρ (fun _ => False) S w) v (vs.getD i undef)) →
    Calls P f vs w fun e w' => ∃ x av rs' ρ', e = .returned x ∧ Q av rs' ∧ SatAt (CtxM P w S ρ rs) ρ' ⟨[], rs'⟩ ⟨#[], []⟩ w' ∧
      AVRep (CRep ρ' (SFof (CtxM P w S ρ rs) ⟨[], rs'⟩ ρ' w') (SAof (CtxM P w S ρ rs) ⟨[], rs'⟩ ρ' w') w') av x

theorem CtrM.of_body {P : Program} {f : FuncId} {fn : Func} {code : Code} {args : List AV} {rs : List (Nat × Row)} {Q : AV → List (Nat × Row) → Prop} {n : Nat} {ic : IC} {ts : List Nat} (hf : P.funcs[f]? = some fn) (hn : fn.ntmps = n) (hb : fn.body = some code)
    (hname : (fn.name != "runtime.NumGoroutine") = true) (hic : IC.of P n code = ic) (hr : fn.results.toList = ts.map ResultVar.tmp) (hlen : args.length ≤ n)
    (h : ∀ Γ : Ctx, Γ.P = P → Γ.n = n → Γ.g = false → AWI Γ ic (Fin Γ ts Q) ⟨envOf 0 args, rs⟩) : CtrM P f args rs Q := by
  refine ⟨by unfold callable; rw [hf]; simp only [hname, hb]; rfl, fun S w vs ρ hsat0 hl hrep => ?_⟩
  let Γ0 := CtxM P w S ρ rs
  let Γ : Ctx := ⟨P, w, Γ0.X, S, n, Γ0.pin, false⟩
  have hRB : ∀ b, RowB ⟨envOf 0 args, rs⟩ ρ b ↔ RowB ⟨[], rs⟩ ρ b := fun b => Iff.rfl
  have hsat : Sat Γ ⟨envOf 0 args, rs⟩ { tmps := vs ++ Array.replicate (fn.ntmps - vs.size) undef, defers := [] } w := by
    refine ⟨ρ, ⟨rfl, by simp [Γ, hn, hl]; omega, fun i => ?_, hsat0.rows, hsat0.inj, hsat0.own, hsat0.fr, hsat0.lent, hsat0.pins⟩⟩
    simp only [AS.get, lk_envOf, Nat.not_lt_zero, if_false, Nat.sub_zero]
    cases hi : args[i]? with
    | none => exact .any _
    | some v =>
      have hlt : i < vs.size := by rw [hl]; exact (List.getElem?_eq_some_iff.1 hi).1
      have h1 := hrep i v hi
      have h2 : (vs ++ Array.replicate (fn.ntmps - vs.size) undef).getD i undef = vs.getD i undef := by
        simp [Array.getD_eq_getD_getElem?, Array.getElem?_append, hlt]
      simp only [Option.getD_some]
      rw [h2]
      exact h1.mono fun c x hc => hc.mono rfl (fun b hb => hb.elim) (fun b hb => ⟨.inl hb, (hsat0.lent b hb).2, fun hx => (hsat0.lent b hb).1 hx⟩) (fun b hb => hb.elim) (fun _ _ => rfl)
  refine calls_of_wp hf hb (wp_mono (h Γ rfl rfl rfl code hic _ _ hsat) fun e a w' hl => ?_)
  obtain ⟨st1, ⟨he, st2, hto, hQ⟩, hs1⟩ := hl
  obtain ⟨ρ', hs2⟩ := hto a w' hs1
  have hpost : a.defers = [] ∧ ∃ v, (results fn a.tmps).run P w' = .ok v w' ∧ ∃ x av rs' ρ', (Ending.returned v) = .returned x ∧ Q av rs' ∧ SatAt (CtxM P w S ρ rs) ρ' ⟨[], rs'⟩ ⟨#[], []⟩ w' ∧
      AVRep (CRep ρ' (SFof (CtxM P w S ρ rs) ⟨[], rs'⟩ ρ' w') (SAof (CtxM P w S ρ rs) ⟨[], rs'⟩ ρ' w') w') av x := by
    refine ⟨hs2.defers, _, run_results hr a.tmps w', _, resAV st2 ts, st2.rows, ρ', rfl, hQ, ?_, ?_⟩
    · exact ⟨rfl, rfl, fun i => .any _, hs2.rows, hs2.inj, hs2.own, hs2.fr, hs2.lent, hs2.pins⟩
    · exact resAV_rep hs2 ts
  rcases he with rfl | rfl
  · exact hpost
  · exact hpost

section
variable {Γ : Ctx} {ρ ρ' : Nat → Option RowAt} {st : AS} {a : Act} {w w' : World} {PR : List (Nat × Row)}

theorem lk_lend (PR : List (Nat × Row)) (r : Nat) : lk (PR.map fun p => (p.1, lendR p.2)) r = (lk PR r).map lendR := lk_map lendR PR r
theorem has_iff {R : List Nat} {r : Nat} : hasR R r = true ↔ r ∈ R := by simp [hasR]
theorem lk_out (R : List Nat) : ∀ (l : List (Nat × Row)) (r : Nat), lk (outR R l) r = if hasR R r = true then none else (lk l r).map (Row.strike R)
  | [], r => by simp [outR, lk]
  | (q, row) :: l, r => by
    simp only [outR]
    by_cases hq : hasR R q = true
    · rw [if_pos hq, lk_out R l r]
      by_cases hr : hasR R r = true
      · simp [hr]
      · rw [if_neg hr, if_neg hr]
        have : q ≠ r := fun e => hr (e ▸ hq)
        simp [lk, this]
    · rw [if_neg hq]
      simp only [lk]
      by_cases e : q = r
      · subst e; simp [hq]
      · rw [if_neg e, if_neg e, lk_out R l r]
theorem lk_app {α : Type} (l m : List (Nat × α)) (r : Nat) : lk (l ++ m) r = (lk l r).or (lk m r) := by
  induction l with
  | nil => simp [lk]
  | cons p l ih =>
    obtain ⟨j, x⟩ := p
    simp only [List.cons_append, lk]
    split
    · simp
    · exact ih

/-- the rows that are lent, as the callee has them -/
theorem SatAt.lendRows (h : SatAt Γ ρ st a w) (hPR : ∀ r row, lk PR r = some row → st.row r = some row) :
    SatAt (CtxM Γ.P w (SAof Γ st ρ w) ρ (PR.map fun p => (p.1, lendR p.2))) ρ ⟨[], PR.map fun p => (p.1, lendR p.2)⟩ ⟨#[], []⟩ w := by
  have hrow : ∀ r row, (⟨[], PR.map fun p => (p.1, lendR p.2)⟩ : AS).row r = some row → ∃ row0, st.row r = some row0 ∧ row = lendR row0 := by
    intro r row hr
    simp only [AS.row, lk_lend] at hr
    cases hp : lk PR r with
    | none => simp [hp] at hr
    | some row0 => simp [hp] at hr; exact ⟨row0, hPR r row0 hp, hr.symm⟩
  have hB : ∀ b, RowB ⟨[], PR.map fun p => (p.1, lendR p.2)⟩ ρ b → RowB st ρ b := by
    intro b ⟨r, row, la, h1, h2, h3⟩
    obtain ⟨row0, h4, _⟩ := hrow r row h1
    exact ⟨r, row0, la, h4, h2, h3⟩
  have hA : ∀ b, SAof Γ st ρ w b → SAof (CtxM Γ.P w (SAof Γ st ρ w) ρ (PR.map fun p => (p.1, lendR p.2))) ⟨[], PR.map fun p => (p.1, lendR p.2)⟩ ρ w b :=
    fun b hb => ⟨.inl hb, hb.2.1, fun hx => hb.2.2 (hB b hx)⟩
  have hFA : ∀ (fr : Bool) b, (if fr = true then SFof Γ st ρ w else SAof Γ st ρ w) b → SAof (CtxM Γ.P w (SAof Γ st ρ w) ρ (PR.map fun p => (p.1, lendR p.2))) ⟨[], PR.map fun p => (p.1, lendR p.2)⟩ ρ w b := by
    intro fr b hb
    cases fr
    · exact hA b (by simpa using hb)
    · exact hA b (SF_sub b (by simpa using hb))
  refine ⟨rfl, rfl, fun i => .any _, fun r row hr => ?_, fun r r' row row' la la' hr hr' hl hl' e => ?_, fun r row la hr hl => ?_, ⟨rfl, rfl, rfl, Nat.le_refl _, fun _ _ _ => rfl⟩, fun b hb => ⟨fun hx => hb.2.2 (hB b hx), hb.2.1⟩, fun r la hp => ?_⟩
  · obtain ⟨row0, h0, rfl⟩ := hrow r row hr
    have hrr := h.rows r row0 h0
    cases hrr with
    | nil fr ty size hn => exact .nil false ty size hn
    | tr fr ty size es la cur hla hss hh htt hl hz hf =>
      refine .tr false ty size es la cur hla hss hh htt hl hz fun k i e t hk hi => ?_
      obtain ⟨x, hx, ht⟩ := hf k i e t hk hi
      exact ⟨x, hx, ht.mono (by simpa using hFA fr) (fun _ _ => rfl)⟩
    | bx ty cs la cur hla hss hh htt hf =>
      refine .bx ty _ la cur hla (by simpa using hss) hh (by simpa using htt) fun i c hi => ?_
      rw [List.getElem?_map] at hi
      cases hci : cs[i]? with
      | none => simp [hci] at hi
      | some c0 =>
        simp [hci] at hi
        subst hi
        obtain ⟨x, hx, hc⟩ := hf i c0 hci
        refine ⟨x, hx, ?_⟩
        have h1 := hc.one
        cases hc with
        | any x h => exact .any x h
        | t fr t x ht => exact .t false t x (ht.mono (by simpa using hFA fr) (fun _ _ => rfl))
        | row r off n cap la h hb hn hm => exact .row r off n cap la h hb hn hm
        | row0 r off A => exact .row0 r off A
        | ptr r k j la h => exact .ptr r k j la h
        | elt fr ts b o f hb hc hf => exact .elt false ts b o f (by simpa using hFA fr b hb) hc fun i t ht => (hf i t ht).mono (by simpa using hFA fr) (fun _ _ => rfl)
        | fn f caps vs hs hh =>
          cases caps with
          | nil => exact .fn f [] vs hs (by simp)
          | cons c cs => exact .any _ h1
  · obtain ⟨x, hx, _⟩ := hrow r row hr
    obtain ⟨y, hy, _⟩ := hrow r' row' hr'
    exact h.inj r r' x y la la' hx hy hl hl' e
  · obtain ⟨x, hx, _⟩ := hrow r row hr
    exact ⟨.inr ⟨r, row, la, hr, hl, rfl⟩, (h.own r x la hx hl).2⟩
  · simp only [CtxM] at hp
    split at hp
    · rename_i hc; exact ⟨hc.1, hp⟩
    · cases hp

theorem AVlend_rep (h : SatAt Γ ρ st a w) {v : AV} {x : Value} (hv : AVRep (CRep ρ (SFof Γ st ρ w) (SAof Γ st ρ w) w) v x) : AVRep (CRep ρ (fun _ => False) (SAof Γ st ρ w) w) v.lend x := by
  have hFA : ∀ (fr : Bool) b, (if fr = true then SFof Γ st ρ w else SAof Γ st ρ w) b → SAof Γ st ρ w b := by
    intro fr b hb
    cases fr
    · simpa using hb
    · exact SF_sub b (by simpa using hb)
  have key : ∀ c x, CRep ρ (SFof Γ st ρ w) (SAof Γ st ρ w) w c x → CRep ρ (fun _ => False) (SAof Γ st ρ w) w (lendC c) x := by
    intro c x hc
    have h1 := hc.one
    cases hc with
    | any x h => exact .any x h
    | t fr t x ht => exact .t false t x (ht.mono (by simpa using hFA fr) (fun _ _ => rfl))
    | row r off n cap la h hb hn hm => exact .row r off n cap la h hb hn hm
    | row0 r off A => exact .row0 r off A
    | ptr r k j la h => exact .ptr r k j la h
    | elt fr ts b o f hb hc hf => exact .elt false ts b o f (by simpa using hFA fr b hb) hc fun i t ht => (hf i t ht).mono (by simpa using hFA fr) (fun _ _ => rfl)
    | fn f caps vs hs hh =>
      cases caps with
      | nil => exact .fn f [] vs hs (by simp)
      | cons c cs => exact .any _ h1
  cases hv with
  | any x => exact .any x
  | c c x hc => exact .c _ x (key c x hc)
  | agg cs xs hs hh =>
    refine .agg _ xs (by simpa using hs) fun i c hc => ?_
    rw [List.getElem?_map] at hc
    cases hci : cs[i]? with
    | none => simp [hci] at hc
    | some c0 =>
      simp [hci] at hc
      subst hc
      exact key c0 _ (hh i c0 hci)
  | tup vs xs hs h => exact .any _

def mix (R : List Nat) (ρ ρ' : Nat → Option RowAt) : Nat → Option RowAt := fun r => if hasR R r = true then ρ' r else ρ r
/-- THE STATE BEHIND SUCH A CALL -/
theorem SatAt.callM (h : SatAt Γ ρ st a w) (hPR : ∀ r row, lk PR r = some row → st.row r = some row) {rs' : List (Nat × Row)} (hnum : ∀ r row, lk rs' r = some row → hasR (PR.map (·.1)) r = true) {av : AV} {x : Value}
    (hc : SatAt (CtxM Γ.P w (SAof Γ st ρ w) ρ (PR.map fun p => (p.1, lendR p.2))) ρ' ⟨[], rs'⟩ ⟨#[], []⟩ w')
    (hv : AVRep (CRep ρ' (SFof (CtxM Γ.P w (SAof Γ st ρ w) ρ (PR.map fun p => (p.1, lendR p.2))) ⟨[], rs'⟩ ρ' w') (SAof (CtxM Γ.P w (SAof Γ st ρ w) ρ (PR.map fun p => (p.1, lendR p.2))) ⟨[], rs'⟩ ρ' w') w') av x) :
    SatAt Γ (mix (PR.map (·.1)) ρ ρ') (st.callM (PR.map (·.1)) rs') a w' ∧ AVRep (CRep (mix (PR.map (·.1)) ρ ρ') (SFof Γ (st.callM (PR.map (·.1)) rs') (mix (PR.map (·.1)) ρ ρ') w') (SAof Γ (st.callM (PR.map (·.1)) rs') (mix (PR.map (·.1)) ρ ρ') w') w') (av.own (PR.map (·.1))) x := by
  generalize hR : PR.map (·.1) = R at *
  generalize hΓc : CtxM Γ.P w (SAof Γ st ρ w) ρ (PR.map fun p => (p.1, lendR p.2)) = Γc at *
  have hw0 : Γc.w0 = w := by rw [← hΓc]; rfl
  have hXc : ∀ b, Γc.X b → ∃ r row la, hasR R r = true ∧ st.row r = some row ∧ ρ r = some la ∧ la.b = b := by
    intro b hb
    rw [← hΓc] at hb
    obtain ⟨r, row, la, h1, h2, h3⟩ := hb
    simp only [AS.row, lk_lend] at h1
    cases hp : lk PR r with
    | none => simp [hp] at h1
    | some row0 =>
      refine ⟨r, row0, la, ?_, hPR r row0 hp, h2, h3⟩
      rw [has_iff, ← hR]
      exact List.mem_map.2 ⟨(r, row0), lk_mem hp, rfl⟩
  have hAc : ∀ b, Γc.A b ↔ SAof Γ st ρ w b := fun b => by rw [← hΓc]; exact Iff.rfl
  have hpin : ∀ r la, hasR R r = true → 1000000 ≤ r → ρ r = some la → ρ' r = some la := by
    intro r la hr hb hla
    refine (hc.pins r la ?_).2
    rw [← hΓc]
    simp only [CtxM]
    rw [if_pos, hla]
    refine ⟨hb, ?_⟩
    rw [lk_lend, Option.isSome_map]
    have hm := has_iff.1 hr
    rw [← hR] at hm
    obtain ⟨p, hp, hpr⟩ := List.mem_map.1 hm
    cases hl : lk PR r with
    | some _ => rfl
    | none =>
      exfalso
      have : ∀ l : List (Nat × Row), p ∈ l → lk l r ≠ none := by
        intro l
        induction l with
        | nil => intro hx; cases hx
        | cons q l ih =>
          intro hx
          obtain ⟨j, y⟩ := q
          simp only [lk]
          split
          · simp
          · rename_i hne
            rcases List.mem_cons.1 hx with hx | hx
            · rw [hx] at hpr; exact absurd hpr hne
            · exact ih hx
      exact this PR hp hl
  have hmixR : ∀ r, hasR R r = true → mix R ρ ρ' r = ρ' r := fun r hr => by simp [mix, hr]
  have hmixN : ∀ r, ¬ hasR R r = true → mix R ρ ρ' r = ρ r := fun r hr => by simp [mix, hr]
  have hrowR : ∀ r, hasR R r = true → (st.callM R rs').row r = (lk rs' r).map (Row.own R) := by
    intro r hr
    simp only [AS.callM, AS.row]
    rw [lk_app, lk_map (Row.own R), lk_out, if_pos hr, Option.or_none]
  have hrowN : ∀ r, ¬ hasR R r = true → (st.callM R rs').row r = (st.row r).map (Row.strike R) := by
    intro r hr
    simp only [AS.callM, AS.row]
    have : lk rs' r = none := by
      cases hl : lk rs' r with
      | none => rfl
      | some row => exact absurd (hnum r row hl) hr
    rw [lk_app, lk_map (Row.own R), lk_out, if_neg hr, this]; rfl
  have hsz : w.heap.size ≤ w'.heap.size := by rw [← hw0]; exact hc.fr.size
  have hblk : ∀ b, b < w.heap.size → (∀ r row la, hasR R r = true → st.row r = some row → ρ r = some la → la.b ≠ b) → w'.heap[b]? = w.heap[b]? := by
    intro b hb hne
    have := hc.fr.block b (by rw [hw0]; exact hb) (fun hx => by obtain ⟨r, row, la, h1, h2, h3, h4⟩ := hXc b hx; exact hne r row la h1 h2 h3 h4)
    rw [this, hw0]
  have hnotRow : ∀ b, ¬ RowB st ρ b → b < w.heap.size → w'.heap[b]? = w.heap[b]? := fun b hb hlt => hblk b hlt fun r row la _ h1 h2 h3 => hb ⟨r, row, la, h1, h2, h3⟩
  -- where the lent rows lie now
  have hownR : ∀ r row la, hasR R r = true → lk rs' r = some row → ρ' r = some la → (w.heap.size ≤ la.b ∨ ∃ r2 row2 la2, hasR R r2 = true ∧ st.row r2 = some row2 ∧ ρ r2 = some la2 ∧ la2.b = la.b) ∧ la.b < w'.heap.size := by
    intro r row la hr hrow hla
    have := hc.own r row la hrow hla
    rw [hw0] at this
    exact ⟨this.1.imp id (hXc la.b), this.2⟩
  have hB : ∀ b, b < w.heap.size → RowB (st.callM R rs') (mix R ρ ρ') b → RowB st ρ b := by
    intro b hb ⟨r, row, la, h1, h2, h3⟩
    by_cases hr : hasR R r = true
    · rw [hrowR r hr] at h1
      rw [hmixR r hr] at h2
      cases hl : lk rs' r with
      | none => simp [hl] at h1
      | some row2 =>
        rcases (hownR r row2 la hr hl h2).1 with h4 | ⟨r2, row3, la2, _, h5, h6, h7⟩
        · omega
        · exact ⟨r2, row3, la2, h5, h6, h7.trans h3⟩
    · rw [hrowN r hr] at h1
      rw [hmixN r hr] at h2
      cases hl : st.row r with
      | none => simp [hl] at h1
      | some row2 => exact ⟨r, row2, la, hl, h2, h3⟩
  have hF : ∀ b, SFof Γ st ρ w b → SFof Γ (st.callM R rs') (mix R ρ ρ') w' b := fun b hb => ⟨hb.1, Nat.lt_of_lt_of_le hb.2.1 hsz, fun hx => hb.2.2.1 (hB b hb.2.1 hx), hb.2.2.2.eq (hnotRow b hb.2.2.1 hb.2.1)⟩
  have hA : ∀ b, SAof Γ st ρ w b → SAof Γ (st.callM R rs') (mix R ρ ρ') w' b := fun b hb => ⟨hb.1, Nat.lt_of_lt_of_le hb.2.1 hsz, fun hx => hb.2.2 (hB b hb.2.1 hx)⟩
  have hwF : ∀ b, SFof Γ st ρ w b → w'.heap[b]? = w.heap[b]? := fun b hb => hnotRow b hb.2.2.1 hb.2.1
  have hwA : ∀ b, SAof Γ st ρ w b → w'.heap[b]? = w.heap[b]? := fun b hb => hnotRow b hb.2.2 hb.2.1
  have hnewB : ∀ b, w.heap.size ≤ b → RowB (st.callM R rs') (mix R ρ ρ') b → RowB ⟨[], rs'⟩ ρ' b := by
    intro b hb ⟨r, row, la, h1, h2, h3⟩
    by_cases hr : hasR R r = true
    · rw [hrowR r hr] at h1
      rw [hmixR r hr] at h2
      cases hl : lk rs' r with
      | none => simp [hl] at h1
      | some row2 => exact ⟨r, row2, la, hl, h2, h3⟩
    · rw [hrowN r hr] at h1
      rw [hmixN r hr] at h2
      cases hl : st.row r with
      | none => simp [hl] at h1
      | some row2 => have := (h.own r row2 la hl h2).2; omega
  have hFc : ∀ b, SFof Γc ⟨[], rs'⟩ ρ' w' b → SFof Γ (st.callM R rs') (mix R ρ ρ') w' b := by
    intro b hb
    have h1 := hb.1
    rw [hw0] at h1
    exact ⟨Nat.le_trans h.fr.size h1, hb.2.1, fun hx => hb.2.2.1 (hnewB b h1 hx), hb.2.2.2⟩
  have hAcc : ∀ b, SAof Γc ⟨[], rs'⟩ ρ' w' b → SAof Γ (st.callM R rs') (mix R ρ ρ') w' b := by
    intro b hb
    rcases hb.1 with h1 | h1
    · exact hA b ((hAc b).1 h1)
    · rw [hw0] at h1
      exact ⟨.inr (Nat.le_trans h.fr.size h1), hb.2.1, fun hx => hb.2.2 (hnewB b h1 hx)⟩
  have hCs : ∀ c y, CRep ρ (SFof Γ st ρ w) (SAof Γ st ρ w) w c y → CRep (mix R ρ ρ') (SFof Γ (st.callM R rs') (mix R ρ ρ') w') (SAof Γ (st.callM R rs') (mix R ρ ρ') w') w' (strikeC R c) y := by
    intro c y hcy
    have h1 := hcy.one
    cases hcy with
    | any _ h => exact .any _ h
    | t fr t _ ht =>
      cases fr
      · exact .t false t _ (ht.mono (by simpa using hA) (by simpa using hwA))
      · exact .t true t _ (ht.mono (by simpa using hF) (by simpa using hwF))
    | row r off n cap la hla hb hn hm =>
      by_cases hr : hasR R r = true
      · simp only [strikeC, hr, if_true]; exact .any _ h1
      · simp only [strikeC, hr]; exact .row r off n cap la ((hmixN r hr).trans hla) hb hn hm
    | row0 r off A =>
      by_cases hr : hasR R r = true
      · simp only [strikeC, hr, if_true]; exact .any _ h1
      · simp only [strikeC, hr]; exact .row0 r off A
    | ptr r k j la hla =>
      by_cases hr : hasR R r = true ∧ r < 1000000
      · simp only [strikeC, hr, and_self, if_true]; exact .any _ h1
      · simp only [strikeC, if_neg hr]
        refine .ptr r k j la ?_
        by_cases hr2 : hasR R r = true
        · rw [hmixR r hr2]
          exact hpin r la hr2 (Nat.le_of_not_lt fun hlt => hr ⟨hr2, hlt⟩) hla
        · rw [hmixN r hr2]; exact hla
    | elt fr ts b o f hb hc hf =>
      cases fr
      · exact .elt false ts b o f (by simpa using hA b (by simpa using hb)) (fun i hi => by rw [World.cell?_of_block (w := w) (hwA b (by simpa using hb))]; exact hc i hi) fun i t ht => (hf i t ht).mono (by simpa using hA) (by simpa using hwA)
      · exact .elt true ts b o f (by simpa using hF b (by simpa using hb)) (fun i hi => by rw [World.cell?_of_block (w := w) (hwF b (by simpa using hb))]; exact hc i hi) fun i t ht => (hf i t ht).mono (by simpa using hF) (by simpa using hwF)
    | fn f caps vs hs hh =>
      cases caps with
      | nil => exact .fn f [] vs hs (by simp)
      | cons c cs => exact .any _ h1
  have hCo : ∀ c y, CRep ρ' (SFof Γc ⟨[], rs'⟩ ρ' w') (SAof Γc ⟨[], rs'⟩ ρ' w') w' c y → CRep (mix R ρ ρ') (SFof Γ (st.callM R rs') (mix R ρ ρ') w') (SAof Γ (st.callM R rs') (mix R ρ ρ') w') w' (ownC R c) y := by
    intro c y hcy
    have h1 := hcy.one
    cases hcy with
    | any _ h => exact .any _ h
    | t fr t _ ht =>
      cases fr
      · exact .t false t _ (ht.mono (by simpa using hAcc) (fun _ _ => rfl))
      · exact .t true t _ (ht.mono (by simpa using hFc) (fun _ _ => rfl))
    | row r off n cap la hla hb hn hm =>
      by_cases hr : hasR R r = true
      · simp only [ownC, hr, if_true]; exact .row r off n cap la ((hmixR r hr).trans hla) hb hn hm
      · simp only [ownC, hr]; exact .any _ h1
    | row0 r off A =>
      by_cases hr : hasR R r = true
      · simp only [ownC, hr, if_true]; exact .row0 r off A
      · simp only [ownC, hr]; exact .any _ h1
    | ptr r k j la hla =>
      by_cases hr : hasR R r = true
      · simp only [ownC, hr, if_true]; exact .ptr r k j la ((hmixR r hr).trans hla)
      · simp only [ownC, hr]; exact .any _ h1
    | elt fr ts b o f hb hc hf =>
      cases fr
      · exact .elt false ts b o f (by simpa using hAcc b (by simpa using hb)) hc fun i t ht => (hf i t ht).mono (by simpa using hAcc) (fun _ _ => rfl)
      · exact .elt true ts b o f (by simpa using hFc b (by simpa using hb)) hc fun i t ht => (hf i t ht).mono (by simpa using hFc) (fun _ _ => rfl)
    | fn f caps vs hs hh =>
      cases caps with
      | nil => exact .fn f [] vs hs (by simp)
      | cons c cs => exact .any _ h1
  refine ⟨⟨h.defers, h.size, fun i => ?_, fun r row hr => ?_, fun r r' row row' la la' hr hr' hl hl' e => ?_, fun r row la hr hl => ?_, ⟨?_, ?_, ?_, Nat.le_trans h.fr.size hsz, fun b hb hX => ?_⟩, h.lent, fun r la hp => ?_⟩, ?_⟩
  · have hg : (st.callM R rs').get i = (st.get i).strike R := by
      simp only [AS.callM, AS.get, lk_map (AV.strike R)]
      cases lk st.env i <;> rfl
    rw [hg]
    have hev := h.env i
    revert hev
    generalize st.get i = v
    generalize a.tmps.getD i undef = y
    intro hev
    cases hev with
    | any _ => exact .any _
    | c c _ h => exact .c _ _ (hCs _ _ h)
    | agg cs xs hs hh =>
      refine .agg _ xs (by simpa using hs) fun j c hj => ?_
      rw [List.getElem?_map] at hj
      cases hcj : cs[j]? with
      | none => simp [hcj] at hj
      | some c0 =>
        simp [hcj] at hj
        subst hj
        exact hCs _ _ (hh j c0 hcj)
    | tup vs xs hs hh =>
      cases vs with
      | nil => exact .tup [] xs hs (by simp)
      | cons v vs => exact .any _
  · by_cases hrr : hasR R r = true
    · rw [hrowR r hrr] at hr
      cases hl : lk rs' r with
      | none => simp [hl] at hr
      | some row2 =>
        simp [hl] at hr
        subst hr
        have hrep := hc.rows r row2 hl
        have hm := hmixR r hrr
        cases hrep with
        | nil fr ty size hn => exact .nil fr ty size (hm.trans hn)
        | tr fr ty size es la cur hla hss hh htt hll hz hf =>
          refine .tr fr ty size es la cur (hm.trans hla) hss hh htt hll hz fun k i e t hk hi => ?_
          obtain ⟨x, hx, ht⟩ := hf k i e t hk hi
          refine ⟨x, hx, ?_⟩
          cases fr
          · exact ht.mono (by simpa using hAcc) (fun _ _ => rfl)
          · exact ht.mono (by simpa using hFc) (fun _ _ => rfl)
        | bx ty cs la cur hla hss hh htt hf =>
          refine .bx ty _ la cur (hm.trans hla) (by simpa using hss) hh (by simpa using htt) fun i c hi => ?_
          rw [List.getElem?_map] at hi
          cases hci : cs[i]? with
          | none => simp [hci] at hi
          | some c0 =>
            simp [hci] at hi
            subst hi
            obtain ⟨x, hx, hcx⟩ := hf i c0 hci
            exact ⟨x, hx, hCo _ _ hcx⟩
    · rw [hrowN r hrr] at hr
      cases hl : st.row r with
      | none => simp [hl] at hr
      | some row2 =>
        simp [hl] at hr
        subst hr
        have hrep := h.rows r row2 hl
        have hm := hmixN r hrr
        have hb2 : ∀ la, ρ r = some la → w'.heap[la.b]? = w.heap[la.b]? := fun la hla => hblk la.b (h.own r row2 la hl hla).2 fun r2 row3 la2 h1 h2 h3 h4 => hrr ((h.inj r2 r row3 row2 la2 la h2 hl h3 hla h4) ▸ h1)
        cases hrep with
        | nil fr ty size hn => exact .nil fr ty size (hm.trans hn)
        | tr fr ty size es la cur hla hss hh htt hll hz hf =>
          refine .tr fr ty size es la cur (hm.trans hla) hss (by rw [hb2 la hla]; exact hh) htt hll hz fun k i e t hk hi => ?_
          obtain ⟨x, hx, ht⟩ := hf k i e t hk hi
          refine ⟨x, hx, ?_⟩
          cases fr
          · exact ht.mono (by simpa using hA) (by simpa using hwA)
          · exact ht.mono (by simpa using hF) (by simpa using hwF)
        | bx ty cs la cur hla hss hh htt hf =>
          refine .bx ty _ la cur (hm.trans hla) (by simpa using hss) (by rw [hb2 la hla]; exact hh) (by simpa using htt) fun i c hi => ?_
          rw [List.getElem?_map] at hi
          cases hci : cs[i]? with
          | none => simp [hci] at hi
          | some c0 =>
            simp [hci] at hi
            subst hi
            obtain ⟨x, hx, hcx⟩ := hf i c0 hci
            exact ⟨x, hx, hCs _ _ hcx⟩
  · -- no two rows lie in one block
    have hcase : ∀ r row la, (st.callM R rs').row r = some row → mix R ρ ρ' r = some la → (hasR R r = true ∧ ∃ row2, lk rs' r = some row2 ∧ ρ' r = some la) ∨ (¬ hasR R r = true ∧ ∃ row2, st.row r = some row2 ∧ ρ r = some la) := by
      intro r row la hr hl
      by_cases hrr : hasR R r = true
      · rw [hrowR r hrr] at hr
        rw [hmixR r hrr] at hl
        cases hk : lk rs' r with
        | none => simp [hk] at hr
        | some row2 => exact .inl ⟨hrr, row2, rfl, hl⟩
      · rw [hrowN r hrr] at hr
        rw [hmixN r hrr] at hl
        cases hk : st.row r with
        | none => simp [hk] at hr
        | some row2 => exact .inr ⟨hrr, row2, rfl, hl⟩
    have hcross : ∀ r r' row2 row3 la la', hasR R r = true → lk rs' r = some row2 → ρ' r = some la → ¬ hasR R r' = true → st.row r' = some row3 → ρ r' = some la' → la.b = la'.b → False := by
      intro r r' row2 row3 la la' h1 h2 h3 h4 h5 h6 e
      have hlt := (h.own r' row3 la' h5 h6).2
      rcases (hownR r row2 la h1 h2 h3).1 with h7 | ⟨r2, row4, la2, h8, h9, h10, h11⟩
      · omega
      · exact h4 ((h.inj r2 r' row4 row3 la2 la' h9 h5 h10 h6 (h11.trans e)) ▸ h8)
    rcases hcase r row la hr hl with ⟨h1, row2, h2, h3⟩ | ⟨h1, row2, h2, h3⟩ <;> rcases hcase r' row' la' hr' hl' with ⟨h4, row3, h5, h6⟩ | ⟨h4, row3, h5, h6⟩
    · exact hc.inj r r' row2 row3 la la' h2 h5 h3 h6 e
    · exact (hcross r r' row2 row3 la la' h1 h2 h3 h4 h5 h6 e).elim
    · exact (hcross r' r row3 row2 la' la h4 h5 h6 h1 h2 h3 e.symm).elim
    · exact h.inj r r' row2 row3 la la' h2 h5 h3 h6 e
  · by_cases hrr : hasR R r = true
    · rw [hrowR r hrr] at hr
      rw [hmixR r hrr] at hl
      cases hk : lk rs' r with
      | none => simp [hk] at hr
      | some row2 =>
        obtain ⟨h1, h2⟩ := hownR r row2 la hrr hk hl
        refine ⟨?_, h2⟩
        rcases h1 with h1 | ⟨r2, row3, la2, _, h4, h5, h6⟩
        · exact .inl (Nat.le_trans h.fr.size h1)
        · rw [← h6]; exact (h.own r2 row3 la2 h4 h5).1
    · rw [hrowN r hrr] at hr
      rw [hmixN r hrr] at hl
      cases hk : st.row r with
      | none => simp [hk] at hr
      | some row2 => exact ⟨(h.own r row2 la hk hl).1, Nat.lt_of_lt_of_le (h.own r row2 la hk hl).2 hsz⟩
  · rw [hc.fr.os, hw0]; exact h.fr.os
  · rw [hc.fr.tape, hw0]; exact h.fr.tape
  · rw [hc.fr.output, hw0]; exact h.fr.output
  · rw [hblk b (Nat.lt_of_lt_of_le hb h.fr.size) fun r row la h1 h2 h3 h4 => ?_]
    · exact h.fr.block b hb hX
    · rcases (h.own r row la h2 h3).1 with h5 | h5
      · omega
      · exact hX (h4 ▸ h5)
  · obtain ⟨h1, h2⟩ := h.pins r la hp
    refine ⟨h1, ?_⟩
    by_cases hrr : hasR R r = true
    · rw [hmixR r hrr]; exact hpin r la hrr h1 h2
    · rw [hmixN r hrr]; exact h2
  · exact hv.mapT (g := ownC R) (g1 := AV.own1 R) (g2 := AV.own R) (fun v => by cases v <;> rfl) (fun v => by cases v <;> rfl) hCo
end
end Go.Eng
