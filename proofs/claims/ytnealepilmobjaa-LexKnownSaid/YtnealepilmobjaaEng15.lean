/-
  The engine, part 15: functions by their contracts; calls.
-/
import Derived.Test.YtnealepilmobjaaEng14
set_option linter.unusedVariables false
set_option linter.unusedSimpArgs false
namespace Go.Eng
open Go.RowKit

def callable (P : Program) (f : FuncId) : Bool :=
  match P.funcs[f]? with
  | some fn => fn.name != "runtime.NumGoroutine" && fn.body.isSome
  | none => false
/-- the activation of a caller who owns nothing, in whose world trees lie in the blocks S -/
def Ctx.call (P : Program) (w : World) (S : Nat → Prop) : Ctx := ⟨P, w, fun _ => False, S, 0, fun _ => none, false⟩
/-- a function's contract: of arguments that are trees it answers a value, and rows that are new -/
def Ctr (P : Program) (f : FuncId) (args : List AV) (Q : AV → List (Nat × Row) → Prop) : Prop :=
  callable P f = true ∧ ∀ (S : Nat → Prop) (w : World) (vs : Array Value), (∀ b, S b → b < w.heap.size) → vs.size = args.length →
    (∀ i v, args[i]? = some v → AVRep (CRep (fun _ => none) (fun _ => False) S w) v (vs.getD i undef)) →
    Calls P f vs w fun e w' => ∃ x av rs ρ, e = .returned x ∧ Q av rs ∧ Below w.heap.size w w' ∧ SatAt (Ctx.call P w S) ρ ⟨[], rs⟩ ⟨#[], []⟩ w' ∧
      AVRep (CRep ρ (SFof (Ctx.call P w S) ⟨[], rs⟩ ρ w') (SAof (Ctx.call P w S) ⟨[], rs⟩ ρ w') w') av x
theorem Ctr.mono {P : Program} {f : FuncId} {args : List AV} {Q Q' : AV → List (Nat × Row) → Prop} (h : Ctr P f args Q) (hq : ∀ av rs, Q av rs → Q' av rs) : Ctr P f args Q' :=
  ⟨h.1, fun S w vs hS hl hr => (h.2 S w vs hS hl hr).mono fun e w' ⟨x, av, rs, ρ, he, hQ, rest⟩ => ⟨x, av, rs, ρ, he, hq _ _ hQ, rest⟩⟩
/-- the usual contract: one answer -/
def CtrE (P : Program) (f : FuncId) (args : List AV) (av : AV) (rs : List (Nat × Row)) : Prop := Ctr P f args fun av' rs' => av' = av ∧ rs' = rs

def envOf : Nat → List AV → List (Nat × AV)
  | _, [] => []
  | k, v :: vs => (k, v) :: envOf (k + 1) vs
theorem lk_envOf (vs : List AV) : ∀ (k i : Nat), lk (envOf k vs) i = if i < k then none else vs[i - k]? := by
  induction vs with
  | nil => intro k i; simp [envOf, lk]
  | cons v vs ih =>
    intro k i
    simp only [envOf, lk]
    by_cases h : k = i
    · subst h; simp
    · rw [if_neg h, ih]
      by_cases h2 : i < k
      · rw [if_pos h2, if_pos (by omega)]
      · rw [if_neg h2, if_neg (by omega)]
        rw [show i - k = (i - (k + 1)) + 1 by omega, List.getElem?_cons_succ]
def resAV (st : AS) : List Nat → AV
  | [t] => st.get t
  | ts => .tup (ts.map st.get)
/-- what a body must come to -/
def Fin (Γ : Ctx) (ts : List Nat) (Q : AV → List (Nat × Row) → Prop) (e : Exit) (st : AS) : Prop :=
  (e = .ret ∨ e = .normal) ∧ ∃ st2, (∀ a w, Sat Γ st a w → Sat Γ st2 a w) ∧ Q (resAV st2 ts) st2.rows

def resV (tmps : Array Value) : List Nat → Value
  | [t] => tmps.getD t undef
  | ts => .tuple (ts.map (tmps.getD · undef)).toArray
theorem run_results {P : Program} {fn : Func} {ts : List Nat} (hr : fn.results.toList = ts.map ResultVar.tmp) (tmps : Array Value) (w : World) :
    (results fn tmps).run P w = .ok (resV tmps ts) w := by
  have hr' : fn.results = (ts.map ResultVar.tmp).toArray := by
    apply Array.ext'
    simpa using hr
  have key : ∀ l : List Nat, Sem.run P ((l.map ResultVar.tmp).mapM fun x => match x with
      | ResultVar.tmp t => (pure (tmps.getD t undef) : Sem Value)
      | ResultVar.cell a t => do loadVar t (← asAddr (tmps.getD a undef))) w = Result.ok (l.map (tmps.getD · undef)) w := by
    intro l
    induction l with
    | nil => simp
    | cons t l ih => simp only [List.map_cons, List.mapM_cons, Sem.run_bind, Sem.run_pure, Result.andThen_ok, ih]
  have hk := key ts
  unfold results
  rw [hr']
  have hfin : ∀ l : List Nat, (if h : (l.map (tmps.getD · undef)).toArray.size = 1 then (l.map (tmps.getD · undef)).toArray[0] else Value.tuple (l.map (tmps.getD · undef)).toArray) = resV tmps l := by
    intro l
    match l with
    | [] => rfl
    | [t] => rfl
    | t :: u :: l => rw [dif_neg (by simp)]; rfl
  rw [← hfin ts]
  simp only [List.mapM_toArray, Sem.run_bind, Sem.run_map, Sem.run_pure]
  exact congrArg (fun r : Result (List Value) => (r.andThen fun a w' => Result.ok a.toArray w').andThen fun a w' => Result.ok (if h : a.size = 1 then a[0] else Value.tuple a) w') hk

theorem resAV_rep {Γ : Ctx} {ρ : Nat → Option RowAt} {st : AS} {a : Act} {w : World} (h : SatAt Γ ρ st a w) (ts : List Nat) :
    AVRep (CRep ρ (SFof Γ st ρ w) (SAof Γ st ρ w) w) (resAV st ts) (resV a.tmps ts) := by
  have htup : AVRep (CRep ρ (SFof Γ st ρ w) (SAof Γ st ρ w) w) (.tup (ts.map st.get)) (.tuple (ts.map (a.tmps.getD · undef)).toArray) := by
    refine .tup _ _ (by simp) fun i v hv => ?_
    rw [List.getElem?_map] at hv
    cases ht : ts[i]? with
    | none => simp [ht] at hv
    | some t =>
      simp [ht] at hv
      subst hv
      have : (ts.map (a.tmps.getD · undef)).toArray.getD i undef = a.tmps.getD t undef := by
        rw [getD_toList, List.getD_eq_getElem?_getD]; simp [ht]
      rw [this]
      exact h.env t
  match ts with
  | [] => exact htup
  | [t] => exact h.env t
  | t :: u :: l => exact htup

/-- FROM A BODY TO A CONTRACT -/
theorem Ctr.of_body {P : Program} {f : FuncId} {fn : Func} {code : Code} {args : List AV} {Q : AV → List (Nat × Row) → Prop} {n : Nat} {ic : IC} {ts : List Nat} (hf : P.funcs[f]? = some fn) (hn : fn.ntmps = n) (hb : fn.body = some code)
    (hname : (fn.name != "runtime.NumGoroutine") = true) (hic : IC.of P n code = ic) (hr : fn.results.toList = ts.map ResultVar.tmp) (hlen : args.length ≤ n)
    (h : ∀ Γ : Ctx, Γ.P = P → Γ.n = n → (∀ b, ¬ Γ.X b) → (Γ.g = false ∧ ∀ r, Γ.pin r = none) → AWI Γ ic (Fin Γ ts Q) ⟨envOf 0 args, []⟩) : Ctr P f args Q := by
  refine ⟨by unfold callable; rw [hf]; simp only [hname, hb]; rfl, fun S w vs hS hl hrep => ?_⟩
  let Γ : Ctx := ⟨P, w, fun _ => False, S, n, fun _ => none, false⟩
  have hrow : ∀ r, (⟨envOf 0 args, []⟩ : AS).row r = none := fun r => rfl
  have hnB : ∀ ρ b, ¬ RowB (⟨envOf 0 args, []⟩ : AS) ρ b := fun ρ b ⟨r, row, la, h1, _, _⟩ => by rw [hrow] at h1; cases h1
  have hsat : Sat Γ ⟨envOf 0 args, []⟩ { tmps := vs ++ Array.replicate (fn.ntmps - vs.size) undef, defers := [] } w := by
    refine ⟨fun _ => none, ⟨rfl, by simp [Γ, hn, hl]; omega, fun i => ?_, fun r row hr => by (rw [hrow] at hr; cases hr), fun r r' row row' la la' h1 => by (rw [hrow] at h1; cases h1), fun r row la h1 => by (rw [hrow] at h1; cases h1),
      ⟨rfl, rfl, rfl, Nat.le_refl _, fun _ _ _ => rfl⟩, fun b hb => ⟨fun h => h, hS b hb⟩, fun r la h => by cases h⟩⟩
    simp only [AS.get, lk_envOf, Nat.not_lt_zero, if_false, Nat.sub_zero]
    cases hi : args[i]? with
    | none => exact .any _
    | some v =>
      have hlt : i < vs.size := by rw [hl]; exact (List.getElem?_eq_some_iff.1 hi).1
      have h1 := hrep i v hi
      have h2 : (vs ++ Array.replicate (fn.ntmps - vs.size) undef).getD i undef = vs.getD i undef := by
        simp [Array.getD_eq_getD_getElem?, Array.getElem?_append, hlt]
      simp only [Option.getD_some]
      rw [h2]
      exact h1.mono fun c x hc => hc.mono rfl (fun b hb => hb.elim) (fun b hb => ⟨.inl hb, hS b hb, hnB _ b⟩) (fun b hb => hb.elim) (fun _ _ => rfl)
  refine calls_of_wp hf hb (wp_mono (h Γ rfl rfl (fun b hb => hb) ⟨rfl, fun _ => rfl⟩ code hic _ _ hsat) fun e a w' hl => ?_)
  obtain ⟨st1, ⟨he, st2, hto, hQ⟩, hs1⟩ := hl
  obtain ⟨ρ, hs2⟩ := hto a w' hs1
  have hpost : a.defers = [] ∧ ∃ v, (results fn a.tmps).run P w' = .ok v w' ∧ ∃ x av rs ρ, (Ending.returned v) = .returned x ∧ Q av rs ∧ Below w.heap.size w w' ∧ SatAt (Ctx.call P w S) ρ ⟨[], rs⟩ ⟨#[], []⟩ w' ∧
      AVRep (CRep ρ (SFof (Ctx.call P w S) ⟨[], rs⟩ ρ w') (SAof (Ctx.call P w S) ⟨[], rs⟩ ρ w') w') av x := by
    refine ⟨hs2.defers, _, run_results hr a.tmps w', _, resAV st2 ts, st2.rows, ρ, rfl, hQ, ?_, ?_, ?_⟩
    · exact ⟨hs2.fr.os, hs2.fr.tape, hs2.fr.output, hs2.fr.size, fun k hk => hs2.fr.block k hk (fun h => h)⟩
    · exact ⟨rfl, rfl, fun i => .any _, hs2.rows, hs2.inj, hs2.own, hs2.fr, hs2.lent, fun r la h => by cases h⟩
    · exact resAV_rep hs2 ts
  rcases he with rfl | rfl
  · exact hpost
  · exact hpost

/-- a handle of a called function's one new row is the caller's, at number d -/
def nid (r d : Nat) : C → C
  | .any => .any
  | .t fr t => .t fr t
  | .row r' off n => if r' = r then .row d off n else .any
  | .ptr r' k j => if r' = r then .ptr d k j else .any
  | .elt fr ts => .elt fr ts
  | .fn _ _ => .any
def AV.nid1 (r d : Nat) : AV → AV
  | .any => .any
  | .c x => .c (Eng.nid r d x)
  | .agg cs => .agg (cs.map (Eng.nid r d))
  | .tup _ => .any
def AV.nid (r d : Nat) : AV → AV
  | .any => .any
  | .c x => .c (Eng.nid r d x)
  | .agg cs => .agg (cs.map (Eng.nid r d))
  | .tup vs => .tup (vs.map (AV.nid1 r d))
/-- no handle is left -/
def noid : C → C
  | .t fr t => .t fr t
  | .elt fr ts => .elt fr ts
  | _ => .any
def AV.noid1 : AV → AV
  | .any => .any
  | .c x => .c (Eng.noid x)
  | .agg cs => .agg (cs.map Eng.noid)
  | .tup _ => .any
def AV.noid : AV → AV
  | .any => .any
  | .c x => .c (Eng.noid x)
  | .agg cs => .agg (cs.map Eng.noid)
  | .tup vs => .tup (vs.map AV.noid1)
/-- the state behind a call that answers so -/
def AS.call (st : AS) (d : Nat) (av : AV) : List (Nat × Row) → Option (AS × AV)
  | [] => some (st, av.noid)
  | [(r, .tr fr ty size es)] => some (st.new d (.tr fr ty size es), av.nid r d)
  | _ => none

section
variable {R R' : C → Value → Prop}
theorem AVRep.map1 {g : C → C} {g1 : AV → AV} (hg1 : ∀ v, g1 v = match v with | .any => .any | .c x => .c (g x) | .agg cs => .agg (cs.map g) | .tup _ => .any) (hR : ∀ c x, R c x → R' (g c) x) {v : AV} {x : Value} (h : AVRep R v x) : AVRep R' (g1 v) x := by
  rw [hg1]
  have := AVRep.map g hR h
  cases v <;> exact this
theorem AVRep.mapT {g : C → C} {g1 g2 : AV → AV} (hg1 : ∀ v, g1 v = match v with | .any => .any | .c x => .c (g x) | .agg cs => .agg (cs.map g) | .tup _ => .any)
    (hg2 : ∀ v, g2 v = match v with | .any => .any | .c x => .c (g x) | .agg cs => .agg (cs.map g) | .tup vs => .tup (vs.map g1)) (hR : ∀ c x, R c x → R' (g c) x) {v : AV} {x : Value} (h : AVRep R v x) : AVRep R' (g2 v) x := by
  rw [hg2]
  cases h with
  | any x => exact .any x
  | c c x h => exact .c _ x (hR _ _ h)
  | agg cs xs hs h => exact AVRep.map g hR (.agg cs xs hs h)
  | tup vs xs hs h =>
    refine .tup _ xs (by simpa using hs) fun i v hv => ?_
    rw [List.getElem?_map] at hv
    cases hi : vs[i]? with
    | none => simp [hi] at hv
    | some v0 =>
      simp [hi] at hv
      subst hv
      exact (h i v0 hi).map1 hg1 hR
end

section
variable {Γ : Ctx} {ρ ρ' : Nat → Option RowAt} {st : AS} {a : Act} {w w' : World}

theorem noid_rep {SF SF' SA SA' : Nat → Prop} (hF : ∀ b, SF b → SF' b) (hA : ∀ b, SA b → SA' b) {c : C} {x : Value} (h : CRep ρ' SF SA w' c x) : CRep ρ SF' SA' w' (noid c) x := by
  have h1 := h.one
  cases h with
  | t fr t x ht =>
    refine .t fr t x (ht.mono (fun b hb => ?_) (fun _ _ => rfl))
    cases fr
    · exact hA b (by simpa using hb)
    · exact hF b (by simpa using hb)
  | elt fr ts b o f hb hc hf =>
    have hm : ∀ b, (if fr = true then SF else SA) b → (if fr = true then SF' else SA') b := by
      intro b hb
      cases fr
      · exact hA b (by simpa using hb)
      · exact hF b (by simpa using hb)
    exact .elt fr ts b o f (hm b hb) hc fun i t ht => (hf i t ht).mono hm (fun _ _ => rfl)
  | any x h => exact .any x h
  | row => exact .any _ h1
  | row0 => exact .any _ h1
  | ptr => exact .any _ h1
  | fn => exact .any _ h1
theorem nid_rep {SF SF' SA SA' : Nat → Prop} (hF : ∀ b, SF b → SF' b) (hA : ∀ b, SA b → SA' b) {r d : Nat} (hρ : ρ d = ρ' r) {c : C} {x : Value} (h : CRep ρ' SF SA w' c x) : CRep ρ SF' SA' w' (nid r d c) x := by
  have h1 := h.one
  cases h with
  | t fr t x ht => exact noid_rep (ρ' := ρ') hF hA (.t fr t x ht)
  | elt fr ts b o f hb hc hf => exact noid_rep (ρ' := ρ') hF hA (.elt fr ts b o f hb hc hf)
  | any x h => exact .any x h
  | row r' off n cap la hla hb hn hm =>
    by_cases e : r' = r
    · subst e
      simp only [Eng.nid, if_true]
      exact .row d off n cap la (hρ.trans hla) hb hn hm
    · simp only [Eng.nid, e, if_false]; exact .any _ h1
  | row0 r' off A =>
    by_cases e : r' = r
    · simp only [Eng.nid, e, if_true]; exact .row0 d off A
    · simp only [Eng.nid, e, if_false]; exact .any _ h1
  | ptr r' k j la hla =>
    by_cases e : r' = r
    · subst e
      simp only [Eng.nid, if_true]
      exact .ptr d k j la (hρ.trans hla)
    · simp only [Eng.nid, e, if_false]; exact .any _ h1
  | fn => exact .any _ h1

/-- THE STATE BEHIND A CALL -/
theorem SatAt.call (h : SatAt Γ ρ st a w) {d : Nat} (hpd : d < 1000000) {av v : AV} {x : Value} {rs : List (Nat × Row)} {st' : AS} (hc : st.call d av rs = some (st', v)) (hb : Below w.heap.size w w')
    {S : Nat → Prop} (hS : ∀ b, S b → SAof Γ st ρ w b) (hn : SatAt (Ctx.call Γ.P w S) ρ' ⟨[], rs⟩ ⟨#[], []⟩ w')
    (hv : AVRep (CRep ρ' (SFof (Ctx.call Γ.P w S) ⟨[], rs⟩ ρ' w') (SAof (Ctx.call Γ.P w S) ⟨[], rs⟩ ρ' w') w') av x) :
    ∃ ρ'', SatAt Γ ρ'' st' a w' ∧ AVRep (CRep ρ'' (SFof Γ st' ρ'' w') (SAof Γ st' ρ'' w') w') v x := by
  unfold AS.call at hc
  split at hc
  · injection hc with hc
    obtain ⟨rfl, rfl⟩ := Prod.mk.inj hc
    have hw := h.world hb.os hb.tape hb.output hb.size hb.block
    refine ⟨ρ, hw, ?_⟩
    have hnotrow : ∀ b, w.heap.size ≤ b → ¬ RowB st ρ b := fun b hb' ⟨r, row, la, h1, h2, h3⟩ => by have := (h.own r row la h1 h2).2; omega
    have hF : ∀ b, SFof (Ctx.call Γ.P w S) ⟨[], []⟩ ρ' w' b → SFof Γ st ρ w' b := fun b hb' => ⟨Nat.le_trans h.fr.size hb'.1, hb'.2.1, hnotrow b hb'.1, hb'.2.2.2⟩
    have hA : ∀ b, SAof (Ctx.call Γ.P w S) ⟨[], []⟩ ρ' w' b → SAof Γ st ρ w' b := by
      intro b hb'
      rcases hb'.1 with h1 | h1
      · have := hS b h1
        exact ⟨this.1, hb'.2.1, this.2.2⟩
      · exact ⟨.inr (Nat.le_trans h.fr.size h1), hb'.2.1, hnotrow b h1⟩
    exact hv.mapT (g := noid) (g1 := AV.noid1) (g2 := AV.noid) (fun v => by cases v <;> rfl) (fun v => by cases v <;> rfl) (fun c x hc => noid_rep hF hA hc)
  · rename_i r fr ty size es
    injection hc with hc
    obtain ⟨rfl, rfl⟩ := Prod.mk.inj hc
    have hrow0 : (⟨[], [(r, .tr fr ty size es)]⟩ : AS).row r = some (.tr fr ty size es) := by simp [AS.row, lk]
    have hnewB : ∀ b la, ρ' r = some la → la.b = b → RowB (⟨[], [(r, .tr fr ty size es)]⟩ : AS) ρ' b := fun b la h1 h2 => ⟨r, _, la, hrow0, h1, h2⟩
    have hfresh : ∀ la, ρ' r = some la → w.heap.size ≤ la.b ∧ la.b < w'.heap.size := fun la hla => ⟨(hn.own r _ la hrow0 hla).1.resolve_right (fun h => h), (hn.own r _ la hrow0 hla).2⟩
    have hnotrow : ∀ b, w.heap.size ≤ b → (∀ la, ρ' r = some la → b ≠ la.b) → ¬ RowB (st.new d (.tr fr ty size es)) (upd ρ d (ρ' r)) b := by
      intro b hb' hne ⟨r1, row1, la1, h1, h2, h3⟩
      by_cases e : d = r1
      · subst e
        rw [upd_same] at h2
        exact hne la1 h2 h3.symm
      · rw [row_new, if_neg e] at h1
        rw [upd_other _ _ _ _ (Ne.symm e)] at h2
        cases hr2 : st.row r1 with
        | none => simp [hr2] at h1
        | some row2 => have := (h.own r1 row2 la1 hr2 h2).2; omega
    have hF : ∀ b, SFof (Ctx.call Γ.P w S) ⟨[], [(r, .tr fr ty size es)]⟩ ρ' w' b → SFof Γ (st.new d (.tr fr ty size es)) (upd ρ d (ρ' r)) w' b :=
      fun b hb' => ⟨Nat.le_trans h.fr.size hb'.1, hb'.2.1, hnotrow b hb'.1 fun la hla e => hb'.2.2.1 (hnewB b la hla e.symm), hb'.2.2.2⟩
    have hsat := h.renew (w' := w') d hpd (.tr fr ty size es) (ρ' r) (fun la hla => .inl (hfresh la hla).1) hb.os hb.tape hb.output hb.size (fun la hla => (hfresh la hla).2) (fun b hb' _ => hb.block b hb') fun hF' hA' hwF hwA => by
      have hA : ∀ b, SAof (Ctx.call Γ.P w S) ⟨[], [(r, .tr fr ty size es)]⟩ ρ' w' b → SAof Γ (st.new d (.tr fr ty size es)) (upd ρ d (ρ' r)) w' b := by
        intro b hb'
        rcases hb'.1 with h1 | h1
        · exact hA' b (hS b h1)
        · exact ⟨.inr (Nat.le_trans h.fr.size h1), hb'.2.1, hnotrow b h1 fun la hla e => hb'.2.2 (hnewB b la hla e.symm)⟩
      have hrr := hn.rows r _ hrow0
      cases hrr with
      | nil _ _ _ hnil => exact .nil fr ty size ((upd_same _ _ _).trans hnil)
      | tr _ _ _ _ la cur hla hss hh htt hl hz hf =>
        refine .tr fr ty size es la cur ((upd_same _ _ _).trans hla) hss hh htt hl hz fun k i e t hk hi => ?_
        obtain ⟨y, hy, ht⟩ := hf k i e t hk hi
        refine ⟨y, hy, ?_⟩
        cases fr
        · exact ht.mono (by simpa using hA) (fun _ _ => rfl)
        · exact ht.mono (by simpa using hF) (fun _ _ => rfl)
    refine ⟨_, hsat, ?_⟩
    have hSA2 : ∀ b, SAof Γ st ρ w b → SAof Γ (st.new d (.tr fr ty size es)) (upd ρ d (ρ' r)) w' b := by
      intro b hb'
      refine ⟨hb'.1, Nat.lt_of_lt_of_le hb'.2.1 hb.size, fun ⟨r1, row1, la1, h1, h2, h3⟩ => ?_⟩
      by_cases e : d = r1
      · subst e
        rw [upd_same] at h2
        have := (hfresh la1 h2).1
        have := hb'.2.1
        omega
      · rw [row_new, if_neg e] at h1
        rw [upd_other _ _ _ _ (Ne.symm e)] at h2
        cases hr2 : st.row r1 with
        | none => simp [hr2] at h1
        | some row2 => exact hb'.2.2 ⟨r1, row2, la1, hr2, h2, h3⟩
    have hA : ∀ b, SAof (Ctx.call Γ.P w S) ⟨[], [(r, .tr fr ty size es)]⟩ ρ' w' b → SAof Γ (st.new d (.tr fr ty size es)) (upd ρ d (ρ' r)) w' b := by
      intro b hb'
      rcases hb'.1 with h1 | h1
      · exact hSA2 b (hS b h1)
      · exact ⟨.inr (Nat.le_trans h.fr.size h1), hb'.2.1, hnotrow b h1 fun la hla e => hb'.2.2 (hnewB b la hla e.symm)⟩
    exact hv.mapT (g := nid r d) (g1 := AV.nid1 r d) (g2 := AV.nid r d) (fun v => by cases v <;> rfl) (fun v => by cases v <;> rfl) (fun c x hc => nid_rep hF hA (upd_same _ _ _) hc)
  · cases hc

/-- an argument as it is handed over: trees, wherever they lie; a row of the caller's is lent as a tree -/
def hand (st : AS) : C → C
  | .any => .any
  | .t _ t => .t false t
  | .elt _ ts => .elt false ts
  | .fn f [] => .fn f []
  | .row r off n => match st.row r with
    | some (.tr _ _ size es) => if off + n ≤ es.length then .t false (.sl size ((es.drop off).take n)) else .any
    | _ => .any
  | .ptr r k j => match st.row r with
    | some (.tr _ _ size es) => if k < es.length then .elt false ((getE es k).drop j) else .any
    | some (.bx _ cs) => match trees cs with
      | some (_, ts) => if k = 0 then .elt false (ts.drop j) else .any
      | none => .any
    | none => .any
  | _ => .any
def AV.hand (st : AS) : AV → AV
  | .c x => .c (Eng.hand st x)
  | .agg cs => .agg (cs.map (Eng.hand st))
  | _ => .any
/-- is a row lent? -/
def C.lends : C → Bool
  | .row _ _ _ => true
  | .ptr _ _ _ => true
  | _ => false
def AV.lends : AV → Bool
  | .c x => x.lends
  | .agg cs => cs.any C.lends
  | _ => false
def C.fresh : C → Bool
  | .t _ (.v _) => true
  | .t fr (.sl _ _) => fr
  | .elt fr _ => fr
  | .fn _ _ => false
  | _ => true
def AV.fresh1 : AV → Bool
  | .c x => x.fresh
  | .agg cs => cs.all C.fresh
  | .any => true
  | .tup _ => false
def AV.fresh : AV → Bool
  | .c x => x.fresh
  | .agg cs => cs.all C.fresh
  | .tup vs => vs.all AV.fresh1
  | .any => true
def rowsFresh : List (Nat × Row) → Bool
  | [] => true
  | (_, .tr fr _ _ _) :: l => fr && rowsFresh l
  | _ => false

/-- trees, and rows that are lent -/
def SLof (Γ : Ctx) (st : AS) (ρ : Nat → Option RowAt) (w : World) (b : Nat) : Prop := SAof Γ st ρ w b ∨ (b < w.heap.size ∧ RowB st ρ b)

theorem hand_rep (h : SatAt Γ ρ st a w) {c : C} {x : Value} (hc : CRep ρ (SFof Γ st ρ w) (SAof Γ st ρ w) w c x) : CRep (fun _ => none) (fun _ => False) (if c.lends = true then SLof Γ st ρ w else SAof Γ st ρ w) w (hand st c) x := by
  have h1 := hc.one
  have hsub : ∀ (fr : Bool) b, (if fr = true then SFof Γ st ρ w else SAof Γ st ρ w) b → SAof Γ st ρ w b := by
    intro fr b hb
    cases fr
    · simpa using hb
    · exact SF_sub b (by simpa using hb)
  cases hc with
  | any x h => exact .any x h
  | t fr t x ht => exact .t false t x (ht.mono (by simpa [C.lends] using hsub fr) (fun _ _ => rfl))
  | elt fr ts b o f hb hc hf => exact .elt false ts b o f (by simpa [C.lends] using hsub fr b hb) hc fun i t ht => (hf i t ht).mono (by simpa [C.lends] using hsub fr) (fun _ _ => rfl)
  | fn f caps vs hs hh =>
    cases caps with
    | nil => exact .fn f [] vs hs (by simp)
    | cons c cs => exact .any _ h1
  | row r off n cap la hla hb hn hm =>
    simp only [C.lends, if_true, Eng.hand]
    split
    case h_2 => exact .any _ h1
    rename_i fr ty size es hrow
    split
    case isFalse => exact .any _ h1
    rename_i hle
    have hrr := h.rows r _ hrow
    cases hrr with
    | nil _ _ _ hnil => rw [hnil] at hla; cases hla
    | tr _ _ _ _ la1 cur hl1 hss hh htt hl hz hf =>
      rw [hl1] at hla
      injection hla with hla
      subst hla
      have hlen : ((es.drop off).take n).length = n := by simp; omega
      have hsl : ∀ (fr : Bool) b, (if fr = true then SFof Γ st ρ w else SAof Γ st ρ w) b → SLof Γ st ρ w b := fun fr b hb => .inl (hsub fr b hb)
      have hgoal := TRep.sl (S := SLof Γ st ρ w) (w := w) size ((es.drop off).take n) (some ⟨la1.b, off * la1.size, none⟩) cap
        (fun k i => cur.getD ((off + k) * size + i) undef) (by rw [hlen]; exact hn) hm (fun e he => hz e (List.mem_of_mem_drop (List.mem_of_mem_take he))) ?_ ?_
      · rw [hlen] at hgoal
        exact .t false _ _ (by simpa using hgoal)
      · refine .inr ⟨la1.b, off * la1.size, rfl, .inr ⟨(h.own r _ la1 hrow hl1).2, r, _, la1, hrow, hl1, rfl⟩, fun k i hk hi => ?_⟩
        rw [hlen] at hk
        obtain ⟨e, he⟩ : ∃ e, es[off + k]? = some e := ⟨es[off + k]'(by omega), List.getElem?_eq_getElem (by omega)⟩
        have hle' : e.length = size := hz e (List.mem_of_getElem? he)
        obtain ⟨x, hx, _⟩ := hf (off + k) i e (e[i]'(by omega)) he (List.getElem?_eq_getElem (by omega))
        rw [cell_of_row w la1.b _ cur ty (0, 0) hh, hss]
        have : off * size + (k * size + i) = (off + k) * size + i := by rw [Nat.add_mul]; omega
        rw [this, hx]
        simp [Array.getD_eq_getD_getElem?, hx]
      · intro k i e t hk hi
        rw [List.getElem?_take] at hk
        split at hk
        · rw [List.getElem?_drop] at hk
          obtain ⟨x, hx, hxt⟩ := hf (off + k) i e t hk hi
          simp only [Array.getD_eq_getD_getElem?, hx, Option.getD_some]
          exact hxt.mono (hsl fr) (fun _ _ => rfl)
        · cases hk
  | row0 r off A =>
    simp only [C.lends, if_true, Eng.hand]
    split
    case h_2 => exact .any _ h1
    rename_i fr ty size es hrow
    split
    case isFalse => exact .any _ h1
    simp only [List.take_zero]
    have := TRep.sl (S := SLof Γ st ρ w) (w := w) size [] A 0 (fun _ _ => undef) (by simp) (by simp [maxLen]) (by simp) (.inl rfl) (by simp)
    exact .t false _ _ (by simpa using this)
  | ptr r k j la hla =>
    simp only [C.lends, if_true, Eng.hand]
    have hsl : ∀ (fr : Bool) b, (if fr = true then SFof Γ st ρ w else SAof Γ st ρ w) b → SLof Γ st ρ w b := fun fr b hb => .inl (hsub fr b hb)
    split
    · rename_i fr ty size es hrow
      split
      case isFalse => exact .any _ h1
      rename_i hk
      have hrr := h.rows r _ hrow
      cases hrr with
      | nil _ _ _ hnil => rw [hnil] at hla; cases hla
      | tr _ _ _ _ la1 cur hl1 hss hh htt hl hz hf =>
        rw [hl1] at hla
        injection hla with hla
        subst hla
        have hek : es[k]? = some (es[k]) := List.getElem?_eq_getElem hk
        have hge : getE es k = es[k] := by simp [getE, List.getD_eq_getElem?_getD, hk]
        rw [hge]
        have hel : ∀ i t, (es[k].drop j)[i]? = some t → ∃ x, cur[k * size + (j + i)]? = some x ∧ TRep (if fr = true then SFof Γ st ρ w else SAof Γ st ρ w) w t x := fun i t ht => by
          rw [List.getElem?_drop] at ht
          exact hf k (j + i) _ t hek ht
        refine .elt false _ la1.b (k * la1.size + j) (fun i => cur.getD (k * size + (j + i)) undef) (by rw [if_neg (by simp)]; exact .inr ⟨(h.own r _ la1 hrow hl1).2, r, _, la1, hrow, hl1, rfl⟩) (fun i hi => ?_) fun i t ht => ?_
        · obtain ⟨x, hx, _⟩ := hel i _ (List.getElem?_eq_getElem hi)
          rw [cell_of_row w la1.b _ cur ty (0, 0) hh, hss]
          rw [show k * size + j + i = k * size + (j + i) by omega, hx]
          simp [Array.getD_eq_getD_getElem?, hx]
        · obtain ⟨x, hx, hxt⟩ := hel i t ht
          simp only [Array.getD_eq_getD_getElem?, hx, Option.getD_some]
          exact hxt.mono (by simpa using hsl fr) (fun _ _ => rfl)
    · rename_i ty cs hrow
      split
      case h_2 => exact .any _ h1
      rename_i frt ts hts
      split
      case isFalse => exact .any _ h1
      rename_i hk
      subst hk
      have hrr := h.rows r _ hrow
      cases hrr with
      | bx _ _ la1 cur hl1 hss hh htt hf =>
        rw [hl1] at hla
        injection hla with hla
        subst hla
        obtain ⟨htl, htr⟩ := trees_rep (ρ := ρ) (w := w) (SF := SFof Γ st ρ w) (SA := SAof Γ st ρ w) SF_sub hts
        have hel : ∀ i t, (ts.drop j)[i]? = some t → ∃ x, cur[j + i]? = some x ∧ TRep (if frt = true then SFof Γ st ρ w else SAof Γ st ρ w) w t x := fun i t ht => by
          rw [List.getElem?_drop] at ht
          have hlt : j + i < cs.length := by rw [← htl]; exact (List.getElem?_eq_some_iff.1 ht).1
          obtain ⟨x, hx, _⟩ := hf (j + i) (cs[j + i]) (List.getElem?_eq_getElem hlt)
          have := htr (fun i => cur.getD i undef) (fun i c hc => by
            obtain ⟨y, hy, hcy⟩ := hf i c hc
            simpa [Array.getD_eq_getD_getElem?, hy] using hcy) (j + i) t ht
          refine ⟨x, hx, ?_⟩
          simpa [Array.getD_eq_getD_getElem?, hx] using this
        refine .elt false _ la1.b (0 * la1.size + j) (fun i => cur.getD (j + i) undef) (by rw [if_neg (by simp)]; exact .inr ⟨(h.own r _ la1 hrow hl1).2, r, _, la1, hrow, hl1, rfl⟩) (fun i hi => ?_) fun i t ht => ?_
        · obtain ⟨x, hx, _⟩ := hel i _ (List.getElem?_eq_getElem hi)
          rw [cell_of_row w la1.b _ cur ty (0, 0) hh]
          rw [show 0 * la1.size + j + i = j + i by omega, hx]
          simp [Array.getD_eq_getD_getElem?, hx]
        · obtain ⟨x, hx, hxt⟩ := hel i t ht
          simp only [Array.getD_eq_getD_getElem?, hx, Option.getD_some]
          exact hxt.mono (by simpa using hsl frt) (fun _ _ => rfl)
    · exact .any _ h1
theorem AVhand_rep (h : SatAt Γ ρ st a w) {v : AV} {x : Value} (hv : AVRep (CRep ρ (SFof Γ st ρ w) (SAof Γ st ρ w) w) v x) (b : Bool) (hb : v.lends = true → b = true) :
    AVRep (CRep (fun _ => none) (fun _ => False) (if b = true then SLof Γ st ρ w else SAof Γ st ρ w) w) (v.hand st) x := by
  have key : ∀ c x, (c.lends = true → b = true) → CRep ρ (SFof Γ st ρ w) (SAof Γ st ρ w) w c x → CRep (fun _ => none) (fun _ => False) (if b = true then SLof Γ st ρ w else SAof Γ st ρ w) w (hand st c) x := by
    intro c x hl hc
    refine (hand_rep h hc).mono rfl (fun _ h => h) (fun p hp => ?_) (fun _ _ => rfl) (fun _ _ => rfl)
    by_cases hcl : c.lends = true
    · rw [hl hcl]; rw [hcl] at hp; exact hp
    · rw [if_neg hcl] at hp
      cases b
      · exact hp
      · exact .inl hp
  cases hv with
  | any x => exact .any x
  | c c x hc => exact .c _ x (key c x hb hc)
  | agg cs xs hs hh =>
    refine .agg _ xs (by simpa using hs) fun i c hc => ?_
    rw [List.getElem?_map] at hc
    cases hci : cs[i]? with
    | none => simp [hci] at hc
    | some c0 =>
      simp [hci] at hc
      subst hc
      exact key c0 _ (fun hl => hb (by simp only [AV.lends, List.any_eq_true]; exact ⟨c0, List.mem_of_getElem? hci, hl⟩)) (hh i c0 hci)
  | tup vs xs hs h => exact .any _

theorem fresh_rep {SF SA SA' : Nat → Prop} {c : C} {x : Value} (hf : c.fresh = true) (h : CRep ρ SF SA w c x) : CRep ρ SF SA' w c x := by
  cases h with
  | any x h => exact .any x h
  | t fr t x ht =>
    cases t with
    | v u => cases ht with | v _ h1 => exact .t fr _ _ (.v _ h1)
    | w u => cases ht with | w _ _ h1 hk => exact .t fr _ _ (.w _ _ h1 hk)
    | sl s e =>
      simp [C.fresh] at hf
      subst hf
      exact .t true _ _ (by simpa using ht)
  | elt fr ts b o f hb hc hf' =>
    simp [C.fresh] at hf
    subst hf
    exact .elt true ts b o f (by simpa using hb) hc (by simpa using hf')
  | row r off n cap la h hb hn hm => exact .row r off n cap la h hb hn hm
  | row0 r off A => exact .row0 r off A
  | ptr r k j la h => exact .ptr r k j la h
  | fn => simp [C.fresh] at hf
theorem AVfresh_rep {SF SA SA' : Nat → Prop} {v : AV} {x : Value} (hf : v.fresh = true) (h : AVRep (CRep ρ SF SA w) v x) : AVRep (CRep ρ SF SA' w) v x := by
  have key : ∀ v x, v.fresh1 = true → (∀ vs, v ≠ .tup vs) → AVRep (CRep ρ SF SA w) v x → AVRep (CRep ρ SF SA' w) v x := by
    intro v x hf hnt h
    cases h with
    | any x => exact .any x
    | c c x h => exact .c c x (fresh_rep hf h)
    | agg cs xs hs h => exact .agg cs xs hs fun i c hc => fresh_rep (by simp only [AV.fresh1, List.all_eq_true] at hf; exact hf c (List.mem_of_getElem? hc)) (h i c hc)
    | tup vs => exact absurd rfl (hnt vs)
  cases h with
  | any x => exact .any x
  | c c x h => exact .c c x (fresh_rep hf h)
  | agg cs xs hs h => exact key _ _ hf (fun vs h => by cases h) (.agg cs xs hs h)
  | tup vs xs hs h =>
    refine .tup vs xs hs fun i v hv => ?_
    have h1 : v.fresh1 = true := by simp only [AV.fresh, List.all_eq_true] at hf; exact hf v (List.mem_of_getElem? hv)
    exact key v _ h1 (fun vs hvs => by subst hvs; simp [AV.fresh1] at h1) (h i v hv)

theorem fresh_sat {P : Program} {S : Nat → Prop} {rs : List (Nat × Row)} (hf : rowsFresh rs = true) (h : SatAt (Ctx.call P w S) ρ ⟨[], rs⟩ ⟨#[], []⟩ w') : SatAt (Ctx.call P w (fun _ => False)) ρ ⟨[], rs⟩ ⟨#[], []⟩ w' := by
  have hrf : ∀ (rs : List (Nat × Row)) r row, rowsFresh rs = true → lk rs r = some row → ∃ ty size es, row = .tr true ty size es := by
    intro rs
    induction rs with
    | nil => intro r row _ h; simp [lk] at h
    | cons p rs ih =>
      intro r row hf hl
      obtain ⟨j, x⟩ := p
      cases x with
      | bx => simp [rowsFresh] at hf
      | tr fr ty size es =>
        simp only [rowsFresh, Bool.and_eq_true] at hf
        simp only [lk] at hl
        split at hl
        · injection hl with hl
          subst hl
          exact ⟨ty, size, es, by rw [hf.1]⟩
        · exact ih r row hf.2 hl
  refine ⟨h.defers, h.size, fun i => .any _, fun r row hr => ?_, h.inj, h.own, h.fr, fun b hb => hb.elim, fun r la h => by cases h⟩
  obtain ⟨ty, size, es, rfl⟩ := hrf rs r row hf hr
  have hrr := h.rows r _ hr
  cases hrr with
  | nil _ _ _ hn => exact .nil true ty size hn
  | tr _ _ _ _ la cur hla hss hh htt hl hz hf' => 
    refine .tr true ty size es la cur hla hss hh htt hl hz fun k i e t hk hi => ?_
    obtain ⟨x, hx, ht⟩ := hf' k i e t hk hi
    rw [if_pos rfl] at ht
    exact ⟨x, hx, by rw [if_pos rfl]; exact ht⟩

/-- a call's operation, as the model has it -/
theorem callOp {P : Program} {o : Oper} {c : Call} {f : FuncId} {caps : Array Value} (ho : o.op = .call c) {fo : Operand} (hc : c.callee = .value fo) (hf : a.eval fo = .func (.func f) #[] caps) (hcal : callable P f = true)
    {K : Act → World → Prop} {R : Exit → Act → World → Prop} (h : Calls P f (c.args.map a.eval ++ caps) w fun e w' => ∃ x, e = .returned x ∧ K (a.put o.dst x) w') : o.wp P a w K R := by
  unfold callable at hcal
  cases hfn : P.funcs[f]? with
  | none => simp [hfn] at hcal
  | some fn =>
    simp only [hfn, Bool.and_eq_true] at hcal
    have hname : (fn.name == "runtime.NumGoroutine") = false := by simpa using hcal.1
    have hbody : fn.body.isNone = false := by cases hb : fn.body <;> simp [hb] at hcal ⊢
    have hrun : (execOp a.eval o).run P w = .ok (.enter f (c.args.map a.eval ++ caps)) w := by
      simp only [execOp, ho, resolve, hc, hf, Deferred.ofValue, Sem.run_bind, Sem.run_pure, Result.andThen_ok, invoke, callFunc, run_program, hfn, hname, hbody]
      simp
    unfold Oper.wp
    rw [hrun]
    exact h.mono fun e w' ⟨x, he, hk⟩ => by subst he; exact hk

theorem ofCall_call {P : Program} {c : Call} {f : FuncId} {xs : List Od} (h : Ins.ofCall P c = .call f xs) : c.callee = .value (.func f) ∧ xs = c.args.toList.map Od.of := by
  unfold Ins.ofCall at h
  split at h
  · rename_i g hc
    injection h with h1 h2
    subst h1
    exact ⟨hc, h2.symm⟩
  · cases h
  · exfalso; (repeat' split at h) <;> cases h
  · exfalso; (repeat' split at h) <;> cases h
  · cases h
theorem ofCall_callv {P : Program} {c : Call} {t : Od} {xs : List Od} (h : Ins.ofCall P c = .callv t xs) : ∃ i, t = .t i ∧ c.callee = .value (.tmp i) ∧ xs = c.args.toList.map Od.of := by
  unfold Ins.ofCall at h
  split at h
  · cases h
  · rename_i g hc
    injection h with h1 h2
    exact ⟨g, h1.symm, hc, h2.symm⟩
  · exfalso; (repeat' split at h) <;> cases h
  · exfalso; (repeat' split at h) <;> cases h
  · cases h
theorem of_call {P : Program} {op : Op} {f : FuncId} {xs : List Od} (h : Ins.of P op = .call f xs) : ∃ c, op = .call c ∧ Ins.ofCall P c = .call f xs := by
  unfold Ins.of at h
  split at h
  all_goals first
    | exact ⟨_, rfl, h⟩
    | (exfalso; (repeat' split at h) <;> cases h)
theorem of_callv {P : Program} {op : Op} {t : Od} {xs : List Od} (h : Ins.of P op = .callv t xs) : ∃ c, op = .call c ∧ Ins.ofCall P c = .callv t xs := by
  unfold Ins.of at h
  split at h
  all_goals first
    | exact ⟨_, rfl, h⟩
    | (exfalso; (repeat' split at h) <;> cases h)

theorem ARJ.callGen {Q : AV → List (Nat × Row) → Prop} {R : Exit → AS → Prop} {i : I} {J : AS → Prop} {l : List (I × (AS → Prop))} {f : FuncId} {xs : List Od} {caps : List C}
    (hi : (i.o = .call f xs ∧ caps = []) ∨ ∃ t, i.o = .callv (.t t) xs ∧ st.get t = .c (.fn f caps))
    (hg : i.g = none ∨ ∃ s b, i.g = some (s, b) ∧ (st.get s).bool? = some b)
    (hfn : Ctr Γ.P f (xs.map (fun x => (st.ev x).hand st) ++ caps.map fun c => .c (hand st c)) Q)
    (hl : ((xs.all fun x => !(st.ev x).lends) && caps.all fun c => !c.lends) = true ∨ ∀ av rs, Q av rs → av.fresh = true ∧ rowsFresh rs = true)
    (hk : ∀ av rs, Q av rs → ∃ st' v, st.call (i.d.getD 0) av rs = some (st', v) ∧ J (st'.putO i.d v) ∧ ARJ Γ R l (st'.putO i.d v)) : ARJ Γ R ((i, J) :: l) st := by
  intro ops j o ho hx a w R' K hs hK
  unfold wpOp
  simp only [ho]
  have hmark := True.intro
  · 
    obtain ⟨hd, hoo⟩ := of_o hx
    have hnb : i.o ≠ .bad := by rcases hi with ⟨h, _⟩ | ⟨t, h, _⟩ <;> rw [h] <;> simp
    rcases hoo with ⟨_, hb⟩ | ⟨hins, hlt, hgd⟩
    · exact absurd hb hnb
    have hw : Region.wanted o (yielded ops a.tmps) = true := by
      rcases hgd with ⟨_, hgd⟩ | ⟨q, b, s, hg1, hgd, hsl⟩
      · simp [Region.wanted, hgd]
      · rcases hg with hg | ⟨s', b', hg, hb'⟩
        · rw [hg1] at hg; cases hg
        · rw [hg1] at hg
          injection hg with hg
          obtain ⟨rfl, rfl⟩ := Prod.mk.inj hg
          have hy := guard_val hsl hs hb'
          simp [Region.wanted, hgd, hy]
    rw [if_pos hw]
    refine .inl ?_
    obtain ⟨ρ, hs⟩ := hs
    -- which call it is
    have hcall : ∃ c fo, o.op = .call c ∧ c.callee = .value fo ∧ xs = c.args.toList.map Od.of ∧ ∃ cv : Array Value, a.eval fo = .func (.func f) #[] cv ∧ cv.size = caps.length ∧
        ∀ (k : Nat) (cc : C), caps[k]? = some cc → CRep ρ (SFof Γ st ρ w) (SAof Γ st ρ w) w cc (cv.getD k undef) := by
      rcases hi with ⟨hi, rfl⟩ | ⟨t, hi, hcl⟩
      · rw [hi] at hins
        obtain ⟨c, hop, hoc⟩ := of_call hins.symm
        obtain ⟨hcal, hxs⟩ := ofCall_call hoc
        exact ⟨c, _, hop, hcal, hxs, #[], rfl, rfl, by simp⟩
      · rw [hi] at hins
        obtain ⟨c, hop, hoc⟩ := of_callv hins.symm
        obtain ⟨t', ht, hcal, hxs⟩ := ofCall_callv hoc
        injection ht with ht
        subst ht
        have hev := hs.env t
        rw [hcl] at hev
        have hcr := hev.cInv
        refine ⟨c, _, hop, hcal, hxs, ?_⟩
        show ∃ cv : Array Value, a.tmps.getD t undef = .func (.func f) #[] cv ∧ _
        revert hcr
        generalize a.tmps.getD t undef = y
        intro hcr
        cases hcr with
        | fn _ _ vs hsz hh => exact ⟨vs, rfl, hsz, hh⟩
    obtain ⟨c, fo, hop, hcal, rfl, cv, hfo, hcs, hcr⟩ := hcall
    obtain ⟨b, hbdef⟩ : ∃ b : Bool, b = !((c.args.toList.map Od.of).all (fun x => !(st.ev x).lends) && caps.all fun c => !c.lends) := ⟨_, rfl⟩
    have hSlt : ∀ p, (if b = true then SLof Γ st ρ w else SAof Γ st ρ w) p → p < w.heap.size := by
      intro p hp
      cases b
      · exact (show SAof Γ st ρ w p by simpa using hp).2.1
      · rcases (show SLof Γ st ρ w p by simpa using hp) with h1 | h1
        · exact h1.2.1
        · exact h1.1
    have hlen : (c.args.map a.eval ++ cv).size = ((c.args.toList.map Od.of).map (fun x => (st.ev x).hand st) ++ caps.map fun c => AV.c (hand st c)).length := by simp [hcs]
    have hargs : ∀ k v, ((c.args.toList.map Od.of).map (fun x => (st.ev x).hand st) ++ caps.map fun c => AV.c (hand st c))[k]? = some v →
        AVRep (CRep (fun _ => none) (fun _ => False) (if b = true then SLof Γ st ρ w else SAof Γ st ρ w) w) v ((c.args.map a.eval ++ cv).getD k undef) := by
      intro k v hv
      by_cases hkl : k < c.args.size
      · rw [List.getElem?_append_left (by simpa using hkl)] at hv
        have hck : c.args.toList[k]? = some c.args[k] := by simp [hkl]
        rw [List.getElem?_map, List.getElem?_map, hck] at hv
        simp at hv
        subst hv
        have hval : (c.args.map a.eval ++ cv).getD k undef = a.eval c.args[k] := by
          simp [Array.getD_eq_getD_getElem?, Array.getElem?_append, hkl]
        rw [hval]
        refine AVhand_rep hs (hs.ev _) b fun hlend => ?_
        rw [hbdef]
        simp only [Bool.not_eq_true', Bool.and_eq_false_iff]
        left
        rw [List.all_eq_false]
        exact ⟨Od.of c.args[k], List.mem_map_of_mem (List.mem_of_getElem? hck), by simp [hlend]⟩
      · rw [List.getElem?_append_right (by simp; omega)] at hv
        simp only [List.length_map, Array.length_toList] at hv
        rw [List.getElem?_map] at hv
        cases hcc : caps[k - c.args.size]? with
        | none => simp [hcc] at hv
        | some cc =>
          simp [hcc] at hv
          subst hv
          have hlt2 : k - c.args.size < cv.size := by rw [hcs]; exact (List.getElem?_eq_some_iff.1 hcc).1
          have hval : (c.args.map a.eval ++ cv).getD k undef = cv.getD (k - c.args.size) undef := by
            simp [Array.getD_eq_getD_getElem?, Array.getElem?_append, hkl]
          rw [hval]
          refine AVhand_rep (v := .c cc) hs (.c _ _ (hcr _ cc hcc)) b fun hlend => ?_
          rw [hbdef]
          simp only [Bool.not_eq_true', Bool.and_eq_false_iff]
          right
          rw [List.all_eq_false]
          exact ⟨cc, List.mem_of_getElem? hcc, by simpa [AV.lends] using hlend⟩
    refine callOp hop hcal hfo hfn.1 ((hfn.2 _ w _ hSlt hlen hargs).mono fun e w' ⟨y, av, rs, ρ', he, hQ, hbel, hsat, hav⟩ => ⟨y, he, ?_⟩)
    obtain ⟨st', v, hst, hJ, har⟩ := hk av rs hQ
    have hres : ∃ ρ'', SatAt Γ ρ'' st' a w' ∧ AVRep (CRep ρ'' (SFof Γ st' ρ'' w') (SAof Γ st' ρ'' w') w') v y := by
      cases hbv : b
      · rw [hbv] at hsat hav
        subst hbv
        exact hs.call (of_pb hx hnb) hst hbel (S := SAof Γ st ρ w) (fun _ h => h) hsat hav
      · have hfr := (hl.resolve_left fun hx => by
          rw [hbdef, hx] at hbv; cases hbv) av rs hQ
        exact hs.call (of_pb hx hnb) hst hbel (S := fun _ => False) (fun _ h => h.elim) (fresh_sat hfr.2 hsat) (AVfresh_rep hfr.1 hav)
    obtain ⟨ρ'', hs1, hv1⟩ := hres
    refine hK _ _ _ hJ har ⟨ρ'', ?_⟩ fun _ _ => Grow.of hbel.block
    rw [hd]
    exact hs1.putO o.dst hlt hv1
theorem AR.callGen {Q : AV → List (Nat × Row) → Prop} {R : Exit → AS → Prop} {i : I} {l : List I} {f : FuncId} {xs : List Od} {caps : List C}
    (hi : (i.o = .call f xs ∧ caps = []) ∨ ∃ t, i.o = .callv (.t t) xs ∧ st.get t = .c (.fn f caps))
    (hg : i.g = none ∨ ∃ s b, i.g = some (s, b) ∧ (st.get s).bool? = some b)
    (hfn : Ctr Γ.P f (xs.map (fun x => (st.ev x).hand st) ++ caps.map fun c => .c (hand st c)) Q)
    (hl : ((xs.all fun x => !(st.ev x).lends) && caps.all fun c => !c.lends) = true ∨ ∀ av rs, Q av rs → av.fresh = true ∧ rowsFresh rs = true)
    (hk : ∀ av rs, Q av rs → ∃ st' v, st.call (i.d.getD 0) av rs = some (st', v) ∧ AR Γ l R (st'.putO i.d v)) : AR Γ (i :: l) R st :=
  ARJ.callGen hi hg hfn hl fun av rs hq => let ⟨st', v, h1, h2⟩ := hk av rs hq; ⟨st', v, h1, trivial, h2⟩
end
end Go.Eng
