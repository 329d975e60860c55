/-
  The engine, part 17: regions that draw their order.
-/
import Derived.Test.YtnealepilmobjaaEng16
set_option linter.unusedVariables false
set_option linter.unusedSimpArgs false
namespace Go.Eng
open Go.RowKit

section any
variable {P : Program} {ops : Array Oper} {Q : Exit → Act → World → Prop} {md : Region.Mode} {S : Array Bool → Act → World → Prop}

/-- whatever order is picked; behind each operation that is carried out S holds, which may look at what has come up -/
def wpAnyT (P : Program) (md : Region.Mode) (ops : Array Oper) (Q : Exit → Act → World → Prop) (S : Array Bool → Act → World → Prop) : Nat → Array Bool → Act → World → Prop
  | 0, listed, a, w => Region.ready md ops listed = [] ∧ Q .normal a w
  | fuel + 1, listed, a, w =>
    (Region.ready md ops listed = [] → Q .normal a w) ∧
    ∀ i ∈ Region.ready md ops listed, wpOp P ops Q i (fun a' w' => S (listed.setIfInBounds i true) a' w' ∧ wpAnyT P md ops Q S fuel (listed.setIfInBounds i true) a' w') a w
theorem wpAny_of_T : ∀ (fuel : Nat) (listed : Array Bool) (a : Act) (w : World), wpAnyT P md ops Q S fuel listed a w → wpAny P md ops Q fuel listed a w
  | 0, _, _, _, h => h
  | fuel + 1, _, _, _, h => ⟨h.1, fun i hi => wpOp_mono (fun a' w' h' => wpAny_of_T fuel _ a' w' h'.2) (h.2 i hi)⟩
def Closed (md : Region.Mode) (ops : Array Oper) (listed : Array Bool) : Prop :=
  ∀ j oj, ops[j]? = some oj → listed.getD j false = true → ∀ e ∈ oj.after, Region.binds md e = true → listed.getD e.on false = true
theorem Closed.set {listed : Array Bool} {i : Nat} (h : Closed md ops listed) (hi : i ∈ Region.ready md ops listed) : Closed md ops (listed.setIfInBounds i true) := by
  intro j oj hj hl e he hb
  by_cases hji : i = j
  · subst hji
    obtain ⟨_, o, ho, hall⟩ := mem_ready.1 hi
    rw [hj] at ho; injection ho with ho; subst ho
    exact getD_set_true (hall e he hb)
  · rw [getD_set_ne false hji] at hl
    exact getD_set_true (h j oj hj hl e he hb)

/-- the operation leaves v in its slot, and nothing else changes -/
def Yl (P : Program) (ops : Array Oper) (o : Oper) (v : Value) (a : Act) (w : World) : Prop :=
  (Region.wanted o (yielded ops a.tmps) = true ∧ (execOp a.eval o).run P w = .ok (.value v) w) ∨
  (Region.wanted o (yielded ops a.tmps) = false ∧ v = undef)
theorem Yl.wpOp {i : Nat} {o : Oper} {v : Value} {a : Act} {w : World} (hi : ops[i]? = some o) (hy : Yl P ops o v a w)
    {K : Act → World → Prop} (h : K (a.put o.dst v) w) : wpOp P ops Q i K a w := by
  unfold Go.wpOp
  simp only [hi]
  rcases hy with ⟨hw, hv⟩ | ⟨hw, rfl⟩
  · simp only [hw, if_true, Oper.wp, hv, Oper.upon]; exact .inl h
  · simp only [hw, Bool.false_eq_true, if_false]; exact h

theorem wpOp_putT {j : Nat} {oi oj : Oper} {v : Value} {val : Act → Value} (hj : ops[j]? = some oj) (hap : oi.apart ops oj = true)
    (hsi : ∀ cs b, oi.op ≠ .select cs b) (hsj : ∀ cs b, oj.op ≠ .select cs b)
    (hQ : ∀ c a w, Q (.panic c) (a.put oi.dst v) w → Q (.panic c) a w)
    (hval : ∀ a u, val (a.put oj.dst u) = val a) (hvald : ∀ (a : Act) d, val { a with defers := d :: a.defers } = val a)
    {Y : Act → Prop} (hYp : ∀ a u, Y a → Y (a.put oj.dst u)) (hYd : ∀ (a : Act) d, Y a → Y { a with defers := d :: a.defers }) {K : Act → World → Prop} {a : Act} {w : World}
    (hya : Y a) (h : wpOp P ops Q j K (a.put oi.dst v) w) :
    wpOp P ops Q j (fun a' w' => (val a' = val a ∧ Y a') ∧ K (a'.put oi.dst v) w') a w := by
  obtain ⟨h1, h2, h3⟩ := Oper.apart_spec hap
  unfold wpOp at *
  simp only [hj] at *
  rw [wanted_put oj a oi.dst v h1] at h
  split
  · rename_i hw
    simp only [hw, if_true] at h
    rcases h with h | ⟨hasks, hlets⟩
    case inr => exact .inr ⟨by unfold Oper.asks at *; rw [execOp_put oj hsj a oi.dst v h1] at hasks; exact hasks, hlets⟩
    refine .inl ?_
    unfold Oper.wp at *
    rw [execOp_put oj hsj a oi.dst v h1] at h
    generalize (execOp a.eval oj).run P w = r at *
    cases r with
    | ok n w' =>
      cases n <;> simp only [Oper.upon] at h ⊢
      case value u => exact ⟨⟨hval a u, hYp a u hya⟩, by rw [← Act.put_comm a v u h2]; exact h⟩
      case skip => exact ⟨⟨hval a _, hYp a _ hya⟩, by rw [← Act.put_comm a v undef h2]; exact h⟩
      case defer d =>
        refine ⟨⟨by rw [hval, hvald], hYp _ _ (hYd _ _ hya)⟩, ?_⟩
        rw [← Act.put_comm _ v undef h2, ← Act.put_defers]
        exact h
      case enter f args =>
        refine Calls.mono h fun e w'' he => ?_
        cases e with
        | returned u => exact ⟨⟨hval a u, hYp a u hya⟩, by rw [← Act.put_comm a v u h2]; exact he⟩
        | panicked c => exact hQ _ _ _ he
        | outgrown => exact he
      case row row args => exact Rows.mono h fun u w'' he => ⟨⟨hval a u, hYp a u hya⟩, by rw [← Act.put_comm a v u h2]; exact he⟩
    | halt x w' =>
      cases x <;> simp only [Oper.upon] at h ⊢
      case panic u => exact hQ _ _ _ h
  · rename_i hw
    simp only [hw] at h
    exact ⟨⟨hval a _, hYp a _ hya⟩, by rw [← Act.put_comm a v undef h2]; exact h⟩

/-- S, where number i may still be to come -/
def S1 (S : Array Bool → Act → World → Prop) (i : Nat) (oi : Oper) (val : Act → Value) (listed : Array Bool) (a : Act) (w : World) : Prop :=
  if listed.getD i false = true then S listed a w else S (listed.setIfInBounds i true) (a.put oi.dst (val a)) w
theorem S1_mono {i : Nat} {oi : Oper} {val : Act → Value} : ∀ (fuel : Nat) (listed : Array Bool) (a : Act) (w : World), listed.getD i false = true → wpAnyT P md ops Q S fuel listed a w → wpAnyT P md ops Q (S1 S i oi val) fuel listed a w
  | 0, _, _, _, _, h => h
  | fuel + 1, listed, a, w, hl, h => ⟨h.1, fun j hj => wpOp_mono (fun a' w' h' => ⟨by
      have : (listed.setIfInBounds j true).getD i false = true := getD_set_true hl
      unfold S1
      rw [if_pos this]
      exact h'.1, S1_mono fuel _ a' w' (getD_set_true hl) h'.2⟩) (h.2 j hj)⟩

theorem wpAnyT_first {i : Nat} {oi : Oper} {val : Act → Value} (hi : ops[i]? = some oi) (hsel : ∀ (j : Nat) (o : Oper) cs b, ops[j]? = some o → o.op ≠ .select cs b)
    (hQ : ∀ c a w x, Q (.panic c) (a.put oi.dst x) w → Q (.panic c) a w)
    (hval : ∀ (oj : Oper) a u, oi.apart ops oj = true → val (a.put oj.dst u) = val a) (hvald : ∀ (a : Act) d, val { a with defers := d :: a.defers } = val a)
    (Y : Act → Prop) (hYp : ∀ (oj : Oper) a u, oi.apart ops oj = true → Y a → Y (a.put oj.dst u)) (hYd : ∀ (a : Act) d, Y a → Y { a with defers := d :: a.defers })
    (hY : ∀ (listed : Array Bool) a w, Y a → Closed md ops listed → i ∈ Region.ready md ops listed → S (listed.setIfInBounds i true) (a.put oi.dst (val a)) w → Yl P ops oi (val a) a w) :
    ∀ (fuel : Nat) (listed : Array Bool) (a : Act) (w : World), Y a → Closed md ops listed →
      (∀ j oj, ops[j]? = some oj → j ≠ i → listed.getD j true = false → (∀ e ∈ oj.after, Region.binds md e = true → e.on ≠ i) → oi.apart ops oj = true) →
      i ∈ Region.ready md ops listed → S (listed.setIfInBounds i true) (a.put oi.dst (val a)) w →
      wpAnyT P md ops Q S fuel (listed.setIfInBounds i true) (a.put oi.dst (val a)) w → wpAnyT P md ops Q (S1 S i oi val) (fuel + 1) listed a w := by
  have hset : ∀ {listed : Array Bool}, i ∈ Region.ready md ops listed → (listed.setIfInBounds i true).getD i false = true := by
    intro listed hr
    have h0 := (mem_ready.1 hr).1
    have hlt : i < listed.size := by
      rcases Nat.lt_or_ge i listed.size with h' | h'
      · exact h'
      · simp [Array.getElem?_eq_none h'] at h0
    simp [hlt]
  intro fuel
  induction fuel with
  | zero =>
    intro listed a w hya hcl hfree hr hS H
    refine ⟨fun h => (by rw [h] at hr; cases hr), fun j hj => ?_⟩
    by_cases hji : j = i
    · subst hji
      refine (hY listed a w hya hcl hr hS).wpOp hi ⟨?_, S1_mono _ _ _ _ (hset hr) H⟩
      unfold S1; rw [if_pos (hset hr)]; exact hS
    · have := ready_mono hj hji
      rw [H.1] at this
      cases this
  | succ fuel ih =>
    intro listed a w hya hcl hfree hr hS H
    refine ⟨fun h => (by rw [h] at hr; cases hr), fun j hj => ?_⟩
    by_cases hji : j = i
    · subst hji
      refine (hY listed a w hya hcl hr hS).wpOp hi ⟨?_, S1_mono _ _ _ _ (hset hr) H⟩
      unfold S1; rw [if_pos (hset hr)]; exact hS
    · have h1 := H.2 j (ready_mono hj hji)
      obtain ⟨hjun, oj, hoj, hall⟩ := mem_ready.1 hj
      have hil : listed.getD i false = false := by
        have h0 := (mem_ready.1 hr).1
        rcases Nat.lt_or_ge i listed.size with h' | h'
        · simpa [h'] using h0
        · simp [Array.getElem?_eq_none h'] at h0
      have hnot : ∀ e ∈ oj.after, Region.binds md e = true → e.on ≠ i := fun e he hb heq => by
        have h1 := hall e he hb
        rw [heq, hil] at h1; cases h1
      have hap := hfree j oj hoj hji hjun hnot
      have h2 := wpOp_putT (val := val) hoj hap (fun cs b => hsel i oi cs b hi) (fun cs b => hsel j oj cs b hoj) (fun c a w => hQ c a w _) (fun a u => hval oj a u hap) hvald (Y := Y) (fun a u => hYp oj a u hap) hYd hya h1
      have hfree' : ∀ k ok, ops[k]? = some ok → k ≠ i → (listed.setIfInBounds j true).getD k true = false →
          (∀ e ∈ ok.after, Region.binds md e = true → e.on ≠ i) → oi.apart ops ok = true := fun k ok hk hki hun hno => by
        refine hfree k ok hk hki ?_ hno
        by_cases hjk : j = k
        · subst hjk; exact hjun
        · rw [getD_set_ne true hjk] at hun; exact hun
      refine wpOp_mono (fun a' w' h3 => ?_) h2
      obtain ⟨⟨hv, hya'⟩, hS', H'⟩ := h3
      rw [Array.setIfInBounds_comm _ _ (Ne.symm hji)] at hS' H'
      rw [← hv] at hS' H'
      refine ⟨?_, ih (listed.setIfInBounds j true) a' w' hya' (hcl.set hj) hfree' (ready_mono hr (Ne.symm hji)) hS' H'⟩
      unfold S1
      rw [if_neg (by rw [getD_set_ne false hji, hil]; simp)]
      exact hS'
end any

/-- how an operation that is taken first comes to its value: it is known; a copy; its guard is not met -/
inductive Sh where
  | ex
  | mv
  | sk
  | cc
inductive TK where
  | ex (u : Value)
  | mv
  | sk
  | cc
structure TE where
  n : Nat
  i : I
  k : TK
def gTrue (i : I) (st : AS) : Prop := i.g = none ∨ ∃ s b, i.g = some (s, b) ∧ (st.get s).bool? = some b
def gFalse (i : I) (st : AS) : Prop := ∃ s b, i.g = some (s, b) ∧ gd (st.get s) b = some false
def tOk (i : I) (st : AS) : TK → Prop
  | .ex u => gTrue i st ∧ ∃ fr, step i.o (i.d.getD 0) st = some (st, .c (.t fr (.v u)))
  | .mv => gTrue i st
  | .sk => gFalse i st
  | .cc => gTrue i st
def JL : List TE → AS → Prop
  | [], _ => True
  | t :: l, st => tOk t.i st t.k ∧ JL l st
def chain (acc : List TE) : List (Nat × I × List Nat) → List (I × (AS → Prop))
  | [] => []
  | (_, i, p) :: C => (i, JL (acc.filter fun t => p.contains t.n)) :: chain acc C
/-- the operations that are taken first, then the others in the one order that is left -/
def TR (Γ : Ctx) (Q : Exit → AS → Prop) (C : List (Nat × I × List Nat)) : List (Nat × I × Sh) → List TE → AS → Prop
  | [], acc, st => JL acc st ∧ ARJ Γ Q (chain acc C) st
  | (n, i, .ex) :: T, acc, st => gTrue i st ∧ ∃ fr u, step i.o (i.d.getD 0) st = some (st, .c (.t fr (.v u))) ∧ TR Γ Q C T (acc ++ [⟨n, i, .ex u⟩]) (st.putO i.d (.c (.t fr (.v u))))
  | (n, i, .mv) :: T, acc, st => gTrue i st ∧ ∃ x, i.o = .mv x ∧ TR Γ Q C T (acc ++ [⟨n, i, .mv⟩]) (st.putO i.d (st.ev x))
  | (n, i, .sk) :: T, acc, st => gFalse i st ∧ TR Γ Q C T (acc ++ [⟨n, i, .sk⟩]) (st.putO i.d (.tup []))
  | (n, i, .cc) :: T, acc, st => gTrue i st ∧ ∃ v, step i.o (i.d.getD 0) st = some (st, v) ∧ TR Γ Q C T (acc ++ [⟨n, i, .cc⟩]) (st.putO i.d v)
def TRc : List TE → AS → AS → Prop
  | [], st, e => st = e
  | ⟨_, i, .ex u⟩ :: T, st, e => gTrue i st ∧ ∃ fr, step i.o (i.d.getD 0) st = some (st, .c (.t fr (.v u))) ∧ TRc T (st.putO i.d (.c (.t fr (.v u)))) e
  | ⟨_, i, .mv⟩ :: T, st, e => gTrue i st ∧ ∃ x, i.o = .mv x ∧ TRc T (st.putO i.d (st.ev x)) e
  | ⟨_, i, .sk⟩ :: T, st, e => gFalse i st ∧ TRc T (st.putO i.d (.tup [])) e
  | ⟨_, i, .cc⟩ :: T, st, e => gTrue i st ∧ ∃ v, step i.o (i.d.getD 0) st = some (st, v) ∧ TRc T (st.putO i.d v) e
def TK.sh : TK → Sh
  | .ex _ => .ex
  | .mv => .mv
  | .sk => .sk
  | .cc => .cc
theorem TR.run {Γ : Ctx} {Q : Exit → AS → Prop} {C : List (Nat × I × List Nat)} : ∀ (T : List (Nat × I × Sh)) (acc : List TE) (st : AS), TR Γ Q C T acc st →
    ∃ T' e, T'.map (fun t : TE => (t.n, t.i, t.k.sh)) = T ∧ TRc T' st e ∧ JL (acc ++ T') e ∧ ARJ Γ Q (chain (acc ++ T') C) e := by
  intro T
  induction T with
  | nil => intro acc st h; exact ⟨[], st, rfl, rfl, by simpa using h.1, by simpa using h.2⟩
  | cons t T ih =>
    intro acc st h
    obtain ⟨n, i, s⟩ := t
    cases s with
    | ex =>
      obtain ⟨hg, fr, u, hs, h⟩ := h
      obtain ⟨T', e, h1, h2, h3, h4⟩ := ih _ _ h
      exact ⟨⟨n, i, .ex u⟩ :: T', e, by rw [List.map_cons, h1]; rfl, ⟨hg, fr, hs, h2⟩, by simpa using h3, by simpa using h4⟩
    | mv =>
      obtain ⟨hg, x, hx, h⟩ := h
      obtain ⟨T', e, h1, h2, h3, h4⟩ := ih _ _ h
      exact ⟨⟨n, i, .mv⟩ :: T', e, by rw [List.map_cons, h1]; rfl, ⟨hg, x, hx, h2⟩, by simpa using h3, by simpa using h4⟩
    | sk =>
      obtain ⟨hg, h⟩ := h
      obtain ⟨T', e, h1, h2, h3, h4⟩ := ih _ _ h
      exact ⟨⟨n, i, .sk⟩ :: T', e, by rw [List.map_cons, h1]; rfl, ⟨hg, h2⟩, by simpa using h3, by simpa using h4⟩
    | cc =>
      obtain ⟨hg, v, hs, h⟩ := h
      obtain ⟨T', e, h1, h2, h3, h4⟩ := ih _ _ h
      exact ⟨⟨n, i, .cc⟩ :: T', e, by rw [List.map_cons, h1]; rfl, ⟨hg, v, hs, h2⟩, by simpa using h3, by simpa using h4⟩

def rdy (ds : List D) (L : List Nat) : List Nat := (List.range ds.length).filter fun j => !L.contains j && ((ds[j]?).map fun d => d.af.all L.contains).getD false
def apD (x y : D) : Bool :=
  (match x.i.d with
   | some d => !y.lk.contains d && y.i.d != some d
   | none => true) &&
  (match y.i.d with
   | some d => !x.lk.contains d
   | none => true)
def lookOk (ds : List D) (d : D) (t' : Nat) : Bool := match ds[t']? with
  | some d' => match d'.i.d with
    | some x => !d.lk.contains x
    | none => true
  | none => true
def freeD (ds : List D) (L : List Nat) (t : Nat) (d : D) (j : Nat) : Bool := j == t || L.contains j || match ds[j]? with
  | some dj => dj.af.contains t || apD d dj
  | none => true
def kindOk (d : D) : Sh → Bool
  | .ex => d.q
  | .mv => d.m
  | .sk => true
  | .cc => d.q
def chkT (ds : List D) : List Nat → List (Nat × Sh) → Bool
  | _, [] => true
  | L, (t, s) :: T => match ds[t]? with
    | none => false
    | some d => (rdy ds L).contains t && kindOk d s && (List.range ds.length).all (freeD ds L t d) && (t :: T.map (·.1)).all (lookOk ds d) && chkT ds (t :: L) T
/-- for which others each one waits, near or far (as bits) -/
def ancOf (acc : List Nat) (l : List Nat) : Nat := l.foldl (fun m k => m ||| (1 <<< k) ||| acc.getD k 0) 0
def ancs (ds : List D) : List Nat := ds.foldl (fun acc d => acc ++ [ancOf acc d.af]) []
def waits (an : List Nat) (j t : Nat) : Bool := (an.getD j 0).testBit t
def extD (ds : List D) (j : Nat) : Bool := ((ds[j]?).map (·.e)).getD false
def isCc : Sh → Bool
  | .cc => true
  | _ => false
def chkC (ds : List D) (an : List Nat) (Tn cc : List Nat) : List Nat → List (Nat × List Nat) → Bool
  | done, [] => rdy ds (done ++ Tn) == []
  | done, (n, p) :: C => rdy ds (done ++ Tn) == [n] && !Tn.contains n && (Tn.all fun t => p.contains t || (n :: done).any fun j => waits an j t) && (p.all fun t => !cc.contains t || (n :: done).all (extD ds)) && chkC ds an Tn cc (n :: done) C
def chkD (ds : List D) (T : List (Nat × Sh)) (C : List (Nat × List Nat)) : Bool :=
  chkT ds [] T && chkC ds (ancs ds) ((T.map (·.1)).reverse) ((T.filter fun t => isCc t.2).map (·.1)) [] C && ds.all (·.s) && T.length + C.length == ds.length

def valOf (P : Program) (w₀ : World) (o : Oper) : TK → Act → Value
  | .ex u, _ => u
  | .mv, a => match o.op with
    | .move x => a.eval x
    | .assign x => a.eval x
    | _ => undef
  | .sk, _ => undef
  | .cc, a => match (execOp a.eval o).run P w₀ with
    | .ok (.value v) _ => v
    | _ => undef

section draw
variable {Γ : Ctx} {ops : Array Oper} {ds : List D} {Q : Exit → AS → Prop} {w₀ : World}

theorem D.at (hds : ds = ops.toList.map (D.of Γ.P Γ.n ops)) (j : Nat) : ds[j]? = (ops[j]?).map (D.of Γ.P Γ.n ops) := by
  subst hds
  simp
theorem D.len (hds : ds = ops.toList.map (D.of Γ.P Γ.n ops)) : ds.length = ops.size := by subst hds; simp
theorem D.dst {o : Oper} : (D.of Γ.P Γ.n ops o).i.d = o.dst := (of_o (P := Γ.P) (n := Γ.n) (ops := ops) (o := o) rfl).1
theorem D.aft {o : Oper} {t : Nat} : t ∈ (D.of Γ.P Γ.n ops o).af ↔ ∃ e ∈ o.after, Region.binds .any e = true ∧ e.on = t := by
  simp only [D.of, List.mem_filterMap]
  constructor
  · rintro ⟨e, he, h⟩
    split at h
    · rename_i hb; injection h with h; exact ⟨e, by simpa using he, hb, h⟩
    · cases h
  · rintro ⟨e, he, hb, h⟩
    exact ⟨e, by simpa using he, by rw [if_pos hb, h]⟩
theorem apD_of {x y : Oper} : apD (D.of Γ.P Γ.n ops x) (D.of Γ.P Γ.n ops y) = x.apart ops y := by
  unfold apD Oper.apart
  rw [D.dst, D.dst]
  rfl

def Lst (ops : Array Oper) (listed : Array Bool) (L : List Nat) : Prop := listed.size = ops.size ∧ ∀ j, listed.getD j false = true ↔ j ∈ L
theorem Lst.set {listed : Array Bool} {L : List Nat} (h : Lst ops listed L) {i : Nat} (hi : i < ops.size) : Lst ops (listed.setIfInBounds i true) (i :: L) := by
  refine ⟨by simpa using h.1, fun j => ?_⟩
  by_cases hji : i = j
  · subst hji
    have : i < listed.size := by rw [h.1]; exact hi
    simp [this]
  · rw [getD_set_ne false hji, h.2 j]
    constructor
    · exact fun h => List.mem_cons_of_mem _ h
    · intro h
      rcases List.mem_cons.1 h with h | h
      · exact absurd h.symm hji
      · exact h
theorem bool_eq_of {p q : Bool} (h : p = true ↔ q = true) : p = q := by cases p <;> cases q <;> simp_all
theorem Lst.ready (hds : ds = ops.toList.map (D.of Γ.P Γ.n ops)) {listed : Array Bool} {L : List Nat} (h : Lst ops listed L) : Region.ready .any ops listed = rdy ds L := by
  unfold Region.ready rdy
  rw [D.len hds]
  refine List.filter_congr fun j hj => ?_
  have hjl : j < ops.size := by simpa using hj
  have h1 : listed.getD j true = listed.getD j false := by
    have : j < listed.size := by rw [h.1]; exact hjl
    simp [this]
  rw [h1, bool_eq_of (p := listed.getD j false) (q := L.contains j) (by rw [h.2 j]; simp), D.at hds]
  cases ho : ops[j]? with
  | none => rfl
  | some o =>
    simp only [Option.map_some, Option.getD_some]
    congr 1
    refine bool_eq_of ?_
    rw [Array.all_eq_true_iff_forall_mem, List.all_eq_true]
    constructor
    · intro ha t ht
      obtain ⟨e, he, hb, rfl⟩ := D.aft.1 ht
      have := ha e he
      simp only [hb, Bool.not_true, Bool.false_or] at this
      simpa using (h.2 _).1 this
    · intro ha e he
      cases hb : Region.binds .any e
      · rfl
      · have := ha e.on (D.aft.2 ⟨e, he, hb, rfl⟩)
        simp only [Bool.not_true, Bool.false_or]
        exact (h.2 _).2 (by simpa using this)

theorem ancOf_bit (acc : List Nat) (t : Nat) : ∀ (l : List Nat) (m : Nat), (l.foldl (fun m k => m ||| (1 <<< k) ||| acc.getD k 0) m).testBit t = true → m.testBit t = true ∨ ∃ k ∈ l, k = t ∨ (acc.getD k 0).testBit t = true := by
  intro l
  induction l with
  | nil => intro m h; exact .inl h
  | cons k l ih =>
    intro m h
    rcases ih _ h with h | ⟨k', hk, h⟩
    · rw [Nat.testBit_or, Nat.testBit_or] at h
      simp only [Bool.or_eq_true] at h
      rcases h with (h | h) | h
      · exact .inl h
      · right
        refine ⟨k, by simp, .inl ?_⟩
        rw [Nat.one_shiftLeft] at h
        rw [Nat.testBit_two_pow] at h
        simpa using h
      · exact .inr ⟨k, by simp, .inr h⟩
    · exact .inr ⟨k', by simp [hk], h⟩
theorem ancs_sound {p : Nat → Prop} {ds : List D} (hp : ∀ j d, ds[j]? = some d → p j → ∀ k ∈ d.af, p k) {j t : Nat} (hj : p j) (h : waits (ancs ds) j t = true) : p t := by
  have key : ∀ (l : List D) (acc : List Nat) (k : Nat), k = acc.length → (∀ i d, l[i]? = some d → ds[k + i]? = some d) → (∀ i t, p i → (acc.getD i 0).testBit t = true → p t) →
      ∀ i t, p i → ((l.foldl (fun acc d => acc ++ [ancOf acc d.af]) acc).getD i 0).testBit t = true → p t := by
    intro l
    induction l with
    | nil => intro acc k _ _ h; exact h
    | cons d l ih =>
      intro acc k hk hl h
      refine ih (acc ++ [ancOf acc d.af]) (k + 1) (by simp [hk]) (fun i d' hd => by have := hl (i + 1) d' (by simpa using hd); rwa [show k + 1 + i = k + (i + 1) by omega]) fun i t hi ht => ?_
      rw [List.getD_eq_getElem?_getD] at ht
      by_cases hlt : i < acc.length
      · rw [List.getElem?_append_left hlt, ← List.getD_eq_getElem?_getD] at ht
        exact h i t hi ht
      · rw [List.getElem?_append_right (by omega)] at ht
        by_cases h0 : i - acc.length = 0
        · rw [h0] at ht
          simp only [List.getElem?_cons_zero, Option.getD_some] at ht
          rcases ancOf_bit acc t _ _ ht with h1 | ⟨k', hk', h1⟩
          · simp at h1
          · have hd := hl 0 d rfl
            have hki : k + 0 = i := by omega
            rw [hki] at hd
            have hpk := hp i d hd hi k' hk'
            rcases h1 with rfl | h1
            · exact hpk
            · exact h k' t hpk h1
        · rw [List.getElem?_eq_none (by simp; omega)] at ht
          simp at ht
  exact key ds [] 0 rfl (fun i d h => by simpa using h) (fun i t _ h => by simp at h) j t hj h
def Sref (Γ : Ctx) (ds : List D) (w₀ : World) (TT : List TE) (listed : Array Bool) (a : Act) (w : World) : Prop :=
  ∃ st, Sat Γ st a w ∧ ∀ t ∈ TT, (∀ j, listed.getD j false = true → waits (ancs ds) j t.n = true → j ∈ TT.map TE.n) → tOk t.i st t.k ∧ (t.k = .cc → Grow w₀ w)
def Sn (P : Program) (w₀ : World) (ops : Array Oper) (S : Array Bool → Act → World → Prop) : List TE → Array Bool → Act → World → Prop
  | [] => S
  | t :: T => match ops[t.n]? with
    | some o => S1 (Sn P w₀ ops S T) t.n o (valOf P w₀ o t.k)
    | none => Sn P w₀ ops S T

theorem getD_set_or {listed : Array Bool} {i j : Nat} (h : (listed.setIfInBounds i true).getD j false = true) : listed.getD j false = true ∨ j = i := by
  by_cases hji : i = j
  · exact .inr hji.symm
  · rw [getD_set_ne false hji] at h; exact .inl h

theorem unSn {S : Array Bool → Act → World → Prop} : ∀ (T : List TE) (listed : Array Bool) (b : Act) (w : World), Sn Γ.P w₀ ops S T listed b w →
    ∃ listed' b', S listed' b' w ∧ (∀ j, listed'.getD j false = true → listed.getD j false = true ∨ j ∈ T.map TE.n) ∧
      ∀ o : Oper, (∀ cs b, o.op ≠ .select cs b) → (∀ t ∈ T, ∀ o', ops[t.n]? = some o' → ∀ d, o'.dst = some d → d ∉ o.looksAt ops) →
        execOp b'.eval o = execOp b.eval o ∧ Region.wanted o (yielded ops b'.tmps) = Region.wanted o (yielded ops b.tmps) := by
  intro T
  induction T with
  | nil => intro listed b w h; exact ⟨listed, b, h, fun j hj => .inl hj, fun o _ _ => ⟨rfl, rfl⟩⟩
  | cons t T ih =>
    intro listed b w h
    unfold Sn at h
    cases ho : ops[t.n]? with
    | none =>
      simp only [ho] at h
      obtain ⟨l', b', h1, h2, h3⟩ := ih _ _ _ h
      exact ⟨l', b', h1, fun j hj => (h2 j hj).imp id (fun h => by simp at h ⊢; exact .inr h), fun o hsel hl => h3 o hsel fun t' ht' => hl t' (List.mem_cons_of_mem _ ht')⟩
    | some o0 =>
      simp only [ho] at h
      unfold S1 at h
      split at h
      · obtain ⟨l', b', h1, h2, h3⟩ := ih _ _ _ h
        exact ⟨l', b', h1, fun j hj => (h2 j hj).imp id (fun h => by simp at h ⊢; exact .inr h), fun o hsel hl => h3 o hsel fun t' ht' => hl t' (List.mem_cons_of_mem _ ht')⟩
      · obtain ⟨l', b', h1, h2, h3⟩ := ih _ _ _ h
        refine ⟨l', b', h1, fun j hj => ?_, fun o hsel hl => ?_⟩
        · rcases h2 j hj with h | h
          · rcases getD_set_or h with h | h
            · exact .inl h
            · exact .inr (by simp [h])
          · exact .inr (by simp at h ⊢; exact .inr h)
        · obtain ⟨h4, h5⟩ := h3 o hsel fun t' ht' => hl t' (List.mem_cons_of_mem _ ht')
          have hd := hl t (by simp) o0 ho
          exact ⟨h4.trans (execOp_put o hsel b o0.dst _ hd), h5.trans (wanted_put o b o0.dst _ hd)⟩

theorem valOf_put {P : Program} {oi oj : Oper} (hsel : ∀ cs b, oi.op ≠ .select cs b) {k : TK} {a : Act} {u : Value} (h : oi.apart ops oj = true) : valOf P w₀ oi k (a.put oj.dst u) = valOf P w₀ oi k a := by
  obtain ⟨_, _, h3⟩ := Oper.apart_spec h
  cases k with
  | ex v => rfl
  | sk => rfl
  | mv =>
    have key : ∀ x, x ∈ oi.op.operands → (a.put oj.dst u).eval x = a.eval x := fun x hx => Act.eval_put fun d hd hxd => h3 d hd (by
      subst hxd
      exact List.mem_append_left _ (List.mem_filterMap.2 ⟨.tmp d, by simpa using hx, rfl⟩))
    simp only [valOf]
    split
    · rename_i x hx; exact key x (by simp [hx, Op.operands])
    · rename_i x hx; exact key x (by simp [hx, Op.operands])
    · rfl
  | cc => simp only [valOf]; rw [execOp_put oi hsel a oj.dst u h3]
theorem valOf_defer {P : Program} {oi : Oper} {k : TK} {a : Act} {d : Deferred} : valOf P w₀ oi k { a with defers := d :: a.defers } = valOf P w₀ oi k a := by
  cases k with
  | ex v => rfl
  | sk => rfl
  | mv => simp only [valOf]; split <;> rfl
  | cc => rfl

theorem gTrue_wanted {o : Oper} {st : AS} {a : Act} {w : World} (hs : Sat Γ st a w) (hins : Ins.of Γ.P o.op ≠ .bad ∨ (D.of Γ.P Γ.n ops o).i.o ≠ .bad) (h : gTrue (I.of Γ.P Γ.n ops o) st) : Region.wanted o (yielded ops a.tmps) = true ∨ (I.of Γ.P Γ.n ops o).o = .bad := by
  obtain ⟨hd, hoo⟩ := of_o (P := Γ.P) (n := Γ.n) (ops := ops) (o := o) rfl
  rcases hoo with ⟨_, hb⟩ | ⟨_, _, hg⟩
  · exact .inr hb
  · rcases hg with ⟨hg, hgd⟩ | ⟨q, b, s, hg, hgd, hsl⟩
    · exact .inl (by simp [Region.wanted, hgd])
    · rcases h with h | ⟨s', b', h, hb⟩
      · rw [hg] at h; cases h
      · rw [hg] at h; injection h with h; obtain ⟨rfl, rfl⟩ := Prod.mk.inj h
        have hy := guard_val hsl hs hb
        exact .inl (by simp [Region.wanted, hgd, hy])
theorem gFalse_wanted {o : Oper} {st : AS} {a : Act} {w : World} (hs : Sat Γ st a w) (h : gFalse (I.of Γ.P Γ.n ops o) st) : Region.wanted o (yielded ops a.tmps) = false := by
  obtain ⟨hd, hoo⟩ := of_o (P := Γ.P) (n := Γ.n) (ops := ops) (o := o) rfl
  obtain ⟨s', b', h, hb⟩ := h
  rcases hoo with ⟨hg, _⟩ | ⟨_, _, hg⟩
  · rw [hg] at h; cases h
  · rcases hg with ⟨hg, hgd⟩ | ⟨q, b, s, hg, hgd, hsl⟩
    · rw [hg] at h; cases h
    · rw [hg] at h; injection h with h; obtain ⟨rfl, rfl⟩ := Prod.mk.inj h
      have hy := gd_false hsl hs hb
      cases hyy : yielded ops a.tmps q with
      | none => simp [Region.wanted, hgd, hyy]
      | some x => have := hy x hyy; simp [Region.wanted, hgd, hyy, this]

/-- what a step with a known value is -/
theorem ex_run {o : Oper} {st : AS} {a : Act} {w : World} (hs : Sat Γ st a w) {u : Value} (hq : opQuiet o.op = true) (h : tOk (I.of Γ.P Γ.n ops o) st (.ex u)) :
    Region.wanted o (yielded ops a.tmps) = true ∧ (execOp a.eval o).run Γ.P w = .ok (.value u) w ∧ ∃ fr, Sat Γ (st.putO o.dst (.c (.t fr (.v u)))) (a.put o.dst u) w ∧
      step (I.of Γ.P Γ.n ops o).o ((I.of Γ.P Γ.n ops o).d.getD 0) st = some (st, .c (.t fr (.v u))) := by
  obtain ⟨hg, fr, hst⟩ := h
  obtain ⟨hd, hoo⟩ := of_o (P := Γ.P) (n := Γ.n) (ops := ops) (o := o) rfl
  have hnb : (I.of Γ.P Γ.n ops o).o ≠ .bad := fun hb => by rw [hb] at hst; cases hst
  rcases hoo with ⟨_, hb⟩ | ⟨hins, hlt, _⟩
  · exact absurd hb hnb
  refine ⟨(gTrue_wanted hs (.inr hnb) hg).resolve_right hnb, ?_⟩
  obtain ⟨ρ, hs⟩ := hs
  have hst' := hst
  rw [hins] at hst
  obtain ⟨x, w', ρ', hr, hsat, hv, hqq⟩ := step_sound (of_pb rfl hnb) hs hst
  obtain ⟨rfl, hrun⟩ := hqq.1 hq
  have hrun := hrun _ Grow.rfl'
  have hx : x = u := by
    have := hv.cInv
    cases this with
    | t _ _ _ ht => cases ht with | v _ _ => rfl
  subst hx
  exact ⟨hrun, fr, ⟨ρ', hsat.putO o.dst hlt hv⟩, hst'⟩

theorem mv_op {o : Oper} (hm : isMv o.op = true) : ∃ y, (o.op = .move y ∨ o.op = .assign y) ∧ (∀ P w₀ a, valOf P w₀ o .mv a = a.eval y) ∧ Ins.of Γ.P o.op = .mv (Od.of y) ∧ (∀ (a : Act) w, (execOp a.eval o).run Γ.P w = .ok (.value (a.eval y)) w) := by
  cases ho : o.op with
  | move y => exact ⟨y, .inl rfl, fun P w₀ a => by simp [valOf, ho], rfl, fun a w => by simp [execOp, ho]⟩
  | assign y => exact ⟨y, .inr rfl, fun P w₀ a => by simp [valOf, ho], rfl, fun a w => by simp [execOp, ho]⟩
  | _ => rw [ho] at hm; cases hm

theorem cc_run {o : Oper} {st : AS} {a : Act} {w : World} (hs : Sat Γ st a w) {v : AV} (hq : opQuiet o.op = true) (hst : step (I.of Γ.P Γ.n ops o).o ((I.of Γ.P Γ.n ops o).d.getD 0) st = some (st, v)) :
    ∃ y, (∀ W, Grow w W → (execOp a.eval o).run Γ.P W = .ok (.value y) W) ∧ Sat Γ (st.putO o.dst v) (a.put o.dst y) w ∧ True := by
  obtain ⟨hd, hoo⟩ := of_o (P := Γ.P) (n := Γ.n) (ops := ops) (o := o) rfl
  have hnb : (I.of Γ.P Γ.n ops o).o ≠ .bad := fun hb => by rw [hb] at hst; cases hst
  rcases hoo with ⟨_, hb⟩ | ⟨hins, hlt, _⟩
  · exact absurd hb hnb
  obtain ⟨ρ, hs⟩ := hs
  rw [hins] at hst
  obtain ⟨x, w', ρ', hr, hsat, hv, hqq, _⟩ := step_sound (of_pb rfl hnb) hs hst
  obtain ⟨rfl, hrun⟩ := hqq hq
  exact ⟨x, hrun, ⟨ρ', hsat.putO o.dst hlt hv⟩, trivial⟩

theorem take_all (hds : ds = ops.toList.map (D.of Γ.P Γ.n ops)) (hsel : ∀ (j : Nat) (o : Oper) cs b, ops[j]? = some o → o.op ≠ .select cs b) {Qn : Exit → Act → World → Prop} (hQn : ∀ c a w, ¬ Qn (.panic c) a w)
    {TT : List TE} {stE : AS} {fuel : Nat}
    (hEnd : ∀ (listed : Array Bool) a, Lst ops listed (TT.map TE.n).reverse → Closed .any ops listed → Sat Γ stE a w₀ → wpAnyT Γ.P .any ops Qn (Sref Γ ds w₀ TT) fuel listed a w₀ ∧ Sref Γ ds w₀ TT listed a w₀) :
    ∀ (T pre : List TE), TT = pre ++ T → ∀ (listed : Array Bool) (a : Act) (st : AS), Closed .any ops listed → Lst ops listed (pre.map TE.n).reverse → chkT ds (pre.map TE.n).reverse (T.map fun t => (t.n, t.k.sh)) = true →
      (∀ t ∈ T, (ds[t.n]?).map D.i = some t.i) → TRc T st stE → Sat Γ st a w₀ →
      wpAnyT Γ.P .any ops Qn (Sn Γ.P w₀ ops (Sref Γ ds w₀ TT) T) (T.length + fuel) listed a w₀ ∧ Sn Γ.P w₀ ops (Sref Γ ds w₀ TT) T listed a w₀ := by
  intro T
  induction T with
  | nil =>
    intro pre hTT listed a st hcl hl _ _ hrun hs
    simp only [TRc] at hrun
    subst hrun
    simp only [List.length_nil, Nat.zero_add, Sn]
    exact hEnd listed a (by rw [hTT]; simpa using hl) hcl hs
  | cons t T ih =>
    intro pre hTT listed a st hcl hl hchk hi hrun hs
    simp only [List.map_cons, chkT] at hchk
    split at hchk
    · cases hchk
    rename_i d hd
    simp only [Bool.and_eq_true] at hchk
    obtain ⟨⟨⟨⟨hrdy, hkind⟩, hfree⟩, hlook⟩, hrest⟩ := hchk
    have hd' := hd
    rw [D.at hds] at hd'
    cases ho : ops[t.n]? with
    | none => simp [ho] at hd'
    | some o =>
    simp only [ho, Option.map_some, Option.some.injEq] at hd'
    have hti : I.of Γ.P Γ.n ops o = t.i := by
      have := hi t (by simp)
      rw [hd] at this
      simp only [Option.map_some, Option.some.injEq] at this
      rw [← this, ← hd']
      rfl
    have hdst : o.dst = t.i.d := by rw [← hti]; exact ((of_o (P := Γ.P) (n := Γ.n) (ops := ops) (o := o) rfl).1).symm
    have hselo : ∀ cs b, o.op ≠ .select cs b := fun cs b => hsel _ o cs b ho
    have hready : t.n ∈ Region.ready .any ops listed := by rw [hl.ready hds]; simpa using hrdy
    have hlt : t.n < ops.size := (Array.getElem?_eq_some_iff.1 ho).1
    -- what it does here
    have hstep : ∃ st1, Sat Γ st1 (a.put o.dst (valOf Γ.P w₀ o t.k a)) w₀ ∧ TRc T st1 stE := by
      obtain ⟨n, i, k⟩ := t
      cases k with
      | ex u =>
        obtain ⟨hg, fr, hst, hrun⟩ := hrun
        simp only at hti hdst
        obtain ⟨_, _, fr', hsat, hst2⟩ := ex_run hs (ops := ops) (o := o) (u := u) (by rw [← hd'] at hkind; exact hkind) (by rw [hti]; exact ⟨hg, fr, hst⟩)
        rw [hti, hst] at hst2
        have : fr = fr' := by injection hst2 with h1; injection h1 with _ h1; injection h1 with h1; injection h1
        subst this
        exact ⟨_, hsat, by rw [hdst]; exact hrun⟩
      | mv =>
        obtain ⟨hg, x, hx, hrun⟩ := hrun
        simp only at hti hdst
        obtain ⟨y, _, hv, hins, _⟩ := mv_op (Γ := Γ) (o := o) (by rw [← hd'] at hkind; exact hkind)
        obtain ⟨_, hoo⟩ := of_o (P := Γ.P) (n := Γ.n) (ops := ops) (o := o) rfl
        rcases hoo with ⟨_, hb⟩ | ⟨hio, hlt', _⟩
        · rw [hti, hx] at hb; cases hb
        · rw [hti, hins, hx] at hio
          injection hio with hio
          subst hio
          obtain ⟨ρ, hs⟩ := hs
          refine ⟨_, ⟨ρ, ?_⟩, hrun⟩
          rw [hv, ← hdst]
          exact hs.putO o.dst hlt' (hs.ev y)
      | sk =>
        obtain ⟨hg, hrun⟩ := hrun
        simp only at hti hdst
        obtain ⟨ρ, hs'⟩ := hs
        have hlt' : ∀ i, o.dst = some i → i < Γ.n := by
          obtain ⟨_, hoo⟩ := of_o (P := Γ.P) (n := Γ.n) (ops := ops) (o := o) rfl
          rcases hoo with ⟨hg1, hb⟩ | ⟨_, hlt', _⟩
          · obtain ⟨s, b, hg2, _⟩ := hg
            rw [hti, hg2] at hg1; cases hg1
          · exact hlt'
        refine ⟨_, ⟨ρ, ?_⟩, hrun⟩
        rw [← hdst]
        exact hs'.putO o.dst hlt' undef_rep
      | cc =>
        obtain ⟨hg, v, hst, hrun⟩ := hrun
        simp only at hti hdst
        obtain ⟨y, fr, hv, _⟩ := cc_run hs (ops := ops) (o := o) (v := v) (by rw [← hd'] at hkind; exact hkind) (by rw [hti]; exact hst)
        refine ⟨_, ?_, hrun⟩
        rw [← hdst]
        simp only [valOf, fr _ Grow.rfl']
        exact hv
    obtain ⟨st1, hs1, hrun1⟩ := hstep
    -- what is known of a copied state
    let Y : Act → Prop := fun b => t.k = .cc → ∀ W, Grow w₀ W → (execOp b.eval o).run Γ.P W = .ok (.value (valOf Γ.P w₀ o t.k b)) W
    have hYa : Y a := by
      intro hk
      obtain ⟨n, i, k⟩ := t
      simp only at hk
      subst hk
      obtain ⟨hg, v, hst, _⟩ := hrun
      simp only at hti
      obtain ⟨y, fr, _⟩ := cc_run hs (ops := ops) (o := o) (v := v) (by rw [← hd'] at hkind; exact hkind) (by rw [hti]; exact hst)
      intro W hW
      simp only [valOf, fr _ Grow.rfl']
      exact fr W hW
    have hYp : ∀ (oj : Oper) (b : Act) u, o.apart ops oj = true → Y b → Y (b.put oj.dst u) := by
      intro oj b u hap hy hk W hW
      have h3 := (Oper.apart_spec hap).2.2
      rw [valOf_put hselo hap, execOp_put o hselo b oj.dst u h3]
      exact hy hk W hW
    have hYd : ∀ (b : Act) dd, Y b → Y { b with defers := dd :: b.defers } := by
      intro b dd hy hk W hW
      rw [valOf_defer]
      exact hy hk W hW
    have hrev : ((pre ++ [t]).map TE.n).reverse = t.n :: (pre.map TE.n).reverse := by simp
    obtain ⟨hW, hS⟩ := ih (pre ++ [t]) (by simp [hTT]) (listed.setIfInBounds t.n true) (a.put o.dst (valOf Γ.P w₀ o t.k a)) st1 (hcl.set hready) (by rw [hrev]; exact hl.set hlt)
      (by rw [hrev]; exact hrest) (fun t' ht' => hi t' (List.mem_cons_of_mem _ ht')) hrun1 hs1
    have hSn : Sn Γ.P w₀ ops (Sref Γ ds w₀ TT) (t :: T) = S1 (Sn Γ.P w₀ ops (Sref Γ ds w₀ TT) T) t.n o (valOf Γ.P w₀ o t.k) := by funext l b v; simp only [Sn, ho]
    have hnl : listed.getD t.n false = false := by
      have h0 := (mem_ready.1 hready).1
      rcases Nat.lt_or_ge t.n listed.size with h' | h'
      · simpa [h'] using h0
      · simp [Array.getElem?_eq_none h'] at h0
    have hlk : ∀ t' ∈ t :: T, ∀ o', ops[t'.n]? = some o' → ∀ x, o'.dst = some x → x ∉ o.looksAt ops := by
      intro t' ht' o' ho' x hx hmem
      have h1 := List.all_eq_true.1 hlook t'.n (by
        have := List.mem_map_of_mem (f := TE.n) ht'
        simpa [List.map_map, Function.comp_def] using this)
      unfold lookOk at h1
      rw [D.at hds, ho'] at h1
      simp only [Option.map_some, D.dst, hx] at h1
      rw [← hd'] at h1
      simp [D.of] at h1
      exact h1 hmem
    rw [hSn]
    refine ⟨?_, by unfold S1; rw [if_neg (by rw [hnl]; simp)]; exact hS⟩
    rw [show (t :: T).length + fuel = (T.length + fuel) + 1 by simp; omega]
    refine wpAnyT_first (val := valOf Γ.P w₀ o t.k) ho hsel (fun c a w x h => absurd h (hQn _ _ _)) (fun oj a u h => valOf_put hselo h) (fun a d => valOf_defer) Y hYp hYd ?_ _ listed a w₀ hYa hcl ?_ hready hS hW
    · -- it yields its value whenever its turn comes
      intro L b v hYb hclL hrL hSL
      obtain ⟨L', b', ⟨st', hsat', hpend⟩, hL', hsame⟩ := unSn T _ _ _ hSL
      obtain ⟨he1, hw1⟩ := hsame o hselo fun t' ht' => hlk t' (List.mem_cons_of_mem _ ht')
      have hself : ∀ x, o.dst = some x → x ∉ o.looksAt ops := hlk t (by simp) o ho
      have he2 := execOp_put (ops := ops) o hselo b o.dst (valOf Γ.P w₀ o t.k b) hself
      have hw2 := wanted_put (ops := ops) o b o.dst (valOf Γ.P w₀ o t.k b) hself
      have htkk : tOk t.i st' t.k ∧ (t.k = .cc → Grow w₀ v) := by
        refine hpend t (by rw [hTT]; simp) fun j hlj htj => ?_
        rcases hL' j hlj with h | h
        · rcases getD_set_or h with h | h
          · exfalso
            have h1 : L.getD t.n false = true := ancs_sound (p := fun j => L.getD j false = true) (fun j d hj hLj k hk => by
              rw [D.at hds] at hj
              cases hoj : ops[j]? with
              | none => simp [hoj] at hj
              | some oj =>
                simp only [hoj, Option.map_some, Option.some.injEq] at hj
                rw [← hj] at hk
                obtain ⟨e, he, hb, hon⟩ := D.aft.1 hk
                have h1 := hclL j oj hoj hLj e he hb
                rwa [hon] at h1) h htj
            have h0 := (mem_ready.1 hrL).1
            rcases Nat.lt_or_ge t.n L.size with h' | h'
            · simp [h'] at h0 h1; rw [h0] at h1; cases h1
            · simp [Array.getElem?_eq_none h'] at h0
          · subst h; rw [hTT]; simp
        · rw [hTT, List.map_append, List.map_cons]
          exact List.mem_append_right _ (List.mem_cons_of_mem _ h)
      obtain ⟨htk, hgrow⟩ := htkk
      have hcc : t.k = .cc → (execOp b.eval o).run Γ.P v = .ok (.value (valOf Γ.P w₀ o t.k b)) v := fun hk => hYb hk v (hgrow hk)
      unfold Yl
      rw [← hw2, ← hw1, ← he2, ← he1]
      clear hSL hS hW hYa hYp hYd hYb
      obtain ⟨n, i, k⟩ := t
      simp only at hti
      cases k with
      | ex u =>
        obtain ⟨h1, h2, _⟩ := ex_run hsat' (ops := ops) (o := o) (u := u) (by rw [← hd'] at hkind; exact hkind) (by rw [hti]; exact htk)
        exact .inl ⟨h1, h2⟩
      | mv =>
        obtain ⟨y, _, hv, hins, hrun⟩ := mv_op (Γ := Γ) (o := o) (by rw [← hd'] at hkind; exact hkind)
        left
        refine ⟨?_, ?_⟩
        · have hg : gTrue (I.of Γ.P Γ.n ops o) st' := by rw [hti]; exact htk
          obtain ⟨_, _, x, hx, _⟩ : gTrue i st ∧ True ∧ ∃ x, i.o = .mv x ∧ True := by
            obtain ⟨h1, x, h2, _⟩ := ‹TRc (⟨n, i, .mv⟩ :: T) st stE›
            exact ⟨h1, trivial, x, h2, trivial⟩
          refine (gTrue_wanted hsat' (.inr ?_) hg).resolve_right ?_
          · show (I.of Γ.P Γ.n ops o).o ≠ .bad
            rw [hti, hx]; simp
          · rw [hti, hx]; simp
        · rw [he1, he2, hrun b v, hv]
      | sk => exact .inr ⟨gFalse_wanted hsat' (by rw [hti]; exact htk), rfl⟩
      | cc =>
        left
        refine ⟨?_, ?_⟩
        · have hg : gTrue (I.of Γ.P Γ.n ops o) st' := by rw [hti]; exact htk
          have hnb : (I.of Γ.P Γ.n ops o).o ≠ .bad := by
            obtain ⟨_, v1, h2, _⟩ := ‹TRc (⟨n, i, .cc⟩ :: T) st stE›
            rw [hti]
            intro hb
            rw [hb] at h2
            cases h2
          exact (gTrue_wanted hsat' (.inr hnb) hg).resolve_right hnb
        · rw [he1, he2]; exact hcc rfl
    · -- it is free
      intro j oj hoj hne hun hno
      have h1 := List.all_eq_true.1 hfree j (by rw [D.len hds]; simpa using (Array.getElem?_eq_some_iff.1 hoj).1)
      unfold freeD at h1
      rw [D.at hds, hoj, ← hd'] at h1
      simp only [Option.map_some, apD_of, Bool.or_eq_true, beq_iff_eq, hne, false_or] at h1
      rcases h1 with h1 | h1
      · have h2 := (hl.2 j).2 (by simpa using h1)
        have hlt2 : j < listed.size := by rw [hl.1]; exact (Array.getElem?_eq_some_iff.1 hoj).1
        simp [hlt2] at hun h2
        rw [hun] at h2; cases h2
      · rcases h1 with h1 | h1
        · obtain ⟨e, he, hb, hon⟩ := D.aft.1 (by simpa using h1)
          exact absurd hon (hno e he hb)
        · exact h1

theorem JL_mem : ∀ {l : List TE} {st : AS}, JL l st → ∀ t ∈ l, tOk t.i st t.k := by
  intro l
  induction l with
  | nil => intro st _ t ht; cases ht
  | cons x l ih =>
    intro st h t ht
    rcases List.mem_cons.1 ht with rfl | ht
    · exact h.1
    · exact ih h.2 t ht

theorem chain_all (hgg : Γ.g = true) (hds : ds = ops.toList.map (D.of Γ.P Γ.n ops)) {Qn : Exit → Act → World → Prop} (hQn : ∀ a w, lift Γ Q .normal a w → Qn .normal a w) {TT : List TE} :
    ∀ (C : List (Nat × I × List Nat)) (done : List Nat) (listed : Array Bool) (a : Act) (w : World) (st : AS), Closed .any ops listed → Lst ops listed (done ++ (TT.map TE.n).reverse) →
      chkC ds (ancs ds) (TT.map TE.n).reverse ((TT.filter fun t => isCc t.k.sh).map TE.n) done (C.map fun c => (c.1, c.2.2)) = true → (∀ c ∈ C, (ds[c.1]?).map D.i = some c.2.1) → (∀ j ∈ done, j ∉ TT.map TE.n) → (done.all (extD ds) = true → Grow w₀ w) → ARJ Γ Q (chain TT C) st → Sat Γ st a w →
      wpAnyT Γ.P .any ops Qn (Sref Γ ds w₀ TT) C.length listed a w := by
  intro C
  induction C with
  | nil =>
    intro done listed a w st hcl hl hchk _ _ _ har hs
    simp only [List.map_nil, chkC, beq_iff_eq] at hchk
    exact ⟨by rw [hl.ready hds]; exact hchk, hQn _ _ (har a w hs)⟩
  | cons c C ih =>
    intro done listed a w st hcl hl hchk hi hdone hgw har hs
    obtain ⟨n, i, p⟩ := c
    simp only [List.map_cons, chkC, Bool.and_eq_true, beq_iff_eq] at hchk
    obtain ⟨⟨⟨⟨hrdy, hnT⟩, hpend⟩, hccs⟩, hrest⟩ := hchk
    have hr : Region.ready .any ops listed = [n] := by rw [hl.ready hds]; exact hrdy
    have hnr : n ∈ Region.ready .any ops listed := by rw [hr]; simp
    refine ⟨fun h => (by rw [hr] at h; cases h), fun j hj => ?_⟩
    rw [hr] at hj
    have hjn : j = n := by simpa using hj
    subst hjn
    obtain ⟨_, o, ho, _⟩ := mem_ready.1 hnr
    have hti : I.of Γ.P Γ.n ops o = i := by
      have := hi _ (List.mem_cons_self ..)
      rw [D.at hds, ho] at this
      simpa [D.of] using this
    have hnT' : j ∉ TT.map TE.n := by simpa using hnT
    have hl' : Lst ops (listed.setIfInBounds j true) (j :: done ++ (TT.map TE.n).reverse) := hl.set (Array.getElem?_eq_some_iff.1 ho).1
    have hdone' : ∀ k ∈ j :: done, k ∉ TT.map TE.n := fun k hk => by
      rcases List.mem_cons.1 hk with rfl | hk
      · exact hnT'
      · exact hdone k hk
    have hgw' : ∀ w', (opExt o.op = true → Grow w w') → ((j :: done).all (extD ds) = true → Grow w₀ w') := by
      intro w' hg hall
      simp only [List.all_cons, Bool.and_eq_true] at hall
      refine (hgw hall.2).trans (hg ?_)
      have := hall.1
      unfold extD at this
      rw [D.at hds, ho] at this
      simpa [D.of] using this
    refine har ops j o ho hti a w _ _ hs fun x w' st' hJ har' hs' hg0 => have hg := hg0 hgg; ⟨⟨st', hs', fun t ht hp => ?_⟩, ih (j :: done) _ _ _ _ (hcl.set hnr) hl' hrest (fun c hc => hi c (List.mem_cons_of_mem _ hc)) hdone' (hgw' w' hg) har' hs'⟩
    suffices hpc : p.contains t.n = true by
      refine ⟨JL_mem hJ t (List.mem_filter.2 ⟨ht, hpc⟩), fun hk => ?_⟩
      have h2 := List.all_eq_true.1 hccs t.n (by simpa using hpc)
      simp only [Bool.or_eq_true, Bool.not_eq_true'] at h2
      rcases h2 with h2 | h2
      · have : t.n ∈ (TT.filter fun t => isCc t.k.sh).map TE.n := List.mem_map_of_mem (List.mem_filter.2 ⟨ht, by rw [hk]; rfl⟩)
        rw [List.contains_eq_mem] at h2
        simp [this] at h2
      · exact hgw' w' hg h2
    have h1 := List.all_eq_true.1 hpend t.n (by simpa using List.mem_map_of_mem (f := TE.n) ht)
    simp only [Bool.or_eq_true, List.any_eq_true] at h1
    rcases h1 with h1 | ⟨k, hk, h1⟩
    · exact h1
    · exact absurd (hp k ((hl'.2 k).2 (List.mem_append_left _ hk)) h1) (hdone' k hk)

def Ctx.grow (Γ : Ctx) : Ctx := { Γ with g := true }
theorem Sat.grow {st : AS} {a : Act} {w : World} (h : Sat Γ st a w) : Sat Γ.grow st a w := by
  obtain ⟨ρ, h⟩ := h
  exact ⟨ρ, ⟨h.defers, h.size, h.env, h.rows, h.inj, h.own, h.fr, h.lent, h.pins⟩⟩
theorem Sat.ungrow {st : AS} {a : Act} {w : World} (h : Sat Γ.grow st a w) : Sat Γ st a w := by
  obtain ⟨ρ, h⟩ := h
  exact ⟨ρ, ⟨h.defers, h.size, h.env, h.rows, h.inj, h.own, h.fr, h.lent, h.pins⟩⟩
theorem AWI.ungrow {c : IC} {st : AS} (h : AWI Γ.grow c Q st) : AWI Γ c Q st := by
  intro code hc a w hs
  exact wp_mono (h code hc a w hs.grow) fun e a w ⟨st', hq, hs'⟩ => ⟨st', hq, hs'.ungrow⟩

/-- A REGION THAT DRAWS ITS ORDER -/
theorem AWI.draw1 (hgg : Γ.g = true) {id : Nat} {st : AS} (hm : Γ.P.follows .mixedOrders = true) (T : List (Nat × I × Sh)) (C : List (Nat × I × List Nat))
    (hT : (T.map fun t => (ds[t.1]?).map D.i) = T.map fun t => some t.2.1) (hC : (C.map fun c => (ds[c.1]?).map D.i) = C.map fun c => some c.2.1)
    (hchk : chkD ds (T.map fun t => (t.1, t.2.2)) (C.map fun c => (c.1, c.2.2)) = true) (h : TR Γ Q C T [] st) : AWI Γ (.draw id ds) Q st := by
  intro code hc a w hs
  cases code with
  | region id' ops draw' =>
    cases draw'
    · simp [IC.of, IC.ofR] at hc
    simp only [IC.of, IC.ofR, IC.draw.injEq] at hc
    obtain ⟨_, hds⟩ := hc
    have hds := hds.symm
    simp only [chkD, Bool.and_eq_true, beq_iff_eq] at hchk
    obtain ⟨⟨⟨hcT, hcC⟩, hsel⟩, hlen⟩ := hchk
    obtain ⟨TT, stE, hTT, hrun, hJ, har⟩ := TR.run T [] st h
    simp only [List.nil_append] at hJ har
    have hsel' : ∀ (j : Nat) (o : Oper) cs b, ops[j]? = some o → o.op ≠ .select cs b := by
      intro j o cs b ho heq
      have h1 := D.at hds j
      rw [ho] at h1
      have := List.all_eq_true.1 hsel _ (List.mem_of_getElem? h1)
      simp [D.of, heq, noSel] at this
    have hn : T.map (·.1) = TT.map TE.n := by rw [← hTT, List.map_map]; rfl
    have hcl0 : Closed .any ops (Array.replicate ops.size false) := by
      intro j oj hj hl
      rw [Array.getD_eq_getD_getElem?, Array.getElem?_replicate] at hl
      split at hl <;> simp at hl
    have hl0 : Lst ops (Array.replicate ops.size false) [] := by
      refine ⟨by simp, fun j => ?_⟩
      rw [Array.getD_eq_getD_getElem?, Array.getElem?_replicate]
      split <;> simp
    have hi : ∀ t ∈ TT, (ds[t.n]?).map D.i = some t.i := by
      intro t ht
      have h1 : (t.n, t.i, t.k.sh) ∈ T := by rw [← hTT]; exact List.mem_map_of_mem (f := fun t : TE => (t.n, t.i, t.k.sh)) ht
      exact (List.map_inj_left.1 hT) _ h1
    have hiC : ∀ c ∈ C, (ds[c.1]?).map D.i = some c.2.1 := fun c hc => (List.map_inj_left.1 hC) _ hc
    refine wp_mono (Q := fun e a w => e = .normal ∧ lift Γ Q .normal a w) (wp_region_any hm ?_) fun e a w ⟨he, hl⟩ => by subst he; exact hl
    have hfu : ops.size = TT.length + C.length := by
      rw [← D.len hds, ← hlen, List.length_map, List.length_map, ← hTT, List.length_map]
    rw [hfu]
    rw [show Array.replicate (TT.length + C.length) false = Array.replicate ops.size false by rw [hfu]]
    refine wpAny_of_T _ _ _ _ (take_all hds hsel' (w₀ := { w with drawn := w.drawn + 1 }) (Qn := fun e a w => e = .normal ∧ lift Γ Q .normal a w) (fun c a w h => by cases h.1) (TT := TT) (stE := stE) (fuel := C.length) (fun listed a hl hcl hs => ?_) TT [] rfl _ a st hcl0 (by simpa using hl0) (by
        have : (TT.map fun t => (t.n, t.k.sh)) = T.map fun t => (t.1, t.2.2) := by rw [← hTT, List.map_map]; rfl
        rw [this]; simpa using hcT) hi hrun ?_).1
    · refine ⟨chain_all hgg hds (fun a w h => ⟨rfl, h⟩) C [] listed a _ stE hcl (by simpa using hl) ?_ hiC (by simp) (fun _ => Grow.rfl') har hs, stE, hs, fun t ht _ => ⟨JL_mem hJ t ht, fun _ => Grow.rfl'⟩⟩
      have : (T.map fun t => (t.1, t.2.2)).map (·.1) = TT.map TE.n := by rw [List.map_map, ← hn]; rfl
      rw [this] at hcC
      have h2 : (((T.map fun t => (t.1, t.2.2)).filter fun t => isCc t.2).map (·.1)) = ((TT.filter fun t => isCc t.k.sh).map TE.n) := by
        rw [← hTT, List.map_map, List.filter_map, List.map_map]; rfl
      rw [h2] at hcC
      exact hcC
    · obtain ⟨ρ, hs⟩ := hs
      exact ⟨ρ, hs.world rfl rfl rfl (Nat.le_refl _) (fun _ _ => rfl)⟩
  | _ => simp [IC.of] at hc
theorem AWI.draw {id : Nat} {st : AS} (hm : Γ.P.follows .mixedOrders = true) (T : List (Nat × I × Sh)) (C : List (Nat × I × List Nat))
    (hT : (T.map fun t => (ds[t.1]?).map D.i) = T.map fun t => some t.2.1) (hC : (C.map fun c => (ds[c.1]?).map D.i) = C.map fun c => some c.2.1)
    (hchk : chkD ds (T.map fun t => (t.1, t.2.2)) (C.map fun c => (c.1, c.2.2)) = true) (h : TR Γ.grow Q C T [] st) : AWI Γ (.draw id ds) Q st :=
  AWI.ungrow (AWI.draw1 rfl hm T C hT hC hchk h)
end draw
end Go.Eng
