/-
  The engine, part 14: regions, code, loops, calls.
-/
import Derived.Test.YtnealepilmobjaaEng13
import Derived.Orders
set_option linter.unusedVariables false
set_option linter.unusedSimpArgs false
namespace Go.Eng
open Go.RowKit

/-- an instruction: the slot it writes, its guard, what it is -/
structure I where
  d : Option Nat
  g : Option (Nat × Bool)
  o : Ins
def I.of (P : Program) (n : Nat) (ops : Array Oper) (o : Oper) : I :=
  if (o.dst.all fun i => decide (i < n) && decide (i < 1000000)) = true then
    match o.guard with
    | none => ⟨o.dst, none, Ins.of P o.op⟩
    | some (j, b) => match (ops[j]?).bind (·.dst) with
      | some s => ⟨o.dst, some (s, b), Ins.of P o.op⟩
      | none => ⟨o.dst, none, .bad⟩
  else ⟨o.dst, none, .bad⟩
/-- an instruction of a region that draws its order: for which others it waits, which slots it looks at -/
structure D where
  i : I
  af : List Nat
  lk : List Nat
  q : Bool
  m : Bool
  s : Bool
  e : Bool
def noSel : Op → Bool
  | .select _ _ => false
  | _ => true
def isMv : Op → Bool
  | .move _ => true
  | .assign _ => true
  | _ => false
def D.of (P : Program) (n : Nat) (ops : Array Oper) (o : Oper) : D :=
  ⟨I.of P n ops o, o.after.toList.filterMap fun e => if Region.binds .any e then some e.on else none, o.looksAt ops, opQuiet o.op, isMv o.op, noSel o.op, opExt o.op⟩
inductive IC where
  | skip
  | region (id : Nat) (l : List I) (draw : Bool)
  | draw (id : Nat) (l : List D)
  | seq (a b : IC)
  | cond (c : Od) (a b : IC)
  | block (id : Nat) (b : IC)
  | loop (b : IC)
  | exit (id : Nat)
  | ret
  | bad
def IC.ofR (P : Program) (n : Nat) (id : Nat) (ops : Array Oper) : Bool → IC
  | false => .region id (ops.toList.map (I.of P n ops)) false
  | true => .draw id (ops.toList.map (D.of P n ops))
def IC.of (P : Program) (n : Nat) : Code → IC
  | .skip => .skip
  | .region id ops dr => IC.ofR P n id ops dr
  | .seq x y => .seq (IC.of P n x) (IC.of P n y)
  | .cond c x y => .cond (Od.of c) (IC.of P n x) (IC.of P n y)
  | .block id x => .block id (IC.of P n x)
  | .loop x => .loop (IC.of P n x)
  | .exit id => .exit id
  | .ret => .ret
  | _ => .bad

def go1 (i : I) (st : AS) : Option AS := match step i.o (i.d.getD 0) st with
  | some (st', v) => some (st'.putO i.d v)
  | none => none
/-- is a guard met? what was passed over holds no value -/
def gd (v : AV) (want : Bool) : Option Bool := match v with
  | .c (.t _ (.v (.bool b))) => some (b == want)
  | .tup [] => some false
  | _ => none
def exec1 (i : I) (st : AS) : Option AS :=
  match i.g with
  | none => go1 i st
  | some (s, want) => match gd (st.get s) want with
    | some true => go1 i st
    | some false => some (st.putO i.d (.tup []))
    | none => none
def run : List I → AS → AS × List I
  | [], st => (st, [])
  | i :: l, st => match exec1 i st with
    | some st' => run l st'
    | none => (st, i :: l)

def lift (Γ : Ctx) (Q : Exit → AS → Prop) (e : Exit) (a : Act) (w : World) : Prop := ∃ st, Q e st ∧ Sat Γ st a w
inductive Rel (P : Program) (n : Nat) (ops : Array Oper) : List Nat → List I → Prop where
  | nil : Rel P n ops [] []
  | cons (i : Nat) (o : Oper) (x : I) (is : List Nat) (xs : List I) (ho : ops[i]? = some o) (hx : I.of P n ops o = x) (h : Rel P n ops is xs) : Rel P n ops (i :: is) (x :: xs)
/-- the rest of a region; behind each instruction something more is to hold -/
def ARJ (Γ : Ctx) (Q : Exit → AS → Prop) : List (I × (AS → Prop)) → AS → Prop
  | [], st => ∀ a w, Sat Γ st a w → lift Γ Q .normal a w
  | (i, J) :: l, st => ∀ (ops : Array Oper) (j : Nat) (o : Oper), ops[j]? = some o → I.of Γ.P Γ.n ops o = i →
      ∀ (a : Act) (w : World) (R : Exit → Act → World → Prop) (K : Act → World → Prop), Sat Γ st a w →
      (∀ x w' st', J st' → ARJ Γ Q l st' → Sat Γ st' (a.put o.dst x) w' → (Γ.g = true → opExt o.op = true → Grow w w') → K (a.put o.dst x) w') → wpOp Γ.P ops R j K a w
def AR (Γ : Ctx) (l : List I) (Q : Exit → AS → Prop) (st : AS) : Prop := ARJ Γ Q (l.map fun i => (i, fun _ => True)) st
theorem AR.wp {Γ : Ctx} {Q : Exit → AS → Prop} {l : List I} {st : AS} (h : AR Γ l Q st) {ops : Array Oper} {idx : List Nat} (hr : Rel Γ.P Γ.n ops idx l) {a : Act} {w : World} (hs : Sat Γ st a w) :
    wpOps Γ.P ops (lift Γ Q) idx a w := by
  induction hr generalizing st a w with
  | nil => exact h a w hs
  | cons i o x is xs ho hx hr ih =>
    rw [wpOps_cons]
    exact h ops i o ho hx a w _ _ hs fun x w' st' _ har hs' _ => ih har hs'
def AWI (Γ : Ctx) (c : IC) (Q : Exit → AS → Prop) (st : AS) : Prop :=
  ∀ code, IC.of Γ.P Γ.n code = c → ∀ a w, Sat Γ st a w → code.wp Γ.P (lift Γ Q) a w

section
variable {Γ : Ctx} {Q : Exit → AS → Prop} {st st' : AS} {l : List I}

theorem ARJ.of {l : List (I × (AS → Prop))} (hs : ∀ a w, Sat Γ st a w → Sat Γ st' a w) (h : ARJ Γ Q l st') : ARJ Γ Q l st := by
  cases l with
  | nil => exact fun a w hsat => h a w (hs a w hsat)
  | cons p l => exact fun ops j o ho hx a w R K hsat hk => h ops j o ho hx a w R K (hs a w hsat) hk
theorem AR.of (hs : ∀ a w, Sat Γ st a w → Sat Γ st' a w) (h : AR Γ l Q st') : AR Γ l Q st := ARJ.of hs h
theorem AWI.of {c : IC} (hs : ∀ a w, Sat Γ st a w → Sat Γ st' a w) (h : AWI Γ c Q st') : AWI Γ c Q st := fun code hc a w hsat => h code hc a w (hs a w hsat)
theorem lift.mono {Q' : Exit → AS → Prop} (h : ∀ e st, Q e st → Q' e st) {e : Exit} {a : Act} {w : World} : lift Γ Q e a w → lift Γ Q' e a w := fun ⟨st, hq, hs⟩ => ⟨st, h _ _ hq, hs⟩
theorem AWI.mono {c : IC} {Q' : Exit → AS → Prop} (h : AWI Γ c Q st) (hq : ∀ e st, Q e st → Q' e st) : AWI Γ c Q' st := fun code hc a w hsat => wp_mono (h code hc a w hsat) fun e a w hl => hl.mono hq

theorem ARJ.nil (h : Q .normal st) : ARJ Γ Q [] st := fun a w hs => ⟨st, h, hs⟩
theorem AR.nil (h : Q .normal st) : AR Γ [] Q st := ARJ.nil h

theorem of_o {P : Program} {n : Nat} {ops : Array Oper} {o : Oper} {x : I} (hx : I.of P n ops o = x) : x.d = o.dst ∧ ((x.g = none ∧ x.o = .bad) ∨ (x.o = Ins.of P o.op ∧ (∀ i, o.dst = some i → i < n) ∧
    ((x.g = none ∧ o.guard = none) ∨ ∃ j b s, x.g = some (s, b) ∧ o.guard = some (j, b) ∧ (ops[j]?).bind (·.dst) = some s))) := by
  subst hx
  unfold I.of
  by_cases h : (o.dst.all fun i => decide (i < n) && decide (i < 1000000)) = true
  · have hlt : ∀ i, o.dst = some i → i < n := fun i hi => by rw [hi] at h; simp at h; exact h.1
    rw [if_pos h]
    cases hg : o.guard with
    | none => exact ⟨rfl, .inr ⟨rfl, hlt, .inl ⟨rfl, rfl⟩⟩⟩
    | some p =>
      obtain ⟨j, b⟩ := p
      simp only
      cases hs : (ops[j]?).bind (·.dst) with
      | none => exact ⟨rfl, .inl ⟨rfl, rfl⟩⟩
      | some s => exact ⟨rfl, .inr ⟨rfl, hlt, .inr ⟨j, b, s, rfl, rfl, hs⟩⟩⟩
  · rw [if_neg h]; exact ⟨rfl, .inl ⟨rfl, rfl⟩⟩

theorem of_pb {P : Program} {n : Nat} {ops : Array Oper} {o : Oper} {x : I} (hx : I.of P n ops o = x) (hb : x.o ≠ .bad) : x.d.getD 0 < 1000000 := by
  subst hx
  unfold I.of at hb ⊢
  by_cases h : (o.dst.all fun i => decide (i < n) && decide (i < 1000000)) = true
  · have hd : o.dst.getD 0 < 1000000 := by
      cases hh : o.dst with
      | none => simp
      | some i => rw [hh] at h; simp at h; exact h.2
    rw [if_pos h]
    cases hg : o.guard with
    | none => exact hd
    | some p =>
      obtain ⟨j, b⟩ := p
      simp only
      cases (ops[j]?).bind (·.dst) <;> exact hd
  · rw [if_neg h] at hb
    exact absurd rfl hb
theorem go1_pb {P : Program} {n : Nat} {ops : Array Oper} {o : Oper} {x : I} (hx : I.of P n ops o = x) {p : AS} (hg : go1 x st = some p) : x.d.getD 0 < 1000000 := by
  refine of_pb hx fun hb => ?_
  unfold go1 at hg
  rw [hb] at hg
  cases hg
theorem step_bad {d : Nat} : step .bad d st = none := rfl
theorem go1_wp {o : Oper} {x : I} (hd : x.d = o.dst) (ho : x.o = Ins.of Γ.P o.op) (hlt : ∀ i, o.dst = some i → i < Γ.n) (hg : go1 x st = some st') (hpb : x.d.getD 0 < 1000000) {a : Act} {w : World} (hs : Sat Γ st a w) {K : Act → World → Prop} {R : Exit → Act → World → Prop}
    (hk : ∀ x w', Sat Γ st' (a.put o.dst x) w' → (opExt o.op = true → Grow w w') → K (a.put o.dst x) w') : o.wp Γ.P a w K R := by
  obtain ⟨ρ, hs⟩ := hs
  unfold go1 at hg
  split at hg
  case h_2 => cases hg
  rename_i st1 v hst
  injection hg with hg
  subst hg
  rw [ho] at hst
  obtain ⟨y, w', ρ', hr, hsat, hv, _, hgr⟩ := step_sound hpb hs hst
  rw [hd] at hk
  unfold Oper.wp
  rcases hr with hr | ⟨hr, rfl⟩
  · rw [hr]
    exact hk _ _ ⟨ρ', hsat.putO o.dst hlt hv⟩ hgr
  · rw [hr]
    exact hk _ _ ⟨ρ', hsat.putO o.dst hlt hv⟩ hgr

theorem guard_val {ops : Array Oper} {j s : Nat} {b : Bool} (hs : (ops[j]?).bind (·.dst) = some s) {a : Act} {w : World} (h : Sat Γ st a w) (hb : (st.get s).bool? = some b) : yielded ops a.tmps j = some b := by
  obtain ⟨ρ, h⟩ := h
  have hv := (h.env s).boolInv hb
  unfold yielded
  rw [hs]
  have hlt : s < a.tmps.size := by
    rcases Nat.lt_or_ge s a.tmps.size with hl | hl
    · exact hl
    · simp [Array.getD_eq_getD_getElem?, Array.getElem?_eq_none hl, undef] at hv
  have : a.tmps[s]? = some (.bool b) := by
    simp [Array.getD_eq_getD_getElem?, hlt] at hv
    simp [hlt, hv]
  simp [this]

theorem gd_true {v : AV} {b : Bool} (h : gd v b = some true) : v.bool? = some b := by
  unfold gd at h
  split at h
  · simpa [AV.bool?] using h
  · cases h
  · cases h
theorem gd_false {ops : Array Oper} {j s : Nat} {b : Bool} (hs : (ops[j]?).bind (·.dst) = some s) {a : Act} {w : World} (h : Sat Γ st a w) (hb : gd (st.get s) b = some false) : ∀ x, yielded ops a.tmps j = some x → x ≠ b := by
  intro x hx hxb
  subst hxb
  unfold gd at hb
  split at hb
  · rename_i fr b' heq
    have := guard_val hs h (b := b') (by rw [heq]; rfl)
    rw [hx] at this
    injection this with this
    subst this
    simp at hb
  · rename_i heq
    obtain ⟨ρ, h⟩ := h
    have hv := h.env s
    rw [heq] at hv
    unfold yielded at hx
    rw [hs] at hx
    rw [Array.getD_eq_getD_getElem?] at hv
    simp only [Option.bind_some] at hx
    cases hh : a.tmps[s]? with
    | none => rw [hh] at hx; simp at hx
    | some y =>
      rw [hh] at hx hv
      have : ∃ xs, y = .tuple xs := by
        cases hv with
        | tup _ xs _ _ => exact ⟨xs, rfl⟩
      obtain ⟨xs, rfl⟩ := this
      simp at hx
  · cases hb
theorem undef_rep {R : C → Value → Prop} : AVRep R (.tup []) undef := .tup [] #[] rfl (by simp)
theorem exec_op {i : I} (he : exec1 i st = some st') {ops : Array Oper} {j : Nat} {o : Oper} (ho : ops[j]? = some o) (hx : I.of Γ.P Γ.n ops o = i) {a : Act} {w : World} {R : Exit → Act → World → Prop} {K : Act → World → Prop}
    (hs : Sat Γ st a w) (hk : ∀ x w', Sat Γ st' (a.put o.dst x) w' → (opExt o.op = true → Grow w w') → K (a.put o.dst x) w') : wpOp Γ.P ops R j K a w := by
  unfold wpOp
  simp only [ho]
  obtain ⟨hd, hoo⟩ := of_o hx
  unfold exec1 at he
  rcases hoo with ⟨hg, hb⟩ | ⟨hins, hlt, hg⟩
  · simp only [hg, go1, hb, step] at he
    cases he
  · rcases hg with ⟨hg, hgd⟩ | ⟨q, b, s, hg, hgd, hsl⟩
    · simp only [hg] at he
      have hw : Region.wanted o (yielded ops a.tmps) = true := by simp [Region.wanted, hgd]
      rw [if_pos hw]
      exact .inl (go1_wp hd hins hlt he (go1_pb hx he) hs hk)
    · simp only [hg] at he
      split at he
      · rename_i hb'
        have hy := guard_val hsl hs (gd_true hb')
        have hw : Region.wanted o (yielded ops a.tmps) = true := by simp [Region.wanted, hgd, hy]
        rw [if_pos hw]
        exact .inl (go1_wp hd hins hlt he (go1_pb hx he) hs hk)
      · rename_i hb'
        injection he with he
        subst he
        have hy := gd_false hsl hs hb'
        have hw : Region.wanted o (yielded ops a.tmps) = false := by
          cases hyy : yielded ops a.tmps q with
          | none => simp [Region.wanted, hgd, hyy]
          | some x => have := hy x hyy; simp [Region.wanted, hgd, hyy, this]
        rw [if_neg (by rw [hw]; simp)]
        refine hk _ _ ?_ fun _ => Grow.rfl'
        obtain ⟨ρ, hs⟩ := hs
        rw [hd]
        exact ⟨ρ, hs.putO o.dst hlt undef_rep⟩
      · cases he
theorem ARJ.exec {i : I} {J : AS → Prop} {l : List (I × (AS → Prop))} (he : exec1 i st = some st') (hj : J st') (h : ARJ Γ Q l st') : ARJ Γ Q ((i, J) :: l) st :=
  fun ops j o ho hx a w R K hs hk => exec_op he ho hx hs fun x w' hs' hgr => hk x w' st' hj h hs' fun _ => hgr
theorem AR.exec {i : I} (he : exec1 i st = some st') (h : AR Γ l Q st') : AR Γ (i :: l) Q st := ARJ.exec he trivial h
theorem AR.run {l' : List I} (he : run l st = (st', l')) (h : AR Γ l' Q st') : AR Γ l Q st := by
  induction l generalizing st with
  | nil =>
    simp only [Eng.run] at he
    obtain ⟨rfl, rfl⟩ := Prod.mk.inj he
    exact h
  | cons i l ih =>
    simp only [Eng.run] at he
    split at he
    · rename_i st1 h1
      exact AR.exec h1 (ih he)
    · obtain ⟨rfl, rfl⟩ := Prod.mk.inj he
      exact h

theorem rel_range {P : Program} {n : Nat} (ops : Array Oper) : Rel P n ops (List.range ops.size) (ops.toList.map (I.of P n ops)) := by
  have key : ∀ (l : List Oper) (k : Nat), (∀ j o, l[j]? = some o → ops[k + j]? = some o) → Rel P n ops (List.range' k l.length) (l.map (I.of P n ops)) := by
    intro l
    induction l with
    | nil => intro k _; exact .nil
    | cons o l ih =>
      intro k h
      rw [List.length_cons, List.range'_succ, List.map_cons]
      exact .cons k o _ _ _ (h 0 o rfl) rfl (ih (k + 1) fun j o' ho => by have := h (j + 1) o' (by simpa using ho); rwa [show k + 1 + j = k + (j + 1) by omega])
  have := key ops.toList 0 (fun j o h => by simpa using h)
  rw [List.range_eq_range']
  simpa using this
theorem AWI.region {id : Nat} (h : AR Γ l Q st) : AWI Γ (.region id l false) Q st := by
  intro code hc a w hs
  cases code with
  | region id' ops draw =>
    cases draw
    · simp only [IC.of, IC.ofR, IC.region.injEq] at hc
      obtain ⟨rfl, rfl, _⟩ := hc
      exact wp_region (h.wp (rel_range ops) hs)
    · simp [IC.of, IC.ofR] at hc
  | _ => simp [IC.of] at hc
theorem AWI.skip (h : Q .normal st) : AWI Γ .skip Q st := by
  intro code hc a w hs
  cases code with
  | region id' ops' draw' => cases draw' <;> simp [IC.of, IC.ofR] at hc
  | skip => exact wp_skip ⟨st, h, hs⟩
  | _ => simp [IC.of] at hc
theorem AWI.ret (h : Q .ret st) : AWI Γ .ret Q st := by
  intro code hc a w hs
  cases code with
  | region id' ops' draw' => cases draw' <;> simp [IC.of, IC.ofR] at hc
  | ret => exact wp_ret ⟨st, h, hs⟩
  | _ => simp [IC.of] at hc
theorem AWI.exit {id : Nat} (h : Q (.exit id) st) : AWI Γ (.exit id) Q st := by
  intro code hc a w hs
  cases code with
  | region id' ops' draw' => cases draw' <;> simp [IC.of, IC.ofR] at hc
  | exit id' =>
    simp only [IC.of, IC.exit.injEq] at hc
    subst hc
    exact wp_exit ⟨st, h, hs⟩
  | _ => simp [IC.of] at hc
/-- what stands behind, at a normal end; else the same -/
def QSeq (N : AS → Prop) (Q : Exit → AS → Prop) : Exit → AS → Prop
  | .normal, st => N st
  | e, st => Q e st
theorem AWI.seq {x y : IC} (h : AWI Γ x (QSeq (AWI Γ y Q) Q) st) : AWI Γ (.seq x y) Q st := by
  intro code hc a w hs
  cases code with
  | region id' ops' draw' => cases draw' <;> simp [IC.of, IC.ofR] at hc
  | seq c d =>
    simp only [IC.of, IC.seq.injEq] at hc
    obtain ⟨hx, hy⟩ := hc
    refine wp_seq (wp_mono (h c hx a w hs) fun e a w hl => ?_)
    obtain ⟨st1, hq, hs1⟩ := hl
    cases e with
    | normal => exact hq d hy a w hs1
    | _ => exact ⟨st1, hq, hs1⟩
  | _ => simp [IC.of] at hc
theorem AWI.cond {c : Od} {x y : IC} {b : Bool} (hb : (st.ev c).bool? = some b) (ht : b = true → AWI Γ x Q st) (hf : b = false → AWI Γ y Q st) : AWI Γ (.cond c x y) Q st := by
  intro code hc a w hs
  cases code with
  | region id' ops' draw' => cases draw' <;> simp [IC.of, IC.ofR] at hc
  | cond c' x' y' =>
    simp only [IC.of, IC.cond.injEq] at hc
    obtain ⟨rfl, hx, hy⟩ := hc
    have hv : a.eval c' = .bool b := by obtain ⟨ρ, hs⟩ := hs; exact (hs.ev c').boolInv hb
    cases b
    · exact wp_cond_false hv (hf rfl y' hy a w hs)
    · exact wp_cond_true hv (ht rfl x' hx a w hs)
  | _ => simp [IC.of] at hc
def QBlock (id : Nat) (Q : Exit → AS → Prop) : Exit → AS → Prop
  | .exit id', st => if id' = id then Q .normal st else Q (.exit id') st
  | e, st => Q e st
theorem AWI.block {id : Nat} {x : IC} (h : AWI Γ x (QBlock id Q) st) : AWI Γ (.block id x) Q st := by
  intro code hc a w hs
  cases code with
  | region id' ops' draw' => cases draw' <;> simp [IC.of, IC.ofR] at hc
  | block id' x' =>
    simp only [IC.of, IC.block.injEq] at hc
    obtain ⟨rfl, hx⟩ := hc
    refine wp_block (wp_mono (h x' hx a w hs) fun e a w hl => ?_)
    obtain ⟨st1, hq, hs1⟩ := hl
    cases e with
    | exit id2 =>
      simp only [QBlock] at hq
      simp only [Exit.inBlock]
      split at hq
      · rename_i he
        rw [if_pos he]; exact ⟨st1, hq, hs1⟩
      · rename_i he
        rw [if_neg he]; exact ⟨st1, hq, hs1⟩
    | _ => exact ⟨st1, hq, hs1⟩
  | _ => simp [IC.of] at hc

theorem least (p : Nat → Prop) (h : ∃ n, p n) : ∃ n, p n ∧ ∀ m, p m → n ≤ m := by
  obtain ⟨n, hn⟩ := h
  induction n using Nat.strongRecOn with
  | ind n ih =>
    by_cases hc : ∃ m, m < n ∧ p m
    · obtain ⟨m, hm, hp⟩ := hc
      exact ih m hm hp
    · exact ⟨n, hn, fun m hm => Nat.le_of_not_lt fun hlt => hc ⟨m, hlt, hm⟩⟩
/-- a loop: states by an index, of which some may be; a measure that each round lowers -/
theorem AWI.loop {α : Type} {x : IC} (I : α → Prop) (S : α → AS) (μ : α → Nat) (i₀ : α) (h₀ : I i₀) (hs₀ : ∀ a w, Sat Γ st a w → Sat Γ (S i₀) a w)
    (hr : ∀ i, I i → AWI Γ x (QSeq (fun st' => ∃ j, I j ∧ μ j < μ i ∧ ∀ a w, Sat Γ st' a w → Sat Γ (S j) a w) Q) (S i)) : AWI Γ (.loop x) Q st := by
  intro code hc a w hs
  cases code with
  | region id' ops' draw' => cases draw' <;> simp [IC.of, IC.ofR] at hc
  | loop x' =>
    simp only [IC.of, IC.loop.injEq] at hc
    subst hc
    classical
    let F : Act → World → Nat → Prop := fun a w n => ∃ i, I i ∧ Sat Γ (S i) a w ∧ μ i = n
    refine wp_loop (fun a w => ∃ n, F a w n) (fun a w => if h : ∃ n, F a w n then Classical.choose (least _ h) else 0) ⟨_, i₀, h₀, hs₀ a w hs, rfl⟩ ?_
    intro a w hI
    obtain ⟨i, hi, hsi, hmi⟩ := (Classical.choose_spec (least _ hI)).1
    refine wp_mono (hr i hi x' rfl a w hsi) fun e a' w' hl => ?_
    obtain ⟨st1, hq, hs1⟩ := hl
    cases e with
    | normal =>
      obtain ⟨j, hj, hlt, hsj⟩ := hq
      have hF : F a' w' (μ j) := ⟨j, hj, hsj a' w' hs1, rfl⟩
      have hex : ∃ n, F a' w' n := ⟨_, hF⟩
      refine ⟨hex, ?_⟩
      rw [dif_pos hex, dif_pos hI, ← hmi]
      exact Nat.lt_of_le_of_lt ((Classical.choose_spec (least _ hex)).2 _ hF) hlt
    | _ => exact ⟨st1, hq, hs1⟩
  | _ => simp [IC.of] at hc
end
end Go.Eng
