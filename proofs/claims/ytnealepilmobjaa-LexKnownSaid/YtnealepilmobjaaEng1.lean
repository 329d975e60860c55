/-
  An engine for Go functions that build new memory and read old memory: values as trees, rows that the call owns. Part 1: what an abstract state says of a world.
-/
import Derived.WalkKit
set_option linter.unusedVariables false
set_option linter.unusedSimpArgs false
namespace Go.Eng
open Go.RowKit

/-- a cell of immutable memory, with all that is reached from it -/
inductive T where
  | v (x : Value)
  | w (k : Nat)
  | sl (size : Nat) (es : List (List T))

/-- a cell of a slot, or of a row that the call owns -/
inductive C where
  | any
  | t (fr : Bool) (t : T)
  | row (r off n : Nat)
  | ptr (r k j : Nat)
  | elt (fr : Bool) (ts : List T)
  | fn (f : FuncId) (caps : List C)

/-- a slot's value -/
inductive AV where
  | any
  | c (c : C)
  | agg (cs : List C)
  | tup (vs : List AV)

/-- memory that the call owns: the trees of a slice's array; the cells of a variable -/
inductive Row where
  | tr (fr : Bool) (ty size : Nat) (es : List (List T))
  | bx (ty : Nat) (cs : List C)

structure AS where
  env : List (Nat × AV)
  rows : List (Nat × Row)

def lk {α : Type} : List (Nat × α) → Nat → Option α
  | [], _ => none
  | (j, x) :: r, i => if j = i then some x else lk r i

def AS.get (st : AS) (i : Nat) : AV := (lk st.env i).getD .any
def AS.row (st : AS) (r : Nat) : Option Row := lk st.rows r

/-- where a row lies: block, cells of the block, cells of an element -/
structure RowAt where
  b : Nat
  tot : Nat
  size : Nat

/-- the kind of a cell's value: 0 for those that lead on -/
def kd : Value → Nat
  | .bool _ => 1
  | .int .i8 _ => 2
  | .int .i16 _ => 3
  | .int .i32 _ => 4
  | .int .i64 _ => 5
  | .int .u8 _ => 6
  | .int .u16 _ => 7
  | .int .u32 _ => 8
  | .int .u64 _ => 9
  | .string _ => 10
  | _ => 0

inductive TRep (S : Nat → Prop) (w : World) : T → Value → Prop where
  | v (x : Value) (h1 : x.oneCell' = true) : TRep S w (.v x) x
  | w (k : Nat) (x : Value) (h1 : x.oneCell' = true) (hk : kd x = k) : TRep S w (.w k) x
  | sl (size : Nat) (es : List (List T)) (A : Option Addr) (cap : Nat) (f : Nat → Nat → Value)
      (hc : es.length ≤ cap) (hm : cap ≤ maxLen) (hz : ∀ e, e ∈ es → e.length = size)
      (hA : es = [] ∨ ∃ b o, A = some ⟨b, o, none⟩ ∧ S b ∧ ∀ k i, k < es.length → i < size → w.cell? ⟨b, o + (k * size + i), none⟩ = some (f k i))
      (hf : ∀ (k i : Nat) (e : List T) (t : T), es[k]? = some e → e[i]? = some t → TRep S w t (f k i)) :
      TRep S w (.sl size es) (.slice A es.length cap)

theorem TRep.one {S : Nat → Prop} {w : World} {t : T} {x : Value} (h : TRep S w t x) : x.oneCell' = true := by
  cases h with
  | v _ h1 => exact h1
  | w _ _ h1 => exact h1
  | sl => rfl

theorem TRep.mono {S S' : Nat → Prop} {w w' : World} (hS : ∀ b, S b → S' b) (hw : ∀ b, S b → w'.heap[b]? = w.heap[b]?) {t : T} {x : Value} (h : TRep S w t x) : TRep S' w' t x := by
  induction h with
  | v x h1 => exact .v x h1
  | w k x h1 hk => exact .w k x h1 hk
  | sl size es A cap f hc hm hz hA hf ih =>
    refine .sl size es A cap f hc hm hz ?_ ih
    rcases hA with h0 | ⟨b, o, rfl, hb, hcell⟩
    · exact .inl h0
    · refine .inr ⟨b, o, rfl, hS b hb, fun k i hk hi => ?_⟩
      rw [World.cell?_of_block (w := w) (hw b hb)]
      exact hcell k i hk hi

inductive CRep (ρ : Nat → Option RowAt) (SF SA : Nat → Prop) (w : World) : C → Value → Prop where
  | any (x : Value) (h1 : x.oneCell' = true) : CRep ρ SF SA w .any x
  | t (fr : Bool) (t : T) (x : Value) (h : TRep (if fr = true then SF else SA) w t x) : CRep ρ SF SA w (.t fr t) x
  | row (r off n cap : Nat) (la : RowAt) (h : ρ r = some la) (hb : (off + cap) * la.size = la.tot) (hn : n ≤ cap) (hm : cap ≤ maxLen) :
      CRep ρ SF SA w (.row r off n) (.slice (some ⟨la.b, off * la.size, none⟩) n cap)
  | row0 (r off : Nat) (A : Option Addr) : CRep ρ SF SA w (.row r off 0) (.slice A 0 0)
  | ptr (r k j : Nat) (la : RowAt) (h : ρ r = some la) : CRep ρ SF SA w (.ptr r k j) (.pointer (some ⟨la.b, k * la.size + j, none⟩))
  | elt (fr : Bool) (ts : List T) (b o : Nat) (f : Nat → Value) (hb : (if fr = true then SF else SA) b)
      (hc : ∀ i, i < ts.length → w.cell? ⟨b, o + i, none⟩ = some (f i)) (hf : ∀ (i : Nat) (t : T), ts[i]? = some t → TRep (if fr = true then SF else SA) w t (f i)) :
      CRep ρ SF SA w (.elt fr ts) (.pointer (some ⟨b, o, none⟩))
  | fn (f : FuncId) (caps : List C) (vs : Array Value) (hs : vs.size = caps.length) (h : ∀ (i : Nat) (c : C), caps[i]? = some c → CRep ρ SF SA w c (vs.getD i undef)) :
      CRep ρ SF SA w (.fn f caps) (.func (.func f) #[] vs)

theorem CRep.one {ρ : Nat → Option RowAt} {SF SA : Nat → Prop} {w : World} {c : C} {x : Value} (h : CRep ρ SF SA w c x) : x.oneCell' = true := by
  cases h with
  | any _ h1 => exact h1
  | t _ _ _ h => exact h.one
  | _ => rfl

/-- handles on a row are struck out -/
def killL (r : Nat) : C → C
  | .row r' off n => if r' = r then .any else .row r' off n
  | .ptr r' k j => if r' = r then .any else .ptr r' k j
  | .fn _ _ => .any
  | .t fr t => .t fr t
  | .elt fr ts => .elt fr ts
  | .any => .any
def kill (r : Nat) : C → C
  | .row r' off n => if r' = r then .any else .row r' off n
  | .ptr r' k j => if r' = r then .any else .ptr r' k j
  | .fn f caps => .fn f (caps.map (killL r))
  | .t fr t => .t fr t
  | .elt fr ts => .elt fr ts
  | .any => .any
def AV.kill (r : Nat) : AV → AV
  | .any => .any
  | .c x => .c (Eng.kill r x)
  | .agg cs => .agg (cs.map (Eng.kill r))
  | .tup [] => .tup []
  | .tup (_ :: _) => .any
def Row.kill (r : Nat) : Row → Row
  | .tr fr ty size es => .tr fr ty size es
  | .bx ty cs => .bx ty (cs.map (Eng.kill r))

section
variable {ρ ρ' : Nat → Option RowAt} {SF SF' SA SA' : Nat → Prop} {w w' : World}

theorem CRep.mono (hρ : ρ' = ρ) (hF : ∀ b, SF b → SF' b) (hA : ∀ b, SA b → SA' b) (hwF : ∀ b, SF b → w'.heap[b]? = w.heap[b]?) (hwA : ∀ b, SA b → w'.heap[b]? = w.heap[b]?)
    {c : C} {x : Value} (h : CRep ρ SF SA w c x) : CRep ρ' SF' SA' w' c x := by
  subst hρ
  have h1 : ∀ (fr : Bool) b, (if fr = true then SF else SA) b → (if fr = true then SF' else SA') b := by
    intro fr b hb
    cases fr
    · exact hA b (by simpa using hb)
    · exact hF b (by simpa using hb)
  have h2 : ∀ (fr : Bool) b, (if fr = true then SF else SA) b → w'.heap[b]? = w.heap[b]? := by
    intro fr b hb
    cases fr
    · exact hwA b (by simpa using hb)
    · exact hwF b (by simpa using hb)
  induction h with
  | any x h => exact .any x h
  | t fr t x h => exact .t fr t x (h.mono (h1 fr) (h2 fr))
  | row r off n cap la h hb hn hm => exact .row r off n cap la h hb hn hm
  | row0 r off A => exact .row0 r off A
  | ptr r k j la h => exact .ptr r k j la h
  | elt fr ts b o f hb hc hf =>
    refine .elt fr ts b o f (h1 fr b hb) (fun i hi => ?_) (fun i t ht => (hf i t ht).mono (h1 fr) (h2 fr))
    rw [World.cell?_of_block (w := w) (h2 fr b hb)]
    exact hc i hi
  | fn f caps vs hs h ih => exact .fn f caps vs hs ih

/-- the rows' places may turn at a row whose handles are struck out -/
theorem CRep.killL {r : Nat} (hρ : ∀ r', r' ≠ r → ρ' r' = ρ r') {c : C} {x : Value} (h : CRep ρ SF SA w c x) : CRep ρ' SF SA w (killL r c) x := by
  have h1 := h.one
  cases h with
  | any x h => exact .any x h
  | t fr t x h => exact .t fr t x h
  | row r' off n cap la h hb hn hm =>
    by_cases e : r' = r
    · simp only [Eng.killL, e, if_true]; exact .any _ h1
    · simp only [Eng.killL, e, if_false]; exact .row r' off n cap la (by rw [hρ r' e]; exact h) hb hn hm
  | row0 r' off A =>
    by_cases e : r' = r
    · simp only [Eng.killL, e, if_true]; exact .any _ h1
    · simp only [Eng.killL, e, if_false]; exact .row0 r' off A
  | ptr r' k j la h =>
    by_cases e : r' = r
    · simp only [Eng.killL, e, if_true]; exact .any _ h1
    · simp only [Eng.killL, e, if_false]; exact .ptr r' k j la (by rw [hρ r' e]; exact h)
  | elt fr ts b o f hb hc hf => exact .elt fr ts b o f hb hc hf
  | fn f caps vs hs h => exact .any _ h1
theorem CRep.kill {r : Nat} (hρ : ∀ r', r' ≠ r → ρ' r' = ρ r') {c : C} {x : Value} (h : CRep ρ SF SA w c x) : CRep ρ' SF SA w (kill r c) x := by
  have h1 := h.one
  cases h with
  | any x h => exact .any x h
  | t fr t x h => exact .t fr t x h
  | row r' off n cap la h hb hn hm =>
    by_cases e : r' = r
    · simp only [Eng.kill, e, if_true]; exact .any _ h1
    · simp only [Eng.kill, e, if_false]; exact .row r' off n cap la (by rw [hρ r' e]; exact h) hb hn hm
  | row0 r' off A =>
    by_cases e : r' = r
    · simp only [Eng.kill, e, if_true]; exact .any _ h1
    · simp only [Eng.kill, e, if_false]; exact .row0 r' off A
  | ptr r' k j la h =>
    by_cases e : r' = r
    · simp only [Eng.kill, e, if_true]; exact .any _ h1
    · simp only [Eng.kill, e, if_false]; exact .ptr r' k j la (by rw [hρ r' e]; exact h)
  | elt fr ts b o f hb hc hf => exact .elt fr ts b o f hb hc hf
  | fn f caps vs hs h =>
    refine .fn f _ vs (by simpa using hs) fun i c hc => ?_
    rw [List.getElem?_map] at hc
    cases hci : caps[i]? with
    | none => simp [hci] at hc
    | some c0 =>
      simp [hci] at hc
      subst hc
      exact (h i c0 hci).killL hρ
end

inductive AVRep (R : C → Value → Prop) : AV → Value → Prop where
  | any (x : Value) : AVRep R .any x
  | c (c : C) (x : Value) (h : R c x) : AVRep R (.c c) x
  | agg (cs : List C) (xs : Array Value) (hs : xs.size = cs.length) (h : ∀ (i : Nat) (c : C), cs[i]? = some c → R c (xs.getD i undef)) : AVRep R (.agg cs) (.agg xs)
  | tup (vs : List AV) (xs : Array Value) (hs : xs.size = vs.length) (h : ∀ (i : Nat) (v : AV), vs[i]? = some v → AVRep R v (xs.getD i undef)) : AVRep R (.tup vs) (.tuple xs)

theorem AVRep.mono {R R' : C → Value → Prop} (hR : ∀ c x, R c x → R' c x) {v : AV} {x : Value} (h : AVRep R v x) : AVRep R' v x := by
  induction h with
  | any x => exact .any x
  | c c x h => exact .c c x (hR _ _ h)
  | agg cs xs hs h => exact .agg cs xs hs fun i c hc => hR _ _ (h i c hc)
  | tup vs xs hs h ih => exact .tup vs xs hs ih
theorem AVRep.kill {R R' : C → Value → Prop} {r : Nat} (hR : ∀ c x, R c x → R' (Eng.kill r c) x) {v : AV} {x : Value} (h : AVRep R v x) : AVRep R' (v.kill r) x := by
  cases h with
  | any x => exact .any x
  | c c x h => exact .c _ x (hR _ _ h)
  | agg cs xs hs h =>
    refine .agg _ xs (by simpa using hs) fun i c hc => ?_
    rw [List.getElem?_map] at hc
    cases hci : cs[i]? with
    | none => simp [hci] at hc
    | some c0 =>
      simp [hci] at hc
      subst hc
      exact hR _ _ (h i c0 hci)
  | tup vs xs hs h =>
    cases vs with
    | nil => exact .tup [] xs hs (by simp)
    | cons v vs => exact .any _

inductive RowRep (ρ : Nat → Option RowAt) (SF SA : Nat → Prop) (w : World) (r : Nat) : Row → Prop where
  | nil (fr : Bool) (ty size : Nat) (h : ρ r = none) : RowRep ρ SF SA w r (.tr fr ty size [])
  | tr (fr : Bool) (ty size : Nat) (es : List (List T)) (la : RowAt) (cur : Array Value) (h : ρ r = some la) (hs : la.size = size) (hh : w.heap[la.b]? = some (.cells cur ty (0, 0)))
      (ht : cur.size = la.tot) (hl : es.length * size ≤ la.tot) (hz : ∀ e, e ∈ es → e.length = size)
      (hf : ∀ (k i : Nat) (e : List T) (t : T), es[k]? = some e → e[i]? = some t → ∃ x, cur[k * size + i]? = some x ∧ TRep (if fr = true then SF else SA) w t x) :
      RowRep ρ SF SA w r (.tr fr ty size es)
  | bx (ty : Nat) (cs : List C) (la : RowAt) (cur : Array Value) (h : ρ r = some la) (hs : la.size = cs.length) (hh : w.heap[la.b]? = some (.cells cur ty (0, 0)))
      (ht : cur.size = cs.length) (hf : ∀ (i : Nat) (c : C), cs[i]? = some c → ∃ x, cur[i]? = some x ∧ CRep ρ SF SA w c x) :
      RowRep ρ SF SA w r (.bx ty cs)

/-- one activation: its program, the world at its beginning, the blocks lent to it, the blocks of the trees handed in, its slots -/
structure Ctx where
  P : Program
  w0 : World
  X : Nat → Prop
  A : Nat → Prop
  n : Nat
  pin : Nat → Option RowAt
  g : Bool

/-- what was there, and is not lent, is as it was -/
structure Fr (w0 : World) (X : Nat → Prop) (w : World) : Prop where
  os : w.os = w0.os
  tape : w.tape = w0.tape
  output : w.output = w0.output
  size : w0.heap.size ≤ w.heap.size
  block : ∀ b, b < w0.heap.size → ¬ X b → w.heap[b]? = w0.heap[b]?

def RowB (st : AS) (ρ : Nat → Option RowAt) (b : Nat) : Prop := ∃ r row la, st.row r = some row ∧ ρ r = some la ∧ la.b = b
/-- a block that may be written -/
def Thaw (w : World) (b : Nat) : Prop := ∃ cur ty, w.heap[b]? = some (.cells cur ty (0, 0))
theorem Thaw.eq {w w' : World} {b : Nat} (h : Thaw w b) (e : w'.heap[b]? = w.heap[b]?) : Thaw w' b := let ⟨c, t, h⟩ := h; ⟨c, t, e.trans h⟩
def SFof (Γ : Ctx) (st : AS) (ρ : Nat → Option RowAt) (w : World) (b : Nat) : Prop := Γ.w0.heap.size ≤ b ∧ b < w.heap.size ∧ ¬ RowB st ρ b ∧ Thaw w b
def SAof (Γ : Ctx) (st : AS) (ρ : Nat → Option RowAt) (w : World) (b : Nat) : Prop := (Γ.A b ∨ Γ.w0.heap.size ≤ b) ∧ b < w.heap.size ∧ ¬ RowB st ρ b

structure SatAt (Γ : Ctx) (ρ : Nat → Option RowAt) (st : AS) (a : Act) (w : World) : Prop where
  defers : a.defers = []
  size : a.tmps.size = Γ.n
  env : ∀ i, AVRep (CRep ρ (SFof Γ st ρ w) (SAof Γ st ρ w) w) (st.get i) (a.tmps.getD i undef)
  rows : ∀ r row, st.row r = some row → RowRep ρ (SFof Γ st ρ w) (SAof Γ st ρ w) w r row
  inj : ∀ r r' row row' la la', st.row r = some row → st.row r' = some row' → ρ r = some la → ρ r' = some la' → la.b = la'.b → r = r'
  own : ∀ r row la, st.row r = some row → ρ r = some la → (Γ.w0.heap.size ≤ la.b ∨ Γ.X la.b) ∧ la.b < w.heap.size
  fr : Fr Γ.w0 Γ.X w
  lent : ∀ b, Γ.A b → ¬ Γ.X b ∧ b < Γ.w0.heap.size
  pins : ∀ r la, Γ.pin r = some la → 1000000 ≤ r ∧ ρ r = some la

def Sat (Γ : Ctx) (st : AS) (a : Act) (w : World) : Prop := ∃ ρ, SatAt Γ ρ st a w

def AW (Γ : Ctx) (code : Code) (Q : Exit → AS → Prop) (st : AS) : Prop :=
  ∀ a w, Sat Γ st a w → code.wp Γ.P (fun e a' w' => ∃ st', Q e st' ∧ Sat Γ st' a' w') a w
end Go.Eng
