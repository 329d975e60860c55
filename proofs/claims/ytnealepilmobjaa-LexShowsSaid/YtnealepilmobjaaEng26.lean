/-
  The engine, part 26: arguments of statements as trees.
-/
import Derived.Test.YtnealepilmobjaaEng22
import Derived.ProofKit
set_option linter.unusedVariables false
set_option linter.unusedSimpArgs false
namespace Go.Eng
open Go.RowKit Go.ChangeShapes Go.WideShapes

/-- the form of a tree that a type allows -/
inductive TT where
  | b
  | i (k : IntKind)
  | s
  | sl (size : Nat) (es : List TT)
def TT.fields (P : Program) (g : TypeId → Option (List TT)) : Nat → List Field → Option (List TT)
  | _, [] => some []
  | off, f :: r => match g f.type with
    | some sh => if f.offset = off ∧ sh.length = P.cellsOf f.type then (TT.fields P g (off + sh.length) r).map (sh ++ ·) else none
    | none => none
def TT.of (P : Program) : Nat → TypeId → Option (List TT)
  | 0, _ => none
  | n + 1, t => match P.underlying t with
    | some .bool => some [.b]
    | some (.int k) => some [.i k]
    | some .string => some [.s]
    | some (.slice e) => match TT.of P n e with
      | some sh => if 0 < P.cellsOf e ∧ sh.length = P.cellsOf e then some [.sl (P.cellsOf e) sh] else none
      | none => none
    | some (.struct fs) => match TT.fields P (TT.of P n) 0 fs.toList with
      | some sh => if sh.length = P.cellsOf t then some sh else none
      | none => none
    | _ => none

inductive TOk : TT → T → Prop where
  | b (x : Bool) : TOk .b (.v (.bool x))
  | i (k : IntKind) (n : Int) (h : (Lit.int k n).wf = true) : TOk (.i k) (.v (.int k n))
  | s (x : ByteArray) (h : x.size ≤ maxLen) : TOk .s (.v (.string x))
  | sl (size : Nat) (sh : List TT) (es : List (List T)) (hm : es.length ≤ maxLen) (hl : ∀ e, e ∈ es → e.length = sh.length)
      (h : ∀ (e : List T) (i : Nat) (a : TT) (u : T), e ∈ es → sh[i]? = some a → e[i]? = some u → TOk a u) : TOk (.sl size sh) (.sl size es)

def All3 (R : TT → T → Value → Prop) : List TT → List T → List Value → Prop
  | [], [], [] => True
  | a :: as, b :: bs, c :: cs => R a b c ∧ All3 R as bs cs
  | _, _, _ => False
theorem All3.append {R : TT → T → Value → Prop} : ∀ {as : List TT} {bs : List T} {cs : List Value} {as' : List TT} {bs' : List T} {cs' : List Value}, All3 R as bs cs → All3 R as' bs' cs' → All3 R (as ++ as') (bs ++ bs') (cs ++ cs')
  | [], [], [], _, _, _, _, h => h
  | a :: as, b :: bs, c :: cs, _, _, _, h, h' => ⟨h.1, All3.append h.2 h'⟩
  | [], _ :: _, _, _, _, _, h, _ => by simp [All3] at h
  | [], [], _ :: _, _, _, _, h, _ => by simp [All3] at h
  | _ :: _, [], _, _, _, _, h, _ => by simp [All3] at h
  | _ :: _, _ :: _, [], _, _, _, h, _ => by simp [All3] at h
theorem All3.len {R : TT → T → Value → Prop} : ∀ {as : List TT} {bs : List T} {cs : List Value}, All3 R as bs cs → bs.length = as.length ∧ cs.length = as.length
  | [], [], [], _ => ⟨rfl, rfl⟩
  | a :: as, b :: bs, c :: cs, h => by have := All3.len h.2; simp [this.1, this.2]
  | [], _ :: _, _, h => by simp [All3] at h
  | [], [], _ :: _, h => by simp [All3] at h
  | _ :: _, [], _, h => by simp [All3] at h
  | _ :: _, _ :: _, [], h => by simp [All3] at h
theorem All3.get {R : TT → T → Value → Prop} : ∀ {as : List TT} {bs : List T} {cs : List Value}, All3 R as bs cs → ∀ {i : Nat} {a : TT} {b : T}, as[i]? = some a → bs[i]? = some b → ∃ c, cs[i]? = some c ∧ R a b c
  | [], [], [], _, i, a, b, h1, _ => by simp at h1
  | a :: as, b :: bs, c :: cs, h, i, a', b', h1, h2 => by
    cases i with
    | zero =>
      simp at h1 h2
      subst h1; subst h2
      exact ⟨c, by simp, h.1⟩
    | succ i =>
      simp at h1 h2
      obtain ⟨c', h3, h4⟩ := All3.get h.2 h1 h2
      exact ⟨c', by simpa using h3, h4⟩
  | [], _ :: _, _, h, _, _, _, _, _ => by simp [All3] at h
  | [], [], _ :: _, h, _, _, _, _, _ => by simp [All3] at h
  | _ :: _, [], _, h, _, _, _, _, _ => by simp [All3] at h
  | _ :: _, _ :: _, [], h, _, _, _, _, _ => by simp [All3] at h

section
variable {H : Type} {enc : TypeId × Value → H} {P : Program} {w : World} {base : Nat} {sp : Nat → Bool} {held : Bool}

theorem cells?_get {a : Addr} {n : Nat} {cs : List Value} (h : w.cells? base a n = some cs) : cs.length = n ∧ ∀ i, i < n → w.cell? (a.add i) = cs[i]? := by
  unfold World.cells? at h
  split at h
  · refine ⟨by simpa using mapM_some_length h, fun i hi => ?_⟩
    exact mapM_some_get h i i (by simp [hi])
  · cases h
theorem cell_plain {a : Addr} {v : Value} (h : w.cell? a = some v) : a.spot = none ∧ a.block < w.heap.size := by
  unfold World.cell? at h
  split at h
  · rename_i c x y hb
    split at h
    · cases h
    · rename_i hs
      refine ⟨by simpa using hs, ?_⟩
      exact (Array.getElem?_eq_some_iff.1 hb).1
  · cases h

abbrev TRd (w : World) : TT → T → Value → Prop := fun a u v => TOk a u ∧ TRep (fun b => b < w.heap.size) w u v

theorem trod_fields {g : TypeId → Option (List TT)} {fuel : Nat}
    (hg : ∀ {t : TypeId} {sh : List TT} {cs : List Value} {x : DataW H × List MemPlace}, g t = some sh → DataW.trod enc P w base sp held fuel t cs = some x → ∃ us, All3 (TRd w) sh us cs) :
    ∀ (fs : List Field) (off : Nat) (sh : List TT) (cs : List Value), TT.fields P g off fs = some sh → off + sh.length = cs.length →
      (∀ f, f ∈ fs → ∃ x, DataW.trod enc P w base sp held fuel f.type ((cs.drop f.offset).take (P.cellsOf f.type)) = some x) → ∃ us, All3 (TRd w) sh us (cs.drop off)
  | [], off, sh, cs, h, hl, _ => by
    simp [TT.fields] at h
    subst h
    refine ⟨[], ?_⟩
    rw [List.drop_eq_nil_of_le (by simp at hl; omega)]
    trivial
  | f :: r, off, sh, cs, h, hl, hx => by
    unfold TT.fields at h
    cases hgf : g f.type with
    | none => rw [hgf] at h; cases h
    | some s1 =>
      rw [hgf] at h
      simp only at h
      split at h
      case isFalse => cases h
      rename_i hc
      obtain ⟨hoff, hsz⟩ := hc
      cases hr : TT.fields P g (off + s1.length) r with
      | none => rw [hr] at h; cases h
      | some s2 =>
        rw [hr] at h
        simp at h
        subst h
        rw [List.length_append] at hl
        obtain ⟨us2, h2⟩ := trod_fields hg r (off + s1.length) s2 cs hr (by omega) fun f hf => hx f (by simp [hf])
        obtain ⟨x, hxx⟩ := hx f (by simp)
        obtain ⟨us1, h1⟩ := hg hgf hxx
        refine ⟨us1 ++ us2, ?_⟩
        have e : cs.drop off = (cs.drop f.offset).take (P.cellsOf f.type) ++ cs.drop (off + s1.length) := by
          rw [hoff, ← hsz, ← List.drop_drop, List.take_append_drop]
        rw [e]
        exact h1.append h2

theorem trod_tree : ∀ (n fuel : Nat) {t : TypeId} {sh : List TT} {cs : List Value} {x : DataW H × List MemPlace}, TT.of P n t = some sh → DataW.trod enc P w base sp held fuel t cs = some x → ∃ us, All3 (TRd w) sh us cs
  | 0, _, _, _, _, _, h, _ => by simp [TT.of] at h
  | n + 1, fuel, t, sh, cs, x, h, hx => by
    unfold TT.of at h
    cases hu : P.underlying t with
    | none => rw [hu] at h; cases h
    | some d =>
      rw [hu] at h
      cases fuel with
      | zero => simp [DataW.trod] at hx
      | succ m =>
        cases d <;> simp only [reduceCtorEq] at h
        case bool =>
          injection h with h; subst h
          unfold DataW.trod at hx
          rw [hu] at hx
          split at hx <;> simp_all
          rename_i b
          exact ⟨[.v (.bool b)], ⟨.b b, .v _ rfl⟩, trivial⟩
        case int k =>
          injection h with h; subst h
          unfold DataW.trod at hx
          rw [hu] at hx
          split at hx <;> simp_all
          obtain ⟨⟨h1, h2⟩, _⟩ := hx
          exact ⟨[.v (.int _ _)], ⟨.i _ _ h2, .v _ rfl⟩, trivial⟩
        case string =>
          injection h with h; subst h
          unfold DataW.trod at hx
          rw [hu] at hx
          split at hx <;> simp_all
          exact ⟨[.v (.string _)], ⟨.s _ hx.1, .v _ rfl⟩, trivial⟩
        case slice e =>
          cases he : TT.of P n e with
          | none => rw [he] at h; cases h
          | some sh1 =>
            rw [he] at h
            simp only at h
            split at h
            case isFalse => cases h
            rename_i hc
            obtain ⟨hpos, hlen⟩ := hc
            injection h with h; subst h
            rcases DataW.trod_slice hu hx with ⟨hcs, _⟩ | ⟨a, len, cap, elems, rest, m', hm', hcs, _, _, hl, hcap, hel, hread, _⟩
            · subst hcs
              refine ⟨[.sl (P.cellsOf e) []], ⟨.sl _ _ _ (by simp) (by simp) (by simp), ?_⟩, trivial⟩
              exact .sl (P.cellsOf e) [] none 0 (fun _ _ => undef) (by simp) (by simp) (by simp) (.inl rfl) (by simp)
            · subst hcs
              have key : ∀ k, ∃ (cs' : List Value) (us : List T), k < len → w.cells? base (a.add (k * P.cellsOf e)) (P.cellsOf e) = some cs' ∧ All3 (TRd w) sh1 us cs' := by
                intro k
                by_cases hk : k < len
                · have h1 := hread k hk
                  have h2 : ∃ y, elems[k]? = some y := ⟨_, List.getElem?_eq_getElem (by omega)⟩
                  obtain ⟨y, hy⟩ := h2
                  rw [hy] at h1
                  simp only [Option.bind_eq_some_iff] at h1
                  obtain ⟨c1, hc1, hy1⟩ := h1
                  obtain ⟨us, hus⟩ := trod_tree n m' he hy1
                  exact ⟨c1, us, fun _ => ⟨hc1, hus⟩⟩
                · exact ⟨[], [], fun h => absurd h hk⟩
              let ccs : Nat → List Value := fun k => Classical.choose (key k)
              let uss : Nat → List T := fun k => Classical.choose (Classical.choose_spec (key k))
              have hspec : ∀ k, k < len → w.cells? base (a.add (k * P.cellsOf e)) (P.cellsOf e) = some (ccs k) ∧ All3 (TRd w) sh1 (uss k) (ccs k) := fun k => Classical.choose_spec (Classical.choose_spec (key k))
              have hcell : ∀ k i, k < len → i < P.cellsOf e → w.cell? ((a.add (k * P.cellsOf e)).add i) = some ((ccs k).getD i undef) := by
                intro k i hk hi
                obtain ⟨h1, h2⟩ := cells?_get (hspec k hk).1
                rw [h2 i hi, List.getD_eq_getElem?_getD, List.getElem?_eq_getElem (by omega)]; rfl
              have hes : ((List.range len).map uss).length = len := by simp
              have hmem : ∀ e', e' ∈ (List.range len).map uss → ∃ k, k < len ∧ e' = uss k := by
                intro e' he'
                obtain ⟨k, hk, rfl⟩ := List.mem_map.1 he'
                exact ⟨k, by simpa using hk, rfl⟩
              have hspot : len = 0 ∨ a.spot = none ∧ a.block < w.heap.size := by
                by_cases h0 : len = 0
                · exact .inl h0
                · right
                  have := hcell 0 0 (by omega) hpos
                  have e0 : (a.add (0 * P.cellsOf e)).add 0 = a := by simp [Addr.add]
                  rw [e0] at this
                  exact cell_plain this
              have hT : TRep (fun b => b < w.heap.size) w (.sl (P.cellsOf e) ((List.range len).map uss)) (.slice (some a) ((List.range len).map uss).length cap) := by
                refine .sl _ _ (some a) cap (fun k i => (ccs k).getD i undef) (by rw [hes]; exact hl) hcap ?_ ?_ ?_
                · intro e' he'
                  obtain ⟨k, hk, rfl⟩ := hmem e' he'
                  rw [(hspec k hk).2.len.1, hlen]
                · rcases hspot with h0 | ⟨hs, hb⟩
                  · left; subst h0; rfl
                  · right
                    refine ⟨a.block, a.off, by cases a; simp_all, hb, fun k i hk hi => ?_⟩
                    rw [hes] at hk
                    rw [← hcell k i hk hi]
                    congr 1
                    unfold Addr.add
                    cases a
                    simp only at hs
                    subst hs
                    by_cases e1 : k * P.cellsOf e = 0 <;> by_cases e2 : i = 0 <;> simp [e1, e2, Nat.add_assoc]
                · intro k i e' u hk hi
                  have hkl : k < len := by
                    have := (List.getElem?_eq_some_iff.1 hk).1
                    simpa using this
                  rw [List.getElem?_map, List.getElem?_range hkl] at hk
                  injection hk with hk
                  subst hk
                  have hA := (hspec k hkl).2
                  have hil : i < sh1.length := by rw [← hA.len.1]; exact (List.getElem?_eq_some_iff.1 hi).1
                  obtain ⟨c, hc1, hc2⟩ := hA.get (List.getElem?_eq_getElem hil) hi
                  have : (ccs k).getD i undef = c := by rw [List.getD_eq_getElem?_getD, hc1]; rfl
                  rw [this]
                  exact hc2.2
              rw [hes] at hT
              refine ⟨[.sl (P.cellsOf e) ((List.range len).map uss)], ⟨.sl _ _ _ (by rw [hes]; omega) ?_ ?_, hT⟩, trivial⟩
              · intro e' he'
                obtain ⟨k, hk, rfl⟩ := hmem e' he'
                exact (hspec k hk).2.len.1
              · intro e' i a' u he' h1 h2
                obtain ⟨k, hk, rfl⟩ := hmem e' he'
                obtain ⟨c, hc1, hc2⟩ := (hspec k hk).2.get h1 h2
                exact hc2.1
        case struct fs =>
          cases hf : TT.fields P (TT.of P n) 0 fs.toList with
          | none => rw [hf] at h; cases h
          | some s1 =>
            rw [hf] at h
            simp only at h
            split at h
            case isFalse => cases h
            rename_i hc
            injection h with h; subst h
            obtain ⟨xs, m', hm', _, hcl, hxl, hget⟩ := DataW.trod_struct hu hx
            have := trod_fields (enc := enc) (P := P) (w := w) (base := base) (sp := sp) (held := held) (g := TT.of P n) (fuel := m') (fun h1 h2 => trod_tree n m' h1 h2) fs.toList 0 s1 cs hf (by omega) fun f hfm => by
              obtain ⟨i, hi, he⟩ := List.getElem_of_mem hfm
              have h1 := hget i f (by rw [← he]; simp)
              rw [List.getElem?_eq_getElem (by rw [hxl]; simpa using hi)] at h1
              exact ⟨_, h1⟩
            simpa using this

/-- one argument of one cell -/
theorem arg_tree {n : Nat} {t : TypeId} {tt : TT} {v : Value} {d : DataW H} {ps : List MemPlace} (ht : TT.of P n t = some [tt]) (hv : v.cells.toList = [v]) (hd : DataW.Trod enc P w base sp held t v d ps) :
    ∃ u, TOk tt u ∧ TRep (fun b => b < w.heap.size) w u v := by
  obtain ⟨fuel, hf⟩ := hd
  rw [hv] at hf
  obtain ⟨us, h⟩ := trod_tree n fuel ht hf
  match us, h with
  | [u], h => exact ⟨u, h.1.1, h.1.2⟩
theorem arg_slice {e : TypeId} {r : Reach} {b0 : Nat} {n : Nat} {t : TypeId} {tt : TT} {v : Value} {d : DataW H} {ps : List MemPlace} (hu : P.underlying t = some (.slice e)) (hok : Value.okWide P w r b0 t v) (ht : TT.of P n t = some [tt]) (hd : DataW.Trod enc P w base sp held t v d ps) :
    ∃ u, TOk tt u ∧ TRep (fun b => b < w.heap.size) w u v := by
  obtain ⟨a, l, c, rfl⟩ := okWide_slice hu hok
  exact arg_tree ht rfl hd

/-- trees read as a list of what they say -/
theorem TOk.list {α : Type} {size : Nat} {sh : List TT} {t : T} (f : α → List T) (p : α → Prop) (hf : ∀ us : List T, us.length = sh.length → (∀ (i : Nat) a u, sh[i]? = some a → us[i]? = some u → TOk a u) → ∃ x, us = f x ∧ p x)
    (h : TOk (.sl size sh) t) : ∃ ls : List α, t = .sl size (ls.map f) ∧ ls.length ≤ maxLen ∧ ∀ x ∈ ls, p x := by
  cases h with
  | sl _ _ es hm hl hok =>
    have : ∃ ls : List α, es = ls.map f ∧ ∀ x ∈ ls, p x := by
      clear hm
      induction es with
      | nil => exact ⟨[], rfl, by simp⟩
      | cons e es ih =>
        obtain ⟨ls, h1, h2⟩ := ih (fun e' he' => hl e' (by simp [he'])) (fun e' i a u he' => hok e' i a u (by simp [he']))
        obtain ⟨x, h3, h4⟩ := hf e (hl e (by simp)) fun i a u => hok e i a u (by simp)
        refine ⟨x :: ls, by rw [h1, h3]; rfl, fun y hy => ?_⟩
        rcases List.mem_cons.1 hy with rfl | hy
        · exact h4
        · exact h2 y hy
    obtain ⟨ls, rfl, h2⟩ := this
    exact ⟨ls, rfl, by simpa using hm, h2⟩
theorem TOk.str {t : T} (h : TOk .s t) : ∃ x : ByteArray, t = .v (.string x) ∧ x.size ≤ maxLen := by
  cases h with
  | s x h => exact ⟨x, rfl, h⟩
theorem TOk.int {k : IntKind} {t : T} (h : TOk (.i k) t) : ∃ n : Int, t = .v (.int k n) ∧ (Lit.int k n).wf = true := by
  cases h with
  | i k n h => exact ⟨n, rfl, h⟩
theorem TOk.bool {t : T} (h : TOk .b t) : ∃ b : Bool, t = .v (.bool b) := by
  cases h with
  | b x => exact ⟨x, rfl⟩
theorem arg_of_tree {W : World} {u : T} {v : Value} (h : TRep (fun b => b < W.heap.size) W u v) : AVRep (CRep (fun _ => none) (fun _ => False) (fun b => b < W.heap.size) W) (.c (.t false u)) v :=
  .c _ _ (.t false _ _ (by simpa using h))
end
end Go.Eng
