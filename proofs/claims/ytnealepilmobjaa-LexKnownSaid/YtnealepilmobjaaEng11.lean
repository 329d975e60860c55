/-
  The engine, part 11: slice literals, stores, append.
-/
import Derived.Test.YtnealepilmobjaaEng10
set_option linter.unusedVariables false
set_option linter.unusedSimpArgs false
namespace Go.Eng
open Go.RowKit

/-- values that are the cells of rows of trees, one behind the other -/
def Flat (S : Nat → Prop) (w : World) (size : Nat) (es : List (List T)) (xs : List Value) : Prop :=
  xs.length = es.length * size ∧ (∀ e, e ∈ es → e.length = size) ∧
  ∀ (k i : Nat) (e : List T) (t : T), es[k]? = some e → e[i]? = some t → ∃ x, xs[k * size + i]? = some x ∧ TRep S w t x
theorem Flat.mono {S S' : Nat → Prop} {w w' : World} {size : Nat} {es : List (List T)} {xs : List Value} (h : Flat S w size es xs) (hS : ∀ b, S b → S' b) (hw : ∀ b, S b → w'.heap[b]? = w.heap[b]?) : Flat S' w' size es xs :=
  ⟨h.1, h.2.1, fun k i e t hk hi => let ⟨x, hx, ht⟩ := h.2.2 k i e t hk hi; ⟨x, hx, ht.mono hS hw⟩⟩
theorem Flat.nil {S : Nat → Prop} {w : World} {size : Nat} : Flat S w size [] [] := ⟨by simp, by simp, by simp⟩
theorem Flat.one {S : Nat → Prop} {w : World} {size : Nat} {es : List (List T)} {xs : List Value} (h : Flat S w size es xs) : ∀ x, x ∈ xs → x.oneCell' = true := by
  intro x hx
  obtain ⟨j, hj, rfl⟩ := List.getElem_of_mem hx
  have hjl : j < es.length * size := by rw [← h.1]; exact hj
  have hs : 0 < size := by
    rcases Nat.eq_zero_or_pos size with h0 | h0
    · rw [h0] at hjl; simp at hjl
    · exact h0
  have hk : j / size < es.length := Nat.div_lt_of_lt_mul (by rw [Nat.mul_comm]; exact hjl)
  have hi : j % size < size := Nat.mod_lt _ hs
  have he : (es[j / size]).length = size := h.2.1 _ (List.getElem_mem hk)
  obtain ⟨x, hx', ht⟩ := h.2.2 (j / size) (j % size) _ ((es[j / size])[j % size]'(by omega)) (List.getElem?_eq_getElem hk) (List.getElem?_eq_getElem (by omega))
  rw [Nat.div_add_mod'] at hx'
  rw [List.getElem?_eq_getElem hj] at hx'
  injection hx' with hx'
  rw [hx']
  exact ht.one
theorem Flat.append {S : Nat → Prop} {w : World} {size : Nat} {es fs : List (List T)} {xs ys : List Value} (h : Flat S w size es xs) (g : Flat S w size fs ys) : Flat S w size (es ++ fs) (xs ++ ys) := by
  refine ⟨by simp [h.1, g.1, Nat.add_mul], fun e he => ?_, fun k i e t hk hi => ?_⟩
  · rcases List.mem_append.1 he with he | he
    · exact h.2.1 e he
    · exact g.2.1 e he
  · by_cases hlt : k < es.length
    · rw [List.getElem?_append_left hlt] at hk
      obtain ⟨x, hx, ht⟩ := h.2.2 k i e t hk hi
      exact ⟨x, by rw [List.getElem?_append_left (List.getElem?_eq_some_iff.1 hx).1]; exact hx, ht⟩
    · rw [List.getElem?_append_right (by omega)] at hk
      obtain ⟨x, hx, ht⟩ := g.2.2 _ i e t hk hi
      have hge : es.length * size ≤ k * size := Nat.mul_le_mul_right _ (by omega)
      refine ⟨x, ?_, ht⟩
      rw [List.getElem?_append_right (by rw [h.1]; omega), h.1, ← hx]
      congr 1
      rw [Nat.sub_mul]; omega
theorem idx_lt {k k' i size : Nat} (h : k < k') (hi : i < size) : k * size + i < k' * size := by
  calc k * size + i < k * size + size := by omega
    _ = (k + 1) * size := by rw [Nat.add_mul]; simp
    _ ≤ k' * size := Nat.mul_le_mul_right _ h
theorem Flat.set {S : Nat → Prop} {w : World} {size : Nat} {es : List (List T)} {xs : List Value} (h : Flat S w size es xs) {k : Nat} (hk : k < es.length) {j : Nat} {ts : List T} {ys : List Value}
    (hj : j + ts.length ≤ size) (hl : ys.length = ts.length) (hy : ∀ (i : Nat) (t : T), ts[i]? = some t → TRep S w t (ys.getD i undef)) :
    Flat S w size (es.set k (setL (getE es k) j ts)) (setL xs (k * size + j) ys) := by
  have hek : es[k]? = some (getE es k) := by simp [getE, List.getD_eq_getElem?_getD, List.getElem?_eq_getElem hk]
  have hel : (getE es k).length = size := h.2.1 _ (List.mem_of_getElem? hek)
  have hge : k * size + size ≤ es.length * size := by rw [← Nat.succ_mul]; exact Nat.mul_le_mul_right _ hk
  have hfit : k * size + j + ys.length ≤ xs.length := by rw [h.1]; omega
  refine ⟨by rw [setL_length _ _ _ hfit]; simpa using h.1, fun e he => ?_, fun k' i e t hk' hi => ?_⟩
  · rcases List.mem_or_eq_of_mem_set he with he | rfl
    · exact h.2.1 e he
    · rw [setL_length _ _ _ (by omega)]; exact hel
  · rw [List.getElem?_set] at hk'
    rw [setL_get _ _ _ hfit]
    by_cases e1 : k = k'
    · subst e1
      simp only [if_true, hk] at hk'
      injection hk' with hk'
      subst hk'
      rw [setL_get _ _ _ (by omega)] at hi
      by_cases h1 : i < j
      · rw [if_pos h1] at hi
        rw [if_pos (by omega)]
        exact h.2.2 k i _ t hek hi
      · rw [if_neg h1] at hi
        rw [if_neg (by omega)]
        by_cases h2 : i < j + ts.length
        · rw [if_pos h2] at hi
          rw [if_pos (by omega)]
          have := hy _ t hi
          refine ⟨_, ?_, this⟩
          rw [List.getD_eq_getElem?_getD, show k * size + i - (k * size + j) = i - j by omega, List.getElem?_eq_getElem (by omega)]
          rfl
        · rw [if_neg h2] at hi
          rw [if_neg (by omega)]
          exact h.2.2 k i _ t hek hi
    · simp only [e1, if_false] at hk'
      obtain ⟨x, hx, ht⟩ := h.2.2 k' i e t hk' hi
      have hi' : i < size := by rw [← h.2.1 e (List.mem_of_getElem? hk')]; exact (List.getElem?_eq_some_iff.1 hi).1
      refine ⟨x, ?_, ht⟩
      rcases Nat.lt_or_gt_of_ne e1 with h3 | h3
      · have : k * size + size ≤ k' * size := by rw [← Nat.succ_mul]; exact Nat.mul_le_mul_right _ h3
        rw [if_neg (by omega), if_neg (by omega)]; exact hx
      · have := idx_lt h3 hi'
        rw [if_pos (by omega)]; exact hx

section
variable {Γ : Ctx} {ρ : Nat → Option RowAt} {st : AS} {a : Act} {w : World}

theorem fillT_rep (h : SatAt Γ ρ st a w) {size : Nat} : ∀ (parts : List (Nat × Operand)) (fr fr' : Bool) (es es' : List (List T)) (xs : List Value),
    Flat (if fr = true then SFof Γ st ρ w else SAof Γ st ρ w) w size es xs → fillT st fr es (parts.map fun p => (p.1, Od.of p.2)) size = some (fr', es') →
    ∃ xs', Instr.fill (fun i => some (i * size, size)) xs.toArray (parts.map fun p => (p.1, a.eval p.2)) = some xs'.toArray ∧ es'.length = es.length ∧ Flat (if fr' = true then SFof Γ st ρ w else SAof Γ st ρ w) w size es' xs'
  | [], fr, fr', es, es', xs, hfl, hf => by
    simp [fillT] at hf
    obtain ⟨rfl, rfl⟩ := hf
    exact ⟨xs, rfl, rfl, hfl⟩
  | (i, x) :: parts, fr, fr', es, es', xs, hfl, hf => by
    simp only [List.map_cons, fillT] at hf
    split at hf
    case h_2 => cases hf
    rename_i ds hds
    split at hf
    case h_2 => cases hf
    rename_i fr1 ts hts
    obtain ⟨⟨hd1, hd2⟩, hf⟩ := need_some hf
    obtain ⟨hv1, hv2⟩ := (h.ev x).cellsInv hds
    obtain ⟨ht1, ht2⟩ := trees_rep (ρ := ρ) (w := w) (SF := SFof Γ st ρ w) (SA := SAof Γ st ρ w) SF_sub hts
    have ht3 := ht2 (fun i => (a.eval x).cells.getD i undef) hv2
    have hw : ∀ b, (if fr = true then SFof Γ st ρ w else SAof Γ st ρ w) b → (if (fr && fr1) = true then SFof Γ st ρ w else SAof Γ st ρ w) b := by
      intro b hb
      cases fr <;> cases fr1 <;> simp at hb ⊢ <;> first | exact hb | exact SF_sub b hb
    have hw1 : ∀ b, (if fr1 = true then SFof Γ st ρ w else SAof Γ st ρ w) b → (if (fr && fr1) = true then SFof Γ st ρ w else SAof Γ st ρ w) b := by
      intro b hb
      cases fr <;> cases fr1 <;> simp at hb ⊢ <;> first | exact hb | exact SF_sub b hb
    have hset := (hfl.mono hw (fun _ _ => rfl)).set hd2 (j := 0) (ts := ts) (ys := (a.eval x).cells.toList) (by omega) (by simp; omega) (fun j t hj => by
      have := (ht3 j t hj).mono hw1 (fun _ _ => rfl)
      rwa [getD_toList] at this)
    have hge : getE es i = getE es i := rfl
    have hek : es[i]? = some (getE es i) := by simp [getE, List.getD_eq_getElem?_getD, List.getElem?_eq_getElem hd2]
    have hel : (getE es i).length = size := hfl.2.1 _ (List.mem_of_getElem? hek)
    have hs0 : setL (getE es i) 0 ts = ts := by simp [setL]; omega
    rw [hs0] at hset
    have hfits : i * size + size ≤ xs.length := by rw [hfl.1, ← Nat.succ_mul]; exact Nat.mul_le_mul_right _ hd2
    obtain ⟨xs', h1, h2, h3⟩ := fillT_rep h parts _ fr' _ es' _ hset hf
    refine ⟨xs', ?_, by simpa using h2, h3⟩
    simp only [List.map_cons]
    rw [fill_cons rfl (by omega) (by simpa using hfits)]
    exact h1

theorem rep_get {α : Type} (n : Nat) (x : α) : rep n x = List.replicate n x := by
  induction n with
  | zero => rfl
  | succ n ih => simp [rep, ih, List.replicate_succ]

theorem flat_zero {S : Nat → Prop} {P : Program} {e : TypeId} {z : List Value} (hz : zeroT P e = some z) {s : Nat} (hs : sizeT P e = some s) (n : Nat) : Flat S w s (List.replicate n (z.map .v)) (madeCells z.toArray (n * s)).toList := by
  obtain ⟨i, zv, hi, hzv, rfl, hone, hzs⟩ := zeroT_inv hz
  have hs1 : i.size = s := by simpa [sizeT, hi] using hs
  refine ⟨by simp [size_madeCells], fun e he => ?_, fun k j e t hk hj => ?_⟩
  · have := List.eq_of_mem_replicate he
    subst this
    simp; omega
  · rw [List.getElem?_replicate] at hk
    split at hk
    · rename_i hkn
      injection hk with hk
      subst hk
      rw [List.getElem?_map] at hj
      cases hq : zv.cells.toList[j]? with
      | none => simp [hq] at hj
      | some u =>
        simp [hq] at hj
        subst hj
        have hjs : j < zv.cells.size := by simpa using (List.getElem?_eq_some_iff.1 hq).1
        have hlt := idx_lt hkn (show j < s by omega)
        have hmod : (k * s + j) % zv.cells.size = j := by
          rw [hzs, hs1, Nat.add_comm, Nat.add_mul_mod_self_right]
          exact Nat.mod_eq_of_lt (by omega)
        refine ⟨u, ?_, .v u (hone u (List.mem_of_getElem? hq))⟩
        have hu' : zv.cells[j]? = some u := by simpa using hq
        simp only [madeCells, Array.getElem?_toList, Array.getElem?_map, Array.getElem?_range, hlt, if_true, Option.map_some, Array.toArray_toList, hmod]
        rw [getElem!_def, hu']
    · cases hk

theorem Flat.newTr (h : SatAt Γ ρ st a w) (d : Nat) (hd : d < 1000000) {fr : Bool} (ty : Nat) {size : Nat} {es : List (List T)} {xs : List Value} (hf : Flat (if fr = true then SFof Γ st ρ w else SAof Γ st ρ w) w size es xs) (rest : List Value) :
    SatAt Γ (upd ρ d (some ⟨w.heap.size, (xs ++ rest).length, size⟩)) (st.new d (.tr fr ty size es)) a (w.alloc (.cells (xs ++ rest).toArray ty)) :=
  h.newTr d hd fr ty size es _ _ (by simp) (by simp [hf.1]) hf.2.1 fun k i e t hk hi => by
    obtain ⟨x, hx, ht⟩ := hf.2.2 k i e t hk hi
    refine ⟨x, ?_, ht⟩
    have : k * size + i < xs.length := (List.getElem?_eq_some_iff.1 hx).1
    simp only [List.getElem?_toArray]
    rw [List.getElem?_append_left this]; exact hx

theorem run_bslice {P : Program} {t e : TypeId} {len : Nat} {parts : Array (Nat × Value)} {i : TypeInfo} {zv : Value} {cells : Array Value} (hu : P.underlying t = some (.slice e)) (hi : P.info? e = some i) (hz : i.zero = some zv)
    (hsm : len * i.size ≤ 16777216) (hpos : 0 < i.size) (h1 : Instr.fill (fun j => some (j * i.size, i.size)) (madeCells zv.cells (len * i.size)) parts.toList = some cells) :
    (Instr.buildSlice t len parts).run P w = .ok (.slice (some ⟨w.heap.size, 0, none⟩) len len) (w.alloc (.cells cells e)) := by
  have hsmall : ¬ 2 ^ 24 < len * i.size := by omega
  by_cases h0 : len * i.size = 0
  · have hl0 : len = 0 := by
      rcases Nat.mul_eq_zero.1 h0 with h4 | h4
      · exact h4
      · omega
    subst hl0
    have hr : Array.range 0 = (#[] : Array Nat) := rfl
    have h1'' : Instr.fill (fun j => some (j * i.size, i.size)) #[] parts.toList = some cells := by
      simpa [madeCells, hr] using h1
    have hs' : (sizeOf e).run P w = .ok i.size w := by simp [sizeOf, typeInfo, hi]
    simp only [Instr.buildSlice, Sem.run_bind, run_underlying hu, Result.andThen_ok, hs', Nat.zero_mul]
    simp [hr, h1'', newRow]
  · exact run_buildSlice w t e len _ _ i zv hu hi hz hsmall h0 h1

theorem snd_bslice {o : Oper} {t e : TypeId} {len s : Nat} {parts : Array (Nat × Operand)} {z : List Value} (ho : o.op = .buildSlice t len parts) (hu : Γ.P.underlying t = some (.slice e)) (hsz : sizeT Γ.P e = some s)
    (hz : zeroT Γ.P e = some z) (hsm : len * s ≤ 16777216) (hpos : 0 < s) {d : Nat} (hd : d < 1000000) {st' : AS} {v : AV} (h : SatAt Γ ρ st a w)
    (hs : step (.bslice e s len z (parts.toList.map fun p => (p.1, Od.of p.2))) d st = some (st', v)) : Done Γ o a w st' v := by
  have hz' := hz
  obtain ⟨i, zv, hi, hzv, rfl, hone, hzs⟩ := zeroT_inv hz
  have hs1 : i.size = s := by simpa [sizeT, hi] using hsz
  subst hs1
  simp only [step] at hs
  split at hs
  case h_2 => cases hs
  rename_i fr es hf
  injection hs with hs
  obtain ⟨rfl, rfl⟩ := Prod.mk.inj hs
  rw [rep_get] at hf
  obtain ⟨xs', h1, h2, h3⟩ := fillT_rep h parts.toList true fr _ es _ (flat_zero (w := w) hz' hsz len) hf
  have hlen : es.length = len := by simpa using h2
  have h1' : Instr.fill (fun j => some (j * i.size, i.size)) (madeCells zv.cells (len * i.size)) (parts.map fun p => (p.1, a.eval p.2)).toList = some xs'.toArray := by
    rw [Array.toList_map]; simpa using h1
  have hrun := run_bslice (w := w) hu hi hzv (len := len) hsm hpos h1'
  have hsat := h3.newTr h d hd e []
  simp only [List.append_nil] at hsat
  have hrow : ∀ (SF SA : Nat → Prop) (W : World), CRep (upd ρ d (some ⟨w.heap.size, xs'.length, i.size⟩)) SF SA W (.row d 0 len) (.slice (some ⟨w.heap.size, 0, none⟩) len len) := by
    intro SF SA W
    have hm : len ≤ maxLen := by
      have : len ≤ len * i.size := Nat.le_mul_of_pos_right _ hpos
      unfold maxLen
      omega
    have := CRep.row (ρ := upd ρ d (some ⟨w.heap.size, xs'.length, i.size⟩)) (SF := SF) (SA := SA) (w := W) d 0 len len ⟨w.heap.size, xs'.length, i.size⟩ (upd_same _ _ _) (by rw [Nat.zero_add]; show len * i.size = xs'.length; rw [h3.1, hlen]) (Nat.le_refl _) hm
    simpa using this
  have hex : execOp a.eval o = (do pure (.value (← Instr.buildSlice t len (parts.map fun p => (p.1, a.eval p.2))))) := by
    simp only [execOp, ho]
  exact ⟨_, _, _, .inl (exec_v hex hrun), hsat, .c _ _ (hrow _ _ _), fun hq => (by rw [ho] at hq; cases hq), fun _ => Grow.of fun b hb => heap_alloc_old w _ hb⟩
end
end Go.Eng
