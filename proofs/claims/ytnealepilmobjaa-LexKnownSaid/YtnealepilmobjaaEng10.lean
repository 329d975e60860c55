/-
  The engine, part 10: literals, stores, make.
-/
import Derived.Test.YtnealepilmobjaaEng9
set_option linter.unusedVariables false
set_option linter.unusedSimpArgs false
namespace Go.Eng
open Go.RowKit

section
variable {Γ : Ctx} {ρ : Nat → Option RowAt} {st : AS} {a : Act} {w : World}

theorem getD_toList (xs : Array Value) (i : Nat) : xs.getD i undef = xs.toList.getD i undef := by simp [Array.getD_eq_getD_getElem?, List.getD_eq_getElem?_getD]

/-- a literal's parts, laid one behind the other -/
theorem fillC_rep (h : SatAt Γ ρ st a w) {place : Nat → Option (Nat × Nat)} : ∀ (parts : List (Nat × Operand)) (l : List (Nat × Nat × Od)) (cs cs' : List C) (cells : Array Value),
    (∀ (k : Nat) (p : Nat × Operand), parts[k]? = some p → ∃ q, l[k]? = some q ∧ place p.1 = some (q.1, q.2.1) ∧ q.2.2 = Od.of p.2) → l.length = parts.length → cells.size = cs.length →
    (∀ (i : Nat) (c : C), cs[i]? = some c → CRep ρ (SFof Γ st ρ w) (SAof Γ st ρ w) w c (cells.getD i undef)) → fillC st cs l = some cs' →
    ∃ cells', Instr.fill place cells (parts.map fun p => (p.1, a.eval p.2)) = some cells' ∧ cells'.size = cs'.length ∧ cs'.length = cs.length ∧
      ∀ (i : Nat) (c : C), cs'[i]? = some c → CRep ρ (SFof Γ st ρ w) (SAof Γ st ρ w) w c (cells'.getD i undef)
  | [], l, cs, cs', cells, hp, hl, hsz, hc, hf => by
    have : l = [] := List.eq_nil_of_length_eq_zero (by simpa using hl)
    subst this
    simp [fillC] at hf
    subst hf
    exact ⟨cells, rfl, hsz, rfl, hc⟩
  | (i, x) :: parts, l, cs, cs', cells, hp, hl, hsz, hc, hf => by
    match l, hl with
    | (off, size, y) :: l, hl =>
      obtain ⟨q, hq, hpl, hy⟩ := hp 0 (i, x) rfl
      simp at hq
      subst hq
      simp at hpl hy
      subst hy
      simp only [fillC] at hf
      split at hf
      case h_2 => cases hf
      rename_i ds hds
      obtain ⟨⟨hd1, hd2⟩, hf⟩ := need_some hf
      obtain ⟨hv1, hv2⟩ := (h.ev x).cellsInv hds
      have hfit : off + (a.eval x).cells.toList.length ≤ cells.toList.length := by simp; omega
      have hfitc : off + ds.length ≤ cs.length := by omega
      have ih := fillC_rep h parts l (setL cs off ds) cs' (setL cells.toList off (a.eval x).cells.toList).toArray
        (fun k p hk => hp (k + 1) p (by simpa using hk)) (by simpa using hl) (by simp [setL_length _ _ _ hfit, setL_length _ _ _ hfitc, hsz]) (fun j c hj => ?_) hf
      · obtain ⟨cells', h1, h2, h3, h4⟩ := ih
        refine ⟨cells', ?_, h2, by rw [h3, setL_length _ _ _ hfitc], h4⟩
        simp only [List.map_cons]
        rw [fill_cons hpl (by omega) (by omega)]
        exact h1
      · rw [getD_toList, List.getD_eq_getElem?_getD]
        simp only [List.toList_toArray]
        rw [setL_get _ _ _ hfit]
        rw [setL_get _ _ _ hfitc] at hj
        have hlen : (a.eval x).cells.toList.length = ds.length := by simpa using hv1
        rw [hlen]
        by_cases h1 : j < off
        · rw [if_pos h1] at hj ⊢
          have := hc j c hj
          rwa [getD_toList, List.getD_eq_getElem?_getD] at this
        · rw [if_neg h1] at hj ⊢
          by_cases h2 : j < off + ds.length
          · rw [if_pos h2] at hj ⊢
            have := hv2 (j - off) c hj
            rwa [getD_toList, List.getD_eq_getElem?_getD] at this
          · rw [if_neg h2] at hj ⊢
            have := hc j c hj
            rwa [getD_toList, List.getD_eq_getElem?_getD] at this

theorem zero_rep {z : List Value} (hone : ∀ x, x ∈ z → x.oneCell' = true) {SF SA : Nat → Prop} (i : Nat) (c : C) (hc : (z.map fun v => C.t true (.v v))[i]? = some c) : CRep ρ SF SA w c (z.toArray.getD i undef) := by
  rw [List.getElem?_map] at hc
  cases hj : z[i]? with
  | none => simp [hj] at hc
  | some x =>
    simp [hj] at hc
    subst hc
    have : z.toArray.getD i undef = x := by rw [getD_toList, List.getD_eq_getElem?_getD]; simp [hj]
    rw [this]
    exact .t _ _ _ (.v x (hone x (List.mem_of_getElem? hj)))

theorem snd_build {o : Oper} {t : TypeId} {parts : Array (Nat × Operand)} {z : List Value} {l : List (Nat × Nat × Od)} (ho : o.op = .build t parts) (hz : zeroT Γ.P t = some z)
    (hpl : ∃ place, (∀ (k : Nat) (p : Nat × Operand), parts.toList[k]? = some p → ∃ q, l[k]? = some q ∧ place p.1 = some (q.1, q.2.1) ∧ q.2.2 = Od.of p.2) ∧ l.length = parts.toList.length ∧
      ∀ ps, Γ.P.built t ps = Instr.fill place z.toArray ps) {d : Nat} {st' : AS} {v : AV} (h : SatAt Γ ρ st a w)
    (hs : step (.build z l) d st = some (st', v)) : Done Γ o a w st' v := by
  obtain ⟨place, hp1, hp2, hp3⟩ := hpl
  obtain ⟨i, zv, hi, hzv, rfl, hone, hsz⟩ := zeroT_inv hz
  simp only [step] at hs
  split at hs
  case h_2 => cases hs
  rename_i cs hcs
  injection hs with hs
  obtain ⟨rfl, rfl⟩ := Prod.mk.inj hs
  obtain ⟨cells', h1, h2, h3, h4⟩ := fillC_rep h (place := place) parts.toList l _ cs zv.cells.toList.toArray hp1 hp2 (by simp) (fun i c hc => zero_rep hone i c hc) hcs
  have hb : Γ.P.built t (parts.map fun p => (p.1, a.eval p.2)).toList = some cells' := by rw [hp3, Array.toList_map]; exact h1
  refine Done.same h (fun W hW => exec_v (s := Instr.build t (parts.map fun p => (p.1, a.eval p.2))) (x := .agg cells') (by simp [execOp, ho]) (run_build W t _ cells' hb)) (.agg cs _ h2 h4)

theorem ofParts_inv {places : List (Nat × Nat)} : ∀ {parts : List (Nat × Operand)} {l : List (Nat × Nat × Od)}, ofParts places parts = some l →
    (∀ (k : Nat) (p : Nat × Operand), parts[k]? = some p → ∃ q, l[k]? = some q ∧ places[p.1]? = some (q.1, q.2.1) ∧ q.2.2 = Od.of p.2) ∧ l.length = parts.length
  | [], l, h => by simp [ofParts] at h; subst h; simp
  | (i, x) :: parts, l, h => by
    simp only [ofParts] at h
    split at h
    · rename_i off s l' hi hl
      injection h with h
      subst h
      obtain ⟨i1, i2⟩ := ofParts_inv hl
      refine ⟨fun k p hk => ?_, by simp [i2]⟩
      cases k with
      | zero => simp at hk; subst hk; exact ⟨_, rfl, hi, rfl⟩
      | succ k => simpa using i1 k p (by simpa using hk)
    · cases h

/-- the state behind a new row of trees -/
theorem SatAt.newTr (h : SatAt Γ ρ st a w) (d : Nat) (hd : d < 1000000) (fr : Bool) (ty size : Nat) (es : List (List T)) (cur : Array Value) (tot : Nat) (htot : cur.size = tot) (hl : es.length * size ≤ cur.size) (hz : ∀ e, e ∈ es → e.length = size)
    (hf : ∀ (k i : Nat) (e : List T) (t : T), es[k]? = some e → e[i]? = some t → ∃ x, cur[k * size + i]? = some x ∧ TRep (if fr = true then SFof Γ st ρ w else SAof Γ st ρ w) w t x) :
    SatAt Γ (upd ρ d (some ⟨w.heap.size, tot, size⟩)) (st.new d (.tr fr ty size es)) a (w.alloc (.cells cur ty)) := by
  refine h.renew d hd _ _ (fun la hla => by injection hla with hla; subst hla; exact .inl (Nat.le_refl _)) rfl rfl rfl (by simp) (fun la hla => by injection hla with hla; subst hla; simp)
    (fun b hb hne => heap_alloc_old w _ hb) fun hF hA hwF hwA => ?_
  refine .tr fr ty size es _ cur (upd_same _ _ _) rfl (heap_alloc_new w _) htot (by rw [← htot]; exact hl) hz fun k i e t hk hi => ?_
  obtain ⟨x, hx, hxt⟩ := hf k i e t hk hi
  refine ⟨x, hx, ?_⟩
  cases fr
  · exact hxt.mono (by simpa using hA) (by simpa using hwA)
  · exact hxt.mono (by simpa using hF) (by simpa using hwF)

theorem snd_mksl {o : Oper} {t e : TypeId} {x y : Operand} {s b : Nat} {z : List Value} (ho : o.op = .makeSlice t x y) (hu : Γ.P.underlying t = some (.slice e)) (hsz : sizeT Γ.P e = some s) (hby : bytesT Γ.P e = some b)
    (hz : zeroT Γ.P e = some z) (hpos : 0 < s) {d : Nat} (hd : d < 1000000) {st' : AS} {v : AV} (h : SatAt Γ ρ st a w)
    (hs : step (.mksl e s b z (Od.of x) (Od.of y)) d st = some (st', v)) : Done Γ o a w st' v := by
  obtain ⟨i, zv, hi, hzv, rfl, hone, hzs⟩ := zeroT_inv hz
  have hs1 : i.size = s := by simpa [sizeT, hi] using hsz
  have hb1 : i.bytes = b := by simpa [bytesT, hi] using hby
  simp only [step] at hs
  split at hs
  case h_2 => cases hs
  rename_i n m hn hm
  obtain ⟨⟨h0, h1, h2, h3⟩, he⟩ := need_some hs
  injection he with he
  obtain ⟨rfl, rfl⟩ := Prod.mk.inj he
  obtain ⟨k1, e1⟩ := (h.ev x).intInv hn
  obtain ⟨k2, e2⟩ := (h.ev y).intInv hm
  have hr := run_make (P := Γ.P) w t e i zv hu hi hzv k1 k2 n m h0 h1 (by rw [hb1, Int.mul_comm]; omega) h3
  have hrun := exec_v (o := o) (a := a) (P := Γ.P) (w := w) (s := Instr.makeSlice t (a.eval x) (a.eval y)) (by simp [execOp, ho]) (by rw [e1, e2]; exact hr)
  have hcsz : (madeCells zv.cells (m.toNat * i.size)).size = m.toNat * s := by rw [size_madeCells, hs1]
  refine ⟨_, _, upd ρ d (some ⟨w.heap.size, m.toNat * s, s⟩), .inl hrun, h.newTr d hd true e s _ _ (m.toNat * s) hcsz ?_ ?_ ?_, ?_, fun hq => (by rw [ho] at hq; cases hq), fun _ => Grow.of fun b hb => heap_alloc_old w _ hb⟩
  · rw [hcsz]; simp; exact Nat.mul_le_mul_right _ (by omega)
  · intro e he
    have := List.eq_of_mem_replicate he
    subst this
    simp; omega
  · intro k j e t hk hj
    rw [List.getElem?_replicate] at hk
    split at hk
    · rename_i hkn
      injection hk with hk
      subst hk
      rw [List.getElem?_map] at hj
      cases hq : zv.cells.toList[j]? with
      | none => simp [hq] at hj
      | some u =>
        simp [hq] at hj
        subst hj
        have hjs : j < zv.cells.size := by simpa using (List.getElem?_eq_some_iff.1 hq).1
        have hlt : k * s + j < m.toNat * i.size := by
          rw [hs1]
          calc k * s + j < k * s + s := by omega
            _ = (k + 1) * s := by rw [Nat.add_mul]; simp
            _ ≤ m.toNat * s := Nat.mul_le_mul_right _ (by omega)
        have hmod : (k * s + j) % zv.cells.size = j := by
          rw [hzs, hs1, Nat.add_comm, Nat.add_mul_mod_self_right]
          exact Nat.mod_eq_of_lt (by omega)
        refine ⟨u, ?_, .v u (hone u (List.mem_of_getElem? hq))⟩
        have hu' : zv.cells[j]? = some u := by simpa using hq
        simp only [madeCells, Array.getElem?_map, Array.getElem?_range, hlt, if_true, Option.map_some, hmod]
        rw [getElem!_def, hu']
    · cases hk
  · have hrow := CRep.row (ρ := upd ρ d (some ⟨w.heap.size, m.toNat * s, s⟩)) (SF := SFof Γ (st.new d (.tr true e s (List.replicate n.toNat (zv.cells.toList.map .v)))) (upd ρ d (some ⟨w.heap.size, m.toNat * s, s⟩)) (w.alloc (.cells (madeCells zv.cells (m.toNat * i.size)) e)))
      (SA := SAof Γ (st.new d (.tr true e s (List.replicate n.toNat (zv.cells.toList.map .v)))) (upd ρ d (some ⟨w.heap.size, m.toNat * s, s⟩)) (w.alloc (.cells (madeCells zv.cells (m.toNat * i.size)) e)))
      (w := w.alloc (.cells (madeCells zv.cells (m.toNat * i.size)) e)) d 0 n.toNat m.toNat ⟨w.heap.size, m.toNat * s, s⟩ (upd_same _ _ _) (by simp) (by omega) (by simp [maxLen]; omega)
    simp only [Nat.zero_mul] at hrow
    exact .c _ _ hrow
end
end Go.Eng
