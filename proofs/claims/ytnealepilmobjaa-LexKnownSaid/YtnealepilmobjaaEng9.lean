/-
  The engine, part 9: operations that make memory or write it.
-/
import Derived.Test.YtnealepilmobjaaEng8
import Derived.Great.BuildSlice
import Derived.Laws.MakeOwn
set_option linter.unusedVariables false
set_option linter.unusedSimpArgs false
namespace Go.Eng
open Go.RowKit

theorem setL_length {α : Type} (l : List α) (j : Nat) (x : List α) (h : j + x.length ≤ l.length) : (setL l j x).length = l.length := by simp [setL]; omega
theorem setL_get {α : Type} (l : List α) (j : Nat) (x : List α) (h : j + x.length ≤ l.length) (i : Nat) :
    (setL l j x)[i]? = if i < j then l[i]? else if i < j + x.length then x[i - j]? else l[i]? := by
  unfold setL
  by_cases h1 : i < j
  · rw [if_pos h1, List.append_assoc, List.getElem?_append_left (by simp; omega), List.getElem?_take, if_pos h1]
  · rw [if_neg h1, List.append_assoc, List.getElem?_append_right (by simp; omega)]
    have e : (l.take j).length = j := by simp; omega
    rw [e]
    by_cases h2 : i < j + x.length
    · rw [if_pos h2, List.getElem?_append_left (by omega)]
    · rw [if_neg h2, List.getElem?_append_right (by omega), List.getElem?_drop]
      congr 1
      omega
theorem setL_nil {α : Type} (l : List α) (j : Nat) : setL l j [] = l := by simp [setL]

theorem foldl_setL : ∀ (xs : List Value) (n off : Nat) (cells : Array Value), off + n + xs.length ≤ cells.size →
    ((xs.zipIdx n).foldl (fun cs (p : Value × Nat) => cs.setIfInBounds (off + p.2) p.1) cells).toList = setL cells.toList (off + n) xs
  | [], n, off, cells, _ => by simp [setL]
  | x :: xs, n, off, cells, h => by
    have hl : off + (n + 1) + xs.length ≤ cells.size := by simp at h; omega
    have ih := foldl_setL xs (n + 1) off (cells.setIfInBounds (off + n) x) (by simpa using hl)
    simp only [List.zipIdx_cons, List.foldl_cons]
    rw [ih]
    have hstep := list_seg_step cells.toList (off + n) x xs (by simp; omega)
    simp only [setL, Array.toList_setIfInBounds, List.length_cons]
    rw [← Nat.add_assoc off n 1]
    exact hstep
theorem fill_cons {place : Nat → Option (Nat × Nat)} {cells : Array Value} {i off size : Nat} {v : Value} {rest : List (Nat × Value)} (hp : place i = some (off, size)) (hv : v.cells.size = size) (hl : off + size ≤ cells.size) :
    Instr.fill place cells ((i, v) :: rest) = Instr.fill place (setL cells.toList off v.cells.toList).toArray rest := by
  have hf : (v.cells.zipIdx.foldl (fun cs (p : Value × Nat) => cs.setIfInBounds (off + p.2) p.1) cells) = (setL cells.toList off v.cells.toList).toArray := by
    apply Array.ext'
    rw [← Array.foldl_toList, Array.toList_zipIdx]
    have := foldl_setL v.cells.toList 0 off cells (by simp; omega)
    simpa using this
  simp only [Instr.fill, hp]
  rw [if_neg (by simp; omega)]
  rw [← hf]

section
variable {Γ : Ctx} {ρ : Nat → Option RowAt} {st : AS} {a : Act} {w : World}

theorem zeroT_inv {P : Program} {e : TypeId} {z : List Value} (h : zeroT P e = some z) : ∃ i zv, P.info? e = some i ∧ i.zero = some zv ∧ z = zv.cells.toList ∧ (∀ x, x ∈ z → x.oneCell' = true) ∧ zv.cells.size = i.size := by
  unfold zeroT at h
  cases hi : P.info? e with
  | none => simp [hi] at h
  | some i =>
    cases hz : i.zero with
    | none => simp [hi, hz] at h
    | some zv =>
      simp only [hi, hz] at h
      split at h
      · rename_i hc
        injection h with h
        subst h
        exact ⟨i, zv, rfl, hz, rfl, fun x hx => List.all_eq_true.1 hc.1 x hx, hc.2⟩
      · cases h

theorem run_slcBounds {P : Program} (isSlice : Bool) (len cap : Nat) (lo hi : Option Value) (l h : Int) (hlc : len ≤ cap)
    (hlo : (lo = none ∧ l = 0) ∨ ∃ k, lo = some (.int k l)) (hhi : (hi = none ∧ h = len) ∨ ∃ k, hi = some (.int k h)) (h0 : 0 ≤ l) (h1 : l ≤ h) (h2 : h ≤ cap) (w : World) :
    (Instr.sliceBounds isSlice len cap lo hi none).run P w = .ok (l.toNat, h.toNat, cap) w := by
  have hn : 0 ≤ h := by omega
  rcases hlo with ⟨rfl, rfl⟩ | ⟨k1, rfl⟩ <;> rcases hhi with ⟨rfl, rfl⟩ | ⟨k2, rfl⟩
  · simp [Instr.sliceBounds]
  · simp [Instr.sliceBounds, Instr.sliceBound, run_asIntOf, hn, h2]
  · have h3 : l ≤ (len : Int) := h1
    simp [Instr.sliceBounds, Instr.sliceBound, run_asIntOf, h0, h3]
  · have h3 : l ≤ (h.toNat : Int) := by omega
    have h4 : ¬ max h 0 < l := by omega
    simp [Instr.sliceBounds, Instr.sliceBound, run_asIntOf, hn, h2, h0, h3, h1, h4]
    try (intro h5; omega)

theorem bnd_inv (h : SatAt Γ ρ st a w) {x : Option Operand} {d : Nat} {l : Int} (hb : bnd st (x.map Od.of) d = some l) : (x.map a.eval = none ∧ l = d) ∨ ∃ k, x.map a.eval = some (.int k l) := by
  cases x with
  | none => simp [bnd] at hb; exact .inl ⟨rfl, hb.symm⟩
  | some x =>
    simp only [Option.map_some, bnd] at hb
    obtain ⟨k, hk⟩ := (h.ev x).intInv hb
    exact .inr ⟨k, by simp [hk]⟩

theorem snd_slcS {o : Oper} {t : TypeId} {x : Operand} {lo hi : Option Operand} (ho : o.op = .slice t x lo hi none) (hu : Γ.P.underlying t = some .string) {d : Nat} {st' : AS} {v : AV} (h : SatAt Γ ρ st a w)
    (hs : step (.slcS (Od.of x) (lo.map Od.of) (hi.map Od.of)) d st = some (st', v)) : Done Γ o a w st' v := by
  simp only [step] at hs
  split at hs
  case h_2 => cases hs
  rename_i s hx
  split at hs
  case h_2 => cases hs
  rename_i l hh hl hh'
  obtain ⟨⟨h0, h1, h2⟩, he⟩ := need_some hs
  injection he with he
  obtain ⟨rfl, rfl⟩ := Prod.mk.inj he
  have e1 := (h.ev x).valInv hx
  have hb := fun W : World => run_slcBounds (P := Γ.P) false s.size s.size _ _ l hh (Nat.le_refl _) (bnd_inv h hl) (bnd_inv h hh') h0 h1 h2 W
  refine Done.same h (fun W hW => exec_v (s := Instr.sliceAt t (a.eval x) (lo.map a.eval) (hi.map a.eval) none) (by simp [execOp, ho]) ?_) (scal_rep rfl)
  rw [e1]
  simp only [Instr.sliceAt, Sem.run_bind, run_underlying hu, Result.andThen_ok, Instr.slice]
  simp [hb]

theorem snd_slc {o : Oper} {t e : TypeId} {s : Nat} {x : Operand} {lo hi : Option Operand} (ho : o.op = .slice t x lo hi none) (hu : Γ.P.underlying t = some (.slice e)) (hsz : sizeT Γ.P e = some s) {d : Nat} {st' : AS} {v : AV} (h : SatAt Γ ρ st a w)
    (hs : step (.slc s (Od.of x) (lo.map Od.of) (hi.map Od.of)) d st = some (st', v)) : Done Γ o a w st' v := by
  have hev := h.ev x
  have hrun : ∀ (w : World) A n cap (l hh : Int), a.eval x = .slice A n cap → n ≤ cap → ((lo.map a.eval = none ∧ l = (0 : Nat)) ∨ ∃ k, lo.map a.eval = some (.int k l)) → ((hi.map a.eval = none ∧ hh = n) ∨ ∃ k, hi.map a.eval = some (.int k hh)) →
      0 ≤ l → l ≤ hh → hh ≤ cap → (Instr.sliceAt t (a.eval x) (lo.map a.eval) (hi.map a.eval) none).run Γ.P w =
        .ok (.slice (if cap = l.toNat then A else A.map (·.add (l.toNat * s))) (hh.toNat - l.toNat) (cap - l.toNat)) w := by
    intro w A n cap l hh h1 h2 h3 h4 h5 h6 h7
    have hb := run_slcBounds (P := Γ.P) true n cap _ _ l hh h2 h3 h4 h5 h6 h7 w
    rw [h1]
    simp only [Instr.sliceAt, Sem.run_bind, run_underlying hu, Result.andThen_ok, Instr.slice]
    simp [hb, run_sizeOf hsz]
  simp only [step] at hs
  split at hs
  · rename_i r off n hx
    split at hs
    case h_2 => cases hs
    rename_i fr ty sz es hrow
    split at hs
    case h_2 => cases hs
    rename_i l hh hl hh'
    obtain ⟨⟨rfl, h0, h1, h2⟩, he⟩ := need_some hs
    injection he with he
    obtain ⟨rfl, rfl⟩ := Prod.mk.inj he
    rw [hx] at hev
    have hl' := bnd_inv h hl
    have hh2 := bnd_inv h hh'
    rcases hev.cInv.rowInv with ⟨la, cap, hla, hc', hb, hn, hm⟩ | ⟨rfl, A, hc'⟩
    · have hss : la.size = sz := by
        have := h.rows r _ hrow
        cases this with
        | nil _ _ _ hnil => rw [hnil] at hla; cases hla
        | tr _ _ _ _ la1 cur hl1 hss => rw [hl1] at hla; injection hla with hla; subst hla; exact hss
      have hr := fun W : World => hrun W _ _ _ l hh hc' hn hl' hh2 h0 h1 (by omega)
      refine Done.same h (fun W hW => exec_v (s := Instr.sliceAt t (a.eval x) (lo.map a.eval) (hi.map a.eval) none) (by simp [execOp, ho]) (hr W)) (.c _ _ ?_)
      by_cases hcl : cap = l.toNat
      · rw [if_pos hcl]
        have e1 : hh.toNat - l.toNat = 0 := by omega
        have e2 : cap - l.toNat = 0 := by omega
        rw [e1, e2]
        exact .row0 r _ _
      · rw [if_neg hcl]
        simp only [Option.map_some, addr_add]
        have : off * la.size + l.toNat * sz = (off + l.toNat) * la.size := by rw [hss, Nat.add_mul]
        rw [this]
        exact .row r (off + l.toNat) _ _ la hla (by rw [← hb]; congr 1; omega) (by omega) (by omega)
    · have hr := fun W : World => hrun W _ _ _ l hh hc' (Nat.le_refl _) hl' hh2 h0 h1 (by omega)
      have e1 : hh.toNat - l.toNat = 0 := by omega
      have e2 : l.toNat = 0 := by omega
      refine Done.same h (fun W hW => exec_v (s := Instr.sliceAt t (a.eval x) (lo.map a.eval) (hi.map a.eval) none) (by simp [execOp, ho]) (hr W)) (.c _ _ ?_)
      rw [e1, e2]
      exact .row0 r _ _
  · rename_i fr sz es hx
    split at hs
    case h_2 => cases hs
    rename_i l hh hl hh'
    obtain ⟨⟨rfl, h0, h1, h2⟩, he⟩ := need_some hs
    injection he with he
    obtain ⟨rfl, rfl⟩ := Prod.mk.inj he
    rw [hx] at hev
    have hl' := bnd_inv h hl
    have hh2 := bnd_inv h hh'
    obtain ⟨A, cap, f, hc', hcap, hm, hz, hA, hf⟩ := hev.cInv.slInv
    have hr := fun W : World => hrun W _ _ _ l hh hc' hcap hl' hh2 h0 h1 (by omega)
    have hlen : ((es.drop l.toNat).take (hh.toNat - l.toNat)).length = hh.toNat - l.toNat := by simp; omega
    refine Done.same h (fun W hW => exec_v (s := Instr.sliceAt t (a.eval x) (lo.map a.eval) (hi.map a.eval) none) (by simp [execOp, ho]) (hr W)) (.c _ _ (.t _ _ _ ?_))
    have hgoal := TRep.sl (S := if fr = true then SFof Γ st ρ w else SAof Γ st ρ w) (w := w) sz ((es.drop l.toNat).take (hh.toNat - l.toNat)) (if cap = l.toNat then A else A.map (·.add (l.toNat * sz))) (cap - l.toNat)
      (fun k i => f (l.toNat + k) i) (by rw [hlen]; omega) (by omega) (fun e he => hz e (List.mem_of_mem_drop (List.mem_of_mem_take he))) ?_ ?_
    · rw [hlen] at hgoal; exact hgoal
    · by_cases hz0 : hh.toNat - l.toNat = 0
      · exact .inl (by rw [hz0]; simp)
      · rcases hA with h3 | ⟨b, o', rfl, hb, hcell⟩
        · subst h3; simp at h2; omega
        · refine .inr ⟨b, o' + l.toNat * sz, ?_, hb, fun k i hk hi => ?_⟩
          · rw [if_neg (by omega)]
            simp [addr_add]
          · rw [hlen] at hk
            have := hcell (l.toNat + k) i (by omega) hi
            rw [← this]
            congr 2
            rw [Nat.add_mul]; omega
    · intro k i e t hk hi
      rw [List.getElem?_take] at hk
      split at hk
      · rw [List.getElem?_drop] at hk
        exact hf _ i e t hk hi
      · cases hk
  · cases hs

theorem snd_alloc {o : Oper} {e : TypeId} {z : List Value} (ho : o.op = .alloc e) (hz : zeroT Γ.P e = some z) {d : Nat} (hd : d < 1000000) {st' : AS} {v : AV} (h : SatAt Γ ρ st a w)
    (hs : step (.alloc e z) d st = some (st', v)) : Done Γ o a w st' v := by
  simp only [step] at hs
  injection hs with hs
  obtain ⟨rfl, rfl⟩ := Prod.mk.inj hs
  obtain ⟨i, zv, hi, hzv, rfl, hone, hsz⟩ := zeroT_inv hz
  have hrun : (execOp a.eval o).run Γ.P w = .ok (.value (.pointer (some ⟨w.heap.size, 0, none⟩))) (w.alloc (.cells zv.cells e)) :=
    exec_v (s := Instr.alloc e true (.tuple #[])) (by simp [execOp, ho]) (by simp [Instr.alloc, zeroValue, typeInfo, hi, hzv, newVar, newRow])
  refine ⟨_, _, upd ρ d (some ⟨w.heap.size, zv.cells.size, zv.cells.size⟩), .inl hrun, ?_, ?_, fun hq => (by rw [ho] at hq; cases hq), fun _ => Grow.of fun b hb => heap_alloc_old w _ hb⟩
  · refine h.renew d hd _ _ (fun la hla => by injection hla with hla; subst hla; exact .inl (Nat.le_refl _)) rfl rfl rfl (by simp) (fun la hla => by injection hla with hla; subst hla; simp)
      (fun b hb hne => heap_alloc_old w _ hb) fun hF hA hwF hwA => ?_
    refine .bx e _ _ zv.cells (upd_same _ _ _) (by simp) (heap_alloc_new w _) (by simp) fun j c hc => ?_
    rw [List.getElem?_map] at hc
    cases hj : zv.cells.toList[j]? with
    | none => simp [hj] at hc
    | some x =>
      simp [hj] at hc
      subst hc
      exact ⟨x, by simpa using hj, .t _ _ _ (.v x (hone x (List.mem_of_getElem? hj)))⟩
  · have := CRep.ptr (ρ := upd ρ d (some ⟨w.heap.size, zv.cells.size, zv.cells.size⟩)) (SF := SFof Γ (st.new d (.bx e (zv.cells.toList.map fun v => .t true (.v v)))) (upd ρ d (some ⟨w.heap.size, zv.cells.size, zv.cells.size⟩)) (w.alloc (.cells zv.cells e)))
      (SA := SAof Γ (st.new d (.bx e (zv.cells.toList.map fun v => .t true (.v v)))) (upd ρ d (some ⟨w.heap.size, zv.cells.size, zv.cells.size⟩)) (w.alloc (.cells zv.cells e))) (w := w.alloc (.cells zv.cells e)) d 0 0 ⟨w.heap.size, zv.cells.size, zv.cells.size⟩ (upd_same _ _ _)
    simp at this
    exact .c _ _ this

theorem snd_box {o : Oper} {e : TypeId} {x : Operand} (ho : o.op = .box e x) {d : Nat} (hd : d < 1000000) {st' : AS} {v : AV} (h : SatAt Γ ρ st a w)
    (hs : step (.box e (Od.of x)) d st = some (st', v)) : Done Γ o a w st' v := by
  have hev := h.ev x
  simp only [step] at hs
  split at hs
  case h_2 => cases hs
  rename_i cs hcs
  injection hs with hs
  obtain ⟨rfl, rfl⟩ := Prod.mk.inj hs
  obtain ⟨hl, hc⟩ := hev.cellsInv hcs
  have hrun : (execOp a.eval o).run Γ.P w = .ok (.value (.pointer (some ⟨w.heap.size, 0, none⟩))) (w.alloc (.cells (a.eval x).cells e)) :=
    exec_v (s := Instr.box e (a.eval x)) (by simp [execOp, ho]) (by simp [Instr.box, newVar, newRow])
  refine ⟨_, _, upd ρ d (some ⟨w.heap.size, cs.length, cs.length⟩), .inl hrun, ?_, ?_, fun hq => (by rw [ho] at hq; cases hq), fun _ => Grow.of fun b hb => heap_alloc_old w _ hb⟩
  · refine h.renew d hd _ _ (fun la hla => by injection hla with hla; subst hla; exact .inl (Nat.le_refl _)) rfl rfl rfl (by simp) (fun la hla => by injection hla with hla; subst hla; simp)
      (fun b hb hne => heap_alloc_old w _ hb) fun hF hA hwF hwA => ?_
    refine .bx e _ _ (a.eval x).cells (upd_same _ _ _) (by simp) (heap_alloc_new w _) (by simpa using hl) fun j c hcj => ?_
    rw [List.getElem?_map] at hcj
    cases hj : cs[j]? with
    | none => simp [hj] at hcj
    | some c0 =>
      simp [hj] at hcj
      subst hcj
      have hlt : j < (a.eval x).cells.size := by rw [hl]; exact (List.getElem?_eq_some_iff.1 hj).1
      have := hc j c0 hj
      refine ⟨(a.eval x).cells[j], by simp [hlt], ?_⟩
      have he : (a.eval x).cells.getD j undef = (a.eval x).cells[j] := by simp [Array.getD, hlt]
      rw [he] at this
      exact (this.mono rfl hF hA hwF hwA).kill (upd_other _ _ _)
  · have := CRep.ptr (ρ := upd ρ d (some ⟨w.heap.size, cs.length, cs.length⟩)) (SF := SFof Γ (st.new d (.bx e (cs.map (kill d)))) (upd ρ d (some ⟨w.heap.size, cs.length, cs.length⟩)) (w.alloc (.cells (a.eval x).cells e)))
      (SA := SAof Γ (st.new d (.bx e (cs.map (kill d)))) (upd ρ d (some ⟨w.heap.size, cs.length, cs.length⟩)) (w.alloc (.cells (a.eval x).cells e))) (w := w.alloc (.cells (a.eval x).cells e)) d 0 0 ⟨w.heap.size, cs.length, cs.length⟩ (upd_same _ _ _)
    simp at this
    exact .c _ _ this
end
end Go.Eng
