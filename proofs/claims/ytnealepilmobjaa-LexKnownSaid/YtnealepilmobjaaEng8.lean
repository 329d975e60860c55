/-
  The engine, part 8: operations on places: fields, indexes, slices of slices, parts.
-/
import Derived.Test.YtnealepilmobjaaEng7
set_option linter.unusedVariables false
set_option linter.unusedSimpArgs false
namespace Go.Eng
open Go.RowKit

theorem addr_add (b o n : Nat) : (⟨b, o, none⟩ : Addr).add n = ⟨b, o + n, none⟩ := by unfold Addr.add; split <;> simp_all

section
variable {Γ : Ctx} {ρ : Nat → Option RowAt} {st : AS} {a : Act} {w : World}

theorem snd_ext {o : Oper} {x : Operand} {i : Nat} (ho : o.op = .extract x i) {d : Nat} {st' : AS} {v : AV} (h : SatAt Γ ρ st a w) (hs : step (.ext (Od.of x) i) d st = some (st', v)) : Done Γ o a w st' v := by
  have hev := h.ev x
  simp only [step] at hs
  split at hs
  case h_2 => cases hs
  rename_i vs hx
  split at hs
  case h_2 => cases hs
  rename_i v1 hv1
  injection hs with hs
  obtain ⟨rfl, rfl⟩ := Prod.mk.inj hs
  rw [hx] at hev
  cases hc' : a.eval x with
  | tuple xs =>
    rw [hc'] at hev
    cases hev with
    | tup _ _ hsz hh =>
      have hi : i < xs.size := by rw [hsz]; exact (List.getElem?_eq_some_iff.1 hv1).1
      have := hh i v1 hv1
      have hr : ∀ W, (execOp a.eval o).run Γ.P W = .ok (.value xs[i]) W := fun W => exec_v (s := Instr.extract (a.eval x) i) (x := xs[i]) (by simp [execOp, ho]) (by rw [hc']; simp [Instr.extract, hi])
      refine Done.same h (fun W _ => hr W) ?_
      simpa [Array.getD_eq_getD_getElem?, hi] using this
  | _ => rw [hc'] at hev; cases hev

theorem run_sizeOf {P : Program} {t : TypeId} {s : Nat} (h : sizeT P t = some s) (w : World) : (sizeOf t).run P w = .ok s w := by
  unfold sizeT at h
  cases hi : P.info? t with
  | none => simp [hi] at h
  | some i => simp [hi] at h; subst h; simp [sizeOf, typeInfo, hi]
theorem run_isAgg {P : Program} {t : TypeId} {g : Bool} (h : aggT P t = some g) (w : World) : (isAgg t).run P w = .ok g w := by
  unfold aggT at h
  cases hu : P.underlying t with
  | none => simp [hu] at h
  | some d =>
    simp only [hu] at h
    unfold isAgg
    rw [Sem.run_bind, run_underlying hu w]
    cases d <;> simp_all

theorem run_part {P : Program} {t : TypeId} {g : Bool} {s : Nat} (hg : aggT P t = some g) (hs : sizeT P t = some s) (hok : g = true ∨ s = 1) (cs : Array Value) (off : Nat) (hl : off + s ≤ cs.size) (w : World) :
    (part t cs off).run P w = .ok (if g = true then .agg ((cs.toList.drop off).take s).toArray else ((cs.toList.drop off).take s).getD 0 undef) w := by
  cases g
  · have h1 : s = 1 := by simpa using hok
    subst h1
    have hlt : off < cs.size := by omega
    simp [part, run_isAgg hg, hlt, List.getD_eq_getElem?_getD]
  · simp only [part, Sem.run_bind, run_isAgg hg, Result.andThen_ok, if_true, run_sizeOf hs, Sem.run_pure]
    congr 2
    apply Array.ext'
    simp [Array.toList_extract, List.extract_eq_take_drop]
theorem part_rep {R : C → Value → Prop} {g : Bool} {s : Nat} (hok : g = true ∨ s = 1) {cs : List C} {xs : Array Value} (off : Nat) (hl : off + s ≤ cs.length) (hsz : xs.size = cs.length)
    (h : ∀ (i : Nat) (c : C), cs[i]? = some c → R c (xs.getD i undef)) :
    AVRep R (mkAV g ((cs.drop off).take s)) (if g = true then .agg ((xs.toList.drop off).take s).toArray else ((xs.toList.drop off).take s).getD 0 undef) := by
  refine mkAV_rep hok (by simp; omega) (by simp; omega) fun i c hc => ?_
  rw [List.getElem?_take] at hc
  split at hc
  · rename_i hlt
    rw [List.getElem?_drop] at hc
    have := h (off + i) c hc
    simpa [List.getD_eq_getElem?_getD, List.getElem?_take, hlt, List.getElem?_drop, Array.getD_eq_getD_getElem?] using this
  · cases hc

theorem snd_fld {o : Oper} {t : TypeId} {x : Operand} {i : Nat} {fs : Array Field} {f : Field} {g : Bool} {s : Nat} (ho : o.op = .field t x i) (hu : Γ.P.underlying t = some (.struct fs)) (hf : fs[i]? = some f)
    (hg : aggT Γ.P f.type = some g) (hsz : sizeT Γ.P f.type = some s) (hok : g = true ∨ s = 1) {d : Nat} {st' : AS} {v : AV} (h : SatAt Γ ρ st a w)
    (hs : step (.fld g s f.offset (Od.of x)) d st = some (st', v)) : Done Γ o a w st' v := by
  have hev := h.ev x
  simp only [step] at hs
  split at hs
  case h_2 => cases hs
  rename_i cs hx
  obtain ⟨hle, he⟩ := need_some hs
  injection he with he
  obtain ⟨rfl, rfl⟩ := Prod.mk.inj he
  rw [hx] at hev
  cases hc' : a.eval x with
  | agg xs =>
    rw [hc'] at hev
    cases hev with
    | agg _ _ hl hh =>
      exact Done.same h (fun W hW => exec_v (s := Instr.field t (a.eval x) i) (by simp [execOp, ho]) (by
        rw [hc']
        simp only [Instr.field, Sem.run_bind, run_underlying hu, Result.andThen_ok, hf, asAgg, Sem.run_pure]
        exact run_part hg hsz hok xs f.offset (by omega) W)) (part_rep hok _ hle hl hh)
  | _ => rw [hc'] at hev; cases hev

theorem snd_fad {o : Oper} {t : TypeId} {x : Operand} {i : Nat} {fs : Array Field} {f : Field} {s : Nat} (ho : o.op = .fieldAddr t x i) (hu : Γ.P.underlying t = some (.struct fs)) (hf : fs[i]? = some f)
    (hsz : sizeT Γ.P f.type = some s) (hs0 : s ≠ 0) {d : Nat} {st' : AS} {v : AV} (h : SatAt Γ ρ st a w)
    (hs : step (.fad f.offset (Od.of x)) d st = some (st', v)) : Done Γ o a w st' v := by
  have hev := h.ev x
  have hrun : ∀ (w : World) p, a.eval x = .pointer (some p) → (Instr.fieldAt t (a.eval x) i).run Γ.P w = .ok (.pointer (some (p.add f.offset))) w := by
    intro w p hp
    rw [hp]
    simp [Instr.fieldAt, run_underlying hu, hf, Instr.sureAddr, fieldPlace, run_sizeOf hsz, hs0]
  simp only [step] at hs
  split at hs
  · rename_i r k j hx
    injection hs with hs
    obtain ⟨rfl, rfl⟩ := Prod.mk.inj hs
    rw [hx] at hev
    have hc := hev.cInv
    cases hc' : a.eval x with
    | pointer p =>
      rw [hc'] at hc
      cases hc with
      | ptr _ _ _ la hla =>
        have hr := fun W : World => hrun W _ hc'
        simp only [addr_add] at hr
        refine Done.same h (fun W hW => exec_v (s := Instr.fieldAt t (a.eval x) i) (by simp [execOp, ho]) (hr W)) ?_
        rw [Nat.add_assoc]
        exact .c _ _ (.ptr r k (j + f.offset) la hla)
    | _ => rw [hc'] at hc; cases hc
  · rename_i fr ts hx
    injection hs with hs
    obtain ⟨rfl, rfl⟩ := Prod.mk.inj hs
    rw [hx] at hev
    have hc := hev.cInv
    cases hc' : a.eval x with
    | pointer p =>
      rw [hc'] at hc
      cases hc with
      | elt _ _ b o' g hb hcell hf' =>
        have hr := fun W : World => hrun W _ hc'
        simp only [addr_add] at hr
        refine Done.same h (fun W hW => exec_v (s := Instr.fieldAt t (a.eval x) i) (by simp [execOp, ho]) (hr W)) ?_
        refine .c _ _ (.elt fr _ b _ (fun n => g (f.offset + n)) hb (fun n hn => ?_) (fun n t ht => ?_))
        · rw [Nat.add_assoc]
          exact hcell _ (by simp at hn; omega)
        · rw [List.getElem?_drop] at ht
          exact hf' _ t ht
    | _ => rw [hc'] at hc; cases hc
  · cases hs

theorem run_asIntOf {P : Program} (k : IntKind) (n : Int) (w : World) : (asIntOf (.int k n)).run P w = .ok (k, n) w := rfl

theorem snd_iad {o : Oper} {t e : TypeId} {x y : Operand} {s : Nat} (ho : o.op = .indexAddr t x y) (hu : Γ.P.underlying t = some (.slice e))
    (hsz : sizeT Γ.P e = some s) {d : Nat} {st' : AS} {v : AV} (h : SatAt Γ ρ st a w)
    (hs : step (.iad s (Od.of x) (Od.of y)) d st = some (st', v)) : Done Γ o a w st' v := by
  have hev := h.ev x
  have hrun : ∀ (w : World) ad n c k (i : Int), a.eval x = .slice (some ad) n c → a.eval y = .int k i → 0 ≤ i → i < n →
      (Instr.indexAt t (a.eval x) (a.eval y)).run Γ.P w = .ok (.pointer (some (ad.add (i.toNat * s)))) w := by
    intro w ad n c k i h1 h2 h3 h4
    rw [h1, h2]
    simp [Instr.indexAt, run_asIntOf, run_underlying hu, h3, h4, run_sizeOf hsz]
  simp only [step] at hs
  split at hs
  · rename_i r off n k hx hk
    obtain ⟨k1, e2⟩ := (h.ev y).intInv hk
    split at hs
    case h_2 => cases hs
    rename_i fr ty sz es hrow
    obtain ⟨⟨rfl, hk0, hkn⟩, he⟩ := need_some hs
    injection he with he
    obtain ⟨rfl, rfl⟩ := Prod.mk.inj he
    rw [hx] at hev
    have hc := hev.cInv
    cases hc' : a.eval x with
    | slice A n' c =>
      rw [hc'] at hc
      cases hc with
      | row0 => simp at hkn; omega
      | row _ _ _ cap la hla hb hn hm =>
        have hss : la.size = sz := by
          have := h.rows r _ hrow
          cases this with
          | nil _ _ _ hnil => rw [hnil] at hla; cases hla
          | tr _ _ _ _ la1 cur hl1 hss => rw [hl1] at hla; injection hla with hla; subst hla; exact hss
        have hr := fun W : World => hrun W _ _ _ _ _ hc' e2 hk0 hkn
        rw [addr_add] at hr
        refine Done.same h (fun W hW => exec_v (s := Instr.indexAt t (a.eval x) (a.eval y)) (by simp [execOp, ho]) (hr W)) (.c _ _ ?_)
        have : off * la.size + k.toNat * sz = (off + k.toNat) * la.size + 0 := by rw [hss, Nat.add_mul]; rfl
        rw [this]
        exact .ptr r (off + k.toNat) 0 la hla
    | _ => rw [hc'] at hc; cases hc
  · rename_i fr sz es k hx hk
    obtain ⟨k1, e2⟩ := (h.ev y).intInv hk
    obtain ⟨⟨rfl, hk0, hkn⟩, he⟩ := need_some hs
    injection he with he
    obtain ⟨rfl, rfl⟩ := Prod.mk.inj he
    rw [hx] at hev
    obtain ⟨A, cap, f, hc', hcap, hm, hz, hA, hf⟩ := hev.cInv.slInv
    rcases hA with h0 | ⟨b, o', rfl, hb, hcell⟩
    · subst h0; simp at hkn; omega
    · have hr := fun W : World => hrun W _ _ _ _ _ hc' e2 hk0 hkn
      rw [addr_add] at hr
      have hlt : k.toNat < es.length := by omega
      have hek : es[k.toNat]? = some (getE es k.toNat) := by simp [getE, List.getD_eq_getElem?_getD, List.getElem?_eq_getElem hlt]
      have hel : (getE es k.toNat).length = sz := hz _ (List.mem_of_getElem? hek)
      refine Done.same h (fun W hW => exec_v (s := Instr.indexAt t (a.eval x) (a.eval y)) (by simp [execOp, ho]) (hr W)) (.c _ _ ?_)
      refine .elt fr _ b _ (fun i => f k.toNat i) hb (fun i hi => ?_) (fun i t ht => hf _ i _ t hek ht)
      rw [Nat.add_assoc]
      exact hcell _ i hlt (by omega)
  · cases hs

theorem bget_eq (s : ByteArray) (k : Nat) (h : k < s.size) : s[k]? = some (bget s k) := by
  have hk : k < s.data.toList.length := by simpa using h
  rw [getElem?_pos s k h]
  simp [bget, List.getD_eq_getElem?_getD, List.getElem?_eq_getElem hk]
  rfl
theorem snd_ixs {o : Oper} {t : TypeId} {x y : Operand} (ho : o.op = .index t x y) (hu : Γ.P.underlying t = some .string) {d : Nat} {st' : AS} {v : AV} (h : SatAt Γ ρ st a w)
    (hs : step (.ixs (Od.of x) (Od.of y)) d st = some (st', v)) : Done Γ o a w st' v := by
  simp only [step] at hs
  split at hs
  · rename_i s k hx hk
    obtain ⟨⟨hk0, hkn⟩, he⟩ := need_some hs
    injection he with he
    obtain ⟨rfl, rfl⟩ := Prod.mk.inj he
    have e1 := (h.ev x).valInv hx
    obtain ⟨k1, e2⟩ := (h.ev y).intInv hk
    refine Done.same h (fun W hW => exec_v (s := Instr.index t (a.eval x) (a.eval y)) (by simp [execOp, ho]) ?_) (scal_rep rfl)
    rw [e1, e2]
    have := bget_eq s k.toNat (by omega)
    simp [Instr.index, run_asIntOf, run_underlying hu, hk0, this]
  · cases hs
theorem snd_ixa {o : Oper} {t e : TypeId} {n : Nat} {g : Bool} {s : Nat} {x y : Operand} (ho : o.op = .index t x y) (hu : Γ.P.underlying t = some (.array n e)) (hg : aggT Γ.P e = some g) (hsz : sizeT Γ.P e = some s)
    (hok : g = true ∨ s = 1) {d : Nat} {st' : AS} {v : AV} (h : SatAt Γ ρ st a w)
    (hs : step (.ixa n g s (Od.of x) (Od.of y)) d st = some (st', v)) : Done Γ o a w st' v := by
  have hev := h.ev x
  simp only [step] at hs
  split at hs
  · rename_i cs k hx hk
    obtain ⟨⟨hk0, hkn, hl⟩, he⟩ := need_some hs
    injection he with he
    obtain ⟨rfl, rfl⟩ := Prod.mk.inj he
    obtain ⟨k1, e2⟩ := (h.ev y).intInv hk
    rw [hx] at hev
    cases hc' : a.eval x with
    | agg xs =>
      rw [hc'] at hev
      cases hev with
      | agg _ _ hl' hh =>
        have hfit : k.toNat * s + s ≤ cs.length := by
          rw [← hl, ← Nat.succ_mul]
          exact Nat.mul_le_mul_right _ (by omega)
        refine Done.same h (fun W hW => exec_v (s := Instr.index t (a.eval x) (a.eval y)) (by simp [execOp, ho]) ?_) (part_rep hok (k.toNat * s) hfit hl' hh)
        rw [e2, hc']
        simp only [Instr.index, Sem.run_bind, run_asIntOf, Result.andThen_ok, run_underlying hu, hk0, hkn, and_self, if_true, run_sizeOf hsz]
        exact run_part hg hsz hok xs _ (by omega) W
    | _ => rw [hc'] at hev; cases hev
  · cases hs

theorem run_len {o : Oper} {c : Call} {t : TypeId} {x : Operand} (ho : o.op = .call c) (hc1 : c.callee = .builtin .len) (hc3 : c.args.toList = [x]) :
    execOp a.eval o = (do pure (.value (← Builtin.len_ c.argTypes o.type #[a.eval x]))) := by
  have hargs : c.args = #[x] := by
    apply Array.ext'
    simpa using hc3
  simp [execOp, ho, resolve, hc1, hargs, invoke, builtin]
theorem snd_lenS {o : Oper} {c : Call} {t : TypeId} {x : Operand} (ho : o.op = .call c) (hc1 : c.callee = .builtin .len) (hc2 : c.argTypes[0]? = some t) (hc3 : c.args.toList = [x])
    (hu : Γ.P.underlying t = some .string) {d : Nat} {st' : AS} {v : AV} (h : SatAt Γ ρ st a w)
    (hs : step (.len true (Od.of x)) d st = some (st', v)) : Done Γ o a w st' v := by
  have hev := h.ev x
  simp only [step] at hs
  split at hs
  · rename_i fr s hx
    injection hs with hs
    obtain ⟨rfl, rfl⟩ := Prod.mk.inj hs
    rw [hx] at hev
    have e := hev.vEq
    exact Done.same h (fun W hW => exec_v (run_len (t := t) ho hc1 hc3) (by simp [Builtin.len_, hc2, e, run_underlying hu, goInt])) (scal_rep rfl)
  · cases hs
theorem snd_lenL {o : Oper} {c : Call} {t e : TypeId} {x : Operand} (ho : o.op = .call c) (hc1 : c.callee = .builtin .len) (hc2 : c.argTypes[0]? = some t) (hc3 : c.args.toList = [x])
    (hu : Γ.P.underlying t = some (.slice e)) {d : Nat} {st' : AS} {v : AV} (h : SatAt Γ ρ st a w)
    (hs : step (.len false (Od.of x)) d st = some (st', v)) : Done Γ o a w st' v := by
  have hev := h.ev x
  simp only [step] at hs
  split at hs
  · rename_i fr A n k hx
    injection hs with hs
    obtain ⟨rfl, rfl⟩ := Prod.mk.inj hs
    rw [hx] at hev
    have e := hev.vEq
    exact Done.same h (fun W hW => exec_v (run_len (t := t) ho hc1 hc3) (by simp [Builtin.len_, hc2, e, run_underlying hu, goInt])) (scal_rep rfl)
  · rename_i fr sz es hx
    injection hs with hs
    obtain ⟨rfl, rfl⟩ := Prod.mk.inj hs
    rw [hx] at hev
    obtain ⟨A, cap, f, hc', _⟩ := hev.cInv.slInv
    exact Done.same h (fun W hW => exec_v (run_len (t := t) ho hc1 hc3) (by simp [Builtin.len_, hc2, hc', run_underlying hu, goInt])) (scal_rep rfl)
  · rename_i r off n hx
    injection hs with hs
    obtain ⟨rfl, rfl⟩ := Prod.mk.inj hs
    rw [hx] at hev
    obtain ⟨A, k, hc'⟩ : ∃ A k, a.eval x = .slice A n k := by
      rcases hev.cInv.rowInv with ⟨la, cap, _, hc', _⟩ | ⟨h0, A, hc'⟩
      · exact ⟨_, _, hc'⟩
      · exact ⟨A, 0, by rw [h0]; exact hc'⟩
    exact Done.same h (fun W hW => exec_v (run_len (t := t) ho hc1 hc3) (by simp [Builtin.len_, hc2, hc', run_underlying hu, goInt])) (scal_rep rfl)
  · cases hs
end
end Go.Eng
