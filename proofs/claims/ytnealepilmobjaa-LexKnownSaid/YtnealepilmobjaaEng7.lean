/-
  The engine, part 7: operations that only reckon.
-/
import Derived.Test.YtnealepilmobjaaEng6
set_option linter.unusedVariables false
set_option linter.unusedSimpArgs false
namespace Go.Eng
open Go.RowKit

section
variable {Γ : Ctx} {ρ : Nat → Option RowAt} {st : AS} {a : Act} {w : World}

theorem snd_move {o : Oper} {x : Operand} (ho : o.op = .move x ∨ o.op = .assign x) (h : SatAt Γ ρ st a w) : Done Γ o a w st (st.ev (Od.of x)) := by
  refine Done.same h (x := a.eval x) (fun W hW => ?_) (h.ev x)
  rcases ho with ho | ho <;> simp [execOp, ho]
theorem snd_pick {o : Oper} {c x y : Operand} (ho : o.op = .pick c x y) {t : Bool} (hb : (st.ev (Od.of c)).bool? = some t) (h : SatAt Γ ρ st a w) :
    Done Γ o a w st (if t = true then st.ev (Od.of x) else st.ev (Od.of y)) := by
  have hc := (h.ev c).boolInv hb
  refine Done.same h (x := if t = true then a.eval x else a.eval y) (fun W hW => ?_) ?_
  · simp [execOp, ho, hc, asBool]
  · cases t
    · exact h.ev y
    · exact h.ev x

theorem oneRep {R : C → Value → Prop} {x : Value} (h : R (.t true (.v x)) x) : AVRep R (scal x) x := .c _ _ h
theorem scal_rep {SF SA : Nat → Prop} {x : Value} (h : x.oneCell' = true) : AVRep (CRep ρ SF SA w) (scal x) x := .c _ _ (.t true _ _ (.v _ h))

theorem run_addS {P : Program} {t : TypeId} {x y : Operand} (u v : ByteArray) (hc : u.size + v.size ≤ 9223372036854775807) :
    (do eqGuard .add t x y (.string u) (.string v); binOp .add t (.string u) (.string v) : Sem Value).run P w = .ok (.string (u ++ v)) w := by
  have hm : IntKind.i64.max = 9223372036854775807 := by decide
  have hn : ¬ ((u.size + v.size : Nat) : Int) > IntKind.i64.max := by rw [hm]; omega
  simp only [eqGuard, binOp, Op.stringOp, hn, if_false]
  simp
theorem run_binV {P : Program} {op : BinOp} {u v r : Value} {t : TypeId} {x y : Operand} (ht : (∃ k, P.underlying t = some (.int k)) ∨ P.underlying t = some .string) (h : binV op u v = some r) :
    (do eqGuard op t x y u v; binOp op t u v : Sem Value).run P w = .ok r w := by
  unfold binV at h
  split at h <;>
    first
    | (obtain ⟨hc, he⟩ := need_some h
       injection he with he
       subst he
       first
       | (subst hc; simp [eqGuard, binOp, Op.intArith, Op.intBits, Op.intCmp]; done)
       | (obtain ⟨rfl, hb⟩ := hc; simp [eqGuard, binOp, Op.intDiv, hb]; done)
       | (have hn : ¬ (_ : Int) < 0 := Int.not_lt.2 hc; simp [eqGuard, binOp, Op.shift, hn]; done)
       | exact run_addS _ _ hc)
    | (injection h with he
       subst he
       simp [eqGuard, binOp, Op.stringOp]
       done)
    | cases h
theorem snd_bin {o : Oper} {op : BinOp} {t ty : TypeId} {x y : Operand} (ho : o.op = .binOp op t x y ty) {d : Nat} {st' : AS} {v : AV} (h : SatAt Γ ρ st a w)
    (ht : (∃ k, Γ.P.underlying t = some (.int k)) ∨ Γ.P.underlying t = some .string) (hs : step (.bin op (Od.of x) (Od.of y)) d st = some (st', v)) : Done Γ o a w st' v := by
  simp only [step] at hs
  split at hs
  case h_2 => cases hs
  rename_i u1 u2 h1 h2
  split at hs
  case h_2 => cases hs
  rename_i r hr
  injection hs with hs
  obtain ⟨rfl, rfl⟩ := Prod.mk.inj hs
  have e1 := (h.ev x).valInv h1
  have e2 := (h.ev y).valInv h2
  have hrun := fun W : World => run_binV (w := W) (x := x) (y := y) ht hr
  refine Done.same h (x := r) (fun W hW => exec_v (s := do eqGuard op t x y (a.eval x) (a.eval y); binOp op t (a.eval x) (a.eval y)) (by simp [execOp, ho]) (by rw [e1, e2]; exact hrun W)) (scal_rep ?_)
  unfold binV at hr
  split at hr <;> first | (obtain ⟨_, he⟩ := need_some hr; injection he with he; subst he; rfl) | (injection hr with he; subst he; rfl) | cases hr
theorem snd_binB {o : Oper} {op : BinOp} {t ty : TypeId} {x y : Operand} (ho : o.op = .binOp op t x y ty) {d : Nat} {st' : AS} {v : AV} (h : SatAt Γ ρ st a w)
    (ht : Γ.P.underlying t = some .bool) (hs : step (.binB op (Od.of x) (Od.of y)) d st = some (st', v)) : Done Γ o a w st' v := by
  simp only [step] at hs
  split at hs
  case h_2 => cases hs
  rename_i u1 u2 h1 h2
  split at hs
  case h_2 => cases hs
  rename_i r hr
  injection hs with hs
  obtain ⟨rfl, rfl⟩ := Prod.mk.inj hs
  have e1 := (h.ev x).valInv h1
  have e2 := (h.ev y).valInv h2
  have hrun : ∀ w : World, (do eqGuard op t x y u1 u2; binOp op t u1 u2 : Sem Value).run Γ.P w = .ok r w := by
    intro w
    have key : ∀ (p q : Bool), (Op.equalIn (9999 + 1) t (.bool p) (.bool q)).run Γ.P w = .ok (p == q) w := by
      intro p q
      rw [Op.equalIn]
      simp [run_underlying ht]
    unfold binBV at hr
    split at hr
    · injection hr with he; subst he
      simp only [eqGuard, binOp, Op.equal, Op.maxDepth]
      simp [key]
    · injection hr with he; subst he
      simp only [eqGuard, binOp, Op.equal, Op.maxDepth]
      simp [key]
    · cases hr
  refine Done.same h (x := r) (fun W hW => exec_v (s := do eqGuard op t x y (a.eval x) (a.eval y); binOp op t (a.eval x) (a.eval y)) (by simp [execOp, ho]) (by rw [e1, e2]; exact hrun W)) (scal_rep ?_)
  unfold binBV at hr
  split at hr <;> first | (injection hr with he; subst he; rfl) | cases hr
theorem snd_un {o : Oper} {op : UnOp} {t : TypeId} {x : Operand} (ho : o.op = .unOp op t x) {d : Nat} {st' : AS} {v : AV} (h : SatAt Γ ρ st a w)
    (hs : step (.un op (Od.of x)) d st = some (st', v)) : Done Γ o a w st' v := by
  simp only [step] at hs
  split at hs
  case h_2 => cases hs
  rename_i u1 h1
  split at hs
  case h_2 => cases hs
  rename_i r hr
  injection hs with hs
  obtain ⟨rfl, rfl⟩ := Prod.mk.inj hs
  have e1 := (h.ev x).valInv h1
  unfold unV at hr
  split at hr
  · injection hr with he; subst he
    exact Done.same h (fun W hW => exec_v (s := Op.unary .not (a.eval x)) (by simp [execOp, ho]) (by rw [e1]; simp [Op.unary])) (scal_rep rfl)
  · injection hr with he; subst he
    exact Done.same h (fun W hW => exec_v (s := Op.unary .neg (a.eval x)) (by simp [execOp, ho]) (by rw [e1]; simp [Op.unary, Op.intArith])) (scal_rep rfl)
  · cases hr
theorem snd_cvi {o : Oper} {s t : TypeId} {x : Operand} {k k0 : IntKind} (ho : o.op = .convert s t x) {d : Nat} {st' : AS} {v : AV} (h : SatAt Γ ρ st a w)
    (h1 : Γ.P.underlying s = some (.int k0)) (h2 : Γ.P.underlying t = some (.int k)) (hs : step (.cvi k (Od.of x)) d st = some (st', v)) : Done Γ o a w st' v := by
  simp only [step] at hs
  split at hs
  case h_2 => cases hs
  rename_i n hn
  injection hs with hs
  obtain ⟨rfl, rfl⟩ := Prod.mk.inj hs
  obtain ⟨k1, e1⟩ := (h.ev x).intInv hn
  exact Done.same h (fun W hW => exec_v (s := convert s t (a.eval x)) (by simp [execOp, ho]) (by rw [e1]; simp [convert, run_underlying h1, run_underlying h2, Conv.intToInt])) (scal_rep rfl)
theorem snd_cvs {o : Oper} {s t : TypeId} {x : Operand} (ho : o.op = .convert s t x) {d : Nat} {st' : AS} {v : AV} (h : SatAt Γ ρ st a w)
    (h1 : Γ.P.underlying s = some .string) (h2 : Γ.P.underlying t = some .string) (hs : step (.cvs (Od.of x)) d st = some (st', v)) : Done Γ o a w st' v := by
  simp only [step] at hs
  split at hs
  case h_2 => cases hs
  rename_i n hn
  injection hs with hs
  obtain ⟨rfl, rfl⟩ := Prod.mk.inj hs
  have e1 := (h.ev x).valInv hn
  exact Done.same h (fun W hW => exec_v (s := convert s t (a.eval x)) (by simp [execOp, ho]) (by rw [e1]; simp [convert, run_underlying h1, run_underlying h2])) (scal_rep rfl)

theorem snd_nilck {o : Oper} {x : Operand} (ho : o.op = .nilCheck x) {d : Nat} {st' : AS} {v : AV} (h : SatAt Γ ρ st a w) (hs : step (.nilck (Od.of x)) d st = some (st', v)) : Done Γ o a w st' v := by
  have hev := h.ev x
  simp only [step] at hs
  split at hs
  · rename_i r k j hx
    injection hs with hs
    obtain ⟨rfl, rfl⟩ := Prod.mk.inj hs
    rw [hx] at hev
    refine Done.same h (x := a.eval x) (fun W hW => ?_) hev
    have hc := hev.cInv
    cases hc' : a.eval x with
    | pointer p => rw [hc'] at hc; cases hc with | ptr => simp [execOp, ho, hc']
    | _ => rw [hc'] at hc; cases hc
  · rename_i fr ts hx
    injection hs with hs
    obtain ⟨rfl, rfl⟩ := Prod.mk.inj hs
    rw [hx] at hev
    refine Done.same h (x := a.eval x) (fun W hW => ?_) hev
    have hc := hev.cInv
    cases hc' : a.eval x with
    | pointer p => rw [hc'] at hc; cases hc with | elt => simp [execOp, ho, hc']
    | _ => rw [hc'] at hc; cases hc
  · rename_i f caps hx
    injection hs with hs
    obtain ⟨rfl, rfl⟩ := Prod.mk.inj hs
    rw [hx] at hev
    refine Done.same h (x := a.eval x) (fun W hW => ?_) hev
    have hc := hev.cInv
    cases hc' : a.eval x with
    | func g p c => rw [hc'] at hc; cases hc with | fn => simp [execOp, ho, hc']
    | _ => rw [hc'] at hc; cases hc
  · cases hs

theorem capsOf_rep (h : SatAt Γ ρ st a w) {xs : List Operand} {cs : List C} (hc : capsOf st (xs.map Od.of) = some cs) :
    xs.length = cs.length ∧ ∀ (i : Nat) (c : C), cs[i]? = some c → CRep ρ (SFof Γ st ρ w) (SAof Γ st ρ w) w c ((xs.map a.eval).getD i undef) := by
  induction xs generalizing cs with
  | nil => simp [capsOf] at hc; subst hc; simp
  | cons x xs ih =>
    simp only [List.map_cons, capsOf] at hc
    split at hc
    · rename_i c l hx hl
      injection hc with hc
      subst hc
      obtain ⟨i1, i2⟩ := ih hl
      refine ⟨by simp [i1], fun i c' hi => ?_⟩
      cases i with
      | zero =>
        simp at hi
        subst hi
        have := h.ev x
        rw [hx] at this
        simpa using this.cInv
      | succ i => simpa using i2 i c' (by simpa using hi)
    · cases hc
theorem snd_mkf {o : Oper} {f : FuncId} {first caps : Array Operand} (ho : o.op = .makeFunc (.func f) first caps) (hf : first.isEmpty = true) {d : Nat} {st' : AS} {v : AV} (h : SatAt Γ ρ st a w)
    (hs : step (.mkf f (caps.toList.map Od.of)) d st = some (st', v)) : Done Γ o a w st' v := by
  simp only [step] at hs
  split at hs
  case h_2 => cases hs
  rename_i cs hcs
  injection hs with hs
  obtain ⟨rfl, rfl⟩ := Prod.mk.inj hs
  obtain ⟨i1, i2⟩ := capsOf_rep h hcs
  have hf' : first = #[] := by simpa using hf
  refine Done.same h (fun W hW => exec_v (s := Instr.makeFunc (.func f) (first.map a.eval) (caps.map a.eval)) (x := .func (.func f) #[] (caps.map a.eval)) (by simp [execOp, ho]) (by simp [Instr.makeFunc, hf'])) (.c _ _ (.fn f cs _ (by simp; simpa using i1) fun i c hi => ?_))
  have := i2 i c hi
  simpa [Array.getD_eq_getD_getElem?, List.getD_eq_getElem?_getD] using this
end
end Go.Eng
