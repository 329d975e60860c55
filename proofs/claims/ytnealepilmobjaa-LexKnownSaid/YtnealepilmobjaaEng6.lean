/-
  The engine, part 6: each operation does to the world what its step does to the abstract state.
-/
import Derived.Test.YtnealepilmobjaaEng5
set_option linter.unusedVariables false
set_option linter.unusedSimpArgs false
namespace Go.Eng
open Go.RowKit

section inv
variable {ρ : Nat → Option RowAt} {SF SA : Nat → Prop} {w : World}
theorem TRep.vEq {S : Nat → Prop} {u x : Value} (h : TRep S w (.v u) x) : x = u := by cases h; rfl
theorem CRep.vEq {fr : Bool} {u x : Value} (h : CRep ρ SF SA w (.t fr (.v u)) x) : x = u := by
  cases h with | t _ _ _ h => exact h.vEq
theorem AVRep.cInv {R : C → Value → Prop} {c : C} {x : Value} (h : AVRep R (.c c) x) : R c x := by cases h; assumption
theorem AVRep.vEq {fr : Bool} {u x : Value} (h : AVRep (CRep ρ SF SA w) (.c (.t fr (.v u))) x) : x = u := h.cInv.vEq
theorem AVRep.valInv {v : AV} {u x : Value} (h : AVRep (CRep ρ SF SA w) v x) (hv : v.val? = some u) : x = u := by
  unfold AV.val? at hv
  split at hv
  · injection hv with hv; subst hv; exact h.vEq
  · cases hv
theorem AVRep.boolInv {v : AV} {b : Bool} {x : Value} (h : AVRep (CRep ρ SF SA w) v x) (hv : v.bool? = some b) : x = .bool b := by
  unfold AV.bool? at hv
  split at hv
  · injection hv with hv; subst hv; exact h.vEq
  · cases hv
theorem AVRep.intInv {v : AV} {n : Int} {x : Value} (h : AVRep (CRep ρ SF SA w) v x) (hv : v.int? = some n) : ∃ k, x = .int k n := by
  unfold AV.int? at hv
  split at hv
  · injection hv with hv; subst hv; exact ⟨_, h.vEq⟩
  · cases hv
theorem cells_one {x : Value} (h : x.oneCell' = true) : x.cells = #[x] := by
  cases x <;> first | rfl | (simp [Value.oneCell'] at h)
theorem AVRep.cellsInv {v : AV} {cs : List C} {x : Value} (h : AVRep (CRep ρ SF SA w) v x) (hv : v.cells? = some cs) :
    x.cells.size = cs.length ∧ ∀ (i : Nat) (c : C), cs[i]? = some c → CRep ρ SF SA w c (x.cells.getD i undef) := by
  cases h with
  | any => simp [AV.cells?] at hv
  | c c x h =>
    simp [AV.cells?] at hv
    subst hv
    rw [cells_one h.one]
    refine ⟨rfl, fun i c' hc => ?_⟩
    cases i with
    | zero => simp at hc; subst hc; exact h
    | succ i => simp at hc
  | agg cs' xs hs h =>
    simp [AV.cells?] at hv
    subst hv
    exact ⟨hs, h⟩
  | tup => simp [AV.cells?] at hv
theorem trees_rep (hsub : ∀ b, SF b → SA b) {cs : List C} {fr : Bool} {ts : List T} (h : trees cs = some (fr, ts)) :
    ts.length = cs.length ∧ ∀ (f : Nat → Value), (∀ (i : Nat) (c : C), cs[i]? = some c → CRep ρ SF SA w c (f i)) → ∀ (i : Nat) (t : T), ts[i]? = some t → TRep (if fr = true then SF else SA) w t (f i) := by
  induction cs generalizing fr ts with
  | nil => simp [trees] at h; obtain ⟨rfl, rfl⟩ := h; simp
  | cons c cs ih =>
    cases c with
    | t fr1 t1 =>
      simp only [trees] at h
      split at h
      · rename_i fr2 ts2 hrec
        simp at h
        obtain ⟨hfr, rfl⟩ := h
        obtain ⟨ih1, ih2⟩ := ih hrec
        refine ⟨by simp [ih1], fun f hc i t ht => ?_⟩
        cases i with
        | zero =>
          simp at ht
          subst ht
          have hc' := hc 0 (.t fr1 t1) (by simp)
          cases hc' with
          | t _ _ _ hc' =>
            cases t1 with
            | v u => cases hc' with | v _ h1 => exact .v _ h1
            | w u => cases hc' with | w _ _ h1 hk => exact .w _ _ h1 hk
            | sl s e =>
              simp at hfr
              cases fr1
              · simp at hfr hc'
                subst hfr
                simpa using hc'
              · simp at hfr hc'
                subst hfr
                exact hc'.mono (fun b hb => by cases fr2 <;> simp [hb, hsub b hb]) (fun _ _ => rfl)
        | succ i =>
          have h2 := ih2 (fun i => f (i + 1)) (fun i c hci => hc (i + 1) c (by simpa using hci)) i t (by simpa using ht)
          refine h2.mono (fun b hb => ?_) (fun _ _ => rfl)
          cases t1 with
          | v u => simp at hfr; subst hfr; exact hb
          | w u => simp at hfr; subst hfr; exact hb
          | sl s e =>
            simp at hfr
            subst hfr
            cases fr2 <;> cases fr1 <;> simp at hb ⊢ <;> first | exact hb | exact hsub b hb
      · cases h
    | _ => simp [trees] at h
theorem CRep.slInv {fr : Bool} {sz : Nat} {es : List (List T)} {x : Value} (h : CRep ρ SF SA w (.t fr (.sl sz es)) x) :
    ∃ (A : Option Addr) (cap : Nat) (f : Nat → Nat → Value), x = .slice A es.length cap ∧ es.length ≤ cap ∧ cap ≤ maxLen ∧ (∀ e, e ∈ es → e.length = sz) ∧
      (es = [] ∨ ∃ b o, A = some ⟨b, o, none⟩ ∧ (if fr = true then SF else SA) b ∧ ∀ k i, k < es.length → i < sz → w.cell? ⟨b, o + (k * sz + i), none⟩ = some (f k i)) ∧
      ∀ (k i : Nat) (e : List T) (t : T), es[k]? = some e → e[i]? = some t → TRep (if fr = true then SF else SA) w t (f k i) := by
  cases h with
  | t _ _ _ h => cases h with | sl _ _ A cap f hc hm hz hA hf => exact ⟨A, cap, f, rfl, hc, hm, hz, hA, hf⟩
theorem CRep.ptrInv {r k j : Nat} {x : Value} (h : CRep ρ SF SA w (.ptr r k j) x) : ∃ la, ρ r = some la ∧ x = .pointer (some ⟨la.b, k * la.size + j, none⟩) := by
  cases h with | ptr _ _ _ la hla => exact ⟨la, hla, rfl⟩
theorem CRep.rowInv {r off n : Nat} {x : Value} (h : CRep ρ SF SA w (.row r off n) x) :
    (∃ la cap, ρ r = some la ∧ x = .slice (some ⟨la.b, off * la.size, none⟩) n cap ∧ (off + cap) * la.size = la.tot ∧ n ≤ cap ∧ cap ≤ maxLen) ∨ (n = 0 ∧ ∃ A, x = .slice A 0 0) := by
  cases h with
  | row _ _ _ cap la h hb hn hm => exact .inl ⟨la, cap, h, rfl, hb, hn, hm⟩
  | row0 _ _ A => exact .inr ⟨rfl, A, rfl⟩
theorem CRep.eltInv {fr : Bool} {ts : List T} {x : Value} (h : CRep ρ SF SA w (.elt fr ts) x) :
    ∃ (b o : Nat) (f : Nat → Value), x = .pointer (some ⟨b, o, none⟩) ∧ (if fr = true then SF else SA) b ∧ (∀ i, i < ts.length → w.cell? ⟨b, o + i, none⟩ = some (f i)) ∧
      ∀ (i : Nat) (t : T), ts[i]? = some t → TRep (if fr = true then SF else SA) w t (f i) := by
  cases h with | elt _ _ b o f hb hc hf => exact ⟨b, o, f, rfl, hb, hc, hf⟩
end inv

section
variable {Γ : Ctx} {ρ : Nat → Option RowAt} {st : AS} {a : Act} {w : World}

theorem SF_sub : ∀ b, SFof Γ st ρ w b → SAof Γ st ρ w b := fun b h => ⟨.inr h.1, h.2.1, h.2.2.1⟩

theorem avk_rep {R : C → Value → Prop} (hR : ∀ x : Value, x.oneCell' = true → R (.t true (.v x)) x) (x : Value) : AVRep R (avk x) x := by
  unfold avk
  split <;> first | exact .any _ | exact .c _ _ (hR _ rfl) | skip
  refine .c _ _ (hR _ ?_)
  cases x <;> first | rfl | (exfalso; rename_i h1 _ _ _ _ _; first | exact h1 _ rfl | skip) | skip
  all_goals simp_all
theorem SatAt.ev (h : SatAt Γ ρ st a w) (x : Operand) : AVRep (CRep ρ (SFof Γ st ρ w) (SAof Γ st ρ w) w) (st.ev (Od.of x)) (a.eval x) := by
  cases x with
  | tmp i => exact h.env i
  | const v => exact avk_rep (fun x hx => .t true _ x (.v x hx)) v
  | func f => exact .c _ _ (.fn f [] #[] rfl (by simp))
  | global g => exact .any _

/-- what an operation has done -/
def opQuiet : Op → Bool
  | .move _ => true
  | .assign _ => true
  | .pick _ _ _ => true
  | .load _ _ => true
  | .nilCheck _ => true
  | .binOp _ _ _ _ _ => true
  | .unOp _ _ _ => true
  | .convert _ _ _ => true
  | .slice _ _ _ _ _ => true
  | .fieldAddr _ _ _ => true
  | .field _ _ _ => true
  | .indexAddr _ _ _ => true
  | .index _ _ _ => true
  | .extract _ _ => true
  | .build _ _ => true
  | .makeFunc _ _ _ => true
  | .call { callee := .builtin .len, .. } => true
  | _ => false
def opExt : Op → Bool
  | .alloc _ => true
  | .box _ _ => true
  | .buildSlice _ _ _ => true
  | .makeSlice _ _ _ => true
  | .call { callee := .value _, .. } => true
  | op => opQuiet op
theorem ext_of_quiet {op : Op} (h : opQuiet op = true) : opExt op = true := by
  unfold opExt
  split <;> first | rfl | exact h
/-- what could be read can be read, and is the same -/
def Grow (w W : World) : Prop := ∀ A v, w.cell? A = some v → W.cell? A = some v
theorem Grow.rfl' {w : World} : Grow w w := fun _ _ h => h
theorem Grow.trans {u v w : World} (h : Grow u v) (g : Grow v w) : Grow u w := fun A x hx => g A x (h A x hx)
theorem Grow.of {w w' : World} (h : ∀ b, b < w.heap.size → w'.heap[b]? = w.heap[b]?) : Grow w w' := by
  intro A v hv
  unfold World.cell? at *
  by_cases hb : A.block < w.heap.size
  · rw [h _ hb]; exact hv
  · rw [Array.getElem?_eq_none (by omega)] at hv
    simp at hv
def Done (Γ : Ctx) (o : Oper) (a : Act) (w : World) (st' : AS) (v : AV) : Prop :=
  ∃ x w' ρ', ((execOp a.eval o).run Γ.P w = .ok (.value x) w' ∨ ((execOp a.eval o).run Γ.P w = .ok .skip w' ∧ x = undef)) ∧ SatAt Γ ρ' st' a w' ∧
    AVRep (CRep ρ' (SFof Γ st' ρ' w') (SAof Γ st' ρ' w') w') v x ∧ (opQuiet o.op = true → w' = w ∧ ∀ W, Grow w W → (execOp a.eval o).run Γ.P W = .ok (.value x) W) ∧ (opExt o.op = true → Grow w w')
theorem Done.same {o : Oper} {x : Value} {v : AV} (h : SatAt Γ ρ st a w) (hr : ∀ W, Grow w W → (execOp a.eval o).run Γ.P W = .ok (.value x) W) (hv : AVRep (CRep ρ (SFof Γ st ρ w) (SAof Γ st ρ w) w) v x) :
    Done Γ o a w st v := ⟨x, w, ρ, .inl (hr w Grow.rfl'), h, hv, fun _ => ⟨rfl, hr⟩, fun _ => Grow.rfl'⟩

/-- cells of memory, as the load of a variable of a type brings them -/
theorem run_loadVar_gen {P : Program} (w : World) {t : TypeId} {g : Bool} {size : Nat} (hg : aggT P t = some g) (hs : sizeT P t = some size) (hok : g = true ∨ size = 1) (b o : Nat) (xs : List Value)
    (hl : xs.length = size) (hc : ∀ j v, xs[j]? = some v → w.cell? ⟨b, o + j, none⟩ = some v) :
    (loadVar t ⟨b, o, none⟩).run P w = .ok (if g = true then .agg xs.toArray else xs.getD 0 undef) w := by
  have hcells : (loadCells ⟨b, o, none⟩ xs.length).run P w = .ok xs.toArray w := run_loadCells_list w ⟨b, o, none⟩ xs fun j v hv => by
    have : (⟨b, o, none⟩ : Addr).add j = ⟨b, o + j, none⟩ := by unfold Addr.add; split <;> simp_all
    rw [this]; exact hc j v hv
  unfold sizeT at hs
  cases hi : P.info? t with
  | none => simp [hi] at hs
  | some i =>
    simp [hi] at hs
    unfold aggT at hg
    cases hu : P.underlying t with
    | none => simp [hu] at hg
    | some d =>
      simp only [hu] at hg
      have hagg : (isAgg t).run P w = .ok g w := by
        unfold isAgg
        rw [Sem.run_bind, run_underlying hu w]
        cases d <;> simp_all
      cases g
      · have h1 : size = 1 := by simpa using hok
        have h0 : xs.length = 1 := by omega
        match xs, h0 with
        | [x], _ =>
          have hx := hc 0 x (by simp)
          simp at hx
          simp [loadVar, Sem.run_bind, hagg, hx]
      · rw [hl] at hcells
        simp [loadVar, Sem.run_bind, hagg, sizeOf, typeInfo, hi, hs, hcells]

theorem mkAV_rep {R : C → Value → Prop} {g : Bool} {size : Nat} (hok : g = true ∨ size = 1) {cs : List C} {xs : List Value} (hl : xs.length = size) (hcl : cs.length = size)
    (h : ∀ (i : Nat) (c : C), cs[i]? = some c → R c (xs.getD i undef)) : AVRep R (mkAV g cs) (if g = true then .agg xs.toArray else xs.getD 0 undef) := by
  cases g
  · have h1 : size = 1 := by simpa using hok
    have h0 : cs.length = 1 := by omega
    match cs, h0 with
    | [c], _ => exact .c _ _ (h 0 c (by simp))
  · refine .agg cs _ (by simp; omega) fun i c hc => ?_
    simpa [Array.getD_eq_getD_getElem?] using h i c hc

/-- an operation that answers a value -/
theorem exec_v {o : Oper} {s : Sem Value} {P : Program} {x : Value} {w' : World} (ho : execOp a.eval o = (do pure (.value (← s)))) (hs : s.run P w = .ok x w') :
    (execOp a.eval o).run P w = .ok (.value x) w' := by
  rw [ho]; simp [hs]

theorem snd_load {o : Oper} {t : TypeId} {y : Operand} (ho : o.op = .load t y) {d : Nat} {st' : AS} {v : AV} (h : SatAt Γ ρ st a w) (hs : step (Ins.of Γ.P o.op) d st = some (st', v)) :
    Done Γ o a w st' v := by
  rw [ho] at hs
  simp only [Ins.of] at hs
  split at hs
  case h_2 => simp [step] at hs
  rename_i g size hg hsz
  split at hs
  case isFalse => simp [step] at hs
  rename_i hok
  have hev := h.ev y
  have hex : ∀ p, a.eval y = .pointer (some p) → execOp a.eval o = (do pure (.value (← loadVar t p))) := by
    intro p hp
    simp [execOp, ho, Instr.loadAt, Instr.sureAddr, hp]
  simp only [step] at hs
  split at hs
  · rename_i r k j hx
    rw [hx] at hev
    have hc := hev.cInv
    cases hc' : a.eval y with
    | pointer p =>
      rw [hc'] at hc
      cases hc with
      | ptr _ _ _ la hla =>
        split at hs
        · rename_i ty cs hrow
          obtain ⟨⟨rfl, hj⟩, he⟩ := need_some hs
          injection he with he
          obtain ⟨rfl, rfl⟩ := Prod.mk.inj he
          have hrr := h.rows r _ hrow
          cases hrr with
          | bx _ _ la1 cur hl1 hss hh htt hf =>
            rw [hl1] at hla
            injection hla with hla
            subst hla
            refine Done.same h (fun W hW => exec_v (hex _ hc') (run_loadVar_gen W hg hsz hok la1.b (0 * la1.size + j) ((cur.toList.drop j).take size) (by simp; omega) fun i u hu => ?_)) ?_
            · refine hW _ _ ?_
              rw [cell_of_row w la1.b _ cur ty (0, 0) hh]
              rw [List.getElem?_take] at hu
              split at hu
              · rw [List.getElem?_drop] at hu
                simpa using hu
              · cases hu
            · refine mkAV_rep hok (by simp; omega) (by simp; omega) fun i c hi => ?_
              rw [List.getElem?_take] at hi
              split at hi
              · rename_i hlt
                rw [List.getElem?_drop] at hi
                obtain ⟨x, hx, hxr⟩ := hf _ c hi
                have : ((cur.toList.drop j).take size).getD i undef = x := by
                  simp only [List.getD_eq_getElem?_getD, List.getElem?_take, hlt, if_true, List.getElem?_drop, Array.getElem?_toList, hx, Option.getD_some]
                rw [this]; exact hxr
              · cases hi
        · rename_i fr ty sz es hrow
          obtain ⟨⟨hk, hj⟩, he⟩ := need_some hs
          injection he with he
          obtain ⟨rfl, rfl⟩ := Prod.mk.inj he
          have hrr := h.rows r _ hrow
          cases hrr with
          | nil => simp at hk
          | tr _ _ _ _ la1 cur hl1 hss hh htt hl hz hf =>
            rw [hl1] at hla
            injection hla with hla
            subst hla
            have hek : es[k]? = some (getE es k) := by simp [getE, List.getD_eq_getElem?_getD, List.getElem?_eq_getElem hk]
            have hel : (getE es k).length = sz := hz _ (List.mem_of_getElem? hek)
            have hcov : ∀ i, i < sz → ∃ x, cur[k * sz + i]? = some x ∧ ∀ t, (getE es k)[i]? = some t → TRep (if fr = true then SFof Γ st ρ w else SAof Γ st ρ w) w t x := by
              intro i hi
              obtain ⟨x, hx, hxt⟩ := hf k i _ ((getE es k)[i]'(by omega)) hek (List.getElem?_eq_getElem (by omega))
              refine ⟨x, hx, fun t ht => ?_⟩
              rw [List.getElem?_eq_getElem (by omega)] at ht
              injection ht with ht
              subst ht; exact hxt
            have hlen : k * sz + j + size ≤ cur.size := by
              by_cases h0 : size = 0
              · subst h0
                have : k * sz + sz ≤ es.length * sz := by rw [← Nat.succ_mul]; exact Nat.mul_le_mul_right _ hk
                omega
              · obtain ⟨x, hx, _⟩ := hcov (j + size - 1) (by omega)
                have := (Array.getElem?_eq_some_iff.1 hx).1
                omega
            refine Done.same h (fun W hW => exec_v (hex _ hc') (run_loadVar_gen W hg hsz hok la1.b (k * la1.size + j) ((cur.toList.drop (k * sz + j)).take size) (by simp; omega) fun i u hu => ?_)) ?_
            · refine hW _ _ ?_
              rw [cell_of_row w la1.b _ cur ty (0, 0) hh, hss]
              rw [List.getElem?_take] at hu
              split at hu
              · rw [List.getElem?_drop] at hu
                simpa using hu
              · cases hu
            · refine mkAV_rep hok (by simp; omega) (by simp; omega) fun i c hi => ?_
              rw [List.getElem?_map, List.getElem?_take] at hi
              split at hi
              · rename_i hlt
                rw [List.getElem?_drop] at hi
                cases hq : (getE es k)[j + i]? with
                | none => simp [hq] at hi
                | some t =>
                  simp [hq] at hi
                  subst hi
                  obtain ⟨x, hx, hxt⟩ := hcov (j + i) (by omega)
                  have : ((cur.toList.drop (k * sz + j)).take size).getD i undef = x := by
                    simp only [List.getD_eq_getElem?_getD, List.getElem?_take, hlt, if_true, List.getElem?_drop, Array.getElem?_toList]
                    rw [show k * sz + j + i = k * sz + (j + i) by omega, hx]; rfl
                  rw [this]
                  exact .t fr t x (hxt t hq)
              · simp at hi
        · cases hs
    | _ => rw [hc'] at hc; cases hc
  · rename_i fr ts hx
    rw [hx] at hev
    have hc := hev.cInv
    obtain ⟨hle, he⟩ := need_some hs
    injection he with he
    obtain ⟨rfl, rfl⟩ := Prod.mk.inj he
    cases hc' : a.eval y with
    | pointer p =>
      rw [hc'] at hc
      cases hc with
      | elt _ _ b o' f hb hcell hf =>
        refine Done.same h (fun W hW => exec_v (hex _ hc') (run_loadVar_gen W hg hsz hok b o' ((List.range size).map f) (by simp) fun i u hu => ?_)) ?_
        · simp only [List.getElem?_map] at hu
          by_cases hi : i < size
          · rw [List.getElem?_range hi] at hu
            simp at hu
            subst hu
            exact hW _ _ (hcell i (by omega))
          · rw [List.getElem?_eq_none (by simp; omega)] at hu
            simp at hu
        · refine mkAV_rep hok (by simp) (by simp; omega) fun i c hi => ?_
          rw [List.getElem?_map, List.getElem?_take] at hi
          split at hi
          · rename_i hlt
            cases hq : ts[i]? with
            | none => simp [hq] at hi
            | some t =>
              simp [hq] at hi
              subst hi
              have : ((List.range size).map f).getD i undef = f i := by simp [List.getD_eq_getElem?_getD, hlt]
              rw [this]
              exact .t fr t _ (hf i t hq)
          · simp at hi
    | _ => rw [hc'] at hc; cases hc
  · cases hs
end
end Go.Eng
