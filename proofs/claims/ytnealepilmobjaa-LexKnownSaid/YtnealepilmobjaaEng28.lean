/-
  The engine, part 28: bytes turned to a text; nil rows as trees.
-/
import Derived.Test.YtnealepilmobjaaEng27
import Derived.Laws.IdiomStrings
set_option linter.unusedVariables false
set_option linter.unusedSimpArgs false
namespace Go.Eng
open Go.RowKit

def byteT (b : UInt8) : List T := [.v (.int .u8 b.toNat)]
section
variable {Γ : Ctx} {Q : Exit → AS → Prop} {st : AS} {l : List I}
theorem bstr_of {P : Program} {op : Op} {y : Od} (h : Ins.of P op = .bstr y) : ∃ s d e x, op = .convert s d x ∧ P.underlying s = some (.slice e) ∧ P.underlying e = some (.int .u8) ∧ P.underlying d = some .string ∧ y = Od.of x := by
  unfold Ins.of at h
  split at h
  all_goals first
    | (rename_i s d x
       split at h
       · cases h
       · cases h
       · rename_i e hs hd
         split at h
         · rename_i he
           injection h with h1
           exact ⟨s, d, e, x, rfl, hs, he, hd, h1.symm⟩
         · cases h
       · cases h)
    | (unfold Ins.ofCall at h; repeat' split at h)
    | (repeat' split at h)
    | skip
  all_goals cases h
theorem bytes_rep {S : Nat → Prop} {w : World} {bl : List UInt8} {x : Value} (h : TRep S w (.sl 1 (bl.map byteT)) x) : ∃ A cap, x = .slice A bl.length cap ∧ (bl = [] ∨ ∃ a, A = some a ∧ ∀ j (hj : j < bl.length), w.cell? (a.add j) = some (.int .u8 (bl[j].toNat : Int))) := by
  obtain ⟨es, hes⟩ : ∃ es, es = bl.map byteT := ⟨_, rfl⟩
  rw [← hes] at h
  have hl : es.length = bl.length := by rw [hes, List.length_map]
  cases h with
  | sl _ _ A cap f hc hm hz hA hf =>
    refine ⟨A, cap, by rw [hl], ?_⟩
    rcases hA with h0 | ⟨b, o, rfl, hb, hcell⟩
    · left; rw [hes] at h0; simpa using h0
    · refine .inr ⟨_, rfl, fun j hj => ?_⟩
      have h1 := hcell j 0 (by omega) (by omega)
      have h2 := hf j 0 (byteT bl[j]) (.v (.int .u8 bl[j].toNat)) (by rw [hes, List.getElem?_map, List.getElem?_eq_getElem hj]; rfl) rfl
      have h3 : f j 0 = .int .u8 (bl[j].toNat : Int) := by
        revert h2
        generalize f j 0 = y
        intro h2
        cases h2; rfl
      rw [h3] at h1
      rw [addr_add]
      simpa using h1
theorem AR.bstr {i : I} {y : Od} {fr : Bool} {bl : List UInt8} (hi : i.o = .bstr y) (hg : i.g = none ∨ ∃ s b, i.g = some (s, b) ∧ (st.get s).bool? = some b) (hy : (st.ev y).hand st = .c (.t fr (.sl 1 (bl.map byteT))))
    (h : AR Γ l Q (st.putO i.d (.c (.t true (.v (.string (bs bl))))))) : AR Γ (i :: l) Q st := by
  intro ops j o ho hx a w R K hs hk
  obtain ⟨ρ, hs⟩ := hs
  unfold wpOp
  simp only [ho]
  obtain ⟨hdd, hoo⟩ := of_o hx
  rcases hoo with ⟨_, hb⟩ | ⟨hins, hlt, hgg⟩
  · rw [hi] at hb; cases hb
  have hw : Region.wanted o (yielded ops a.tmps) = true := by
    rcases hgg with ⟨_, hgd⟩ | ⟨q, b', s, hg', hgd, hsl⟩
    · simp [Region.wanted, hgd]
    · rcases hg with hg | ⟨s', b, hg, hb⟩
      · rw [hg] at hg'; cases hg'
      · rw [hg] at hg'
        injection hg' with hg'
        obtain ⟨rfl, rfl⟩ := Prod.mk.inj hg'
        have hy := guard_val hsl ⟨ρ, hs⟩ hb
        simp [Region.wanted, hgd, hy]
  rw [if_pos hw]
  refine .inl ?_
  rw [hi] at hins
  obtain ⟨s, d, e, x, hop, h1, h2, h3, rfl⟩ := bstr_of hins.symm
  have hh := AVhand_rep hs (hs.ev x) true (fun _ => rfl)
  rw [hy] at hh
  have hrun : (convert s d (a.eval x)).run Γ.P w = .ok (.string (bs bl)) w := by
    have hcc := hh.cInv
    have : ∃ S, TRep S w (.sl 1 (bl.map byteT)) (a.eval x) := by
      cases hcc with
      | t _ _ _ ht => exact ⟨_, ht⟩
    obtain ⟨S, ht⟩ := this
    obtain ⟨A, cap, hxe, hA⟩ := bytes_rep ht
    rw [hxe]
    rcases hA with rfl | ⟨a0, rfl, hcell⟩
    · rw [run_convert_bytes_string w s d e A _ cap h1 h2 h3]
      cases A with
      | none => simp [Conv.bytesToString]; rfl
      | some a0 =>
        have := run_bytesToString (P := Γ.P) w a0 0 cap [] (by simp [loadCells, loadCellsFrom])
        have e0 : (bs []) = ByteArray.empty := rfl
        rw [e0]
        simpa using this
    · have := run_convert_bytes_back (P := Γ.P) w s d e a0 cap bl h1 h2 h3 hcell
      rw [this]; rfl
  have hex : (execOp a.eval o).run Γ.P w = .ok (.value (.string (bs bl))) w := exec_v (s := convert s d (a.eval x)) (by simp [execOp, hop]) hrun
  unfold Oper.wp
  rw [hex]
  refine hk (.string (bs bl)) w (st.putO i.d (.c (.t true (.v (.string (bs bl)))))) trivial h ⟨ρ, ?_⟩ fun _ _ => Grow.rfl'
  rw [hdd]
  exact hs.putO o.dst hlt (scal_rep rfl)

/-- a nil row in a slot, or in a part of what a slot holds, as a tree -/
def nilTC (size : Nat) : C → C
  | .t _ (.v (.slice none 0 0)) => .t true (.sl size [])
  | c => c
theorem nilTC_rep {ρ : Nat → Option RowAt} {SF SA : Nat → Prop} {w : World} {size : Nat} {c : C} {x : Value} (h : CRep ρ SF SA w c x) : CRep ρ SF SA w (nilTC size c) x := by
  unfold nilTC
  split
  · cases h with
    | t _ _ _ ht => cases ht with
      | v _ _ => exact .t true _ _ (.sl size [] none 0 (fun _ _ => undef) (by simp) (by simp) (by simp) (.inl rfl) (by simp))
  · exact h
def nilTV (j size : Nat) : AV → AV
  | .c c => .c (nilTC size c)
  | .agg cs => .agg (match cs[j]? with | some c => cs.set j (nilTC size c) | none => cs)
  | v => v
theorem nilTV_rep {ρ : Nat → Option RowAt} {SF SA : Nat → Prop} {w : World} {j size : Nat} {v : AV} {x : Value} (h : AVRep (CRep ρ SF SA w) v x) : AVRep (CRep ρ SF SA w) (nilTV j size v) x := by
  cases h with
  | any x => exact .any x
  | c c x hc => exact .c _ x (nilTC_rep hc)
  | tup vs xs hs h => exact .tup vs xs hs h
  | agg cs xs hs h =>
    cases hj : cs[j]? with
    | none => simp only [nilTV, hj]; exact .agg cs xs hs h
    | some c =>
      simp only [nilTV, hj]
      refine .agg _ xs (by simpa using hs) fun i c' hc' => ?_
      rw [List.getElem?_set] at hc'
      by_cases e : j = i
      · subst e
        have hjl := (List.getElem?_eq_some_iff.1 hj).1
        simp [hjl] at hc'
        subst hc'
        exact nilTC_rep (h j c hj)
      · rw [if_neg e] at hc'
        exact h i c' hc'
theorem SatAt.nilT {ρ : Nat → Option RowAt} {a : Act} {w : World} (h : SatAt Γ ρ st a w) (s j size : Nat) : SatAt Γ ρ ⟨(s, nilTV j size (st.get s)) :: st.env, st.rows⟩ a w := by
  refine h.weaken (fun r row hr => hr) fun i => ?_
  have hg : (⟨(s, nilTV j size (st.get s)) :: st.env, st.rows⟩ : AS).get i = if s = i then nilTV j size (st.get s) else st.get i := by
    simp only [AS.get, lk]
    split <;> rfl
  rw [hg]
  split
  · rename_i e
    subst e
    exact nilTV_rep (h.env s)
  · exact h.env i
theorem AR.nilT (s j size : Nat) (h : AR Γ l Q ⟨(s, nilTV j size (st.get s)) :: st.env, st.rows⟩) : AR Γ l Q st := AR.of (fun a w ⟨ρ, hs⟩ => ⟨ρ, hs.nilT s j size⟩) h
theorem nilTC_nil {size : Nat} {fr : Bool} : nilTC size (.t fr (.v (.slice none 0 0))) = .t true (.sl size []) := rfl
theorem nilTV_c {j size : Nat} {c : C} : nilTV j size (.c c) = .c (nilTC size c) := rfl
theorem nilTV_agg {j size : Nat} {cs : List C} : nilTV j size (.agg cs) = .agg (match cs[j]? with | some c => cs.set j (nilTC size c) | none => cs) := rfl
/-- a nil row in a cell of a row of trees, as a tree -/
def nilEs (k j size : Nat) (es : List (List T)) : List (List T) := es.set k ((getE es k).set j (.sl size []))
theorem SatAt.nilCT {ρ : Nat → Option RowAt} {a : Act} {w : World} (h : SatAt Γ ρ st a w) (r k j size : Nat) {fr : Bool} {ty sz : Nat} {es : List (List T)} (hr : st.row r = some (.tr fr ty sz es)) (hk : (getE es k)[j]? = some (.v (.slice none 0 0))) :
    SatAt Γ ρ (st.setRow r (.tr fr ty sz (nilEs k j size es))) a w := by
  refine h.rowOf r _ _ hr fun hrep => ?_
  have hkl : k < es.length := by
    rcases Nat.lt_or_ge k es.length with h | h
    · exact h
    · simp [getE, List.getD_eq_getElem?_getD, List.getElem?_eq_none h] at hk
  have hge : es[k]? = some (getE es k) := by simp [getE, List.getD_eq_getElem?_getD, List.getElem?_eq_getElem hkl]
  cases hrep with
  | nil _ _ _ hn => simp at hkl
  | tr _ _ _ _ la cur hla hs hh ht hl hz hf =>
    refine .tr fr ty sz _ la cur hla hs hh ht (by simpa [nilEs] using hl) (fun e he => ?_) fun k' i e t hk' hi => ?_
    · rcases List.mem_or_eq_of_mem_set he with he | rfl
      · exact hz e he
      · rw [List.length_set]; exact hz _ (List.mem_of_getElem? hge)
    · unfold nilEs at hk'
      rw [List.getElem?_set] at hk'
      by_cases e1 : k = k'
      · subst e1
        simp [hkl] at hk'
        subst hk'
        rw [List.getElem?_set] at hi
        by_cases e2 : j = i
        · subst e2
          have hjl := (List.getElem?_eq_some_iff.1 hk).1
          simp [hjl] at hi
          subst hi
          obtain ⟨x, hx, htr⟩ := hf k j _ _ hge hk
          refine ⟨x, hx, ?_⟩
          cases htr with
          | v _ _ => exact .sl size [] none 0 (fun _ _ => undef) (by simp) (by simp) (by simp) (.inl rfl) (by simp)
        · rw [if_neg e2] at hi
          exact hf k i _ _ hge hi
      · rw [if_neg e1] at hk'
        exact hf k' i e t hk' hi
theorem AR.nilCT (r k j size : Nat) {fr : Bool} {ty sz : Nat} {es : List (List T)} (hr : st.row r = some (.tr fr ty sz es)) (hk : (getE es k)[j]? = some (.v (.slice none 0 0))) (h : AR Γ l Q (st.setRow r (.tr fr ty sz (nilEs k j size es)))) : AR Γ l Q st :=
  AR.of (fun a w ⟨ρ, hs⟩ => ⟨ρ, hs.nilCT r k j size hr hk⟩) h
theorem nilEs_mk {k j size : Nat} {es : List (List T)} : nilEs k j size es = es.set k ((getE es k).set j (.sl size [])) := rfl
theorem getE_0 {e : List T} {es : List (List T)} : getE (e :: es) 0 = e := rfl
theorem getE_s {e : List T} {es : List (List T)} {n : Nat} : getE (e :: es) (n + 1) = getE es n := rfl
theorem step_bstr {d : Nat} {x : Od} : step (.bstr x) d st = none := rfl
/-- a contract over an empty row holds over nil -/
theorem CtrE.nil {P : Program} {f : FuncId} {args args' : List AV} {size : Nat} {av : AV} {rs : List (Nat × Row)} (h : CtrE P f args av rs) (he : args'.map (nilTV 0 size) = args) : CtrE P f args' av rs := by
  refine ⟨h.1, fun S w vs hS hl hr => h.2 S w vs hS (by rw [← he]; simpa using hl) fun i v hv => ?_⟩
  rw [← he, List.getElem?_map] at hv
  cases hi : args'[i]? with
  | none => simp [hi] at hv
  | some v0 =>
    simp [hi] at hv
    subst hv
    exact nilTV_rep (hr i v0 hi)
end
set_option linter.defProp false in
def W1 := And.intro @step_bstr <| And.intro @nilEs_mk <| And.intro @getE_0 <| And.intro @nilTV_c <| And.intro @nilTV_agg <| @nilTC_nil
end Go.Eng
