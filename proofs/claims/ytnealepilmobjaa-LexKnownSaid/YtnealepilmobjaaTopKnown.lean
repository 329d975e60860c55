/- LexKnown holds. -/
import Derived.Test.YtnealepilmobjaaRows
import Derived.Test.YtnealepilmobjaaFunU
import Derived.Test.YtnealepilmobjaaEng22
import Derived.ProofKit
set_option linter.unusedVariables false
namespace Go.Proofs.Ytnealepilmobjaa
open Go.ChangeShapes Go.WideShapes Go.ChangeAt Go.RowKit Go.Eng Go.WideMaps Go.WideElems
open Go.ChangeMaps (open_string)
theorem Try.own : ownKnob Try.prog.godebug = none := by kernel_rfl
theorem Try.laidOut : laidOutB Try.prog = true := by kernel_rfl
set_option maxRecDepth 100000 in
theorem lexknown_lifted (os : Os) (started : os.Started) (H : Type) (enc : TypeId × Value → H) :
    ReturnsInHanded {} Try.checked os 7 .any (Rows.lexKnownSpec.pre6 enc Try.prog Try.f7 Rows.lexKnownRow.domain false) (Rows.lexKnownSpec.post enc Try.prog Try.f7 false true false false) := by
  refine returnsInHanded_of_change (C := Try.checked) Try.own started (by kernel_rfl) Try.func7
    (ChangeSpec.witness6 (enc := enc) (C := Try.checked) false ⟨#[], #[], []⟩ 8 (by kernel_rfl) (by kernel_rfl) (by kernel_rfl) (by kernel_rfl)) ?_
  intro W base args ds gs before hval0 hW hcnd _
  have hval : ∀ (j : Nat) t v, Try.f7.params[j]? = some t → args[j]? = some v → Value.okWide Try.prog W .any base t v := hval0
  have hW' := hW
  obtain ⟨p, q, hA0, hV, rfl, hfz, hnd⟩ := hW
  have hA : DataW.TrodAll enc Try.prog W 0 (fun _ => true) true Try.f7.params.toList args.toList ds p := hA0
  rw [Try.params7] at hA hval
  obtain ⟨he0, rfl, rfl⟩ : args = #[] ∧ ds = [] ∧ p = [] := by
    cases hh : args.toList with
    | nil =>
      rw [hh] at hA
      cases ds with
      | nil => exact ⟨by simpa using hh, rfl, hA⟩
      | cons d ds => exact hA.elim
    | cons v vs =>
      rw [hh] at hA
      cases ds <;> exact hA.elim
  subst he0
  obtain ⟨rfl, rfl⟩ := trodVars_none hV
  clear hA0 hval0
  simp only [List.append_nil] at hW'
  refine (law_calls lexknown (fun _ => False) W _ (fun _ h => h.elim) rfl fun i v hi => ?_).mono fun e W' ⟨he, hb⟩ => ?_
  · simp at hi
  · exact ⟨_, he, post_law (tb := 4) rfl rfl (by kernel_rfl) Try.underlying4 Try.laidOut (by kernel_rfl) hW' hb⟩
theorem lexknown_holds : Rows.LexKnownSaid :=
  OpenClaim.holds_of_wide 7 Try.f7 rfl rfl rfl rfl rfl rfl rfl ⟨rfl, rfl, rfl, rfl, rfl⟩ rfl rfl rfl rfl rfl (by kernel_rfl) Try.func7 (by kernel_rfl)
    (of_decide_eq_true (by kernel_rfl)) (by unfold Func.isWrapper; rw [if_neg (by decide +kernel)]; exact ⟨rfl, rfl⟩)
    (fun os started H enc _ => lexknown_lifted os started H enc)
#print axioms lexknown_holds
end Go.Proofs.Ytnealepilmobjaa
