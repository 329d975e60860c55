/- LexBack holds of all lines and texts. -/
import Derived.Test.YtnealepilmobjaaRows
import Derived.Test.YtnealepilmobjaaFunS
import Derived.Test.YtnealepilmobjaaEng26
import Derived.ProofKit
set_option linter.unusedVariables false
namespace Go.Proofs.Ytnealepilmobjaa
open Go.ChangeShapes Go.WideShapes Go.ChangeAt Go.RowKit Go.Eng Go.WideMaps Go.WideElems
open Go.ChangeMaps (open_string)
theorem Try.own : ownKnob Try.prog.godebug = none := by kernel_rfl
theorem Try.laidOut : laidOutB Try.prog = true := by kernel_rfl
theorem lines_of {t : T} (h : TOk (.sl 2 [.sl 2 [.s, .i .i64], .i .i64]) t) : ∃ ls : List PLine, t = .sl 2 (ls.map lT) ∧ ls.length ≤ maxLen := by
  obtain ⟨ls, h1, h2, _⟩ := h.list lT (fun _ => True) fun us hl hu => by
    match us, hl with
    | [a, b], _ =>
      have ha := hu 0 _ a rfl rfl
      obtain ⟨n, hb, _⟩ := (hu 1 _ b rfl rfl).int
      obtain ⟨ws, h1, h2, _⟩ := ha.list wT (fun _ => True) fun us hl hu => by
        match us, hl with
        | [a, b], _ =>
          obtain ⟨s, ha, _⟩ := (hu 0 _ a rfl rfl).str
          obtain ⟨n, hb, _⟩ := (hu 1 _ b rfl rfl).int
          obtain ⟨l, rfl⟩ := bs_surj s
          exact ⟨(l, n), by rw [ha, hb]; rfl, trivial⟩
      exact ⟨(ws, n), by rw [h1, hb]; rfl, trivial⟩
  exact ⟨ls, h1, h2⟩
set_option maxRecDepth 100000 in
theorem back_lifted (os : Os) (started : os.Started) (H : Type) (enc : TypeId × Value → H) :
    ReturnsInHanded {} Try.checked os 6 .any (Rows.lexBackSpec.pre6 enc Try.prog Try.f6 Rows.lexBackRow.domain false) (Rows.lexBackSpec.post enc Try.prog Try.f6 false true false false) := by
  refine returnsInHanded_of_change (C := Try.checked) Try.own started (by kernel_rfl) Try.func6
    (ChangeSpec.witness6 (enc := enc) (C := Try.checked) false ⟨#[], #[.slice none 0 0, .string ⟨#[]⟩], []⟩ 8 (by kernel_rfl) (by kernel_rfl) (by kernel_rfl) (by kernel_rfl)) ?_
  intro W base args ds gs before hval0 hW hcnd _
  have hval : ∀ (j : Nat) t v, Try.f6.params[j]? = some t → args[j]? = some v → Value.okWide Try.prog W .any base t v := hval0
  have hW' := hW
  obtain ⟨p, q, hA0, hV, rfl, hfz, hnd⟩ := hW
  have hA : DataW.TrodAll enc Try.prog W 0 (fun _ => true) true Try.f6.params.toList args.toList ds p := hA0
  rw [Try.params6] at hA hval
  obtain ⟨v0, v1, d0, d1, p0, p1, rfl, rfl, rfl, h0, h1⟩ := trodAll_two hA
  obtain ⟨rfl, rfl⟩ := trodVars_none hV
  obtain ⟨u, hu, hr⟩ := arg_slice (n := 20) (tt := .sl 2 [.sl 2 [.s, .i .i64], .i .i64]) Try.underlying23 (hval 0 23 v0 rfl rfl) (by kernel_rfl) h0
  obtain ⟨ls, rfl, hl⟩ := lines_of hu
  obtain ⟨t, rfl, rfl, rfl, wt⟩ := open_string Try.underlying9 (hval 1 9 v1 rfl rfl) h1
  obtain ⟨s, rfl⟩ := bs_surj t
  clear hA0 hval0
  simp only [List.append_nil] at hW'
  refine (law_calls (back (fr := false) (fs := false) (ls := ls) (s := s) (by unfold maxLen at hl; omega)) (fun b => b < W.heap.size) W _ (fun _ h => h) rfl fun i v hi => ?_).mono fun e W' ⟨he, hb⟩ => ?_
  · match i, hi with
    | 0, hi => injection hi with hi; subst hi; exact arg_of_tree hr
    | 1, hi => injection hi with hi; subst hi; exact .c _ _ (.t false _ _ (.v _ rfl))
  · exact ⟨_, he, post_law (tb := 4) rfl rfl (by kernel_rfl) Try.underlying4 Try.laidOut (by kernel_rfl) hW' hb⟩
theorem back_holds : Rows.LexBackSaid :=
  OpenClaim.holds_of_wide 6 Try.f6 rfl rfl rfl rfl rfl rfl rfl ⟨rfl, rfl, rfl, rfl, rfl⟩ rfl rfl rfl rfl rfl (by kernel_rfl) Try.func6 (by kernel_rfl)
    (of_decide_eq_true (by kernel_rfl)) (by unfold Func.isWrapper; rw [if_neg (by decide +kernel)]; exact ⟨rfl, rfl⟩)
    (fun os started H enc _ => back_lifted os started H enc)
#print axioms back_holds
end Go.Proofs.Ytnealepilmobjaa
