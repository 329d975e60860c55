/- LexShows holds of every row of lines. -/
import Derived.Test.YtnealepilmobjaaRows
import Derived.Test.YtnealepilmobjaaFunK
import Derived.Test.YtnealepilmobjaaEng26
import Derived.ProofKit
set_option linter.unusedVariables false
namespace Go.Proofs.Ytnealepilmobjaa
open Go.ChangeShapes Go.WideShapes Go.ChangeAt Go.RowKit Go.Eng Go.WideMaps Go.WideElems
open Go.ChangeMaps (open_string)
theorem Try.own : ownKnob Try.prog.godebug = none := by kernel_rfl
theorem Try.laidOut : laidOutB Try.prog = true := by kernel_rfl
theorem lines_of {t : T} (h : TOk (.sl 2 [.sl 2 [.s, .i .i64], .i .i64]) t) : ∃ ls : List PLine, t = .sl 2 (ls.map lT) ∧ ls.length ≤ maxLen := by
  obtain ⟨ls, h1, h2, _⟩ := h.list lT (fun _ => True) fun us hl hu => by
    match us, hl with
    | [a, b], _ =>
      have ha := hu 0 _ a rfl rfl
      obtain ⟨n, hb, _⟩ := (hu 1 _ b rfl rfl).int
      obtain ⟨ws, h1, h2, _⟩ := ha.list wT (fun _ => True) fun us hl hu => by
        match us, hl with
        | [a, b], _ =>
          obtain ⟨s, ha, _⟩ := (hu 0 _ a rfl rfl).str
          obtain ⟨n, hb, _⟩ := (hu 1 _ b rfl rfl).int
          obtain ⟨l, rfl⟩ := bs_surj s
          exact ⟨(l, n), by rw [ha, hb]; rfl, trivial⟩
      exact ⟨(ws, n), by rw [h1, hb]; rfl, trivial⟩
  exact ⟨ls, h1, h2⟩
set_option maxRecDepth 100000 in
theorem shows_lifted (os : Os) (started : os.Started) (H : Type) (enc : TypeId × Value → H) :
    ReturnsInHanded {} Try.checked os 5 .any (Rows.lexShowsSpec.pre6 enc Try.prog Try.f5 Rows.lexShowsRow.domain false) (Rows.lexShowsSpec.post enc Try.prog Try.f5 false true false false) := by
  refine returnsInHanded_of_change (C := Try.checked) Try.own started (by kernel_rfl) Try.func5
    (ChangeSpec.witness6 (enc := enc) (C := Try.checked) false ⟨#[], #[.slice none 0 0], []⟩ 8 (by kernel_rfl) (by kernel_rfl) (by kernel_rfl) (by kernel_rfl)) ?_
  intro W base args ds gs before hval0 hW hcnd _
  have hval : ∀ (j : Nat) t v, Try.f5.params[j]? = some t → args[j]? = some v → Value.okWide Try.prog W .any base t v := hval0
  have hW' := hW
  obtain ⟨p, q, hA0, hV, rfl, hfz, hnd⟩ := hW
  have hA : DataW.TrodAll enc Try.prog W 0 (fun _ => true) true Try.f5.params.toList args.toList ds p := hA0
  rw [Try.params5] at hA hval
  obtain ⟨v0, d0, rfl, rfl, h0⟩ := trodAll_one hA
  obtain ⟨rfl, rfl⟩ := trodVars_none hV
  obtain ⟨u, hu, hr⟩ := arg_slice (n := 20) (tt := .sl 2 [.sl 2 [.s, .i .i64], .i .i64]) Try.underlying23 (hval 0 23 v0 rfl rfl) (by kernel_rfl) h0
  obtain ⟨ls, rfl, hl⟩ := lines_of hu
  clear hA0 hval0
  simp only [List.append_nil] at hW'
  refine (law_calls (shows (fr := false) (ls := ls) (by unfold maxLen at hl; omega)) (fun b => b < W.heap.size) W _ (fun _ h => h) rfl fun i v hi => ?_).mono fun e W' ⟨he, hb⟩ => ?_
  · match i, hi with
    | 0, hi => injection hi with hi; subst hi; exact arg_of_tree hr
  · exact ⟨_, he, post_law (tb := 4) rfl rfl (by kernel_rfl) Try.underlying4 Try.laidOut (by kernel_rfl) hW' hb⟩
theorem shows_holds : Rows.LexShowsSaid :=
  OpenClaim.holds_of_wide 5 Try.f5 rfl rfl rfl rfl rfl rfl rfl ⟨rfl, rfl, rfl, rfl, rfl⟩ rfl rfl rfl rfl rfl (by kernel_rfl) Try.func5 (by kernel_rfl)
    (of_decide_eq_true (by kernel_rfl)) (by unfold Func.isWrapper; rw [if_neg (by decide +kernel)]; exact ⟨rfl, rfl⟩)
    (fun os started H enc _ => shows_lifted os started H enc)
#print axioms shows_holds
end Go.Proofs.Ytnealepilmobjaa
