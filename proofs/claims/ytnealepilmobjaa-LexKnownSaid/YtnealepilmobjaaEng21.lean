/-
  The engine, part 21: contracts that speak of values alone.
-/
import Derived.Test.YtnealepilmobjaaEng20
set_option linter.unusedVariables false
set_option linter.unusedSimpArgs false
namespace Go.Eng
open Go.RowKit

def valsOf : List AV → Option (List Value)
  | [] => some []
  | .c (.t _ (.v x)) :: l => match valsOf l with
    | some r => some (x :: r)
    | none => none
  | _ => none
theorem valsOf_rep {R : C → Value → Prop} (hR : ∀ fr x y, R (.t fr (.v x)) y → y = x) : ∀ {args : List AV} {vs : List Value} {xs : List Value}, valsOf args = some vs → xs.length = args.length →
    (∀ i v, args[i]? = some v → AVRep R v (xs.getD i undef)) → xs = vs := by
  intro args
  induction args with
  | nil => intro vs xs h hl _; simp [valsOf] at h; subst h; simpa using hl
  | cons a args ih =>
    intro vs xs h hl hr
    cases xs with
    | nil => simp at hl
    | cons y ys =>
      unfold valsOf at h
      split at h
      · rename_i heq
        cases heq
      · rename_i fr x l heq
        injection heq with h1 h2
        subst h2
        split at h
        case h_2 => cases h
        rename_i r hr'
        injection h with h
        subst h
        have h0 := hr 0 a rfl
        rw [h1] at h0
        have hy : y = x := by
          cases h0 with
          | c _ _ hc => exact hR _ _ _ hc
        rw [hy, ih hr' (by simpa using hl) fun i v hv => hr (i + 1) v hv]
      · cases h

theorem CtrE.of_calls {P : Program} {f : FuncId} {args : List AV} {vs : List Value} {x : Value} (hcal : callable P f = true) (hv : valsOf args = some vs) (hx : x.oneCell' = true)
    (h : ∀ w : World, Calls P f vs.toArray w fun e w' => e = .returned x ∧ Below w.heap.size w w') : CtrE P f args (.c (.t true (.v x))) [] := by
  refine ⟨hcal, fun S w xs hS hl hr => ?_⟩
  have hxs : xs = vs.toArray := by
    apply Array.ext'
    rw [List.toList_toArray]
    refine valsOf_rep (R := CRep (fun _ => none) (fun _ => False) S w) (fun fr x y hc => ?_) hv (by simpa using hl) fun i v hi => ?_
    · cases hc with
      | t _ _ _ ht => cases ht with
        | v _ _ => rfl
    · have := hr i v hi
      rwa [getD_toList] at this
  subst hxs
  refine (h w).mono fun e w' ⟨he, hb⟩ => ⟨x, _, _, fun _ => none, he, ⟨rfl, rfl⟩, hb, ?_, ?_⟩
  · refine ⟨rfl, rfl, fun i => .any _, fun r row hr => by simp [AS.row, lk] at hr, fun r r' row row' la la' h1 => by simp [AS.row, lk] at h1, fun r row la h1 => by simp [AS.row, lk] at h1, ⟨hb.os, hb.tape, hb.output, hb.size, fun b hb' _ => hb.block b hb'⟩, fun b hb' => ⟨fun h => h, hS b hb'⟩, fun r la h => by cases h⟩
  · exact .c _ _ (.t true _ _ (.v x hx))
end Go.Eng
