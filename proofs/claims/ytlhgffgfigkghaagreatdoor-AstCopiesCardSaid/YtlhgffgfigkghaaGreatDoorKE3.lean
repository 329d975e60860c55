/- AstCopies holds: a copy is the same, and stays so, whatever becomes of the filing, and the other way round. Of all filings that can be read; the two tables that the row lists are tied to the program's text. -/
import Derived.ProofKit
import Derived.WalkKit
import Derived.Orders
import Derived.Test.YtlhgffgfigkghaaGreatDoorKD4
import Derived.Test.YtlhgffgfigkghaaGreatDoorKE2
set_option linter.unusedVariables false
set_option maxRecDepth 100000
namespace Go.Proofs.YtlhgffgfigkghaaGreatDoor
open Go.ChangeShapes Go.WideShapes Go.ChangeAt Go.RowKit
open Go.CE (law_of en_trees en_nil agg_rep evF_sound trod_tree)
open Go.Eng (post_law)
theorem shF : Go.CE.TT.of Tryz.prog 20 32 = some sh_filing := by kernel_rfl
theorem laidOut : laidOutB Tryz.prog = true := by kernel_rfl
theorem cal3 : Go.Eng.callable Tryz.prog 3 = true := by kernel_rfl
theorem read3 : (Tryz.f3.params.toList.all fun t => Tryz.prog.readableRec t && decide (t < Tryz.prog.types.size)) = true := by kernel_rfl
theorem contract : Contract := by
 intro H enc W base args ds gs before hval hW
 have hW' := hW
 obtain ⟨p, q, hA0, hV, rfl, hfz, hnd⟩ := hW
 have hA : DataW.TrodAll enc Tryz.prog W 0 (fun _ => true) true Tryz.f3.params.toList args.toList ds p := hA0
 rw [Tryz.params3] at hA hval
 obtain ⟨v0, d0, rfl, rfl, h0⟩ := trodAll_one hA
 obtain ⟨rfl, rfl⟩ := trodVars_none hV
 obtain ⟨x0, rfl, s0⟩ := okWide_struct Tryz.underlying32 (hval 0 32 v0 rfl rfl)
 clear hA0 hA
 simp only [List.append_nil] at hW'
 obtain ⟨n0, f0⟩ := h0
 obtain ⟨us0, a0⟩ := trod_tree 20 n0 shF f0
 obtain ⟨cs0, t1, ρ1, m1, e1, l1, k1, z1, c1, g1, r1⟩ := en_trees (K := fun b => b < W.heap.size) (fun b h => h) a0 .nil (fun _ => none) 0 (en_nil W) (fun _ => Iff.rfl)
 obtain ⟨x, hx⟩ := of_filing g1
 refine (law_of (args := [.agg cs0]) (evF_sound Go.Proofs.YtlhgffgfigkghaaGreatDoor.W.mixed tS_ok hS_ok K0 9) cal3 e1 (AstCopies_fc (k := 9) (by omega) ⟨cs0, rfl, hx⟩) rfl (fun k v hk => ?_)).mono fun e W' ⟨he, hb⟩ => ?_
 ·match k, hk with
  | 0, hk => injection hk with hk; subst hk; exact agg_rep c1 r1
 ·exact ⟨_, he, post_law (tb := 4) rfl rfl (by kernel_rfl) Tryz.underlying4 laidOut read3 hW' hb⟩
theorem astCopies_holds : Rows.AstCopiesCardSaid := card contract
end Go.Proofs.YtlhgffgfigkghaaGreatDoor
