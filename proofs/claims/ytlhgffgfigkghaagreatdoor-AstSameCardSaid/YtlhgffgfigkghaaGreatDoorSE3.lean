/- AstSame holds: of any two filings it is told whether they are the same. Of all filings that can be read; the two tables that the row lists are tied to the program's text. -/
import Derived.ProofKit
import Derived.WalkKit
import Derived.Orders
import Derived.Test.YtlhgffgfigkghaaGreatDoorSD3
import Derived.Test.YtlhgffgfigkghaaGreatDoorSE2
set_option linter.unusedVariables false
set_option maxRecDepth 100000
namespace Go.Proofs.YtlhgffgfigkghaaGreatDoor
open Go.ChangeShapes Go.WideShapes Go.ChangeAt Go.RowKit
open Go.CE (law_of en_trees en_nil agg_rep evF_sound RMono.mono CRep.mono)
open Go.Eng (post_law)
open Go.CE (trod_tree)
theorem shF : Go.CE.TT.of Tryz.prog 20 32 = some sh_filing := by kernel_rfl
theorem laidOut : laidOutB Tryz.prog = true := by kernel_rfl
theorem cal4 : Go.Eng.callable Tryz.prog 4 = true := by kernel_rfl
theorem read4 : (Tryz.f4.params.toList.all fun t => Tryz.prog.readableRec t && decide (t < Tryz.prog.types.size)) = true := by kernel_rfl
theorem contract : Contract := by
 intro H enc W base args ds gs before hval hW
 have hW' := hW
 obtain ⟨p, q, hA0, hV, rfl, hfz, hnd⟩ := hW
 have hA : DataW.TrodAll enc Tryz.prog W 0 (fun _ => true) true Tryz.f4.params.toList args.toList ds p := hA0
 rw [Tryz.params4] at hA hval
 obtain ⟨v0, v1, d0, d1, p0, p1, rfl, rfl, rfl, h0, h1⟩ := trodAll_two hA
 obtain ⟨rfl, rfl⟩ := trodVars_none hV
 obtain ⟨x0, rfl, s0⟩ := okWide_struct Tryz.underlying32 (hval 0 32 v0 rfl rfl)
 obtain ⟨x1, rfl, s1⟩ := okWide_struct Tryz.underlying32 (hval 1 32 v1 rfl rfl)
 clear hA0 hA
 simp only [List.append_nil] at hW'
 obtain ⟨n0, f0⟩ := h0
 obtain ⟨n1, f1⟩ := h1
 obtain ⟨us0, a0⟩ := trod_tree 20 n0 shF f0
 obtain ⟨us1, a1⟩ := trod_tree 20 n1 shF f1
 obtain ⟨cs0, t1, ρ1, m1, e1, l1, k1, z1, c1, g1, r1⟩ := en_trees (K := fun b => b < W.heap.size) (fun b h => h) a0 .nil (fun _ => none) 0 (en_nil W) (fun _ => Iff.rfl)
 obtain ⟨cs1, t2, ρ2, m2, e2, l2, k2, z2, c2, g2, r2⟩ := en_trees (K := fun b => b < W.heap.size) (fun b h => h) a1 t1 ρ1 m1 e1 (fun _ => Iff.rfl)
 obtain ⟨x, hx⟩ := of_filing g1
 have hx := RMono.mono z2 hx
 obtain ⟨y, hy⟩ := of_filing g2
 refine (law_of (args := [.agg cs0, .agg cs1]) (evF_sound Go.Proofs.YtlhgffgfigkghaaGreatDoor.W.mixed tS_ok hS_ok K0 9) cal4 e2 (AstSame_fc (k := 9) (by omega) ⟨cs0, rfl, hx⟩ ⟨cs1, rfl, hy⟩) rfl (fun k v hk => ?_)).mono fun e W' ⟨he, hb⟩ => ?_
 ·match k, hk with
  | 0, hk =>
   injection hk with hk; subst hk
   refine agg_rep c1 fun i c hc => ?_
   obtain ⟨y, g3, g4⟩ := r1 i c hc
   exact ⟨y, g3, g4.mono l2⟩
  | 1, hk => injection hk with hk; subst hk; exact agg_rep c2 r2
 ·exact ⟨_, he, post_law (tb := 4) rfl rfl (by kernel_rfl) Tryz.underlying4 laidOut read4 hW' hb⟩
theorem astSame_holds : Rows.AstSameCardSaid := card contract
end Go.Proofs.YtlhgffgfigkghaaGreatDoor
