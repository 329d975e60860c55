/- AstLess holds: of any filing that is right, it stays right without its last year, person, class or bracket; of one that is not, what is told of the first fault is within its bounds. Of all filings; the tables that the row lists are tied to the program's text. -/
import Derived.ProofKit
import Derived.WalkKit
import Derived.Orders
import Derived.Test.YtcnpoojdochapaaGreatDoorLE1
import Derived.Test.YtcnpoojdochapaaGreatDoorLE5
import Derived.Test.YtcnpoojdochapaaGreatDoorLE3
import Derived.Test.YtcnpoojdochapaaGreatDoorLF2
set_option linter.unusedVariables false
set_option maxRecDepth 100000
namespace Go.Proofs.YtcnpoojdochapaaGreatDoor
open Go.ChangeShapes Go.WideShapes Go.ChangeAt Go.RowKit
open Go.CE (law_of en_trees en_nil agg_rep evF_sound RMono.mono CRep.mono AVRep)
open Go.Eng (post_law)
open Go.CE (trod_tree)
theorem shF:Go.CE.TT.of Tryz.prog 20 41=some sh_filing:=by kernel_rfl
theorem laidOut:laidOutB Tryz.prog=true:=by kernel_rfl
theorem mixedP:Tryz.prog.follows .mixedOrders=true:=by kernel_rfl
theorem cal5:Go.Eng.callable Tryz.prog 5=true:=by kernel_rfl
theorem read5:(Tryz.f5.params.toList.all fun t=>Tryz.prog.readableRec t && decide (t<Tryz.prog.types.size))=true:=by kernel_rfl
theorem contract:Contract:=by
 intro H enc W base args ds gs before hval hW
 have hW':=hW
 obtain ⟨p,q,hA0,hV,rfl,hfz,hnd⟩:=hW
 have hA:DataW.TrodAll enc Tryz.prog W 0 (fun _=>true) true Tryz.f5.params.toList args.toList ds p:=hA0
 rw [Tryz.params5] at hA hval
 obtain ⟨v0,d0,rfl,rfl,h0⟩:=trodAll_one hA
 obtain ⟨rfl,rfl⟩:=trodVars_none hV
 obtain ⟨x0,rfl,s0⟩:=okWide_struct Tryz.underlying41 (hval 0 41 v0 rfl rfl)
 clear hA0 hA
 simp only [List.append_nil] at hW'
 obtain ⟨n0,f0⟩:=h0
 obtain ⟨us0,a0⟩:=trod_tree 20 n0 shF f0
 obtain ⟨cs0,t1,ρ1,m1,e1,l1,k1,z1,c1,g1,r1⟩:=en_trees (K:=fun b=>b<W.heap.size) (fun b h=>h) a0 .nil (fun _=>none) 0 (en_nil W) (fun _=>Iff.rfl)
 obtain ⟨x,c0',c1',c2',c3',c4',c5',c6',c7',c8',c9',c10',c11',hcs,q0,q1,q2,q3,q4,q5,q6,q7,q8,q9,q10,q11⟩:=of_filing g1
 subst hcs
 refine (law_of (args:=[.agg _]) (evF_sound mixedP tS_ok hS_ok K0 40) cal5 e1 (c_law08_AstLess (k:=40) (by omega) (x:=x) q0 q1 q2 q3 q4 q5 q6 q7 q8 q9 q10 q11) rfl (fun k v hk=>?_)).mono fun e W' ⟨he,hb⟩=>?_
 ·match k,hk with
  | 0,hk=>injection hk with hk;subst hk;exact agg_rep c1 r1
 ·exact ⟨_,he,post_law (tb:=4) rfl rfl (by kernel_rfl) Tryz.underlying4 laidOut read5 hW' hb⟩
theorem astLess_holds:Rows.AstLessCardSaid:=card contract
end Go.Proofs.YtcnpoojdochapaaGreatDoor
