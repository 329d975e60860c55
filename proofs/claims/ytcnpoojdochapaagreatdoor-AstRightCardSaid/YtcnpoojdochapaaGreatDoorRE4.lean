/- AstRight holds: of any filing both readings tell the same first fault, and what is made anew for the reference is the same. Of all filings; the tables that the row lists are tied to the program's text. -/
import Derived.ProofKit
import Derived.WalkKit
import Derived.Orders
import Derived.Test.YtcnpoojdochapaaGreatDoorRE1
import Derived.Test.YtcnpoojdochapaaGreatDoorRE5
import Derived.Test.YtcnpoojdochapaaGreatDoorRE3
import Derived.Test.YtcnpoojdochapaaGreatDoorRF5
set_option linter.unusedVariables false
set_option maxRecDepth 100000
namespace Go.Proofs.YtcnpoojdochapaaGreatDoor
open Go.ChangeShapes Go.WideShapes Go.ChangeAt Go.RowKit
open Go.CE (bHB aTe bF6 bAd aUY RMono.mono nK.mono nS)
open Go.Eng (aWp)
open Go.CE (aGq)
theorem shF:Go.CE.TT.of Tryz.prog 20 41=some aUu:=by kernel_rfl
theorem bJY:laidOutB Tryz.prog=true:=by kernel_rfl
theorem bMW:Tryz.prog.follows .mixedOrders=true:=by kernel_rfl
theorem bWb:Go.Eng.callable Tryz.prog 4=true:=by kernel_rfl
theorem bTc:(Tryz.f4.params.toList.all fun t=>Tryz.prog.readableRec t && decide (t<Tryz.prog.types.size))=true:=by kernel_rfl
theorem bHn:aM3:=by
 intro H enc W base args ds gs before hval hW
 have hW':=hW
 obtain ⟨p,q,hA0,hV,rfl,hfz,hnd⟩:=hW
 have hA:DataW.TrodAll enc Tryz.prog W 0 (fun _=>true) true Tryz.f4.params.toList args.toList ds p:=hA0
 rw [Tryz.params4] at hA hval
 obtain ⟨v0,d0,rfl,rfl,h0⟩:=trodAll_one hA
 obtain ⟨rfl,rfl⟩:=trodVars_none hV
 obtain ⟨x0,rfl,s0⟩:=okWide_struct Tryz.underlying41 (hval 0 41 v0 rfl rfl)
 clear hA0 hA
 simp only [List.append_nil] at hW'
 obtain ⟨n0,f0⟩:=h0
 obtain ⟨us0,a0⟩:=aGq 20 n0 shF f0
 obtain ⟨cs0,t1,ρ1,m1,e1,l1,k1,z1,c1,g1,r1⟩:=aTe (K:=fun b=>b<W.heap.size) (fun b h=>h) a0 .nil (fun _=>none) 0 (bF6 W) (fun _=>Iff.rfl)
 obtain ⟨x,c0',c1',c2',c3',c4',c5',c6',c7',c8',c9',c10',c11',hcs,q0,q1,q2,q3,q4,q5,q6,q7,q8,q9,q10,q11⟩:=bAs g1
 subst hcs
 refine (bHB (args:=[.agg _]) (aUY bMW bSM bSK K0 40) bWb e1 (aQ6 (k:=40) (by omega) (x:=x) q0 q1 q2 q3 q4 q5 q6 q7 q8 q9 q10 q11) rfl (fun k v hk=>?_)).mono fun e W' ⟨he,hb⟩=>?_
 ·match k,hk with
  | 0,hk=>injection hk with hk;subst hk;exact bAd c1 r1
 exact ⟨_,he,aWp (tb:=4) rfl rfl (by kernel_rfl) Tryz.underlying4 bJY bTc hW' hb⟩
theorem astRight_holds:Rows.AstRightCardSaid:=bVw bHn
end Go.Proofs.YtcnpoojdochapaaGreatDoor
