/- AstWords holds: of any text and any fraction both readings tell alike whether it is a name, money, a share. Of all texts and fractions; the tables that the row lists are tied to the program's text. -/
import Derived.ProofKit
import Derived.WalkKit
import Derived.Orders
import Derived.Test.YtcnpoojdochapaaGreatDoorKD9
import Derived.Test.YtcnpoojdochapaaGreatDoorKE1
import Derived.Test.YtcnpoojdochapaaGreatDoorKE5
import Derived.Test.YtcnpoojdochapaaGreatDoorKE3
set_option linter.unusedVariables false
set_option maxRecDepth 100000
namespace Go.Proofs.YtcnpoojdochapaaGreatDoor
open Go.ChangeShapes Go.WideShapes Go.ChangeAt Go.RowKit
open Go.CE (law_of en_trees en_nil agg_rep evF_sound RMono.mono CRep.mono AVRep)
open Go.Eng (post_law)
open Go.CE (trod_tree)
theorem shS:Go.CE.TT.of Tryz.prog 20 9=some sh_str:=by kernel_rfl
theorem shR:Go.CE.TT.of Tryz.prog 20 26=some sh_rat:=by kernel_rfl
theorem laidOut:laidOutB Tryz.prog=true:=by kernel_rfl
theorem mixedP:Tryz.prog.follows .mixedOrders=true:=by kernel_rfl
theorem cal3:Go.Eng.callable Tryz.prog 3=true:=by kernel_rfl
theorem read3:(Tryz.f3.params.toList.all fun t=>Tryz.prog.readableRec t && decide (t<Tryz.prog.types.size))=true:=by kernel_rfl
theorem contract:Contract:=by
 intro H enc W base args ds gs before hval hW
 have hW':=hW
 obtain ⟨p,q,hA0,hV,rfl,hfz,hnd⟩:=hW
 have hA:DataW.TrodAll enc Tryz.prog W 0 (fun _=>true) true Tryz.f3.params.toList args.toList ds p:=hA0
 rw [Tryz.params3] at hA hval
 obtain ⟨v0,v1,d0,d1,p0,p1,rfl,rfl,rfl,h0,h1⟩:=trodAll_two hA
 obtain ⟨rfl,rfl⟩:=trodVars_none hV
 obtain ⟨x0,rfl⟩:=okWide_string Tryz.underlying9 (hval 0 9 v0 rfl rfl)
 obtain ⟨x1,rfl,s1⟩:=okWide_struct Tryz.underlying26 (hval 1 26 v1 rfl rfl)
 clear hA0 hA
 simp only [List.append_nil] at hW'
 obtain ⟨n0,f0⟩:=h0
 obtain ⟨n1,f1⟩:=h1
 obtain ⟨us0,a0⟩:=trod_tree 20 n0 shS f0
 obtain ⟨us1,a1⟩:=trod_tree 20 n1 shR f1
 obtain ⟨cs0,t1,ρ1,m1,e1,l1,k1,z1,c1,g1,r1⟩:=en_trees (K:=fun b=>b<W.heap.size) (fun b h=>h) a0 .nil (fun _=>none) 0 (en_nil W) (fun _=>Iff.rfl)
 obtain ⟨cs1,t2,ρ2,m2,e2,l2,k2,z2,c2,g2,r2⟩:=en_trees (K:=fun b=>b<W.heap.size) (fun b h=>h) a1 t1 ρ1 m1 e1 (fun _=>Iff.rfl)
 obtain ⟨s,hs⟩:=of_str g1
 obtain ⟨x,c0',c1',hcs,q0,q1⟩:=of_rat g2
 subst hcs
 obtain rfl:cs0=[.v (.string s)]:=hs
 refine (law_of (args:=[.c (.v (.string s)),.agg _]) (evF_sound mixedP tS_ok hS_ok K0 40) cal3 e2 (c_law08_AstWords (k:=40) (by omega) (l:=s.data.toList) (x:=x) q0 q1) rfl (fun k v hk=>?_)).mono fun e W' ⟨he,hb⟩=>?_
 ·match k,hk with
  | 0,hk =>
   injection hk with hk;subst hk
   obtain ⟨y,g3,g4⟩:=r1 0 _ rfl
   have e3:y=.string x0:=(Option.some.inj g3).symm
   subst e3
   exact .c _ _ (g4.mono l2)
  | 1,hk=>injection hk with hk;subst hk;exact agg_rep c2 r2
 ·exact ⟨_,he,post_law (tb:=4) rfl rfl (by kernel_rfl) Tryz.underlying4 laidOut read3 hW' hb⟩
theorem astWords_holds:Rows.AstWordsCardSaid:=card contract
end Go.Proofs.YtcnpoojdochapaaGreatDoor
