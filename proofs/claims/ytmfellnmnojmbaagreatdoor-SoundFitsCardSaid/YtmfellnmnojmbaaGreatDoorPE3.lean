/- SoundFits holds: of any kinds it is told alike whether a class fits a deal. Of all kinds and classes; the tables that the row lists are tied to the program's text. -/
import Derived.ProofKit
import Derived.WalkKit
import Derived.Orders
import Init
import Derived.Test.YtmfellnmnojmbaaGreatDoorPD1
import Derived.Test.YtmfellnmnojmbaaGreatDoorPE2
set_option linter.unusedVariables false
set_option maxRecDepth 100000
namespace Go.Proofs.YtmfellnmnojmbaaGreatDoor
open Go.ChangeShapes Go.WideShapes Go.ChangeAt Go.RowKit
open Go.CE (law_of en_nil evF_sound)
open Go.Eng (post_law)
theorem laidOut:laidOutB Tryz.prog=true:=by kernel_rfl
theorem cal3:Go.Eng.callable Tryz.prog 3=true:=by kernel_rfl
theorem read3:(Tryz.f3.params.toList.all fun t=>Tryz.prog.readableRec t && decide (t<Tryz.prog.types.size))=true:=by kernel_rfl
theorem contract:Contract:=by
 intro H enc W base args ds gs before hval hW
 have hW':=hW
 obtain ⟨p,q,hA0,hV,rfl,hfz,hnd⟩:=hW
 have hA:DataW.TrodAll enc Tryz.prog W 0 (fun _=>true) true Tryz.f3.params.toList args.toList ds p:=hA0
 rw [Tryz.params3] at hA hval
 obtain ⟨v0,v1,v2,d0,d1,d2,p0,p1,p2,rfl,rfl,rfl,h0,h1,h2⟩:=trodAll_three hA
 obtain ⟨rfl,rfl⟩:=trodVars_none hV
 obtain ⟨x0,rfl⟩:=okWide_int Tryz.underlying5 (hval 0 5 v0 rfl rfl)
 obtain ⟨x1,rfl⟩:=okWide_bool Tryz.underlying4 (hval 1 4 v1 rfl rfl)
 obtain ⟨x2,rfl⟩:=okWide_int Tryz.underlying5 (hval 2 5 v2 rfl rfl)
 clear hA0 hA
 simp only [List.append_nil] at hW'
 refine (law_of (args:=[.c (.v (.int .u8 x0)),.c (.v (.bool x1)),.c (.v (.int .u8 x2))]) (evF_sound mixed tS_ok hS_ok K0 40) cal3 (en_nil W) (c_law11_SoundFits (k:=40) (by omega)) rfl (fun k v hk=>?_)).mono fun e W' ⟨he,hb⟩=>?_
 ·match k,hk with
  | 0,hk=>injection hk with hk;subst hk;exact .c _ _ (.v _ rfl)
  | 1,hk=>injection hk with hk;subst hk;exact .c _ _ (.v _ rfl)
  | 2,hk=>injection hk with hk;subst hk;exact .c _ _ (.v _ rfl)
 ·exact ⟨_,he,post_law (tb:=4) rfl rfl (by kernel_rfl) Tryz.underlying4 laidOut read3 hW' hb⟩
theorem soundFits_holds:Rows.SoundFitsCardSaid:=card contract
end Go.Proofs.YtmfellnmnojmbaaGreatDoor
