/- The frame of the card. -/
import Derived.Test.YtmfellnmnojmbaaGreatDoorCards
import Derived.Test.YtmfellnmnojmbaaGreatDoorTie
import Derived.WalkKit
import Derived.ProofKit
import Derived.OpenShut
import Derived.LaidMore
import Derived.Deep.DeepHandedRow
import Derived.Lib.LaidTab
import Derived.Test.YtmfellnmnojmbaaGreatDoorPE1
set_option linter.unusedVariables false
namespace Go.Proofs.YtmfellnmnojmbaaGreatDoor
open Go.ChangeShapes Go.WideShapes Go.ChangeAt Go.RowKit
theorem ownK:ownKnob Tryz.prog.godebug=none:=by kernel_rfl
def litV:DataW Unit→Value:=fun d=>match d with
 | .lit (.int k n)=>.int k n
 | _=>.bool false
def flat1:DataW Unit→List Value:=fun d=>match d with
 | .agg l=>l.map litV
 | _=>[]
def flat2:DataW Unit→List Value:=fun d=>match d with
 | .agg l=>l.flatMap flat1
 | _=>[]
def layB (l:List Value):Obj→Obj:=fun b=>match b with
 | .cells _ t frozen=>.cells l.toArray t frozen
 | o=>o
noncomputable def laidWorld (os:Os):World:=
  { World.holding Tryz.prog os ⟨#[], #[], []⟩ with
    heap:=Array.modify (Array.modify (World.holding Tryz.prog os ⟨#[],#[],[]⟩).heap 1 (layB (flat1 Rows.laid_unicode_utf8_first))) 2 (layB (flat2 Rows.laid_unicode_utf8_acceptRanges)) }
theorem laidWorld_met (os:Os) (args:Array Value):laidMetH Tryz.prog Rows.soundFitsRow.laid ((laidWorld os).forCall (fun _ _=>0) ⟨#[],args,[]⟩).memory:=by
 rw [MakeChecks.laidMetH_plain _ _ _ (by kernel_rfl)]
 exact laidMet_of_run' 8 (by kernel_rfl) (by kernel_rfl)
def Contract:Prop:=∀ (H:Type) (enc:TypeId×Value→H) (W:World) (base:Nat) (args:Array Value) (ds gs:List (DataW H)) (before:List MemPlace),
  (∀ (j:Nat) t v,Tryz.f3.params[j]? = some t→args[j]? = some v→Value.okWide Tryz.prog W .any base t v) →
  DataW.Whole enc Tryz.prog Tryz.f3.params.toList Rows.soundFitsSpec.vars false W args.toList ds gs before →
  Calls Tryz.prog 3 args W fun e W'=>∃ v,e=.returned v∧Rows.soundFitsSpec.post enc Tryz.prog Tryz.f3 false true false false W args v W'
set_option maxRecDepth 100000 in
theorem lifted (hc:Contract) (os:Os) (started:os.Started) (H:Type) (enc:TypeId×Value→H) :
    ReturnsInHanded {} Tryz.checked os 3 .any (fun w args=>(Rows.soundFitsSpec.pre enc Tryz.prog Tryz.f3 [] false w args∧laidMetH Tryz.prog Rows.soundFitsRow.laid w)∧sizedMet enc Tryz.prog Tryz.f3 (OpenSpec.ofChange Rows.soundFitsSpec) false w args)
      (Rows.soundFitsSpec.post enc Tryz.prog Tryz.f3 false true false false):=by
  refine returnsInHanded_of_change_and (C := Tryz.checked) (X := fun w _ => laidMetH Tryz.prog Rows.soundFitsRow.laid w) (fun _ _ _ hh h => h.of_heap hh) ownK started (by kernel_rfl) Tryz.func3
    (ChangeSpec.witness_at (enc:=enc) (C:=Tryz.checked) (os:=os) (X:=fun w _=>laidMetH Tryz.prog Rows.soundFitsRow.laid w) false (laidWorld os) #[.int .u8 0,.bool false,.int .u8 0] 8 rfl (by kernel_rfl) (by kernel_rfl) (by kernel_rfl) (by kernel_rfl) (by kernel_rfl) (laidWorld_met os _)) ?_
  intro W base args ds gs before hval hW _ _ _ _
  exact hc H enc W base args ds gs before hval hW
theorem said (hc:Contract):Rows.SoundFitsSaid:=
  OpenClaim.holds_of_wide 3 Tryz.f3 rfl rfl rfl rfl rfl rfl rfl ⟨rfl, rfl, rfl, rfl, rfl⟩ rfl rfl rfl rfl rfl (by kernel_rfl) Tryz.func3 closed
    (of_decide_eq_true (by kernel_rfl)) (by unfold Func.isWrapper;first | (rw [if_pos (by decide +kernel)];kernel_rfl) | (rw [if_neg (by decide +kernel)];exact ⟨rfl,rfl⟩))
    (fun os started H enc _=>lifted hc os started H enc)
theorem plain (f:FuncId) (fn:Func) (hf:Tryz.pinned.checked.prog.funcNamed Rows.soundFitsRow.func=some f) (hfn:Tryz.pinned.checked.prog.funcs[f]? = some fn) :
  false=Tryz.pinned.checked.prog.looks []∧∀ (j:Nat) t,fn.params[j]? = some t→Tryz.pinned.checked.prog.wantsStandIn t=false:=by
 obtain rfl:f=3:=Option.some.inj ((show Tryz.prog.funcNamed Rows.soundFitsRow.func=some 3 by kernel_rfl).symm.trans hf) |>.symm
 obtain rfl:fn=Tryz.f3:=(Option.some.inj (Tryz.func3.symm.trans hfn)).symm
 refine ⟨by kernel_rfl,fun j t ht=>?_⟩
 rw [Tryz.params3] at ht
 have hm:t∈[5,4,5]:=by simpa using Array.mem_of_getElem? ht
 have hall:([5,4,5].all fun u=>!Tryz.prog.wantsStandIn u)=true:=by kernel_rfl
 exact (show Tryz.prog.wantsStandIn t=false by simpa using List.all_eq_true.1 hall t hm)
theorem card (hc:Contract):Rows.SoundFitsCardSaid:=
 Claim7.holds_tied_plain_at .later [] _ _ _ _ (said hc) (fun _ h=>by cases h) (by kernel_rfl) (fun _ h=>by cases h) soundFits_row_tie rfl ⟨rfl,rfl⟩ (by kernel_rfl) rfl plain (by kernel_rfl)
end Go.Proofs.YtmfellnmnojmbaaGreatDoor
