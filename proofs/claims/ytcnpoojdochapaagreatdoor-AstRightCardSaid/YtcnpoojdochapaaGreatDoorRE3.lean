/- The frame of the card. -/
import Derived.Test.YtcnpoojdochapaaGreatDoorCards
import Derived.Test.YtcnpoojdochapaaGreatDoorTie
import Derived.WalkKit
import Derived.ProofKit
import Derived.OpenShut
import Derived.LaidMore
import Derived.Deep.DeepHandedRow
import Derived.Lib.LaidTab
import Derived.Test.YtcnpoojdochapaaGreatDoorRE2
set_option linter.unusedVariables false
namespace Go.Proofs.YtcnpoojdochapaaGreatDoor
open Go.ChangeShapes Go.WideShapes Go.ChangeAt Go.RowKit
theorem bVv:ownKnob Tryz.prog.godebug=none:=by kernel_rfl
def bU1:DataW Unit→Value:=fun d=>match d with
 | .lit (.int k n)=>.int k n
 | _=>.bool false
def bLX:DataW Unit→List Value:=fun d=>match d with
 | .agg l=>l.map bU1
 | _=>[]
def bSZ:DataW Unit→List Value:=fun d=>match d with
 | .agg l=>l.flatMap bLX
 | _=>[]
def zF:Value:=.agg #[.string ⟨#[]⟩,.string ⟨#[]⟩,.slice none 0 0,.bool false,.slice none 0 0,.bool false,.slice none 0 0,.bool false,.slice none 0 0,.bool false,.slice none 0 0,.int .i64 0,.int .i64 0,.bool false,.slice none 0 0,.bool false,.slice none 0 0,.bool false,.slice none 0 0,.bool false,.slice none 0 0,.int .i64 0,.slice none 0 0,.slice none 0 0,.slice none 0 0]
def bUj (l:List Value):Obj→Obj:=fun b=>match b with
 | .cells _ t frozen=>.cells l.toArray t frozen
 | o=>o
noncomputable def aUV (os:Os):World:=
  { World.holding Tryz.prog os ⟨#[], #[], []⟩ with
    heap:=Array.modify (Array.modify (World.holding Tryz.prog os ⟨#[],#[],[]⟩).heap 1 (bUj (bLX Rows.laid_unicode_utf8_first))) 2 (bUj (bSZ Rows.laid_unicode_utf8_acceptRanges)) }
theorem aUb (os:Os) (args:Array Value):laidMetH Tryz.prog Rows.astRightRow.laid ((aUV os).forCall (fun _ _=>0) ⟨#[],args,[]⟩).memory:=by
 rw [MakeChecks.laidMetH_plain _ _ _ (by kernel_rfl)]
 exact laidMet_of_run' 8 (by kernel_rfl) (by kernel_rfl)
def aM3:Prop:=∀ (H:Type) (enc:TypeId×Value→H) (W:World) (base:Nat) (args:Array Value) (ds gs:List (DataW H)) (before:List MemPlace),
  (∀ (j:Nat) t v,Tryz.f4.params[j]? = some t→args[j]? = some v→Value.okWide Tryz.prog W .any base t v) →
  DataW.Whole enc Tryz.prog Tryz.f4.params.toList Rows.astRightSpec.vars false W args.toList ds gs before →
  Calls Tryz.prog 4 args W fun e W'=>∃ v,e=.returned v∧Rows.astRightSpec.post enc Tryz.prog Tryz.f4 false true false false W args v W'
set_option maxRecDepth 100000 in
theorem lifted (hc:aM3) (os:Os) (started:os.Started) (H:Type) (enc:TypeId×Value→H) :
    ReturnsInHanded {} Tryz.checked os 4 .any (fun w args=>(Rows.astRightSpec.pre enc Tryz.prog Tryz.f4 [] false w args∧laidMetH Tryz.prog Rows.astRightRow.laid w)∧sizedMet enc Tryz.prog Tryz.f4 (OpenSpec.ofChange Rows.astRightSpec) false w args)
      (Rows.astRightSpec.post enc Tryz.prog Tryz.f4 false true false false):=by
  refine returnsInHanded_of_change_and (C := Tryz.checked) (X := fun w _ => laidMetH Tryz.prog Rows.astRightRow.laid w) (fun _ _ _ hh h => h.of_heap hh) bVv started (by kernel_rfl) Tryz.func4
    (ChangeSpec.witness_at (enc:=enc) (C:=Tryz.checked) (os:=os) (X:=fun w _=>laidMetH Tryz.prog Rows.astRightRow.laid w) false (aUV os) #[zF] 8 rfl (by kernel_rfl) (by kernel_rfl) (by kernel_rfl) (by kernel_rfl) (by kernel_rfl) (aUb os _)) ?_
  intro W base args ds gs before hval hW _ _ _ _
  exact hc H enc W base args ds gs before hval hW
theorem bVK (hc:aM3):Rows.AstRightSaid:=
  OpenClaim.holds_of_wide 4 Tryz.f4 rfl rfl rfl rfl rfl rfl rfl ⟨rfl, rfl, rfl, rfl, rfl⟩ rfl rfl rfl rfl rfl (by kernel_rfl) Tryz.func4 bMS
    (of_decide_eq_true (by kernel_rfl)) (by unfold Func.isWrapper;first | (rw [if_pos (by decide +kernel)];kernel_rfl) | (rw [if_neg (by decide +kernel)];exact ⟨rfl,rfl⟩))
    (fun os started H enc _=>lifted hc os started H enc)
theorem plain (f:FuncId) (fn:Func) (hf:Tryz.pinned.checked.prog.funcNamed Rows.astRightRow.func=some f) (hfn:Tryz.pinned.checked.prog.funcs[f]? = some fn) :
  false=Tryz.pinned.checked.prog.looks []∧∀ (j:Nat) t,fn.params[j]? = some t→Tryz.pinned.checked.prog.wantsStandIn t=false:=by
 obtain rfl:f=4:=Option.some.inj ((show Tryz.prog.funcNamed Rows.astRightRow.func=some 4 by kernel_rfl).symm.trans hf) |>.symm
 obtain rfl:fn=Tryz.f4:=(Option.some.inj (Tryz.func4.symm.trans hfn)).symm
 refine ⟨by kernel_rfl,fun j t ht=>?_⟩
 rw [Tryz.params4] at ht
 have hm:t∈[41]:=by simpa using Array.mem_of_getElem? ht
 have hall:([41].all fun u=>!Tryz.prog.wantsStandIn u)=true:=by kernel_rfl
 exact (show Tryz.prog.wantsStandIn t=false by simpa using List.all_eq_true.1 hall t hm)
theorem bVw (hc:aM3):Rows.AstRightCardSaid:=
 Claim7.holds_tied_plain_at .later [] _ _ _ _ (bVK hc) (fun _ h=>by cases h) (by kernel_rfl) (fun _ h=>by cases h) astRight_row_tie rfl ⟨rfl,rfl⟩ (by kernel_rfl) rfl plain (by kernel_rfl)
end Go.Proofs.YtcnpoojdochapaaGreatDoor
