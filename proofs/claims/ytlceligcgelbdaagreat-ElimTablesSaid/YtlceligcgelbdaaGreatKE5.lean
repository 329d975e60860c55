/- slices.Grow of nil. -/
import Derived.Shelf.Spec.SlicesGrow
import Derived.KernelRfl
import Derived.WalkKit
import Derived.Orders
import Derived.Test.YtlceligcgelbdaaGreatKC2
import Derived.Test.YtlceligcgelbdaaGreatKA7
set_option linter.unusedVariables false
set_option linter.unusedSimpArgs false
set_option maxRecDepth 100000
namespace Go.Proofs.YtlceligcgelbdaaGreat
open Go.CE Go.RowKit Go.Shelf
def aYM:Go.Shelf.Ren:=⟨fun | 4=>321 | n=>n,fun | 25=>117 | 22=>31 | n=>n,fun | n=>n⟩
theorem bCY : Go.Proofs.Lays8.n4 Tryz.prog aYM := {
  mixed:=by kernel_rfl
  f4:=⟨Tryz.f321.name,by kernel_rfl,Tryz.func321.trans (congrArg some (by kernel_rfl))⟩
  t0:=Tryz.underlying0
  a0:=Tryz.isAgg0
  z0:=Tryz.sizeOf0
  v0:=Tryz.zeroValue0
  t3:=Tryz.underlying3
  a3:=Tryz.isAgg3
  z3:=Tryz.sizeOf3
  v3:=Tryz.zeroValue3
  t4:=Tryz.underlying4
  a4:=Tryz.isAgg4
  z4:=Tryz.sizeOf4
  v4:=Tryz.zeroValue4
  t9:=Tryz.underlying9
  a9:=Tryz.isAgg9
  z9:=Tryz.sizeOf9
  v9:=Tryz.zeroValue9
  t20:=Tryz.underlying20
  a20:=Tryz.isAgg20
  z20:=Tryz.sizeOf20
  v20:=Tryz.zeroValue20
  t22:=Tryz.underlying31
  a22:=Tryz.isAgg31
  z22:=Tryz.sizeOf31
  v22:=Tryz.zeroValue31 }
theorem bBr:∃ i0:TypeInfo,Tryz.prog.info? 117=some i0∧i0.zero=some (.int .u32 0)∧i0.size=1∧i0.bytes=4:=by
 have h1:(Tryz.prog.info? 117).isSome=true:=by kernel_rfl
 obtain ⟨i0,h⟩:=Option.isSome_iff_exists.1 h1
 have h2:(Tryz.prog.info? 117).bind (fun i=>i.zero)=some (.int .u32 0):=by kernel_rfl
 have h3:(Tryz.prog.info? 117).map (fun i=>i.size)=some 1:=by kernel_rfl
 have h4:(Tryz.prog.info? 117).map (fun i=>i.bytes)=some 4:=by kernel_rfl
 rw [h] at h2 h3 h4
 exact ⟨i0,h,h2,Option.some.inj h3,Option.some.inj h4⟩
theorem bF4:aX3 Tryz.prog 321 117:=fun n w h0 hn=>by
 obtain ⟨i0,h1,h2,h3,h4⟩:=bBr
 refine (Go.Proofs.Any8.slices_Grow_grow bCY i0 (.int .u32 0) h1 h2 (by omega) none 0 0 n [] w (Nat.le_refl _) (by omega) (by rw [h4];omega) (by omega) (by simp) (fun _=>rfl) (fun a ha=>by cases ha)).mono fun e w' hq=>?_
 obtain ⟨he,hw⟩:=hq
 have hG:0+n≤grownCap w (0+n) 0 117:=grownCap_ge w _ _ _
 have hm:=grownCap_le_maxLen w (0+n) 0 117 (by unfold maxLen;omega)
 refine ⟨_,_,he,hm,?_,hw⟩
 show _=grownCap w (0+n) 0 117
 simp only [Array.size_append,Builtin.zeroCells,Array.size_map,Array.size_range,List.size_toArray,List.length_nil]
 have:(Value.int .u32 0).cells.size=1:=rfl
 rw [this,show aYM.t 25=117 from rfl]
 omega
theorem bSP:Bt Tryz.prog (aLQ 321 117 (aEu 184 (aC3 106 107 h1))):=bDz (by kernel_rfl) bF4 (bC1 (by kernel_rfl) bPC (bDM (by kernel_rfl) bMc bT2))
end Go.Proofs.YtlceligcgelbdaaGreat
