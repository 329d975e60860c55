/- The closed facts of the row. -/
import Derived.Test.YtlceligcgelbdaaGreatRows
import Derived.ProofKit

set_option linter.unusedVariables false
namespace Go.Proofs.YtlceligcgelbdaaGreat
open Go.ChangeShapes Go.WideShapes Go.ChangeAt Go.RowKit
theorem andT {a b:Bool} (h:a=true) (g:b=true):(a && b)=true:=by rw [h,g];rfl
theorem w0:Rows.pairsBothRow.wf (OpenSpec.ofChange Rows.pairsBothSpec)=true:=by kernel_rfl
theorem w1:laidOutB Tryz.pinned.checked.prog=true:=by kernel_rfl
theorem w2:mapsRowed Tryz.pinned.checked.prog=true:=by kernel_rfl
theorem w3:Tryz.f8.params.all (Tryz.pinned.checked.prog.readableRec ·)=true:=by kernel_rfl
theorem w4:namedTie Tryz.pinned.checked.prog Rows.pairsBothRow.named Rows.pairsBothSpec.vars=true:=by kernel_rfl
theorem w5:(Rows.pairsBothRow.stops == [])=true:=by kernel_rfl
theorem w6:(Tryz.pinned.checked.prog.stops == [])=true:=by kernel_rfl
theorem w7:(Rows.pairsBothRow.knobs == [])=true:=by kernel_rfl
theorem w8:(Tryz.pinned.checked.prog.stopKnobs == [])=true:=by kernel_rfl
theorem w9:(Rows.pairsBothRow.inPlace == Tryz.pinned.checked.prog.inPlace 8)=true:=by kernel_rfl
theorem w10:(Rows.pairsBothRow.unfollowed == Tryz.pinned.checked.prog.unfollowed 8)=true:=by kernel_rfl
theorem w11:(Rows.pairsBothRow.recurses == Tryz.pinned.checked.prog.recurses 8)=true:=by kernel_rfl
theorem w12:(Rows.pairsBothRow.named == Tryz.pinned.checked.prog.varsNamed 8)=true:=by kernel_rfl
theorem w13:(Rows.pairsBothRow.maps == (Tryz.f8.params.toList++Rows.pairsBothSpec.plain.varTypes Tryz.pinned.checked.prog).any (Tryz.pinned.checked.prog.mapsRec ·))=true:=by kernel_rfl
theorem w14:(Rows.pairsBothRow.ifaces == (Tryz.f8.params.toList++Rows.pairsBothSpec.plain.varTypes Tryz.pinned.checked.prog).any (Tryz.pinned.checked.prog.ifacesRec ·))=true:=by kernel_rfl
theorem w15:(Rows.pairsBothRow.mapsOut == Tryz.pinned.checked.prog.mapsAmong Tryz.f8.resultTypes.toList)=true:=by kernel_rfl
theorem w16:(Rows.pairsBothRow.loops == (Tryz.f8.params.toList++Rows.pairsBothSpec.plain.varTypes Tryz.pinned.checked.prog).any (Tryz.pinned.checked.prog.loopsFrom ·))=true:=by kernel_rfl
theorem w17:(Rows.pairsBothRow.wideKeys == ((Tryz.f8.params.toList++Rows.pairsBothSpec.plain.varTypes Tryz.pinned.checked.prog)++Tryz.f8.resultTypes.toList).any (Tryz.pinned.checked.prog.wideKeysFrom ·))=true:=by kernel_rfl
theorem w18:Rows.pairsBothSpec.vars.all (Tryz.pinned.checked.prog.varReadable ·)=true:=by kernel_rfl
theorem w19:Tryz.f8.resultTypes.all (fun t=>Tryz.pinned.checked.prog.readableRec t && decide (t<Tryz.pinned.checked.prog.types.size))=true:=by kernel_rfl
theorem w20:(Rows.pairsBothRow.ifacesOut == Tryz.f8.resultTypes.toList.any (Tryz.pinned.checked.prog.ifacesRec ·))=true:=by kernel_rfl
theorem w21:(Rows.pairsBothRow.loopsOut == Tryz.f8.resultTypes.toList.any (Tryz.pinned.checked.prog.loopsFrom ·))=true:=by kernel_rfl
theorem w22:(Rows.pairsBothRow.plainKeys == Tryz.pinned.checked.prog.plainKeys)=true:=by kernel_rfl
theorem w23:Rows.pairsBothRow.shortTexts.isNone=true:=by kernel_rfl
theorem w24:Tryz.pinned.checked.prog.stopsHeard=true:=by kernel_rfl
theorem w25:Tryz.pinned.checked.prog.mayEnter=true:=by kernel_rfl
theorem w26:(Rows.pairsBothRow.lifted == Tryz.pinned.checked.prog.liftsFinal)=true:=by kernel_rfl
theorem w27:(Tryz.pinned.checked.prog.make == some Rows.pairsBothRow.make)=true:=by kernel_rfl
theorem w28:(Rows.pairsBothRow.kinds == (if Rows.pairsBothRow.domain.isEmpty then [] else Tryz.f8.params.toList.map fun t=>match Tryz.pinned.checked.prog.underlying t with | some (.int k)=>some k | _=>none))=true:=by kernel_rfl
theorem w29:(Rows.pairsBothRow.pinned == Rows.pairsBothRow.pinnedBy)=true:=by kernel_rfl
theorem w30:(Rows.pairsBothRow.veiled == ((Tryz.f8.params.toList++Rows.pairsBothSpec.plain.varTypes Tryz.pinned.checked.prog)++Tryz.f8.resultTypes.toList).any (Tryz.pinned.checked.prog.veiledRec ·))=true:=by kernel_rfl
theorem w31:Rows.pairsBothRow.veiledFits Tryz.pinned.checked.prog Tryz.f8.params.toList ((Tryz.f8.params.toList++Rows.pairsBothSpec.plain.varTypes Tryz.pinned.checked.prog)++Tryz.f8.resultTypes.toList)=true:=by kernel_rfl
set_option maxRecDepth 100000 in
theorem closed:joinedFacts Tryz.pinned.checked.prog 8 Tryz.f8 Rows.pairsBothSpec Rows.pairsBothRow=true:=(andT (andT (andT (andT (andT (andT (andT (andT (andT (andT (andT (andT (andT (andT (andT (andT (andT (andT (andT (andT (andT (andT (andT (andT (andT (andT (andT (andT (andT (andT (andT w0 w1) w2) w3) w4) w5) w6) w7) w8) w9) w10) w11) w12) w13) w14) w15) w16) w17) w18) w19) w20) w21) w22) w23) w24) w25) w26) w27) w28) w29) w30) w31)
end Go.Proofs.YtlceligcgelbdaaGreat
