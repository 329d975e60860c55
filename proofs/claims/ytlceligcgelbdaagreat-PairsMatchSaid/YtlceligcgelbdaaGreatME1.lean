/- The closed facts of the row. -/
import Derived.Test.YtlceligcgelbdaaGreatRows
import Derived.ProofKit

set_option linter.unusedVariables false
namespace Go.Proofs.YtlceligcgelbdaaGreat
open Go.ChangeShapes Go.WideShapes Go.ChangeAt Go.RowKit
theorem Fq {a b:Bool} (h:a=true) (g:b=true):(a && b)=true:=by rw [h,g];rfl
theorem w0:Rows.pairsMatchRow.wf (OpenSpec.ofChange Rows.pairsMatchSpec)=true:=by kernel_rfl
theorem w1:laidOutB Tryz.pinned.checked.prog=true:=by kernel_rfl
theorem w2:mapsRowed Tryz.pinned.checked.prog=true:=by kernel_rfl
theorem w3:Tryz.f7.params.all (Tryz.pinned.checked.prog.readableRec ·)=true:=by kernel_rfl
theorem w4:namedTie Tryz.pinned.checked.prog Rows.pairsMatchRow.named Rows.pairsMatchSpec.vars=true:=by kernel_rfl
theorem w5:(Rows.pairsMatchRow.stops == [])=true:=by kernel_rfl
theorem w6:(Tryz.pinned.checked.prog.stops == [])=true:=by kernel_rfl
theorem w7:(Rows.pairsMatchRow.knobs == [])=true:=by kernel_rfl
theorem w8:(Tryz.pinned.checked.prog.stopKnobs == [])=true:=by kernel_rfl
theorem w9:(Rows.pairsMatchRow.inPlace == Tryz.pinned.checked.prog.inPlace 7)=true:=by kernel_rfl
theorem w10:(Rows.pairsMatchRow.unfollowed == Tryz.pinned.checked.prog.unfollowed 7)=true:=by kernel_rfl
theorem w11:(Rows.pairsMatchRow.recurses == Tryz.pinned.checked.prog.recurses 7)=true:=by kernel_rfl
theorem w12:(Rows.pairsMatchRow.named == Tryz.pinned.checked.prog.varsNamed 7)=true:=by kernel_rfl
theorem w13:(Rows.pairsMatchRow.maps == (Tryz.f7.params.toList++Rows.pairsMatchSpec.plain.varTypes Tryz.pinned.checked.prog).any (Tryz.pinned.checked.prog.mapsRec ·))=true:=by kernel_rfl
theorem w14:(Rows.pairsMatchRow.ifaces == (Tryz.f7.params.toList++Rows.pairsMatchSpec.plain.varTypes Tryz.pinned.checked.prog).any (Tryz.pinned.checked.prog.ifacesRec ·))=true:=by kernel_rfl
theorem w15:(Rows.pairsMatchRow.mapsOut == Tryz.pinned.checked.prog.mapsAmong Tryz.f7.resultTypes.toList)=true:=by kernel_rfl
theorem w16:(Rows.pairsMatchRow.loops == (Tryz.f7.params.toList++Rows.pairsMatchSpec.plain.varTypes Tryz.pinned.checked.prog).any (Tryz.pinned.checked.prog.loopsFrom ·))=true:=by kernel_rfl
theorem w17:(Rows.pairsMatchRow.wideKeys == ((Tryz.f7.params.toList++Rows.pairsMatchSpec.plain.varTypes Tryz.pinned.checked.prog)++Tryz.f7.resultTypes.toList).any (Tryz.pinned.checked.prog.wideKeysFrom ·))=true:=by kernel_rfl
theorem w18:Rows.pairsMatchSpec.vars.all (Tryz.pinned.checked.prog.varReadable ·)=true:=by kernel_rfl
theorem w19:Tryz.f7.resultTypes.all (fun t=>Tryz.pinned.checked.prog.readableRec t && decide (t<Tryz.pinned.checked.prog.types.size))=true:=by kernel_rfl
theorem w20:(Rows.pairsMatchRow.ifacesOut == Tryz.f7.resultTypes.toList.any (Tryz.pinned.checked.prog.ifacesRec ·))=true:=by kernel_rfl
theorem w21:(Rows.pairsMatchRow.loopsOut == Tryz.f7.resultTypes.toList.any (Tryz.pinned.checked.prog.loopsFrom ·))=true:=by kernel_rfl
theorem w22:(Rows.pairsMatchRow.plainKeys == Tryz.pinned.checked.prog.plainKeys)=true:=by kernel_rfl
theorem w23:Rows.pairsMatchRow.shortTexts.isNone=true:=by kernel_rfl
theorem w24:Tryz.pinned.checked.prog.stopsHeard=true:=by kernel_rfl
theorem w25:Tryz.pinned.checked.prog.mayEnter=true:=by kernel_rfl
theorem w26:(Rows.pairsMatchRow.lifted == Tryz.pinned.checked.prog.liftsFinal)=true:=by kernel_rfl
theorem w27:(Tryz.pinned.checked.prog.make == some Rows.pairsMatchRow.make)=true:=by kernel_rfl
theorem w28:(Rows.pairsMatchRow.kinds == (if Rows.pairsMatchRow.domain.isEmpty then [] else Tryz.f7.params.toList.map fun t=>match Tryz.pinned.checked.prog.underlying t with | some (.int k)=>some k | _=>none))=true:=by kernel_rfl
theorem w29:(Rows.pairsMatchRow.pinned == Rows.pairsMatchRow.pinnedBy)=true:=by kernel_rfl
theorem w30:(Rows.pairsMatchRow.veiled == ((Tryz.f7.params.toList++Rows.pairsMatchSpec.plain.varTypes Tryz.pinned.checked.prog)++Tryz.f7.resultTypes.toList).any (Tryz.pinned.checked.prog.veiledRec ·))=true:=by kernel_rfl
theorem w31:Rows.pairsMatchRow.veiledFits Tryz.pinned.checked.prog Tryz.f7.params.toList ((Tryz.f7.params.toList++Rows.pairsMatchSpec.plain.varTypes Tryz.pinned.checked.prog)++Tryz.f7.resultTypes.toList)=true:=by kernel_rfl
set_option maxRecDepth 100000 in
theorem bQo:joinedFacts Tryz.pinned.checked.prog 7 Tryz.f7 Rows.pairsMatchSpec Rows.pairsMatchRow=true:=(Fq (Fq (Fq (Fq (Fq (Fq (Fq (Fq (Fq (Fq (Fq (Fq (Fq (Fq (Fq (Fq (Fq (Fq (Fq (Fq (Fq (Fq (Fq (Fq (Fq (Fq (Fq (Fq (Fq (Fq (Fq w0 w1) w2) w3) w4) w5) w6) w7) w8) w9) w10) w11) w12) w13) w14) w15) w16) w17) w18) w19) w20) w21) w22) w23) w24) w25) w26) w27) w28) w29) w30) w31)
end Go.Proofs.YtlceligcgelbdaaGreat
