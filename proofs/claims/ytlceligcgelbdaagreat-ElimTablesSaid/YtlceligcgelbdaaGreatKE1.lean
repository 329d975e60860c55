/- The closed facts of the row. -/
import Derived.Test.YtlceligcgelbdaaGreatRows
import Derived.ProofKit

set_option linter.unusedVariables false
namespace Go.Proofs.YtlceligcgelbdaaGreat
open Go.ChangeShapes Go.WideShapes Go.ChangeAt Go.RowKit
theorem Hj {a b:Bool} (h:a=true) (g:b=true):(a && b)=true:=by rw [h,g];rfl
theorem w0:Rows.elimTablesRow.wf (OpenSpec.ofChange Rows.elimTablesSpec)=true:=by kernel_rfl
theorem w1:laidOutB Tryz.pinned.checked.prog=true:=by kernel_rfl
theorem w2:mapsRowed Tryz.pinned.checked.prog=true:=by kernel_rfl
theorem w3:Tryz.f10.params.all (Tryz.pinned.checked.prog.readableRec ·)=true:=by kernel_rfl
theorem w4:namedTie Tryz.pinned.checked.prog Rows.elimTablesRow.named Rows.elimTablesSpec.vars=true:=by kernel_rfl
theorem w5:(Rows.elimTablesRow.stops == [])=true:=by kernel_rfl
theorem w6:(Tryz.pinned.checked.prog.stops == [])=true:=by kernel_rfl
theorem w7:(Rows.elimTablesRow.knobs == [])=true:=by kernel_rfl
theorem w8:(Tryz.pinned.checked.prog.stopKnobs == [])=true:=by kernel_rfl
theorem w9:(Rows.elimTablesRow.inPlace == Tryz.pinned.checked.prog.inPlace 10)=true:=by kernel_rfl
theorem w10:(Rows.elimTablesRow.unfollowed == Tryz.pinned.checked.prog.unfollowed 10)=true:=by kernel_rfl
theorem w11:(Rows.elimTablesRow.recurses == Tryz.pinned.checked.prog.recurses 10)=true:=by kernel_rfl
theorem w12:(Rows.elimTablesRow.named == Tryz.pinned.checked.prog.varsNamed 10)=true:=by kernel_rfl
theorem w13:(Rows.elimTablesRow.maps == (Tryz.f10.params.toList++Rows.elimTablesSpec.plain.varTypes Tryz.pinned.checked.prog).any (Tryz.pinned.checked.prog.mapsRec ·))=true:=by kernel_rfl
theorem w14:(Rows.elimTablesRow.ifaces == (Tryz.f10.params.toList++Rows.elimTablesSpec.plain.varTypes Tryz.pinned.checked.prog).any (Tryz.pinned.checked.prog.ifacesRec ·))=true:=by kernel_rfl
theorem w15:(Rows.elimTablesRow.mapsOut == Tryz.pinned.checked.prog.mapsAmong Tryz.f10.resultTypes.toList)=true:=by kernel_rfl
theorem w16:(Rows.elimTablesRow.loops == (Tryz.f10.params.toList++Rows.elimTablesSpec.plain.varTypes Tryz.pinned.checked.prog).any (Tryz.pinned.checked.prog.loopsFrom ·))=true:=by kernel_rfl
theorem w17:(Rows.elimTablesRow.wideKeys == ((Tryz.f10.params.toList++Rows.elimTablesSpec.plain.varTypes Tryz.pinned.checked.prog)++Tryz.f10.resultTypes.toList).any (Tryz.pinned.checked.prog.wideKeysFrom ·))=true:=by kernel_rfl
theorem w18:Rows.elimTablesSpec.vars.all (Tryz.pinned.checked.prog.varReadable ·)=true:=by kernel_rfl
theorem w19:Tryz.f10.resultTypes.all (fun t=>Tryz.pinned.checked.prog.readableRec t && decide (t<Tryz.pinned.checked.prog.types.size))=true:=by kernel_rfl
theorem w20:(Rows.elimTablesRow.ifacesOut == Tryz.f10.resultTypes.toList.any (Tryz.pinned.checked.prog.ifacesRec ·))=true:=by kernel_rfl
theorem w21:(Rows.elimTablesRow.loopsOut == Tryz.f10.resultTypes.toList.any (Tryz.pinned.checked.prog.loopsFrom ·))=true:=by kernel_rfl
theorem w22:(Rows.elimTablesRow.plainKeys == Tryz.pinned.checked.prog.plainKeys)=true:=by kernel_rfl
theorem w23:Rows.elimTablesRow.shortTexts.isNone=true:=by kernel_rfl
theorem w24:Tryz.pinned.checked.prog.stopsHeard=true:=by kernel_rfl
theorem w25:Tryz.pinned.checked.prog.mayEnter=true:=by kernel_rfl
theorem w26:(Rows.elimTablesRow.lifted == Tryz.pinned.checked.prog.liftsFinal)=true:=by kernel_rfl
theorem w27:(Tryz.pinned.checked.prog.make == some Rows.elimTablesRow.make)=true:=by kernel_rfl
theorem w28:(Rows.elimTablesRow.kinds == (if Rows.elimTablesRow.domain.isEmpty then [] else Tryz.f10.params.toList.map fun t=>match Tryz.pinned.checked.prog.underlying t with | some (.int k)=>some k | _=>none))=true:=by kernel_rfl
theorem w29:(Rows.elimTablesRow.pinned == Rows.elimTablesRow.pinnedBy)=true:=by kernel_rfl
theorem w30:(Rows.elimTablesRow.veiled == ((Tryz.f10.params.toList++Rows.elimTablesSpec.plain.varTypes Tryz.pinned.checked.prog)++Tryz.f10.resultTypes.toList).any (Tryz.pinned.checked.prog.veiledRec ·))=true:=by kernel_rfl
theorem w31:Rows.elimTablesRow.veiledFits Tryz.pinned.checked.prog Tryz.f10.params.toList ((Tryz.f10.params.toList++Rows.elimTablesSpec.plain.varTypes Tryz.pinned.checked.prog)++Tryz.f10.resultTypes.toList)=true:=by kernel_rfl
set_option maxRecDepth 100000 in
theorem bNM:joinedFacts Tryz.pinned.checked.prog 10 Tryz.f10 Rows.elimTablesSpec Rows.elimTablesRow=true:=(Hj (Hj (Hj (Hj (Hj (Hj (Hj (Hj (Hj (Hj (Hj (Hj (Hj (Hj (Hj (Hj (Hj (Hj (Hj (Hj (Hj (Hj (Hj (Hj (Hj (Hj (Hj (Hj (Hj (Hj (Hj w0 w1) w2) w3) w4) w5) w6) w7) w8) w9) w10) w11) w12) w13) w14) w15) w16) w17) w18) w19) w20) w21) w22) w23) w24) w25) w26) w27) w28) w29) w30) w31)
end Go.Proofs.YtlceligcgelbdaaGreat
