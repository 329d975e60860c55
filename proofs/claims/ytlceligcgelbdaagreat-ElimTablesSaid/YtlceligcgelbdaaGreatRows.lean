/-
  No cell of these rows narrows 'for every input' (looked for: loops, veiled, ifaces, maps, wideKeys, modest, calm, conditions, laid).
  DERIVED. THE GIVEN ROWS OF THIS SEAT. 8 by the template 'for every input the law returns true; each argument reads behind the call as it read before'; 0 by the template 'total and deterministic' (their statements: YtlceligcgelbdaaGreatTotals.lean).
  GIVEN WITH THE SEED: the statements are not yours to turn. If you find one false, say at which input.
  Laid BY PROGRAM, IN A SANDBOX (cutbox-rows.mjs): the forced cells as the released guide's own fill.sh prints them over the translation 89f6399bf3f2ac55… (all of the seat's roots in one cut). By AI agents, Wed Nov 11 2026. No macro, syntax, notation, axiom, sorry.
-/
import Derived.Test.YtlceligcgelbdaaGreatChecked
import GoSem.Claim
import GoSem.ClaimJoined
import GoSem.ClaimMapViews
import Derived.JoinedTies
import Derived.KernelRfl
namespace Go.Proofs.YtlceligcgelbdaaGreat
/- THE CELL 'sum', in the pinned program and in every row, IS THE sha256 OF THE DUMP (.gsa) THAT YtlceligcgelbdaaGreatProg.lean LOADS. Nothing in Lean hashes anything: it is a label: what it is worth is what the hold of that sum in a sandbox is worth. -/
noncomputable def Tryz.pinned : Pinned := { name := "ytlceligcgelbdaagreat", sum := "89f6399bf3f2ac55b261b0d8b2b0ef1415239edfc1fb69d13fc8ed84dba43646", checked := Tryz.checked }
namespace Rows
def none {H : Type} : Left H := { results := [], args := [] }

/-- 'tallagelaw21.ElimApplies': WHATEVER THE INPUT: true; the input reads as it did. -/
def elimAppliesSpec : ChangeSpec := { name := "elimApplies", fn := fun _ => fun
  | [d1, d2, d3] => { results := [.lit (.bool true)], args := [d1, d2, d3] }
  | _ => none }
def elimAppliesRow : OpenClaim := { program := "ytlceligcgelbdaagreat", sum := "89f6399bf3f2ac55b261b0d8b2b0ef1415239edfc1fb69d13fc8ed84dba43646", func := "tallage/tallagelaw21.ElimApplies", spec := "elimApplies", unfollowed := true, recurses := true, named := ["math/bits.overflowError"], apart := false }
def ElimAppliesSaid : Prop := elimAppliesRow.holds Tryz.pinned (OpenSpec.ofChange elimAppliesSpec)

/-- ITS FALSE NEIGHBOUR: 'it returns false'. Refute it at one input. -/
def elimAppliesWrong : ChangeSpec := { name := "elimApplies", fn := fun _ => fun
  | [d1, d2, d3] => { results := [.lit (.bool false)], args := [d1, d2, d3] }
  | _ => none }
def ElimAppliesWrongFalsely : Prop := elimAppliesRow.holds Tryz.pinned (OpenSpec.ofChange elimAppliesWrong)

/-- 'tallagelaw22.ProfitRuns': WHATEVER THE INPUT: true; the input reads as it did. -/
def profitRunsSpec : ChangeSpec := { name := "profitRuns", fn := fun _ => fun
  | [d1, d2, d3, d4] => { results := [.lit (.bool true)], args := [d1, d2, d3, d4] }
  | _ => none }
def profitRunsRow : OpenClaim := { program := "ytlceligcgelbdaagreat", sum := "89f6399bf3f2ac55b261b0d8b2b0ef1415239edfc1fb69d13fc8ed84dba43646", func := "tallage/tallagelaw22.ProfitRuns", spec := "profitRuns", unfollowed := true, recurses := true, named := ["math/bits.overflowError"], apart := false }
def ProfitRunsSaid : Prop := profitRunsRow.holds Tryz.pinned (OpenSpec.ofChange profitRunsSpec)

/-- ITS FALSE NEIGHBOUR: 'it returns false'. Refute it at one input. -/
def profitRunsWrong : ChangeSpec := { name := "profitRuns", fn := fun _ => fun
  | [d1, d2, d3, d4] => { results := [.lit (.bool false)], args := [d1, d2, d3, d4] }
  | _ => none }
def ProfitRunsWrongFalsely : Prop := profitRunsRow.holds Tryz.pinned (OpenSpec.ofChange profitRunsWrong)

/-- 'tallagelaw22.ProfitLeaves': WHATEVER THE INPUT: true; the input reads as it did. -/
def profitLeavesSpec : ChangeSpec := { name := "profitLeaves", fn := fun _ => fun
  | [d1, d2, d3, d4] => { results := [.lit (.bool true)], args := [d1, d2, d3, d4] }
  | _ => none }
def profitLeavesRow : OpenClaim := { program := "ytlceligcgelbdaagreat", sum := "89f6399bf3f2ac55b261b0d8b2b0ef1415239edfc1fb69d13fc8ed84dba43646", func := "tallage/tallagelaw22.ProfitLeaves", spec := "profitLeaves", unfollowed := true, recurses := true, named := ["math/bits.overflowError"], apart := false }
def ProfitLeavesSaid : Prop := profitLeavesRow.holds Tryz.pinned (OpenSpec.ofChange profitLeavesSpec)

/-- ITS FALSE NEIGHBOUR: 'it returns false'. Refute it at one input. -/
def profitLeavesWrong : ChangeSpec := { name := "profitLeaves", fn := fun _ => fun
  | [d1, d2, d3, d4] => { results := [.lit (.bool false)], args := [d1, d2, d3, d4] }
  | _ => none }
def ProfitLeavesWrongFalsely : Prop := profitLeavesRow.holds Tryz.pinned (OpenSpec.ofChange profitLeavesWrong)

/-- 'tallagelaw22.ProfitTurns': WHATEVER THE INPUT: true; the input reads as it did. -/
def profitTurnsSpec : ChangeSpec := { name := "profitTurns", fn := fun _ => fun
  | [d1, d2, d3, d4, d5] => { results := [.lit (.bool true)], args := [d1, d2, d3, d4, d5] }
  | _ => none }
def profitTurnsRow : OpenClaim := { program := "ytlceligcgelbdaagreat", sum := "89f6399bf3f2ac55b261b0d8b2b0ef1415239edfc1fb69d13fc8ed84dba43646", func := "tallage/tallagelaw22.ProfitTurns", spec := "profitTurns", unfollowed := true, recurses := true, named := ["math/bits.overflowError"], apart := false }
def ProfitTurnsSaid : Prop := profitTurnsRow.holds Tryz.pinned (OpenSpec.ofChange profitTurnsSpec)

/-- ITS FALSE NEIGHBOUR: 'it returns false'. Refute it at one input. -/
def profitTurnsWrong : ChangeSpec := { name := "profitTurns", fn := fun _ => fun
  | [d1, d2, d3, d4, d5] => { results := [.lit (.bool false)], args := [d1, d2, d3, d4, d5] }
  | _ => none }
def ProfitTurnsWrongFalsely : Prop := profitTurnsRow.holds Tryz.pinned (OpenSpec.ofChange profitTurnsWrong)

/-- 'tallagelaw20.PairsMatch': WHATEVER THE INPUT: true; the input reads as it did. -/
def pairsMatchSpec : ChangeSpec := { name := "pairsMatch", fn := fun _ => fun
  | [d1, d2] => { results := [.lit (.bool true)], args := [d1, d2] }
  | _ => none }
def pairsMatchRow : OpenClaim := { program := "ytlceligcgelbdaagreat", sum := "89f6399bf3f2ac55b261b0d8b2b0ef1415239edfc1fb69d13fc8ed84dba43646", func := "tallage/tallagelaw20.PairsMatch", spec := "pairsMatch", unfollowed := true, recurses := true, named := ["math/bits.overflowError"], apart := false }
def PairsMatchSaid : Prop := pairsMatchRow.holds Tryz.pinned (OpenSpec.ofChange pairsMatchSpec)

/-- ITS FALSE NEIGHBOUR: 'it returns false'. Refute it at one input. -/
def pairsMatchWrong : ChangeSpec := { name := "pairsMatch", fn := fun _ => fun
  | [d1, d2] => { results := [.lit (.bool false)], args := [d1, d2] }
  | _ => none }
def PairsMatchWrongFalsely : Prop := pairsMatchRow.holds Tryz.pinned (OpenSpec.ofChange pairsMatchWrong)

/-- 'tallagelaw20.PairsBoth': WHATEVER THE INPUT: true; the input reads as it did. -/
def pairsBothSpec : ChangeSpec := { name := "pairsBoth", fn := fun _ => fun
  | [d1, d2, d3] => { results := [.lit (.bool true)], args := [d1, d2, d3] }
  | _ => none }
def pairsBothRow : OpenClaim := { program := "ytlceligcgelbdaagreat", sum := "89f6399bf3f2ac55b261b0d8b2b0ef1415239edfc1fb69d13fc8ed84dba43646", func := "tallage/tallagelaw20.PairsBoth", spec := "pairsBoth", unfollowed := true, recurses := true, named := ["math/bits.overflowError"], apart := false }
def PairsBothSaid : Prop := pairsBothRow.holds Tryz.pinned (OpenSpec.ofChange pairsBothSpec)

/-- ITS FALSE NEIGHBOUR: 'it returns false'. Refute it at one input. -/
def pairsBothWrong : ChangeSpec := { name := "pairsBoth", fn := fun _ => fun
  | [d1, d2, d3] => { results := [.lit (.bool false)], args := [d1, d2, d3] }
  | _ => none }
def PairsBothWrongFalsely : Prop := pairsBothRow.holds Tryz.pinned (OpenSpec.ofChange pairsBothWrong)

/-- 'tallagelaw20.PairsHalf': WHATEVER THE INPUT: true; the input reads as it did. -/
def pairsHalfSpec : ChangeSpec := { name := "pairsHalf", fn := fun _ => fun
  | [d1, d2, d3] => { results := [.lit (.bool true)], args := [d1, d2, d3] }
  | _ => none }
def pairsHalfRow : OpenClaim := { program := "ytlceligcgelbdaagreat", sum := "89f6399bf3f2ac55b261b0d8b2b0ef1415239edfc1fb69d13fc8ed84dba43646", func := "tallage/tallagelaw20.PairsHalf", spec := "pairsHalf", unfollowed := true, recurses := true, named := ["math/bits.overflowError"], apart := false }
def PairsHalfSaid : Prop := pairsHalfRow.holds Tryz.pinned (OpenSpec.ofChange pairsHalfSpec)

/-- ITS FALSE NEIGHBOUR: 'it returns false'. Refute it at one input. -/
def pairsHalfWrong : ChangeSpec := { name := "pairsHalf", fn := fun _ => fun
  | [d1, d2, d3] => { results := [.lit (.bool false)], args := [d1, d2, d3] }
  | _ => none }
def PairsHalfWrongFalsely : Prop := pairsHalfRow.holds Tryz.pinned (OpenSpec.ofChange pairsHalfWrong)

/-- 'tallagelaw21.ElimTables': WHATEVER THE INPUT: true; the input reads as it did. -/
def elimTablesSpec : ChangeSpec := { name := "elimTables", fn := fun _ => fun
  | [d1, d2, d3] => { results := [.lit (.bool true)], args := [d1, d2, d3] }
  | _ => none }
def elimTablesRow : OpenClaim := { program := "ytlceligcgelbdaagreat", sum := "89f6399bf3f2ac55b261b0d8b2b0ef1415239edfc1fb69d13fc8ed84dba43646", func := "tallage/tallagelaw21.ElimTables", spec := "elimTables", unfollowed := true, recurses := true, named := ["math/bits.overflowError"], apart := false }
def ElimTablesSaid : Prop := elimTablesRow.holds Tryz.pinned (OpenSpec.ofChange elimTablesSpec)

/-- ITS FALSE NEIGHBOUR: 'it returns false'. Refute it at one input. -/
def elimTablesWrong : ChangeSpec := { name := "elimTables", fn := fun _ => fun
  | [d1, d2, d3] => { results := [.lit (.bool false)], args := [d1, d2, d3] }
  | _ => none }
def ElimTablesWrongFalsely : Prop := elimTablesRow.holds Tryz.pinned (OpenSpec.ofChange elimTablesWrong)

/- THE SECOND FORM. 'bulk': how many values and letters a reading holds, each counted each time it is reached (what is shared counts as often as it is met; a slice's spare places count too). A statement '..UptoSaid' is the law's where the arguments, and the package variables that the reading takes, are together of bulk at most 1048576: NARROWER than '..Said'. Prove '..Said' where nothing that the law and all that it calls make is longer than what came in: it says more and counts as full. Else prove '..UptoSaid'. A law counts once. -/
mutual
def uptoBulk {H : Type} : DataW H → Nat
  | .lit (.string bytes) => bytes.length + 1
  | .lit _ => 1
  | .nil => 1
  | .ptr d => uptoBulk d + 1
  | .slice elems spare => uptoBulkAll elems + uptoBulkAll spare + 1
  | .agg parts => uptoBulkAll parts + 1
  | .iface _ d => uptoBulk d + 1
  | .map entries => uptoBulkEntries entries + 1
  | .held _ => 1
def uptoBulkAll {H : Type} : List (DataW H) → Nat
  | [] => 0
  | d :: r => uptoBulk d + uptoBulkAll r
def uptoBulkEntries {H : Type} : List (Lit × DataW H) → Nat
  | [] => 0
  | x :: r => uptoBulkEntry x + uptoBulkEntries r
def uptoBulkEntry {H : Type} : Lit × DataW H → Nat
  | (.string bytes, d) => bytes.length + uptoBulk d + 1
  | (_, d) => uptoBulk d + 1
 end
def uptoSmall : (H : Type) → List (DataW H) → Bool := fun _ ds => decide (uptoBulkAll ds ≤ 1048576)
def OpenSpec.upto (s : _root_.Go.ChangeSpec) : _root_.Go.OpenSpec := { _root_.Go.OpenSpec.ofChange s with cond := some uptoSmall }

/-- 'tallagelaw21.ElimApplies', WHERE WHAT IT READS IS OF BULK AT MOST 1048576: true; the input reads as it did. -/
def elimAppliesUptoRow : OpenClaim := { program := "ytlceligcgelbdaagreat", sum := "89f6399bf3f2ac55b261b0d8b2b0ef1415239edfc1fb69d13fc8ed84dba43646", func := "tallage/tallagelaw21.ElimApplies", spec := "elimApplies", unfollowed := true, recurses := true, named := ["math/bits.overflowError"], apart := false, narrowed := true }
def ElimAppliesUptoSaid : Prop := elimAppliesUptoRow.holds Tryz.pinned (OpenSpec.upto elimAppliesSpec)

/-- 'tallagelaw22.ProfitRuns', WHERE WHAT IT READS IS OF BULK AT MOST 1048576: true; the input reads as it did. -/
def profitRunsUptoRow : OpenClaim := { program := "ytlceligcgelbdaagreat", sum := "89f6399bf3f2ac55b261b0d8b2b0ef1415239edfc1fb69d13fc8ed84dba43646", func := "tallage/tallagelaw22.ProfitRuns", spec := "profitRuns", unfollowed := true, recurses := true, named := ["math/bits.overflowError"], apart := false, narrowed := true }
def ProfitRunsUptoSaid : Prop := profitRunsUptoRow.holds Tryz.pinned (OpenSpec.upto profitRunsSpec)

/-- 'tallagelaw22.ProfitLeaves', WHERE WHAT IT READS IS OF BULK AT MOST 1048576: true; the input reads as it did. -/
def profitLeavesUptoRow : OpenClaim := { program := "ytlceligcgelbdaagreat", sum := "89f6399bf3f2ac55b261b0d8b2b0ef1415239edfc1fb69d13fc8ed84dba43646", func := "tallage/tallagelaw22.ProfitLeaves", spec := "profitLeaves", unfollowed := true, recurses := true, named := ["math/bits.overflowError"], apart := false, narrowed := true }
def ProfitLeavesUptoSaid : Prop := profitLeavesUptoRow.holds Tryz.pinned (OpenSpec.upto profitLeavesSpec)

/-- 'tallagelaw22.ProfitTurns', WHERE WHAT IT READS IS OF BULK AT MOST 1048576: true; the input reads as it did. -/
def profitTurnsUptoRow : OpenClaim := { program := "ytlceligcgelbdaagreat", sum := "89f6399bf3f2ac55b261b0d8b2b0ef1415239edfc1fb69d13fc8ed84dba43646", func := "tallage/tallagelaw22.ProfitTurns", spec := "profitTurns", unfollowed := true, recurses := true, named := ["math/bits.overflowError"], apart := false, narrowed := true }
def ProfitTurnsUptoSaid : Prop := profitTurnsUptoRow.holds Tryz.pinned (OpenSpec.upto profitTurnsSpec)

/-- 'tallagelaw20.PairsMatch', WHERE WHAT IT READS IS OF BULK AT MOST 1048576: true; the input reads as it did. -/
def pairsMatchUptoRow : OpenClaim := { program := "ytlceligcgelbdaagreat", sum := "89f6399bf3f2ac55b261b0d8b2b0ef1415239edfc1fb69d13fc8ed84dba43646", func := "tallage/tallagelaw20.PairsMatch", spec := "pairsMatch", unfollowed := true, recurses := true, named := ["math/bits.overflowError"], apart := false, narrowed := true }
def PairsMatchUptoSaid : Prop := pairsMatchUptoRow.holds Tryz.pinned (OpenSpec.upto pairsMatchSpec)

/-- 'tallagelaw20.PairsBoth', WHERE WHAT IT READS IS OF BULK AT MOST 1048576: true; the input reads as it did. -/
def pairsBothUptoRow : OpenClaim := { program := "ytlceligcgelbdaagreat", sum := "89f6399bf3f2ac55b261b0d8b2b0ef1415239edfc1fb69d13fc8ed84dba43646", func := "tallage/tallagelaw20.PairsBoth", spec := "pairsBoth", unfollowed := true, recurses := true, named := ["math/bits.overflowError"], apart := false, narrowed := true }
def PairsBothUptoSaid : Prop := pairsBothUptoRow.holds Tryz.pinned (OpenSpec.upto pairsBothSpec)

/-- 'tallagelaw20.PairsHalf', WHERE WHAT IT READS IS OF BULK AT MOST 1048576: true; the input reads as it did. -/
def pairsHalfUptoRow : OpenClaim := { program := "ytlceligcgelbdaagreat", sum := "89f6399bf3f2ac55b261b0d8b2b0ef1415239edfc1fb69d13fc8ed84dba43646", func := "tallage/tallagelaw20.PairsHalf", spec := "pairsHalf", unfollowed := true, recurses := true, named := ["math/bits.overflowError"], apart := false, narrowed := true }
def PairsHalfUptoSaid : Prop := pairsHalfUptoRow.holds Tryz.pinned (OpenSpec.upto pairsHalfSpec)

/-- 'tallagelaw21.ElimTables', WHERE WHAT IT READS IS OF BULK AT MOST 1048576: true; the input reads as it did. -/
def elimTablesUptoRow : OpenClaim := { program := "ytlceligcgelbdaagreat", sum := "89f6399bf3f2ac55b261b0d8b2b0ef1415239edfc1fb69d13fc8ed84dba43646", func := "tallage/tallagelaw21.ElimTables", spec := "elimTables", unfollowed := true, recurses := true, named := ["math/bits.overflowError"], apart := false, narrowed := true }
def ElimTablesUptoSaid : Prop := elimTablesUptoRow.holds Tryz.pinned (OpenSpec.upto elimTablesSpec)

end Rows
end Go.Proofs.YtlceligcgelbdaaGreat
