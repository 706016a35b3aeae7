/-
  No cell of these rows narrows 'for every input' (looked for: loops, veiled, ifaces, maps, wideKeys, modest, calm, conditions, laid).
  DERIVED. THE GIVEN ROWS OF THIS SEAT. 4 by the template 'for every input the law returns true; each argument reads behind the call as it read before'; 0 by the template 'total and deterministic' (their statements: YtdbjalgfomknhaaGreatTotals.lean).
  GIVEN WITH THE SEED: the statements are not yours to turn. If you find one false, say at which input.
  Laid BY PROGRAM, IN A SANDBOX (cutbox-rows.mjs): the forced cells as the released guide's own fill.sh prints them over the translation a0e8486de4242093… (all of the seat's roots in one cut). By AI agents, Wed Nov 11 2026. No macro, syntax, notation, axiom, sorry.
-/
import Derived.Test.YtdbjalgfomknhaaGreatChecked
import GoSem.Claim
import GoSem.ClaimJoined
import GoSem.ClaimMapViews
import Derived.JoinedTies
import Derived.KernelRfl
namespace Go.Proofs.YtdbjalgfomknhaaGreat
/- THE CELL 'sum', in the pinned program and in every row, IS THE sha256 OF THE DUMP (.gsa) THAT YtdbjalgfomknhaaGreatProg.lean LOADS. Nothing in Lean hashes anything: it is a label: what it is worth is what the hold of that sum in a sandbox is worth. -/
noncomputable def Tryz.pinned : Pinned := { name := "ytdbjalgfomknhaagreat", sum := "a0e8486de4242093ef1b00b8171694473113d0a0a3bbc4beb25acaf5a00e45a3", checked := Tryz.checked }
namespace Rows
def none {H : Type} : Left H := { results := [], args := [] }

/-- 'nilometerlaw02.ChartStages': WHATEVER THE INPUT: true; the input reads as it did. -/
def chartStagesSpec : ChangeSpec := { name := "chartStages", fn := fun _ => fun
  | [d1, d2, d3, d4, d5, d6] => { results := [.lit (.bool true)], args := [d1, d2, d3, d4, d5, d6] }
  | _ => none }
def chartStagesRow : OpenClaim := { program := "ytdbjalgfomknhaagreat", sum := "a0e8486de4242093ef1b00b8171694473113d0a0a3bbc4beb25acaf5a00e45a3", func := "nilometer/nilometerlaw02.ChartStages", spec := "chartStages", unfollowed := true, recurses := true, apart := false }
def ChartStagesSaid : Prop := chartStagesRow.holds Tryz.pinned (OpenSpec.ofChange chartStagesSpec)

/-- ITS FALSE NEIGHBOUR: 'it returns false'. Refute it at one input. -/
def chartStagesWrong : ChangeSpec := { name := "chartStages", fn := fun _ => fun
  | [d1, d2, d3, d4, d5, d6] => { results := [.lit (.bool false)], args := [d1, d2, d3, d4, d5, d6] }
  | _ => none }
def ChartStagesWrongFalsely : Prop := chartStagesRow.holds Tryz.pinned (OpenSpec.ofChange chartStagesWrong)

/-- 'nilometerlaw02.ChartStops': WHATEVER THE INPUT: true; the input reads as it did. -/
def chartStopsSpec : ChangeSpec := { name := "chartStops", fn := fun _ => fun
  | [d1, d2, d3, d4] => { results := [.lit (.bool true)], args := [d1, d2, d3, d4] }
  | _ => none }
def chartStopsRow : OpenClaim := { program := "ytdbjalgfomknhaagreat", sum := "a0e8486de4242093ef1b00b8171694473113d0a0a3bbc4beb25acaf5a00e45a3", func := "nilometer/nilometerlaw02.ChartStops", spec := "chartStops", unfollowed := true, recurses := true, apart := false }
def ChartStopsSaid : Prop := chartStopsRow.holds Tryz.pinned (OpenSpec.ofChange chartStopsSpec)

/-- ITS FALSE NEIGHBOUR: 'it returns false'. Refute it at one input. -/
def chartStopsWrong : ChangeSpec := { name := "chartStops", fn := fun _ => fun
  | [d1, d2, d3, d4] => { results := [.lit (.bool false)], args := [d1, d2, d3, d4] }
  | _ => none }
def ChartStopsWrongFalsely : Prop := chartStopsRow.holds Tryz.pinned (OpenSpec.ofChange chartStopsWrong)

/-- 'nilometerlaw02.ChartTimes': WHATEVER THE INPUT: true; the input reads as it did. -/
def chartTimesSpec : ChangeSpec := { name := "chartTimes", fn := fun _ => fun
  | [d1, d2, d3, d4, d5] => { results := [.lit (.bool true)], args := [d1, d2, d3, d4, d5] }
  | _ => none }
def chartTimesRow : OpenClaim := { program := "ytdbjalgfomknhaagreat", sum := "a0e8486de4242093ef1b00b8171694473113d0a0a3bbc4beb25acaf5a00e45a3", func := "nilometer/nilometerlaw02.ChartTimes", spec := "chartTimes", unfollowed := true, recurses := true, apart := false }
def ChartTimesSaid : Prop := chartTimesRow.holds Tryz.pinned (OpenSpec.ofChange chartTimesSpec)

/-- ITS FALSE NEIGHBOUR: 'it returns false'. Refute it at one input. -/
def chartTimesWrong : ChangeSpec := { name := "chartTimes", fn := fun _ => fun
  | [d1, d2, d3, d4, d5] => { results := [.lit (.bool false)], args := [d1, d2, d3, d4, d5] }
  | _ => none }
def ChartTimesWrongFalsely : Prop := chartTimesRow.holds Tryz.pinned (OpenSpec.ofChange chartTimesWrong)

/-- 'nilometerlaw02.ChartSmall': WHATEVER THE INPUT: true; the input reads as it did. -/
def chartSmallSpec : ChangeSpec := { name := "chartSmall", fn := fun _ => fun
  | [] => { results := [.lit (.bool true)], args := [] }
  | _ => none }
def chartSmallRow : OpenClaim := { program := "ytdbjalgfomknhaagreat", sum := "a0e8486de4242093ef1b00b8171694473113d0a0a3bbc4beb25acaf5a00e45a3", func := "nilometer/nilometerlaw02.ChartSmall", spec := "chartSmall", unfollowed := true, recurses := true, apart := false }
def ChartSmallSaid : Prop := chartSmallRow.holds Tryz.pinned (OpenSpec.ofChange chartSmallSpec)

/-- ITS FALSE NEIGHBOUR: 'it returns false'. Refute it at one input. -/
def chartSmallWrong : ChangeSpec := { name := "chartSmall", fn := fun _ => fun
  | [] => { results := [.lit (.bool false)], args := [] }
  | _ => none }
def ChartSmallWrongFalsely : Prop := chartSmallRow.holds Tryz.pinned (OpenSpec.ofChange chartSmallWrong)

/- THE SECOND FORM. 'bulk': how many values and letters a reading holds, each counted each time it is reached (what is shared counts as often as it is met; a slice's spare places count too). A statement '..UptoSaid' is the law's where the arguments, and the package variables that the reading takes, are together of bulk at most 1048576: NARROWER than '..Said'. Prove '..Said' where nothing that the law and all that it calls make is longer than what came in: it says more and counts as full. Else prove '..UptoSaid'. A law counts once. -/
mutual
def uptoBulk {H : Type} : DataW H → Nat
  | .lit (.string bytes) => bytes.length + 1
  | .lit _ => 1
  | .nil => 1
  | .ptr d => uptoBulk d + 1
  | .slice elems spare => uptoBulkAll elems + uptoBulkAll spare + 1
  | .agg parts => uptoBulkAll parts + 1
  | .iface _ d => uptoBulk d + 1
  | .map entries => uptoBulkEntries entries + 1
  | .held _ => 1
def uptoBulkAll {H : Type} : List (DataW H) → Nat
  | [] => 0
  | d :: r => uptoBulk d + uptoBulkAll r
def uptoBulkEntries {H : Type} : List (Lit × DataW H) → Nat
  | [] => 0
  | x :: r => uptoBulkEntry x + uptoBulkEntries r
def uptoBulkEntry {H : Type} : Lit × DataW H → Nat
  | (.string bytes, d) => bytes.length + uptoBulk d + 1
  | (_, d) => uptoBulk d + 1
 end
def uptoSmall : (H : Type) → List (DataW H) → Bool := fun _ ds => decide (uptoBulkAll ds ≤ 1048576)
def OpenSpec.upto (s : _root_.Go.ChangeSpec) : _root_.Go.OpenSpec := { _root_.Go.OpenSpec.ofChange s with cond := some uptoSmall }

/-- 'nilometerlaw02.ChartStages', WHERE WHAT IT READS IS OF BULK AT MOST 1048576: true; the input reads as it did. -/
def chartStagesUptoRow : OpenClaim := { program := "ytdbjalgfomknhaagreat", sum := "a0e8486de4242093ef1b00b8171694473113d0a0a3bbc4beb25acaf5a00e45a3", func := "nilometer/nilometerlaw02.ChartStages", spec := "chartStages", unfollowed := true, recurses := true, apart := false, narrowed := true }
def ChartStagesUptoSaid : Prop := chartStagesUptoRow.holds Tryz.pinned (OpenSpec.upto chartStagesSpec)

/-- 'nilometerlaw02.ChartStops', WHERE WHAT IT READS IS OF BULK AT MOST 1048576: true; the input reads as it did. -/
def chartStopsUptoRow : OpenClaim := { program := "ytdbjalgfomknhaagreat", sum := "a0e8486de4242093ef1b00b8171694473113d0a0a3bbc4beb25acaf5a00e45a3", func := "nilometer/nilometerlaw02.ChartStops", spec := "chartStops", unfollowed := true, recurses := true, apart := false, narrowed := true }
def ChartStopsUptoSaid : Prop := chartStopsUptoRow.holds Tryz.pinned (OpenSpec.upto chartStopsSpec)

/-- 'nilometerlaw02.ChartTimes', WHERE WHAT IT READS IS OF BULK AT MOST 1048576: true; the input reads as it did. -/
def chartTimesUptoRow : OpenClaim := { program := "ytdbjalgfomknhaagreat", sum := "a0e8486de4242093ef1b00b8171694473113d0a0a3bbc4beb25acaf5a00e45a3", func := "nilometer/nilometerlaw02.ChartTimes", spec := "chartTimes", unfollowed := true, recurses := true, apart := false, narrowed := true }
def ChartTimesUptoSaid : Prop := chartTimesUptoRow.holds Tryz.pinned (OpenSpec.upto chartTimesSpec)

/-- 'nilometerlaw02.ChartSmall', WHERE WHAT IT READS IS OF BULK AT MOST 1048576: true; the input reads as it did. -/
def chartSmallUptoRow : OpenClaim := { program := "ytdbjalgfomknhaagreat", sum := "a0e8486de4242093ef1b00b8171694473113d0a0a3bbc4beb25acaf5a00e45a3", func := "nilometer/nilometerlaw02.ChartSmall", spec := "chartSmall", unfollowed := true, recurses := true, apart := false, narrowed := true }
def ChartSmallUptoSaid : Prop := chartSmallUptoRow.holds Tryz.pinned (OpenSpec.upto chartSmallSpec)

end Rows
end Go.Proofs.YtdbjalgfomknhaaGreat
