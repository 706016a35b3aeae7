/-
  No cell of these rows narrows 'for every input' (looked for: loops, veiled, ifaces, maps, wideKeys, modest, calm, conditions, laid).
  DERIVED. THE GIVEN ROWS OF THIS SEAT. 7 by the template 'for every input the law returns true; each argument reads behind the call as it read before'; 0 by the template 'total and deterministic' (their statements: YtdbjalgfomknhaaTotals.lean).
  GIVEN WITH THE SEED: the statements are not yours to turn. If you find one false, say at which input.
  Laid BY PROGRAM, IN A SANDBOX (cutbox-rows.mjs): the forced cells as the released guide's own fill.sh prints them over the translation 0a315043ca8cdfac… (all of the seat's roots in one cut). By AI agents, Wed Nov 11 2026. No macro, syntax, notation, axiom, sorry.
-/
import Derived.Test.YtdbjalgfomknhaaChecked
import GoSem.Claim
import GoSem.ClaimJoined
import GoSem.ClaimMapViews
import Derived.JoinedTies
import Derived.KernelRfl
namespace Go.Proofs.Ytdbjalgfomknhaa
/- THE CELL 'sum', in the pinned program and in every row, IS THE sha256 OF THE DUMP (.gsa) THAT YtdbjalgfomknhaaProg.lean LOADS. Nothing in Lean hashes anything: it is a label: what it is worth is what the hold of that sum in a sandbox is worth. -/
noncomputable def Try.pinned : Pinned := { name := "ytdbjalgfomknhaa", sum := "0a315043ca8cdfaccd13561a691c5e5f3c4c8c98c48f8965a58bf78cdecb4a0e", checked := Try.checked }
namespace Rows
def none {H : Type} : Left H := { results := [], args := [] }

/-- 'nilometerlaw02.ChartMore': WHATEVER THE INPUT: true; the input reads as it did. -/
def chartMoreSpec : ChangeSpec := { name := "chartMore", fn := fun _ => fun
  | [d1, d2, d3] => { results := [.lit (.bool true)], args := [d1, d2, d3] }
  | _ => none }
def chartMoreRow : OpenClaim := { program := "ytdbjalgfomknhaa", sum := "0a315043ca8cdfaccd13561a691c5e5f3c4c8c98c48f8965a58bf78cdecb4a0e", func := "nilometer/nilometerlaw02.ChartMore", spec := "chartMore", unfollowed := true, recurses := true, apart := false }
def ChartMoreSaid : Prop := chartMoreRow.holds Try.pinned (OpenSpec.ofChange chartMoreSpec)

/-- ITS FALSE NEIGHBOUR: 'it returns false'. Refute it at one input. -/
def chartMoreWrong : ChangeSpec := { name := "chartMore", fn := fun _ => fun
  | [d1, d2, d3] => { results := [.lit (.bool false)], args := [d1, d2, d3] }
  | _ => none }
def ChartMoreWrongFalsely : Prop := chartMoreRow.holds Try.pinned (OpenSpec.ofChange chartMoreWrong)

/-- 'nilometerlaw02.ChartPeaks': WHATEVER THE INPUT: true; the input reads as it did. -/
def chartPeaksSpec : ChangeSpec := { name := "chartPeaks", fn := fun _ => fun
  | [d1, d2, d3, d4, d5] => { results := [.lit (.bool true)], args := [d1, d2, d3, d4, d5] }
  | _ => none }
def chartPeaksRow : OpenClaim := { program := "ytdbjalgfomknhaa", sum := "0a315043ca8cdfaccd13561a691c5e5f3c4c8c98c48f8965a58bf78cdecb4a0e", func := "nilometer/nilometerlaw02.ChartPeaks", spec := "chartPeaks", unfollowed := true, recurses := true, apart := false }
def ChartPeaksSaid : Prop := chartPeaksRow.holds Try.pinned (OpenSpec.ofChange chartPeaksSpec)

/-- ITS FALSE NEIGHBOUR: 'it returns false'. Refute it at one input. -/
def chartPeaksWrong : ChangeSpec := { name := "chartPeaks", fn := fun _ => fun
  | [d1, d2, d3, d4, d5] => { results := [.lit (.bool false)], args := [d1, d2, d3, d4, d5] }
  | _ => none }
def ChartPeaksWrongFalsely : Prop := chartPeaksRow.holds Try.pinned (OpenSpec.ofChange chartPeaksWrong)

/-- 'nilometerlaw02.ChartLater': WHATEVER THE INPUT: true; the input reads as it did. -/
def chartLaterSpec : ChangeSpec := { name := "chartLater", fn := fun _ => fun
  | [d1, d2, d3, d4] => { results := [.lit (.bool true)], args := [d1, d2, d3, d4] }
  | _ => none }
def chartLaterRow : OpenClaim := { program := "ytdbjalgfomknhaa", sum := "0a315043ca8cdfaccd13561a691c5e5f3c4c8c98c48f8965a58bf78cdecb4a0e", func := "nilometer/nilometerlaw02.ChartLater", spec := "chartLater", unfollowed := true, recurses := true, apart := false }
def ChartLaterSaid : Prop := chartLaterRow.holds Try.pinned (OpenSpec.ofChange chartLaterSpec)

/-- ITS FALSE NEIGHBOUR: 'it returns false'. Refute it at one input. -/
def chartLaterWrong : ChangeSpec := { name := "chartLater", fn := fun _ => fun
  | [d1, d2, d3, d4] => { results := [.lit (.bool false)], args := [d1, d2, d3, d4] }
  | _ => none }
def ChartLaterWrongFalsely : Prop := chartLaterRow.holds Try.pinned (OpenSpec.ofChange chartLaterWrong)

/-- 'nilometerlaw02.ChartParted': WHATEVER THE INPUT: true; the input reads as it did. -/
def chartPartedSpec : ChangeSpec := { name := "chartParted", fn := fun _ => fun
  | [d1, d2, d3] => { results := [.lit (.bool true)], args := [d1, d2, d3] }
  | _ => none }
def chartPartedRow : OpenClaim := { program := "ytdbjalgfomknhaa", sum := "0a315043ca8cdfaccd13561a691c5e5f3c4c8c98c48f8965a58bf78cdecb4a0e", func := "nilometer/nilometerlaw02.ChartParted", spec := "chartParted", unfollowed := true, recurses := true, apart := false }
def ChartPartedSaid : Prop := chartPartedRow.holds Try.pinned (OpenSpec.ofChange chartPartedSpec)

/-- ITS FALSE NEIGHBOUR: 'it returns false'. Refute it at one input. -/
def chartPartedWrong : ChangeSpec := { name := "chartParted", fn := fun _ => fun
  | [d1, d2, d3] => { results := [.lit (.bool false)], args := [d1, d2, d3] }
  | _ => none }
def ChartPartedWrongFalsely : Prop := chartPartedRow.holds Try.pinned (OpenSpec.ofChange chartPartedWrong)

/-- 'nilometerlaw02.ChartFewest': WHATEVER THE INPUT: true; the input reads as it did. -/
def chartFewestSpec : ChangeSpec := { name := "chartFewest", fn := fun _ => fun
  | [d1, d2] => { results := [.lit (.bool true)], args := [d1, d2] }
  | _ => none }
def chartFewestRow : OpenClaim := { program := "ytdbjalgfomknhaa", sum := "0a315043ca8cdfaccd13561a691c5e5f3c4c8c98c48f8965a58bf78cdecb4a0e", func := "nilometer/nilometerlaw02.ChartFewest", spec := "chartFewest", unfollowed := true, recurses := true, apart := false }
def ChartFewestSaid : Prop := chartFewestRow.holds Try.pinned (OpenSpec.ofChange chartFewestSpec)

/-- ITS FALSE NEIGHBOUR: 'it returns false'. Refute it at one input. -/
def chartFewestWrong : ChangeSpec := { name := "chartFewest", fn := fun _ => fun
  | [d1, d2] => { results := [.lit (.bool false)], args := [d1, d2] }
  | _ => none }
def ChartFewestWrongFalsely : Prop := chartFewestRow.holds Try.pinned (OpenSpec.ofChange chartFewestWrong)

/-- 'nilometerlaw02.ChartRead': WHATEVER THE INPUT: true; the input reads as it did. -/
def chartReadSpec : ChangeSpec := { name := "chartRead", fn := fun _ => fun
  | [d1, d2, d3, d4] => { results := [.lit (.bool true)], args := [d1, d2, d3, d4] }
  | _ => none }
def chartReadRow : OpenClaim := { program := "ytdbjalgfomknhaa", sum := "0a315043ca8cdfaccd13561a691c5e5f3c4c8c98c48f8965a58bf78cdecb4a0e", func := "nilometer/nilometerlaw02.ChartRead", spec := "chartRead", unfollowed := true, recurses := true, apart := false }
def ChartReadSaid : Prop := chartReadRow.holds Try.pinned (OpenSpec.ofChange chartReadSpec)

/-- ITS FALSE NEIGHBOUR: 'it returns false'. Refute it at one input. -/
def chartReadWrong : ChangeSpec := { name := "chartRead", fn := fun _ => fun
  | [d1, d2, d3, d4] => { results := [.lit (.bool false)], args := [d1, d2, d3, d4] }
  | _ => none }
def ChartReadWrongFalsely : Prop := chartReadRow.holds Try.pinned (OpenSpec.ofChange chartReadWrong)

/-- 'nilometerlaw02.ChartReached': WHATEVER THE INPUT: true; the input reads as it did. -/
def chartReachedSpec : ChangeSpec := { name := "chartReached", fn := fun _ => fun
  | [d1, d2, d3] => { results := [.lit (.bool true)], args := [d1, d2, d3] }
  | _ => none }
def chartReachedRow : OpenClaim := { program := "ytdbjalgfomknhaa", sum := "0a315043ca8cdfaccd13561a691c5e5f3c4c8c98c48f8965a58bf78cdecb4a0e", func := "nilometer/nilometerlaw02.ChartReached", spec := "chartReached", unfollowed := true, recurses := true, apart := false }
def ChartReachedSaid : Prop := chartReachedRow.holds Try.pinned (OpenSpec.ofChange chartReachedSpec)

/-- ITS FALSE NEIGHBOUR: 'it returns false'. Refute it at one input. -/
def chartReachedWrong : ChangeSpec := { name := "chartReached", fn := fun _ => fun
  | [d1, d2, d3] => { results := [.lit (.bool false)], args := [d1, d2, d3] }
  | _ => none }
def ChartReachedWrongFalsely : Prop := chartReachedRow.holds Try.pinned (OpenSpec.ofChange chartReachedWrong)

/- THE SECOND FORM. 'bulk': how many values and letters a reading holds, each counted each time it is reached (what is shared counts as often as it is met; a slice's spare places count too). A statement '..UptoSaid' is the law's where the arguments, and the package variables that the reading takes, are together of bulk at most 1048576: NARROWER than '..Said'. Prove '..Said' where nothing that the law and all that it calls make is longer than what came in: it says more and counts as full. Else prove '..UptoSaid'. A law counts once. -/
mutual
def uptoBulk {H : Type} : DataW H → Nat
  | .lit (.string bytes) => bytes.length + 1
  | .lit _ => 1
  | .nil => 1
  | .ptr d => uptoBulk d + 1
  | .slice elems spare => uptoBulkAll elems + uptoBulkAll spare + 1
  | .agg parts => uptoBulkAll parts + 1
  | .iface _ d => uptoBulk d + 1
  | .map entries => uptoBulkEntries entries + 1
  | .held _ => 1
def uptoBulkAll {H : Type} : List (DataW H) → Nat
  | [] => 0
  | d :: r => uptoBulk d + uptoBulkAll r
def uptoBulkEntries {H : Type} : List (Lit × DataW H) → Nat
  | [] => 0
  | x :: r => uptoBulkEntry x + uptoBulkEntries r
def uptoBulkEntry {H : Type} : Lit × DataW H → Nat
  | (.string bytes, d) => bytes.length + uptoBulk d + 1
  | (_, d) => uptoBulk d + 1
 end
def uptoSmall : (H : Type) → List (DataW H) → Bool := fun _ ds => decide (uptoBulkAll ds ≤ 1048576)
def OpenSpec.upto (s : _root_.Go.ChangeSpec) : _root_.Go.OpenSpec := { _root_.Go.OpenSpec.ofChange s with cond := some uptoSmall }

/-- 'nilometerlaw02.ChartMore', WHERE WHAT IT READS IS OF BULK AT MOST 1048576: true; the input reads as it did. -/
def chartMoreUptoRow : OpenClaim := { program := "ytdbjalgfomknhaa", sum := "0a315043ca8cdfaccd13561a691c5e5f3c4c8c98c48f8965a58bf78cdecb4a0e", func := "nilometer/nilometerlaw02.ChartMore", spec := "chartMore", unfollowed := true, recurses := true, apart := false, narrowed := true }
def ChartMoreUptoSaid : Prop := chartMoreUptoRow.holds Try.pinned (OpenSpec.upto chartMoreSpec)

/-- 'nilometerlaw02.ChartPeaks', WHERE WHAT IT READS IS OF BULK AT MOST 1048576: true; the input reads as it did. -/
def chartPeaksUptoRow : OpenClaim := { program := "ytdbjalgfomknhaa", sum := "0a315043ca8cdfaccd13561a691c5e5f3c4c8c98c48f8965a58bf78cdecb4a0e", func := "nilometer/nilometerlaw02.ChartPeaks", spec := "chartPeaks", unfollowed := true, recurses := true, apart := false, narrowed := true }
def ChartPeaksUptoSaid : Prop := chartPeaksUptoRow.holds Try.pinned (OpenSpec.upto chartPeaksSpec)

/-- 'nilometerlaw02.ChartLater', WHERE WHAT IT READS IS OF BULK AT MOST 1048576: true; the input reads as it did. -/
def chartLaterUptoRow : OpenClaim := { program := "ytdbjalgfomknhaa", sum := "0a315043ca8cdfaccd13561a691c5e5f3c4c8c98c48f8965a58bf78cdecb4a0e", func := "nilometer/nilometerlaw02.ChartLater", spec := "chartLater", unfollowed := true, recurses := true, apart := false, narrowed := true }
def ChartLaterUptoSaid : Prop := chartLaterUptoRow.holds Try.pinned (OpenSpec.upto chartLaterSpec)

/-- 'nilometerlaw02.ChartParted', WHERE WHAT IT READS IS OF BULK AT MOST 1048576: true; the input reads as it did. -/
def chartPartedUptoRow : OpenClaim := { program := "ytdbjalgfomknhaa", sum := "0a315043ca8cdfaccd13561a691c5e5f3c4c8c98c48f8965a58bf78cdecb4a0e", func := "nilometer/nilometerlaw02.ChartParted", spec := "chartParted", unfollowed := true, recurses := true, apart := false, narrowed := true }
def ChartPartedUptoSaid : Prop := chartPartedUptoRow.holds Try.pinned (OpenSpec.upto chartPartedSpec)

/-- 'nilometerlaw02.ChartFewest', WHERE WHAT IT READS IS OF BULK AT MOST 1048576: true; the input reads as it did. -/
def chartFewestUptoRow : OpenClaim := { program := "ytdbjalgfomknhaa", sum := "0a315043ca8cdfaccd13561a691c5e5f3c4c8c98c48f8965a58bf78cdecb4a0e", func := "nilometer/nilometerlaw02.ChartFewest", spec := "chartFewest", unfollowed := true, recurses := true, apart := false, narrowed := true }
def ChartFewestUptoSaid : Prop := chartFewestUptoRow.holds Try.pinned (OpenSpec.upto chartFewestSpec)

/-- 'nilometerlaw02.ChartRead', WHERE WHAT IT READS IS OF BULK AT MOST 1048576: true; the input reads as it did. -/
def chartReadUptoRow : OpenClaim := { program := "ytdbjalgfomknhaa", sum := "0a315043ca8cdfaccd13561a691c5e5f3c4c8c98c48f8965a58bf78cdecb4a0e", func := "nilometer/nilometerlaw02.ChartRead", spec := "chartRead", unfollowed := true, recurses := true, apart := false, narrowed := true }
def ChartReadUptoSaid : Prop := chartReadUptoRow.holds Try.pinned (OpenSpec.upto chartReadSpec)

/-- 'nilometerlaw02.ChartReached', WHERE WHAT IT READS IS OF BULK AT MOST 1048576: true; the input reads as it did. -/
def chartReachedUptoRow : OpenClaim := { program := "ytdbjalgfomknhaa", sum := "0a315043ca8cdfaccd13561a691c5e5f3c4c8c98c48f8965a58bf78cdecb4a0e", func := "nilometer/nilometerlaw02.ChartReached", spec := "chartReached", unfollowed := true, recurses := true, apart := false, narrowed := true }
def ChartReachedUptoSaid : Prop := chartReachedUptoRow.holds Try.pinned (OpenSpec.upto chartReachedSpec)

end Rows
end Go.Proofs.Ytdbjalgfomknhaa
