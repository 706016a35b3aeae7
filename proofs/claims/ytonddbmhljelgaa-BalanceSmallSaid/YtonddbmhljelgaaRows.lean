/-
  No cell of these rows narrows 'for every input' (looked for: loops, veiled, ifaces, maps, wideKeys, modest, calm, conditions, laid).
  DERIVED. THE GIVEN ROWS OF THIS SEAT. 10 by the template 'for every input the law returns true; each argument reads behind the call as it read before'; 0 by the template 'total and deterministic' (their statements: YtonddbmhljelgaaTotals.lean).
  GIVEN WITH THE SEED: the statements are not yours to turn. If you find one false, say at which input.
  Laid BY PROGRAM, IN A SANDBOX (cutbox-rows.mjs): the forced cells as the released guide's own fill.sh prints them over the translation 4d52a0c428f71d80… (all of the seat's roots in one cut). By AI agents, Wed Nov 11 2026. No macro, syntax, notation, axiom, sorry.
-/
import Derived.Test.YtonddbmhljelgaaChecked
import GoSem.Claim
import GoSem.ClaimJoined
import GoSem.ClaimMapViews
import Derived.JoinedTies
import Derived.KernelRfl
namespace Go.Proofs.Ytonddbmhljelgaa
/- THE CELL 'sum', in the pinned program and in every row, IS THE sha256 OF THE DUMP (.gsa) THAT YtonddbmhljelgaaProg.lean LOADS. Nothing in Lean hashes anything: it is a label: what it is worth is what the hold of that sum in a sandbox is worth. -/
noncomputable def Try.pinned : Pinned := { name := "ytonddbmhljelgaa", sum := "4d52a0c428f71d80fef60e0082e6be7a45b9063195c9ce096bb37425bc9bfa42", checked := Try.checked }
namespace Rows
def none {H : Type} : Left H := { results := [], args := [] }

/-- 'nilometerlaw08.BalanceCorrections': WHATEVER THE INPUT: true; the input reads as it did. -/
def balanceCorrectionsSpec : ChangeSpec := { name := "balanceCorrections", fn := fun _ => fun
  | [d1, d2, d3] => { results := [.lit (.bool true)], args := [d1, d2, d3] }
  | _ => none }
def balanceCorrectionsRow : OpenClaim := { program := "ytonddbmhljelgaa", sum := "4d52a0c428f71d80fef60e0082e6be7a45b9063195c9ce096bb37425bc9bfa42", func := "nilometer/nilometerlaw08.BalanceCorrections", spec := "balanceCorrections", unfollowed := true, recurses := true, apart := false }
def BalanceCorrectionsSaid : Prop := balanceCorrectionsRow.holds Try.pinned (OpenSpec.ofChange balanceCorrectionsSpec)

/-- ITS FALSE NEIGHBOUR: 'it returns false'. Refute it at one input. -/
def balanceCorrectionsWrong : ChangeSpec := { name := "balanceCorrections", fn := fun _ => fun
  | [d1, d2, d3] => { results := [.lit (.bool false)], args := [d1, d2, d3] }
  | _ => none }
def BalanceCorrectionsWrongFalsely : Prop := balanceCorrectionsRow.holds Try.pinned (OpenSpec.ofChange balanceCorrectionsWrong)

/-- 'nilometerlaw08.BalanceNamed': WHATEVER THE INPUT: true; the input reads as it did. -/
def balanceNamedSpec : ChangeSpec := { name := "balanceNamed", fn := fun _ => fun
  | [d1, d2, d3] => { results := [.lit (.bool true)], args := [d1, d2, d3] }
  | _ => none }
def balanceNamedRow : OpenClaim := { program := "ytonddbmhljelgaa", sum := "4d52a0c428f71d80fef60e0082e6be7a45b9063195c9ce096bb37425bc9bfa42", func := "nilometer/nilometerlaw08.BalanceNamed", spec := "balanceNamed", unfollowed := true, recurses := true, apart := false }
def BalanceNamedSaid : Prop := balanceNamedRow.holds Try.pinned (OpenSpec.ofChange balanceNamedSpec)

/-- ITS FALSE NEIGHBOUR: 'it returns false'. Refute it at one input. -/
def balanceNamedWrong : ChangeSpec := { name := "balanceNamed", fn := fun _ => fun
  | [d1, d2, d3] => { results := [.lit (.bool false)], args := [d1, d2, d3] }
  | _ => none }
def BalanceNamedWrongFalsely : Prop := balanceNamedRow.holds Try.pinned (OpenSpec.ofChange balanceNamedWrong)

/-- 'nilometerlaw08.BalanceMore': WHATEVER THE INPUT: true; the input reads as it did. -/
def balanceMoreSpec : ChangeSpec := { name := "balanceMore", fn := fun _ => fun
  | [d1, d2, d3] => { results := [.lit (.bool true)], args := [d1, d2, d3] }
  | _ => none }
def balanceMoreRow : OpenClaim := { program := "ytonddbmhljelgaa", sum := "4d52a0c428f71d80fef60e0082e6be7a45b9063195c9ce096bb37425bc9bfa42", func := "nilometer/nilometerlaw08.BalanceMore", spec := "balanceMore", unfollowed := true, recurses := true, apart := false }
def BalanceMoreSaid : Prop := balanceMoreRow.holds Try.pinned (OpenSpec.ofChange balanceMoreSpec)

/-- ITS FALSE NEIGHBOUR: 'it returns false'. Refute it at one input. -/
def balanceMoreWrong : ChangeSpec := { name := "balanceMore", fn := fun _ => fun
  | [d1, d2, d3] => { results := [.lit (.bool false)], args := [d1, d2, d3] }
  | _ => none }
def BalanceMoreWrongFalsely : Prop := balanceMoreRow.holds Try.pinned (OpenSpec.ofChange balanceMoreWrong)

/-- 'nilometerlaw08.BalanceGrouped': WHATEVER THE INPUT: true; the input reads as it did. -/
def balanceGroupedSpec : ChangeSpec := { name := "balanceGrouped", fn := fun _ => fun
  | [d1, d2] => { results := [.lit (.bool true)], args := [d1, d2] }
  | _ => none }
def balanceGroupedRow : OpenClaim := { program := "ytonddbmhljelgaa", sum := "4d52a0c428f71d80fef60e0082e6be7a45b9063195c9ce096bb37425bc9bfa42", func := "nilometer/nilometerlaw08.BalanceGrouped", spec := "balanceGrouped", unfollowed := true, recurses := true, apart := false }
def BalanceGroupedSaid : Prop := balanceGroupedRow.holds Try.pinned (OpenSpec.ofChange balanceGroupedSpec)

/-- ITS FALSE NEIGHBOUR: 'it returns false'. Refute it at one input. -/
def balanceGroupedWrong : ChangeSpec := { name := "balanceGrouped", fn := fun _ => fun
  | [d1, d2] => { results := [.lit (.bool false)], args := [d1, d2] }
  | _ => none }
def BalanceGroupedWrongFalsely : Prop := balanceGroupedRow.holds Try.pinned (OpenSpec.ofChange balanceGroupedWrong)

/-- 'nilometerlaw08.BalanceSpans': WHATEVER THE INPUT: true; the input reads as it did. -/
def balanceSpansSpec : ChangeSpec := { name := "balanceSpans", fn := fun _ => fun
  | [d1, d2, d3, d4] => { results := [.lit (.bool true)], args := [d1, d2, d3, d4] }
  | _ => none }
def balanceSpansRow : OpenClaim := { program := "ytonddbmhljelgaa", sum := "4d52a0c428f71d80fef60e0082e6be7a45b9063195c9ce096bb37425bc9bfa42", func := "nilometer/nilometerlaw08.BalanceSpans", spec := "balanceSpans", unfollowed := true, recurses := true, apart := false }
def BalanceSpansSaid : Prop := balanceSpansRow.holds Try.pinned (OpenSpec.ofChange balanceSpansSpec)

/-- ITS FALSE NEIGHBOUR: 'it returns false'. Refute it at one input. -/
def balanceSpansWrong : ChangeSpec := { name := "balanceSpans", fn := fun _ => fun
  | [d1, d2, d3, d4] => { results := [.lit (.bool false)], args := [d1, d2, d3, d4] }
  | _ => none }
def BalanceSpansWrongFalsely : Prop := balanceSpansRow.holds Try.pinned (OpenSpec.ofChange balanceSpansWrong)

/-- 'nilometerlaw08.BalanceCheapest': WHATEVER THE INPUT: true; the input reads as it did. -/
def balanceCheapestSpec : ChangeSpec := { name := "balanceCheapest", fn := fun _ => fun
  | [d1, d2, d3] => { results := [.lit (.bool true)], args := [d1, d2, d3] }
  | _ => none }
def balanceCheapestRow : OpenClaim := { program := "ytonddbmhljelgaa", sum := "4d52a0c428f71d80fef60e0082e6be7a45b9063195c9ce096bb37425bc9bfa42", func := "nilometer/nilometerlaw08.BalanceCheapest", spec := "balanceCheapest", unfollowed := true, recurses := true, apart := false }
def BalanceCheapestSaid : Prop := balanceCheapestRow.holds Try.pinned (OpenSpec.ofChange balanceCheapestSpec)

/-- ITS FALSE NEIGHBOUR: 'it returns false'. Refute it at one input. -/
def balanceCheapestWrong : ChangeSpec := { name := "balanceCheapest", fn := fun _ => fun
  | [d1, d2, d3] => { results := [.lit (.bool false)], args := [d1, d2, d3] }
  | _ => none }
def BalanceCheapestWrongFalsely : Prop := balanceCheapestRow.holds Try.pinned (OpenSpec.ofChange balanceCheapestWrong)

/-- 'nilometerlaw08.BalanceTruths': WHATEVER THE INPUT: true; the input reads as it did. -/
def balanceTruthsSpec : ChangeSpec := { name := "balanceTruths", fn := fun _ => fun
  | [d1, d2] => { results := [.lit (.bool true)], args := [d1, d2] }
  | _ => none }
def balanceTruthsRow : OpenClaim := { program := "ytonddbmhljelgaa", sum := "4d52a0c428f71d80fef60e0082e6be7a45b9063195c9ce096bb37425bc9bfa42", func := "nilometer/nilometerlaw08.BalanceTruths", spec := "balanceTruths", unfollowed := true, recurses := true, apart := false }
def BalanceTruthsSaid : Prop := balanceTruthsRow.holds Try.pinned (OpenSpec.ofChange balanceTruthsSpec)

/-- ITS FALSE NEIGHBOUR: 'it returns false'. Refute it at one input. -/
def balanceTruthsWrong : ChangeSpec := { name := "balanceTruths", fn := fun _ => fun
  | [d1, d2] => { results := [.lit (.bool false)], args := [d1, d2] }
  | _ => none }
def BalanceTruthsWrongFalsely : Prop := balanceTruthsRow.holds Try.pinned (OpenSpec.ofChange balanceTruthsWrong)

/-- 'nilometerlaw08.BalanceHeld': WHATEVER THE INPUT: true; the input reads as it did. -/
def balanceHeldSpec : ChangeSpec := { name := "balanceHeld", fn := fun _ => fun
  | [d1, d2] => { results := [.lit (.bool true)], args := [d1, d2] }
  | _ => none }
def balanceHeldRow : OpenClaim := { program := "ytonddbmhljelgaa", sum := "4d52a0c428f71d80fef60e0082e6be7a45b9063195c9ce096bb37425bc9bfa42", func := "nilometer/nilometerlaw08.BalanceHeld", spec := "balanceHeld", unfollowed := true, recurses := true, apart := false }
def BalanceHeldSaid : Prop := balanceHeldRow.holds Try.pinned (OpenSpec.ofChange balanceHeldSpec)

/-- ITS FALSE NEIGHBOUR: 'it returns false'. Refute it at one input. -/
def balanceHeldWrong : ChangeSpec := { name := "balanceHeld", fn := fun _ => fun
  | [d1, d2] => { results := [.lit (.bool false)], args := [d1, d2] }
  | _ => none }
def BalanceHeldWrongFalsely : Prop := balanceHeldRow.holds Try.pinned (OpenSpec.ofChange balanceHeldWrong)

/-- 'nilometerlaw08.BalanceReached': WHATEVER THE INPUT: true; the input reads as it did. -/
def balanceReachedSpec : ChangeSpec := { name := "balanceReached", fn := fun _ => fun
  | [d1, d2, d3] => { results := [.lit (.bool true)], args := [d1, d2, d3] }
  | _ => none }
def balanceReachedRow : OpenClaim := { program := "ytonddbmhljelgaa", sum := "4d52a0c428f71d80fef60e0082e6be7a45b9063195c9ce096bb37425bc9bfa42", func := "nilometer/nilometerlaw08.BalanceReached", spec := "balanceReached", unfollowed := true, recurses := true, apart := false }
def BalanceReachedSaid : Prop := balanceReachedRow.holds Try.pinned (OpenSpec.ofChange balanceReachedSpec)

/-- ITS FALSE NEIGHBOUR: 'it returns false'. Refute it at one input. -/
def balanceReachedWrong : ChangeSpec := { name := "balanceReached", fn := fun _ => fun
  | [d1, d2, d3] => { results := [.lit (.bool false)], args := [d1, d2, d3] }
  | _ => none }
def BalanceReachedWrongFalsely : Prop := balanceReachedRow.holds Try.pinned (OpenSpec.ofChange balanceReachedWrong)

/-- 'nilometerlaw08.BalanceSmall': WHATEVER THE INPUT: true; the input reads as it did. -/
def balanceSmallSpec : ChangeSpec := { name := "balanceSmall", fn := fun _ => fun
  | [] => { results := [.lit (.bool true)], args := [] }
  | _ => none }
def balanceSmallRow : OpenClaim := { program := "ytonddbmhljelgaa", sum := "4d52a0c428f71d80fef60e0082e6be7a45b9063195c9ce096bb37425bc9bfa42", func := "nilometer/nilometerlaw08.BalanceSmall", spec := "balanceSmall", unfollowed := true, recurses := true, apart := false }
def BalanceSmallSaid : Prop := balanceSmallRow.holds Try.pinned (OpenSpec.ofChange balanceSmallSpec)

/-- ITS FALSE NEIGHBOUR: 'it returns false'. Refute it at one input. -/
def balanceSmallWrong : ChangeSpec := { name := "balanceSmall", fn := fun _ => fun
  | [] => { results := [.lit (.bool false)], args := [] }
  | _ => none }
def BalanceSmallWrongFalsely : Prop := balanceSmallRow.holds Try.pinned (OpenSpec.ofChange balanceSmallWrong)

/- THE SECOND FORM. 'bulk': how many values and letters a reading holds, each counted each time it is reached (what is shared counts as often as it is met; a slice's spare places count too). A statement '..UptoSaid' is the law's where the arguments, and the package variables that the reading takes, are together of bulk at most 1048576: NARROWER than '..Said'. Prove '..Said' where nothing that the law and all that it calls make is longer than what came in: it says more and counts as full. Else prove '..UptoSaid'. A law counts once. -/
mutual
def uptoBulk {H : Type} : DataW H → Nat
  | .lit (.string bytes) => bytes.length + 1
  | .lit _ => 1
  | .nil => 1
  | .ptr d => uptoBulk d + 1
  | .slice elems spare => uptoBulkAll elems + uptoBulkAll spare + 1
  | .agg parts => uptoBulkAll parts + 1
  | .iface _ d => uptoBulk d + 1
  | .map entries => uptoBulkEntries entries + 1
  | .held _ => 1
def uptoBulkAll {H : Type} : List (DataW H) → Nat
  | [] => 0
  | d :: r => uptoBulk d + uptoBulkAll r
def uptoBulkEntries {H : Type} : List (Lit × DataW H) → Nat
  | [] => 0
  | x :: r => uptoBulkEntry x + uptoBulkEntries r
def uptoBulkEntry {H : Type} : Lit × DataW H → Nat
  | (.string bytes, d) => bytes.length + uptoBulk d + 1
  | (_, d) => uptoBulk d + 1
 end
def uptoSmall : (H : Type) → List (DataW H) → Bool := fun _ ds => decide (uptoBulkAll ds ≤ 1048576)
def OpenSpec.upto (s : _root_.Go.ChangeSpec) : _root_.Go.OpenSpec := { _root_.Go.OpenSpec.ofChange s with cond := some uptoSmall }

/-- 'nilometerlaw08.BalanceCorrections', WHERE WHAT IT READS IS OF BULK AT MOST 1048576: true; the input reads as it did. -/
def balanceCorrectionsUptoRow : OpenClaim := { program := "ytonddbmhljelgaa", sum := "4d52a0c428f71d80fef60e0082e6be7a45b9063195c9ce096bb37425bc9bfa42", func := "nilometer/nilometerlaw08.BalanceCorrections", spec := "balanceCorrections", unfollowed := true, recurses := true, apart := false, narrowed := true }
def BalanceCorrectionsUptoSaid : Prop := balanceCorrectionsUptoRow.holds Try.pinned (OpenSpec.upto balanceCorrectionsSpec)

/-- 'nilometerlaw08.BalanceNamed', WHERE WHAT IT READS IS OF BULK AT MOST 1048576: true; the input reads as it did. -/
def balanceNamedUptoRow : OpenClaim := { program := "ytonddbmhljelgaa", sum := "4d52a0c428f71d80fef60e0082e6be7a45b9063195c9ce096bb37425bc9bfa42", func := "nilometer/nilometerlaw08.BalanceNamed", spec := "balanceNamed", unfollowed := true, recurses := true, apart := false, narrowed := true }
def BalanceNamedUptoSaid : Prop := balanceNamedUptoRow.holds Try.pinned (OpenSpec.upto balanceNamedSpec)

/-- 'nilometerlaw08.BalanceMore', WHERE WHAT IT READS IS OF BULK AT MOST 1048576: true; the input reads as it did. -/
def balanceMoreUptoRow : OpenClaim := { program := "ytonddbmhljelgaa", sum := "4d52a0c428f71d80fef60e0082e6be7a45b9063195c9ce096bb37425bc9bfa42", func := "nilometer/nilometerlaw08.BalanceMore", spec := "balanceMore", unfollowed := true, recurses := true, apart := false, narrowed := true }
def BalanceMoreUptoSaid : Prop := balanceMoreUptoRow.holds Try.pinned (OpenSpec.upto balanceMoreSpec)

/-- 'nilometerlaw08.BalanceGrouped', WHERE WHAT IT READS IS OF BULK AT MOST 1048576: true; the input reads as it did. -/
def balanceGroupedUptoRow : OpenClaim := { program := "ytonddbmhljelgaa", sum := "4d52a0c428f71d80fef60e0082e6be7a45b9063195c9ce096bb37425bc9bfa42", func := "nilometer/nilometerlaw08.BalanceGrouped", spec := "balanceGrouped", unfollowed := true, recurses := true, apart := false, narrowed := true }
def BalanceGroupedUptoSaid : Prop := balanceGroupedUptoRow.holds Try.pinned (OpenSpec.upto balanceGroupedSpec)

/-- 'nilometerlaw08.BalanceSpans', WHERE WHAT IT READS IS OF BULK AT MOST 1048576: true; the input reads as it did. -/
def balanceSpansUptoRow : OpenClaim := { program := "ytonddbmhljelgaa", sum := "4d52a0c428f71d80fef60e0082e6be7a45b9063195c9ce096bb37425bc9bfa42", func := "nilometer/nilometerlaw08.BalanceSpans", spec := "balanceSpans", unfollowed := true, recurses := true, apart := false, narrowed := true }
def BalanceSpansUptoSaid : Prop := balanceSpansUptoRow.holds Try.pinned (OpenSpec.upto balanceSpansSpec)

/-- 'nilometerlaw08.BalanceCheapest', WHERE WHAT IT READS IS OF BULK AT MOST 1048576: true; the input reads as it did. -/
def balanceCheapestUptoRow : OpenClaim := { program := "ytonddbmhljelgaa", sum := "4d52a0c428f71d80fef60e0082e6be7a45b9063195c9ce096bb37425bc9bfa42", func := "nilometer/nilometerlaw08.BalanceCheapest", spec := "balanceCheapest", unfollowed := true, recurses := true, apart := false, narrowed := true }
def BalanceCheapestUptoSaid : Prop := balanceCheapestUptoRow.holds Try.pinned (OpenSpec.upto balanceCheapestSpec)

/-- 'nilometerlaw08.BalanceTruths', WHERE WHAT IT READS IS OF BULK AT MOST 1048576: true; the input reads as it did. -/
def balanceTruthsUptoRow : OpenClaim := { program := "ytonddbmhljelgaa", sum := "4d52a0c428f71d80fef60e0082e6be7a45b9063195c9ce096bb37425bc9bfa42", func := "nilometer/nilometerlaw08.BalanceTruths", spec := "balanceTruths", unfollowed := true, recurses := true, apart := false, narrowed := true }
def BalanceTruthsUptoSaid : Prop := balanceTruthsUptoRow.holds Try.pinned (OpenSpec.upto balanceTruthsSpec)

/-- 'nilometerlaw08.BalanceHeld', WHERE WHAT IT READS IS OF BULK AT MOST 1048576: true; the input reads as it did. -/
def balanceHeldUptoRow : OpenClaim := { program := "ytonddbmhljelgaa", sum := "4d52a0c428f71d80fef60e0082e6be7a45b9063195c9ce096bb37425bc9bfa42", func := "nilometer/nilometerlaw08.BalanceHeld", spec := "balanceHeld", unfollowed := true, recurses := true, apart := false, narrowed := true }
def BalanceHeldUptoSaid : Prop := balanceHeldUptoRow.holds Try.pinned (OpenSpec.upto balanceHeldSpec)

/-- 'nilometerlaw08.BalanceReached', WHERE WHAT IT READS IS OF BULK AT MOST 1048576: true; the input reads as it did. -/
def balanceReachedUptoRow : OpenClaim := { program := "ytonddbmhljelgaa", sum := "4d52a0c428f71d80fef60e0082e6be7a45b9063195c9ce096bb37425bc9bfa42", func := "nilometer/nilometerlaw08.BalanceReached", spec := "balanceReached", unfollowed := true, recurses := true, apart := false, narrowed := true }
def BalanceReachedUptoSaid : Prop := balanceReachedUptoRow.holds Try.pinned (OpenSpec.upto balanceReachedSpec)

/-- 'nilometerlaw08.BalanceSmall', WHERE WHAT IT READS IS OF BULK AT MOST 1048576: true; the input reads as it did. -/
def balanceSmallUptoRow : OpenClaim := { program := "ytonddbmhljelgaa", sum := "4d52a0c428f71d80fef60e0082e6be7a45b9063195c9ce096bb37425bc9bfa42", func := "nilometer/nilometerlaw08.BalanceSmall", spec := "balanceSmall", unfollowed := true, recurses := true, apart := false, narrowed := true }
def BalanceSmallUptoSaid : Prop := balanceSmallUptoRow.holds Try.pinned (OpenSpec.upto balanceSmallSpec)

end Rows
end Go.Proofs.Ytonddbmhljelgaa
