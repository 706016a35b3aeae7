/-
  No cell of these rows narrows 'for every input' (looked for: loops, veiled, ifaces, maps, wideKeys, modest, calm, conditions, laid).
  DERIVED. THE GIVEN ROWS OF THIS SEAT. 6 by the template 'for every input the law returns true; each argument reads behind the call as it read before'; 0 by the template 'total and deterministic' (their statements: YtoihhodbkimedaaTotals.lean).
  GIVEN WITH THE SEED: the statements are not yours to turn. If you find one false, say at which input.
  Laid BY PROGRAM, IN A SANDBOX (cutbox-rows.mjs): the forced cells as the released guide's own fill.sh prints them over the translation a8ce20af00a41790… (all of the seat's roots in one cut). By AI agents, Wed Nov 11 2026. No macro, syntax, notation, axiom, sorry.
-/
import Derived.Test.YtoihhodbkimedaaChecked
import GoSem.Claim
import GoSem.ClaimJoined
import GoSem.ClaimMapViews
import Derived.JoinedTies
import Derived.KernelRfl
namespace Go.Proofs.Ytoihhodbkimedaa
/- THE CELL 'sum', in the pinned program and in every row, IS THE sha256 OF THE DUMP (.gsa) THAT YtoihhodbkimedaaProg.lean LOADS. Nothing in Lean hashes anything: it is a label: what it is worth is what the hold of that sum in a sandbox is worth. -/
noncomputable def Try.pinned : Pinned := { name := "ytoihhodbkimedaa", sum := "a8ce20af00a41790a02158bb0b2f5c913dfe9b1f96387c197d91aac4328a4112", checked := Try.checked }
namespace Rows
def none {H : Type} : Left H := { results := [], args := [] }

/-- 'nilometerlaw04.RatingRises': WHATEVER THE INPUT: true; the input reads as it did. -/
def ratingRisesSpec : ChangeSpec := { name := "ratingRises", fn := fun _ => fun
  | [d1, d2, d3, d4] => { results := [.lit (.bool true)], args := [d1, d2, d3, d4] }
  | _ => none }
def ratingRisesRow : OpenClaim := { program := "ytoihhodbkimedaa", sum := "a8ce20af00a41790a02158bb0b2f5c913dfe9b1f96387c197d91aac4328a4112", func := "nilometer/nilometerlaw04.RatingRises", spec := "ratingRises", unfollowed := true, recurses := true, apart := false }
def RatingRisesSaid : Prop := ratingRisesRow.holds Try.pinned (OpenSpec.ofChange ratingRisesSpec)

/-- ITS FALSE NEIGHBOUR: 'it returns false'. Refute it at one input. -/
def ratingRisesWrong : ChangeSpec := { name := "ratingRises", fn := fun _ => fun
  | [d1, d2, d3, d4] => { results := [.lit (.bool false)], args := [d1, d2, d3, d4] }
  | _ => none }
def RatingRisesWrongFalsely : Prop := ratingRisesRow.holds Try.pinned (OpenSpec.ofChange ratingRisesWrong)

/-- 'nilometerlaw04.RatingScaled': WHATEVER THE INPUT: true; the input reads as it did. -/
def ratingScaledSpec : ChangeSpec := { name := "ratingScaled", fn := fun _ => fun
  | [d1, d2, d3, d4, d5] => { results := [.lit (.bool true)], args := [d1, d2, d3, d4, d5] }
  | _ => none }
def ratingScaledRow : OpenClaim := { program := "ytoihhodbkimedaa", sum := "a8ce20af00a41790a02158bb0b2f5c913dfe9b1f96387c197d91aac4328a4112", func := "nilometer/nilometerlaw04.RatingScaled", spec := "ratingScaled", unfollowed := true, recurses := true, apart := false }
def RatingScaledSaid : Prop := ratingScaledRow.holds Try.pinned (OpenSpec.ofChange ratingScaledSpec)

/-- ITS FALSE NEIGHBOUR: 'it returns false'. Refute it at one input. -/
def ratingScaledWrong : ChangeSpec := { name := "ratingScaled", fn := fun _ => fun
  | [d1, d2, d3, d4, d5] => { results := [.lit (.bool false)], args := [d1, d2, d3, d4, d5] }
  | _ => none }
def RatingScaledWrongFalsely : Prop := ratingScaledRow.holds Try.pinned (OpenSpec.ofChange ratingScaledWrong)

/-- 'nilometerlaw04.RatingMore': WHATEVER THE INPUT: true; the input reads as it did. -/
def ratingMoreSpec : ChangeSpec := { name := "ratingMore", fn := fun _ => fun
  | [d1, d2, d3] => { results := [.lit (.bool true)], args := [d1, d2, d3] }
  | _ => none }
def ratingMoreRow : OpenClaim := { program := "ytoihhodbkimedaa", sum := "a8ce20af00a41790a02158bb0b2f5c913dfe9b1f96387c197d91aac4328a4112", func := "nilometer/nilometerlaw04.RatingMore", spec := "ratingMore", unfollowed := true, recurses := true, apart := false }
def RatingMoreSaid : Prop := ratingMoreRow.holds Try.pinned (OpenSpec.ofChange ratingMoreSpec)

/-- ITS FALSE NEIGHBOUR: 'it returns false'. Refute it at one input. -/
def ratingMoreWrong : ChangeSpec := { name := "ratingMore", fn := fun _ => fun
  | [d1, d2, d3] => { results := [.lit (.bool false)], args := [d1, d2, d3] }
  | _ => none }
def RatingMoreWrongFalsely : Prop := ratingMoreRow.holds Try.pinned (OpenSpec.ofChange ratingMoreWrong)

/-- 'nilometerlaw04.RatingFewest': WHATEVER THE INPUT: true; the input reads as it did. -/
def ratingFewestSpec : ChangeSpec := { name := "ratingFewest", fn := fun _ => fun
  | [d1, d2] => { results := [.lit (.bool true)], args := [d1, d2] }
  | _ => none }
def ratingFewestRow : OpenClaim := { program := "ytoihhodbkimedaa", sum := "a8ce20af00a41790a02158bb0b2f5c913dfe9b1f96387c197d91aac4328a4112", func := "nilometer/nilometerlaw04.RatingFewest", spec := "ratingFewest", unfollowed := true, recurses := true, apart := false }
def RatingFewestSaid : Prop := ratingFewestRow.holds Try.pinned (OpenSpec.ofChange ratingFewestSpec)

/-- ITS FALSE NEIGHBOUR: 'it returns false'. Refute it at one input. -/
def ratingFewestWrong : ChangeSpec := { name := "ratingFewest", fn := fun _ => fun
  | [d1, d2] => { results := [.lit (.bool false)], args := [d1, d2] }
  | _ => none }
def RatingFewestWrongFalsely : Prop := ratingFewestRow.holds Try.pinned (OpenSpec.ofChange ratingFewestWrong)

/-- 'nilometerlaw04.RatingPassed': WHATEVER THE INPUT: true; the input reads as it did. -/
def ratingPassedSpec : ChangeSpec := { name := "ratingPassed", fn := fun _ => fun
  | [d1, d2] => { results := [.lit (.bool true)], args := [d1, d2] }
  | _ => none }
def ratingPassedRow : OpenClaim := { program := "ytoihhodbkimedaa", sum := "a8ce20af00a41790a02158bb0b2f5c913dfe9b1f96387c197d91aac4328a4112", func := "nilometer/nilometerlaw04.RatingPassed", spec := "ratingPassed", unfollowed := true, recurses := true, apart := false }
def RatingPassedSaid : Prop := ratingPassedRow.holds Try.pinned (OpenSpec.ofChange ratingPassedSpec)

/-- ITS FALSE NEIGHBOUR: 'it returns false'. Refute it at one input. -/
def ratingPassedWrong : ChangeSpec := { name := "ratingPassed", fn := fun _ => fun
  | [d1, d2] => { results := [.lit (.bool false)], args := [d1, d2] }
  | _ => none }
def RatingPassedWrongFalsely : Prop := ratingPassedRow.holds Try.pinned (OpenSpec.ofChange ratingPassedWrong)

/-- 'nilometerlaw04.RatingReached': WHATEVER THE INPUT: true; the input reads as it did. -/
def ratingReachedSpec : ChangeSpec := { name := "ratingReached", fn := fun _ => fun
  | [d1, d2, d3, d4] => { results := [.lit (.bool true)], args := [d1, d2, d3, d4] }
  | _ => none }
def ratingReachedRow : OpenClaim := { program := "ytoihhodbkimedaa", sum := "a8ce20af00a41790a02158bb0b2f5c913dfe9b1f96387c197d91aac4328a4112", func := "nilometer/nilometerlaw04.RatingReached", spec := "ratingReached", unfollowed := true, recurses := true, apart := false }
def RatingReachedSaid : Prop := ratingReachedRow.holds Try.pinned (OpenSpec.ofChange ratingReachedSpec)

/-- ITS FALSE NEIGHBOUR: 'it returns false'. Refute it at one input. -/
def ratingReachedWrong : ChangeSpec := { name := "ratingReached", fn := fun _ => fun
  | [d1, d2, d3, d4] => { results := [.lit (.bool false)], args := [d1, d2, d3, d4] }
  | _ => none }
def RatingReachedWrongFalsely : Prop := ratingReachedRow.holds Try.pinned (OpenSpec.ofChange ratingReachedWrong)

/- THE SECOND FORM. 'bulk': how many values and letters a reading holds, each counted each time it is reached (what is shared counts as often as it is met; a slice's spare places count too). A statement '..UptoSaid' is the law's where the arguments, and the package variables that the reading takes, are together of bulk at most 1048576: NARROWER than '..Said'. Prove '..Said' where nothing that the law and all that it calls make is longer than what came in: it says more and counts as full. Else prove '..UptoSaid'. A law counts once. -/
mutual
def uptoBulk {H : Type} : DataW H → Nat
  | .lit (.string bytes) => bytes.length + 1
  | .lit _ => 1
  | .nil => 1
  | .ptr d => uptoBulk d + 1
  | .slice elems spare => uptoBulkAll elems + uptoBulkAll spare + 1
  | .agg parts => uptoBulkAll parts + 1
  | .iface _ d => uptoBulk d + 1
  | .map entries => uptoBulkEntries entries + 1
  | .held _ => 1
def uptoBulkAll {H : Type} : List (DataW H) → Nat
  | [] => 0
  | d :: r => uptoBulk d + uptoBulkAll r
def uptoBulkEntries {H : Type} : List (Lit × DataW H) → Nat
  | [] => 0
  | x :: r => uptoBulkEntry x + uptoBulkEntries r
def uptoBulkEntry {H : Type} : Lit × DataW H → Nat
  | (.string bytes, d) => bytes.length + uptoBulk d + 1
  | (_, d) => uptoBulk d + 1
 end
def uptoSmall : (H : Type) → List (DataW H) → Bool := fun _ ds => decide (uptoBulkAll ds ≤ 1048576)
def OpenSpec.upto (s : _root_.Go.ChangeSpec) : _root_.Go.OpenSpec := { _root_.Go.OpenSpec.ofChange s with cond := some uptoSmall }

/-- 'nilometerlaw04.RatingRises', WHERE WHAT IT READS IS OF BULK AT MOST 1048576: true; the input reads as it did. -/
def ratingRisesUptoRow : OpenClaim := { program := "ytoihhodbkimedaa", sum := "a8ce20af00a41790a02158bb0b2f5c913dfe9b1f96387c197d91aac4328a4112", func := "nilometer/nilometerlaw04.RatingRises", spec := "ratingRises", unfollowed := true, recurses := true, apart := false, narrowed := true }
def RatingRisesUptoSaid : Prop := ratingRisesUptoRow.holds Try.pinned (OpenSpec.upto ratingRisesSpec)

/-- 'nilometerlaw04.RatingScaled', WHERE WHAT IT READS IS OF BULK AT MOST 1048576: true; the input reads as it did. -/
def ratingScaledUptoRow : OpenClaim := { program := "ytoihhodbkimedaa", sum := "a8ce20af00a41790a02158bb0b2f5c913dfe9b1f96387c197d91aac4328a4112", func := "nilometer/nilometerlaw04.RatingScaled", spec := "ratingScaled", unfollowed := true, recurses := true, apart := false, narrowed := true }
def RatingScaledUptoSaid : Prop := ratingScaledUptoRow.holds Try.pinned (OpenSpec.upto ratingScaledSpec)

/-- 'nilometerlaw04.RatingMore', WHERE WHAT IT READS IS OF BULK AT MOST 1048576: true; the input reads as it did. -/
def ratingMoreUptoRow : OpenClaim := { program := "ytoihhodbkimedaa", sum := "a8ce20af00a41790a02158bb0b2f5c913dfe9b1f96387c197d91aac4328a4112", func := "nilometer/nilometerlaw04.RatingMore", spec := "ratingMore", unfollowed := true, recurses := true, apart := false, narrowed := true }
def RatingMoreUptoSaid : Prop := ratingMoreUptoRow.holds Try.pinned (OpenSpec.upto ratingMoreSpec)

/-- 'nilometerlaw04.RatingFewest', WHERE WHAT IT READS IS OF BULK AT MOST 1048576: true; the input reads as it did. -/
def ratingFewestUptoRow : OpenClaim := { program := "ytoihhodbkimedaa", sum := "a8ce20af00a41790a02158bb0b2f5c913dfe9b1f96387c197d91aac4328a4112", func := "nilometer/nilometerlaw04.RatingFewest", spec := "ratingFewest", unfollowed := true, recurses := true, apart := false, narrowed := true }
def RatingFewestUptoSaid : Prop := ratingFewestUptoRow.holds Try.pinned (OpenSpec.upto ratingFewestSpec)

/-- 'nilometerlaw04.RatingPassed', WHERE WHAT IT READS IS OF BULK AT MOST 1048576: true; the input reads as it did. -/
def ratingPassedUptoRow : OpenClaim := { program := "ytoihhodbkimedaa", sum := "a8ce20af00a41790a02158bb0b2f5c913dfe9b1f96387c197d91aac4328a4112", func := "nilometer/nilometerlaw04.RatingPassed", spec := "ratingPassed", unfollowed := true, recurses := true, apart := false, narrowed := true }
def RatingPassedUptoSaid : Prop := ratingPassedUptoRow.holds Try.pinned (OpenSpec.upto ratingPassedSpec)

/-- 'nilometerlaw04.RatingReached', WHERE WHAT IT READS IS OF BULK AT MOST 1048576: true; the input reads as it did. -/
def ratingReachedUptoRow : OpenClaim := { program := "ytoihhodbkimedaa", sum := "a8ce20af00a41790a02158bb0b2f5c913dfe9b1f96387c197d91aac4328a4112", func := "nilometer/nilometerlaw04.RatingReached", spec := "ratingReached", unfollowed := true, recurses := true, apart := false, narrowed := true }
def RatingReachedUptoSaid : Prop := ratingReachedUptoRow.holds Try.pinned (OpenSpec.upto ratingReachedSpec)

end Rows
end Go.Proofs.Ytoihhodbkimedaa
