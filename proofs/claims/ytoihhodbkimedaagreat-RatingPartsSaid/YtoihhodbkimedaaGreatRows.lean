/-
  No cell of these rows narrows 'for every input' (looked for: loops, veiled, ifaces, maps, wideKeys, modest, calm, conditions, laid).
  DERIVED. THE GIVEN ROWS OF THIS SEAT. 4 by the template 'for every input the law returns true; each argument reads behind the call as it read before'; 0 by the template 'total and deterministic' (their statements: YtoihhodbkimedaaGreatTotals.lean).
  GIVEN WITH THE SEED: the statements are not yours to turn. If you find one false, say at which input.
  Laid BY PROGRAM, IN A SANDBOX (cutbox-rows.mjs): the forced cells as the released guide's own fill.sh prints them over the translation 4c0a018cff63aa6d… (all of the seat's roots in one cut). By AI agents, Wed Nov 11 2026. No macro, syntax, notation, axiom, sorry.
-/
import Derived.Test.YtoihhodbkimedaaGreatChecked
import GoSem.Claim
import GoSem.ClaimJoined
import GoSem.ClaimMapViews
import Derived.JoinedTies
import Derived.KernelRfl
namespace Go.Proofs.YtoihhodbkimedaaGreat
/- THE CELL 'sum', in the pinned program and in every row, IS THE sha256 OF THE DUMP (.gsa) THAT YtoihhodbkimedaaGreatProg.lean LOADS. Nothing in Lean hashes anything: it is a label: what it is worth is what the hold of that sum in a sandbox is worth. -/
noncomputable def Tryz.pinned : Pinned := { name := "ytoihhodbkimedaagreat", sum := "4c0a018cff63aa6d4ee85d87e84c19469330dade19499f0df1336a20a0cb6bc6", checked := Tryz.checked }
namespace Rows
def none {H : Type} : Left H := { results := [], args := [] }

/-- 'nilometerlaw04.RatingParts': WHATEVER THE INPUT: true; the input reads as it did. -/
def ratingPartsSpec : ChangeSpec := { name := "ratingParts", fn := fun _ => fun
  | [d1, d2, d3, d4, d5] => { results := [.lit (.bool true)], args := [d1, d2, d3, d4, d5] }
  | _ => none }
def ratingPartsRow : OpenClaim := { program := "ytoihhodbkimedaagreat", sum := "4c0a018cff63aa6d4ee85d87e84c19469330dade19499f0df1336a20a0cb6bc6", func := "nilometer/nilometerlaw04.RatingParts", spec := "ratingParts", unfollowed := true, recurses := true, apart := false }
def RatingPartsSaid : Prop := ratingPartsRow.holds Tryz.pinned (OpenSpec.ofChange ratingPartsSpec)

/-- ITS FALSE NEIGHBOUR: 'it returns false'. Refute it at one input. -/
def ratingPartsWrong : ChangeSpec := { name := "ratingParts", fn := fun _ => fun
  | [d1, d2, d3, d4, d5] => { results := [.lit (.bool false)], args := [d1, d2, d3, d4, d5] }
  | _ => none }
def RatingPartsWrongFalsely : Prop := ratingPartsRow.holds Tryz.pinned (OpenSpec.ofChange ratingPartsWrong)

/-- 'nilometerlaw04.RatingFlows': WHATEVER THE INPUT: true; the input reads as it did. -/
def ratingFlowsSpec : ChangeSpec := { name := "ratingFlows", fn := fun _ => fun
  | [d1, d2, d3, d4, d5, d6, d7] => { results := [.lit (.bool true)], args := [d1, d2, d3, d4, d5, d6, d7] }
  | _ => none }
def ratingFlowsRow : OpenClaim := { program := "ytoihhodbkimedaagreat", sum := "4c0a018cff63aa6d4ee85d87e84c19469330dade19499f0df1336a20a0cb6bc6", func := "nilometer/nilometerlaw04.RatingFlows", spec := "ratingFlows", unfollowed := true, recurses := true, apart := false }
def RatingFlowsSaid : Prop := ratingFlowsRow.holds Tryz.pinned (OpenSpec.ofChange ratingFlowsSpec)

/-- ITS FALSE NEIGHBOUR: 'it returns false'. Refute it at one input. -/
def ratingFlowsWrong : ChangeSpec := { name := "ratingFlows", fn := fun _ => fun
  | [d1, d2, d3, d4, d5, d6, d7] => { results := [.lit (.bool false)], args := [d1, d2, d3, d4, d5, d6, d7] }
  | _ => none }
def RatingFlowsWrongFalsely : Prop := ratingFlowsRow.holds Tryz.pinned (OpenSpec.ofChange ratingFlowsWrong)

/-- 'nilometerlaw04.RatingLines': WHATEVER THE INPUT: true; the input reads as it did. -/
def ratingLinesSpec : ChangeSpec := { name := "ratingLines", fn := fun _ => fun
  | [d1, d2, d3, d4] => { results := [.lit (.bool true)], args := [d1, d2, d3, d4] }
  | _ => none }
def ratingLinesRow : OpenClaim := { program := "ytoihhodbkimedaagreat", sum := "4c0a018cff63aa6d4ee85d87e84c19469330dade19499f0df1336a20a0cb6bc6", func := "nilometer/nilometerlaw04.RatingLines", spec := "ratingLines", unfollowed := true, recurses := true, apart := false }
def RatingLinesSaid : Prop := ratingLinesRow.holds Tryz.pinned (OpenSpec.ofChange ratingLinesSpec)

/-- ITS FALSE NEIGHBOUR: 'it returns false'. Refute it at one input. -/
def ratingLinesWrong : ChangeSpec := { name := "ratingLines", fn := fun _ => fun
  | [d1, d2, d3, d4] => { results := [.lit (.bool false)], args := [d1, d2, d3, d4] }
  | _ => none }
def RatingLinesWrongFalsely : Prop := ratingLinesRow.holds Tryz.pinned (OpenSpec.ofChange ratingLinesWrong)

/-- 'nilometerlaw04.RatingSmall': WHATEVER THE INPUT: true; the input reads as it did. -/
def ratingSmallSpec : ChangeSpec := { name := "ratingSmall", fn := fun _ => fun
  | [] => { results := [.lit (.bool true)], args := [] }
  | _ => none }
def ratingSmallRow : OpenClaim := { program := "ytoihhodbkimedaagreat", sum := "4c0a018cff63aa6d4ee85d87e84c19469330dade19499f0df1336a20a0cb6bc6", func := "nilometer/nilometerlaw04.RatingSmall", spec := "ratingSmall", unfollowed := true, recurses := true, apart := false }
def RatingSmallSaid : Prop := ratingSmallRow.holds Tryz.pinned (OpenSpec.ofChange ratingSmallSpec)

/-- ITS FALSE NEIGHBOUR: 'it returns false'. Refute it at one input. -/
def ratingSmallWrong : ChangeSpec := { name := "ratingSmall", fn := fun _ => fun
  | [] => { results := [.lit (.bool false)], args := [] }
  | _ => none }
def RatingSmallWrongFalsely : Prop := ratingSmallRow.holds Tryz.pinned (OpenSpec.ofChange ratingSmallWrong)

/- THE SECOND FORM. 'bulk': how many values and letters a reading holds, each counted each time it is reached (what is shared counts as often as it is met; a slice's spare places count too). A statement '..UptoSaid' is the law's where the arguments, and the package variables that the reading takes, are together of bulk at most 1048576: NARROWER than '..Said'. Prove '..Said' where nothing that the law and all that it calls make is longer than what came in: it says more and counts as full. Else prove '..UptoSaid'. A law counts once. -/
mutual
def uptoBulk {H : Type} : DataW H → Nat
  | .lit (.string bytes) => bytes.length + 1
  | .lit _ => 1
  | .nil => 1
  | .ptr d => uptoBulk d + 1
  | .slice elems spare => uptoBulkAll elems + uptoBulkAll spare + 1
  | .agg parts => uptoBulkAll parts + 1
  | .iface _ d => uptoBulk d + 1
  | .map entries => uptoBulkEntries entries + 1
  | .held _ => 1
def uptoBulkAll {H : Type} : List (DataW H) → Nat
  | [] => 0
  | d :: r => uptoBulk d + uptoBulkAll r
def uptoBulkEntries {H : Type} : List (Lit × DataW H) → Nat
  | [] => 0
  | x :: r => uptoBulkEntry x + uptoBulkEntries r
def uptoBulkEntry {H : Type} : Lit × DataW H → Nat
  | (.string bytes, d) => bytes.length + uptoBulk d + 1
  | (_, d) => uptoBulk d + 1
 end
def uptoSmall : (H : Type) → List (DataW H) → Bool := fun _ ds => decide (uptoBulkAll ds ≤ 1048576)
def OpenSpec.upto (s : _root_.Go.ChangeSpec) : _root_.Go.OpenSpec := { _root_.Go.OpenSpec.ofChange s with cond := some uptoSmall }

/-- 'nilometerlaw04.RatingParts', WHERE WHAT IT READS IS OF BULK AT MOST 1048576: true; the input reads as it did. -/
def ratingPartsUptoRow : OpenClaim := { program := "ytoihhodbkimedaagreat", sum := "4c0a018cff63aa6d4ee85d87e84c19469330dade19499f0df1336a20a0cb6bc6", func := "nilometer/nilometerlaw04.RatingParts", spec := "ratingParts", unfollowed := true, recurses := true, apart := false, narrowed := true }
def RatingPartsUptoSaid : Prop := ratingPartsUptoRow.holds Tryz.pinned (OpenSpec.upto ratingPartsSpec)

/-- 'nilometerlaw04.RatingFlows', WHERE WHAT IT READS IS OF BULK AT MOST 1048576: true; the input reads as it did. -/
def ratingFlowsUptoRow : OpenClaim := { program := "ytoihhodbkimedaagreat", sum := "4c0a018cff63aa6d4ee85d87e84c19469330dade19499f0df1336a20a0cb6bc6", func := "nilometer/nilometerlaw04.RatingFlows", spec := "ratingFlows", unfollowed := true, recurses := true, apart := false, narrowed := true }
def RatingFlowsUptoSaid : Prop := ratingFlowsUptoRow.holds Tryz.pinned (OpenSpec.upto ratingFlowsSpec)

/-- 'nilometerlaw04.RatingLines', WHERE WHAT IT READS IS OF BULK AT MOST 1048576: true; the input reads as it did. -/
def ratingLinesUptoRow : OpenClaim := { program := "ytoihhodbkimedaagreat", sum := "4c0a018cff63aa6d4ee85d87e84c19469330dade19499f0df1336a20a0cb6bc6", func := "nilometer/nilometerlaw04.RatingLines", spec := "ratingLines", unfollowed := true, recurses := true, apart := false, narrowed := true }
def RatingLinesUptoSaid : Prop := ratingLinesUptoRow.holds Tryz.pinned (OpenSpec.upto ratingLinesSpec)

/-- 'nilometerlaw04.RatingSmall', WHERE WHAT IT READS IS OF BULK AT MOST 1048576: true; the input reads as it did. -/
def ratingSmallUptoRow : OpenClaim := { program := "ytoihhodbkimedaagreat", sum := "4c0a018cff63aa6d4ee85d87e84c19469330dade19499f0df1336a20a0cb6bc6", func := "nilometer/nilometerlaw04.RatingSmall", spec := "ratingSmall", unfollowed := true, recurses := true, apart := false, narrowed := true }
def RatingSmallUptoSaid : Prop := ratingSmallUptoRow.holds Tryz.pinned (OpenSpec.upto ratingSmallSpec)

end Rows
end Go.Proofs.YtoihhodbkimedaaGreat
