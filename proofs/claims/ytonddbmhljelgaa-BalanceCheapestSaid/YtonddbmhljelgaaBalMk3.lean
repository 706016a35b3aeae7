/- Copies that are one's own; nets that are spoilt. -/
import Derived.Test.YtonddbmhljelgaaBalMk
set_option linter.unusedVariables false
set_option linter.unusedSimpArgs false
namespace Go.Bal
open Go Go.Sym Go.Proofs
def rowR (l : List Reach) : HCell := .live (.row 4 l.length fun i => eReach (gD l i))
def C52o : Ctr := { α := List Reach, xs := fun l => [.d (eReachesL l)], L := fun _ => [], val := fun l => .own 0 4 0 l.length, keep := fun l => [(0, rowR l)], pre := fun l => [0 < l.length ∧ l.length ≤ 1000] }
def A52o : Ann := { ann 7 [] with mt := fun _ => true }
def V52o (l : List Reach) : Prop := fnVC Try.prog A52o Try.f52 (bodyOf Try.f52) (C52o.xs l) (heapOf []) (C52o.val l) (C52o.keep l) [(0, 3032)] []
theorem vc52o (l : List Reach) : (V52o l) = (((True ∧ (0 < 0 → 0 = 4)) ∧ (True ∧ (0 < l.length → 4 = 4)) ∧ (true = true → 0 < l.length) ∧ 0 + l.length ≤ 9223372036854775807 ∧ (0 + l.length) * 32 ≤ 140737488355328) ∧ 0 =
 0 ∧ l.length = 0 + l.length ∧ l.length = 0 + l.length ∧ ∀ (i : Nat), i < l.length → (gD l i).fr = (gD l (i - 0)).fr ∧ (gD l i).to = (gD l (i - 0)).to ∧ (gD l i).sp.lo = (gD l (i - 0)).sp.lo ∧ (gD l i).sp.hi = (gD l (i -
 0)).sp.hi) := by kernel_rfl
def C16o : Ctr := { α := List Int, xs := fun l => [.d (eIntsL l)], L := fun _ => [], val := fun l => .own 0 1 0 l.length, keep := fun l => [(0, rowL l.length l)], pre := fun l => [0 < l.length ∧ l.length ≤ 1000] }
def V16o (l : List Int) : Prop := fnVC Try.prog A52o Try.f16 (bodyOf Try.f16) (C16o.xs l) (heapOf []) (C16o.val l) (C16o.keep l) [(0, 3032)] []
theorem vc16o (l : List Int) : (V16o l) = (((True ∧ (0 < 0 → 0 = 1)) ∧ (True ∧ (0 < l.length → 1 = 1)) ∧ (true = true → 0 < l.length) ∧ 0 + l.length ≤ 9223372036854775807 ∧ (0 + l.length) * 8 ≤ 140737488355328) ∧ 0 = 0 ∧
 l.length = 0 + l.length ∧ l.length = 0 + l.length ∧ ∀ (i : Nat), i < l.length → gD l i = gD l (i - 0)) := by kernel_rfl
def A15o := ann 10 [(51, C51.spec d51), (52, C52o.spec d52)]
def C15o : Ctr := { α := NetL, xs := fun N => [.d (eNetL N)], L := fun _ => [], val := fun N => .agg [.d (eSpansL N.g), .own 0 4 0 N.r.length], keep := fun N => [(0, rowR N.r)], pre := fun N => [N.g.length ≤ 1000000, 0 < N.r.length ∧ N.r.length ≤ 1000] }
def V15o (N : NetL) : Prop := fnVC Try.prog A15o Try.f15 (bodyOf Try.f15) (C15o.xs N) (heapOf []) (C15o.val N) (C15o.keep N) [(0, 2080)] []
theorem vc15o (N : NetL) : (V15o N) = (((rng N.g.length fun (i : Nat) => gD N.g i).length = N.g.length ∧ (∀ (i : Nat), i < (rng N.g.length fun (i : Nat) => gD N.g i).length → (gD (rng N.g.length fun (i : Nat) => gD N.g
 i) i).lo = (gD N.g i).lo ∧ (gD (rng N.g.length fun (i : Nat) => gD N.g i) i).hi = (gD N.g i).hi) ∧ (rng N.g.length fun (i : Nat) => gD N.g i).length ≤ 1000000 ∧ (rng N.r.length fun (i : Nat) => gD N.r i).length =
 N.r.length ∧ (∀ (i : Nat), i < (rng N.r.length fun (i : Nat) => gD N.r i).length → (gD (rng N.r.length fun (i : Nat) => gD N.r i) i).fr = (gD N.r i).fr ∧ (gD (rng N.r.length fun (i : Nat) => gD N.r i) i).to = (gD N.r
 i).to ∧ (gD (rng N.r.length fun (i : Nat) => gD N.r i) i).sp.lo = (gD N.r i).sp.lo ∧ (gD (rng N.r.length fun (i : Nat) => gD N.r i) i).sp.hi = (gD N.r i).sp.hi) ∧ 0 < (rng N.r.length fun (i : Nat) => gD N.r i).length ∧
 (rng N.r.length fun (i : Nat) => gD N.r i).length ≤ 1000) ∧ N.g.length = (rng N.g.length fun (i : Nat) => gD N.g i).length ∧ (∀ (i : Nat), i < N.g.length → (gD N.g i).lo = (gD (rng N.g.length fun (i : Nat) => gD N.g i)
 i).lo ∧ (gD N.g i).hi = (gD (rng N.g.length fun (i : Nat) => gD N.g i) i).hi) ∧ 0 = 0 ∧ N.r.length = (rng N.r.length fun (i : Nat) => gD N.r i).length ∧ N.r.length = (rng N.r.length fun (i : Nat) => gD N.r i).length ∧ ∀
 (i : Nat), i < N.r.length → (gD N.r i).fr = (gD (rng N.r.length fun (i : Nat) => gD N.r i) i).fr ∧ (gD N.r i).to = (gD (rng N.r.length fun (i : Nat) => gD N.r i) i).to ∧ (gD N.r i).sp.lo = (gD (rng N.r.length fun (i :
 Nat) => gD N.r i) i).sp.lo ∧ (gD N.r i).sp.hi = (gD (rng N.r.length fun (i : Nat) => gD N.r i) i).sp.hi) := by kernel_rfl
structure SNet where
  s : Stm
  N : NetL
structure SRK where
  s : Stm
  r : List Reach
  k : Nat
  deriving Inhabited
def spoH (s : Stm) : Bool := decide (nextV s 4 = 0)
def spoLo (s : Stm) : Int := witV (nextS s 4) (-50) 150
def spoS (s : Stm) : Stm := witS (nextS s 4) (-50) 150
def spoR (s : Stm) (r : Reach) : Stm × Reach := if spoH s then (nextS (spoS s) 9, { r with sp := ⟨spoLo s, wr (spoLo s + nextV (spoS s) 9)⟩ }) else (nextS s 4, r)
def spoRs : Stm → List Reach → Stm × List Reach
  | s, [] => (s, [])
  | s, r :: l => ((spoRs (spoR s r).1 l).1, (spoR s r).2 :: (spoRs (spoR s r).1 l).2)
def spoN (a : SNet) : NetL := ⟨a.N.g, (spoRs a.s a.N.r).2⟩
def spoO (N : NetL) (x : AVal) : HCell := .live (.box [.d (eSpansL N.g), x])
def A32 (a : SNet) : Ann := { ann 43 [(15, C15o.spec d67), (33, C33.spec d33), (43, C43.spec d43)] with E := [100], loops := fun id => if id = 3 then some [{ α := SRK, dflt := default, T := fun s => ⟨[(0, .bptr 100 0), (3, .bptr 201 0), (4, .bptr 202 0), (5, .int s.k)], [(100, stmH s.s), (201, spoO a.N (.own 203 4 0 s.r.length)), (202, .live (.box [.d nilL, .d nilL])), (203, rowR s.r)]⟩, inv := fun s => s.k ≤ s.r.length ∧ s.r.length = a.N.r.length ∧ StmB (1000000000 + 10 * (s.k : Int)) s.s ∧ (∀ i, i < s.r.length → gD s.r i = if i < s.k then gD (spoN a).r i else gD a.N.r i) ∧ spoRs s.s (a.N.r.drop s.k) = ((spoRs a.s a.N.r).1, (spoN a).r.drop s.k), meas := fun s => s.r.length - s.k, first := [(201, 1000), (202, 1016), (203, 2016)] }] else none }
def C32 : Ctr := { α := SNet, xs := fun a => [.bptr 100 0, .d (eNetL a.N)], L := fun a => [(100, stmO a.s)], val := fun a => .d (eNetL (spoN a)), keep := fun a => [(100, stmH (spoRs a.s a.N.r).1)], pre := fun a => [StmB 1000000000 a.s, a.N.g.length ≤ 1000, a.N.r.length ≤ 1000] }
def V32 (a : SNet) : Prop := fnVC Try.prog (A32 a) Try.f32 (bodyOf Try.f32) (C32.xs a) (heapOf (C32.L a)) (C32.val a) (C32.keep a) [] [203]
abbrev z32_0 (a : SNet) : List Span := rng a.N.g.length fun (i : Nat) => gD a.N.g i
abbrev z32_1 (a : SNet) : Nat := (z32_0 a).length
abbrev z32_2 (a : SNet) (i : Nat) : Span := gD (z32_0 a) i
abbrev z32_3 (a : SNet) (i : Nat) : Int := (z32_2 a i).lo
abbrev z32_4 (a : SNet) (i : Nat) : Int := (z32_2 a i).hi
abbrev z32_5 (a : SNet) : List Reach := rng a.N.r.length fun (i : Nat) => gD a.N.r i
abbrev z32_6 (a : SNet) : Nat := (z32_5 a).length
abbrev z32_7 (a : SNet) (i : Nat) : Reach := gD (z32_5 a) i
abbrev z32_8 (a : SNet) (i : Nat) : Int := (z32_7 a i).fr
abbrev z32_9 (a : SNet) (i : Nat) : Int := (z32_7 a i).to
abbrev z32_10 (a : SNet) (i : Nat) : Span := (z32_7 a i).sp
abbrev z32_11 (a : SNet) (i : Nat) : Int := (z32_10 a i).lo
abbrev z32_12 (a : SNet) (i : Nat) : Int := (z32_10 a i).hi
abbrev z32_13 : Prop := (0 : Nat) = (0 : Nat)
abbrev z32_14 (a : SRK) (a1 : SNet) : Prop := a.r.length = z32_6 a1
abbrev z32_15 : Prop := ∀ (i : Nat), i < (0 : Nat) → false = false
abbrev z32_16 (a : SNet) : Stm := (spoRs a.s a.N.r).fst
abbrev z32_17 (a : SRK) (a1 : SNet) : Prop := a.k ≤ a.r.length ∧ a.r.length = a1.N.r.length ∧ StmB ((1000000000 : Int) + (10 : Int) * (↑a.k : Int)) a.s ∧ (∀ (i : Nat), i < a.r.length → gD a.r i = if i < a.k then gD (spoN
 a1).r i else gD a1.N.r i) ∧ spoRs a.s (List.drop a.k a1.N.r) = (z32_16 a1, List.drop a.k (spoN a1).r)
abbrev z32_18 (a : SRK) : Prop := (↑a.k : Int) < (↑a.r.length : Int)
abbrev z32_19 (a : SRK) : List Int := rng a.s.bs.length fun (i : Nat) => gD a.s.bs i
abbrev z32_20 (a : SRK) : Nat := (z32_19 a).length
abbrev z32_21 (a : SRK) : Stm := Stm.mk (z32_19 a) a.s.used a.s.mix
abbrev z32_22 (a : SRK) : Stm := nextS (z32_21 a) (4 : Int)
abbrev z32_23 (a : SRK) : List Int := (z32_22 a).bs
abbrev z32_24 (a : SRK) : Nat := (z32_23 a).length
abbrev z32_25 (a : SRK) (i : Nat) : Int := gD (z32_23 a) i
abbrev z32_26 (a : SRK) : List Int := rng (z32_24 a) fun (i : Nat) => z32_25 a i
abbrev z32_27 (a : SRK) : Nat := (z32_26 a).length
abbrev z32_28 (a : SRK) : Int := (z32_22 a).used
abbrev z32_29 (a : SRK) : Int := (z32_22 a).mix
abbrev z32_30 (a : SRK) : Prop := (0 : Int) ≤ (↑a.k : Int) ∧ z32_18 a
abbrev z32_31 (a : SRK) : Nat := (0 : Nat) + a.k
abbrev z32_32 (a : SRK) : Prop := z32_30 a ∧ (z32_31 a).succ.le a.r.length
abbrev z32_33 (a : SRK) : Stm := Stm.mk (z32_26 a) (z32_28 a) (z32_29 a)
abbrev z32_34 (a : SRK) : Stm := witS (z32_33 a) (-50 : Int) (150 : Int)
abbrev z32_35 (a : SRK) : List Int := (z32_34 a).bs
abbrev z32_36 (a : SRK) : Nat := (z32_35 a).length
abbrev z32_37 (a : SRK) (i : Nat) : Int := gD (z32_35 a) i
abbrev z32_38 (a : SRK) : List Int := rng (z32_36 a) fun (i : Nat) => z32_37 a i
abbrev z32_39 (a : SRK) : Nat := (z32_38 a).length
abbrev z32_40 (a : SRK) : Int := (z32_34 a).used
abbrev z32_41 (a : SRK) : Int := (z32_34 a).mix
abbrev z32_42 (a : SRK) (a1 : SRK) : Prop := (↑a.k : Int) = IntKind.i64.wrap ((↑a1.k : Int) + (1 : Int))
abbrev z32_43 (a : SRK) : Stm := Stm.mk (z32_38 a) (z32_40 a) (z32_41 a)
abbrev z32_44 (a : SRK) : Stm := nextS (z32_43 a) (9 : Int)
abbrev z32_45 (a : SRK) : List Int := (z32_44 a).bs
abbrev z32_46 (a : SNet) : Prop := a.N.g.length = a.N.g.length
abbrev z32_47 (a : SNet) : Prop := ∀ (i : Nat), i < a.N.g.length → (gD a.N.g i).lo = (gD a.N.g i).lo ∧ (gD a.N.g i).hi = (gD a.N.g i).hi
abbrev z32_48 (a : SRK) (a1 : SRK) : Prop := a.r.length = a1.r.length
abbrev z32_49 (i : Nat) (a : SRK) : Bool := decide (i = z32_31 a)
abbrev z32_50 (a : SRK) : Bool := decide (z32_31 a = z32_31 a)
abbrev z32_51 (a : SRK) : Reach := gD a.r (z32_31 a)
abbrev z32_52 (a : SRK) : Int := (z32_51 a).fr
abbrev z32_53 (a : SRK) : Int := (z32_51 a).to
abbrev z32_54 (a : SRK) : Int := witV (z32_33 a) (-50 : Int) (150 : Int)
abbrev z32_55 (a : SRK) : Span := (z32_51 a).sp
abbrev z32_56 (a : SRK) : Int := bif z32_50 a then z32_54 a else (z32_55 a).lo
abbrev z32_57 (a : SRK) : Nat := a.r.length - a.k
abbrev z32_58 (a : SRK) (a1 : SNet) (a2 : SRK) : Prop := z32_17 a a1 ∧ z32_57 a < z32_57 a2
abbrev z32_59 (a : SRK) (j : Nat) : Reach := gD a.r ((0 : Nat) + j)
abbrev z32_60 (a : SRK) (j : Nat) : Span := (z32_59 a j).sp
abbrev z32_61 (a : SNet) : List Int := (z32_16 a).bs
abbrev z32_62 (a : SNet) : Nat := (z32_61 a).length
theorem vc32 (a : SNet) : (V32 a) = ((z32_1 a = a.N.g.length ∧ (∀ (i : Nat), i < z32_1 a → z32_3 a i = (gD a.N.g i).lo ∧ z32_4 a i = (gD a.N.g i).hi) ∧ z32_6 a = a.N.r.length ∧ (∀ (i : Nat), i < z32_6 a → z32_8 a i = (gD
 a.N.r i).fr ∧ z32_9 a i = (gD a.N.r i).to ∧ z32_11 a i = (gD a.N.r i).sp.lo ∧ z32_12 a i = (gD a.N.r i).sp.hi) ∧ z32_1 a ≤ (1000000 : Nat) ∧ (0 : Nat) < z32_6 a ∧ z32_6 a ≤ (1000 : Nat)) ∧ (∃ (a_1 : SRK), ((↑a_1.k : Int)
 = (0 : Int) ∧ a_1.s.bs.length = a.s.bs.length ∧ (∀ (i : Nat), i < a_1.s.bs.length → gD a_1.s.bs i = gD a.s.bs i) ∧ a_1.s.used = a.s.used ∧ a_1.s.mix = a.s.mix ∧ a.N.g.length = z32_1 a ∧ (∀ (i : Nat), i < a.N.g.length →
 (gD a.N.g i).lo = z32_3 a i ∧ (gD a.N.g i).hi = z32_4 a i) ∧ z32_13 ∧ z32_14 a_1 a ∧ z32_13 ∧ z32_15 ∧ z32_13 ∧ z32_15 ∧ z32_14 a_1 a ∧ ∀ (i : Nat), i < a_1.r.length → (gD a_1.r i).fr = z32_8 a i ∧ (gD a_1.r i).to =
 z32_9 a i ∧ (gD a_1.r i).sp.lo = z32_11 a i ∧ (gD a_1.r i).sp.hi = z32_12 a i) ∧ z32_17 a_1 a) ∧ ∀ (a_1 : SRK), z32_17 a_1 a → bif decide (z32_18 a_1) then ((4 : Int) = Int.ofNat (4 : Nat) ∧ z32_20 a_1 = a_1.s.bs.length
 ∧ (∀ (i : Nat), i < z32_20 a_1 → gD (z32_19 a_1) i = gD a_1.s.bs i) ∧ a_1.s.used = a_1.s.used ∧ a_1.s.mix = a_1.s.mix ∧ (a_1.s.used - (0 : Int)).NonNeg) ∧ bif nextV (z32_21 a_1) (4 : Int) == (0 : Int) then ((-50 : Int) =
 Int.negSucc (49 : Nat) ∧ (150 : Int) = Int.ofNat (150 : Nat) ∧ z32_27 a_1 = z32_24 a_1 ∧ (∀ (i : Nat), i < z32_27 a_1 → gD (z32_26 a_1) i = z32_25 a_1 i) ∧ z32_28 a_1 = z32_28 a_1 ∧ z32_29 a_1 = z32_29 a_1 ∧ (0 : Int) ≤
 z32_28 a_1 ∧ z32_32 a_1) ∧ (z32_30 a_1 ∧ z32_31 a_1 < a_1.r.length ∧ (9 : Int) = Int.ofNat (9 : Nat) ∧ z32_39 a_1 = z32_36 a_1 ∧ (∀ (i : Nat), i < z32_39 a_1 → gD (z32_38 a_1) i = z32_37 a_1 i) ∧ z32_40 a_1 = z32_40 a_1
 ∧ z32_41 a_1 = z32_41 a_1 ∧ (0 : Int) ≤ z32_40 a_1 ∧ z32_32 a_1) ∧ ∃ (a_3 : SRK), (z32_42 a_3 a_1 ∧ a_3.s.bs.length = (z32_45 a_1).length ∧ (∀ (i : Nat), i < a_3.s.bs.length → gD a_3.s.bs i = gD (z32_45 a_1) i) ∧
 a_3.s.used = (z32_44 a_1).used ∧ a_3.s.mix = (z32_44 a_1).mix ∧ z32_46 a ∧ z32_47 a ∧ z32_13 ∧ z32_48 a_3 a_1 ∧ z32_13 ∧ z32_15 ∧ z32_13 ∧ z32_15 ∧ z32_48 a_3 a_1 ∧ ∀ (i : Nat), i < a_3.r.length → ((gD a_3.r i).fr = bif
 z32_49 i a_1 then bif z32_50 a_1 then z32_52 a_1 else z32_52 a_1 else bif z32_49 i a_1 then z32_52 a_1 else (gD a_1.r i).fr) ∧ ((gD a_3.r i).to = bif z32_49 i a_1 then bif z32_50 a_1 then z32_53 a_1 else z32_53 a_1 else
 bif z32_49 i a_1 then z32_53 a_1 else (gD a_1.r i).to) ∧ ((gD a_3.r i).sp.lo = bif z32_49 i a_1 then z32_56 a_1 else bif z32_49 i a_1 then z32_54 a_1 else (gD a_1.r i).sp.lo) ∧ (gD a_3.r i).sp.hi = bif z32_49 i a_1 then
 IntKind.i64.wrap (z32_56 a_1 + nextV (z32_43 a_1) (9 : Int)) else bif z32_49 i a_1 then (z32_55 a_1).hi else (gD a_1.r i).sp.hi) ∧ z32_58 a_3 a a_1 else ∃ (a_3 : SRK), (z32_42 a_3 a_1 ∧ a_3.s.bs.length = z32_24 a_1 ∧ (∀
 (i : Nat), i < a_3.s.bs.length → gD a_3.s.bs i = z32_25 a_1 i) ∧ a_3.s.used = z32_28 a_1 ∧ a_3.s.mix = z32_29 a_1 ∧ z32_46 a ∧ z32_47 a ∧ z32_13 ∧ z32_48 a_3 a_1 ∧ z32_13 ∧ z32_15 ∧ z32_13 ∧ z32_15 ∧ z32_48 a_3 a_1 ∧ ∀
 (i : Nat), i < a_3.r.length → (gD a_3.r i).fr = (gD a_1.r i).fr ∧ (gD a_3.r i).to = (gD a_1.r i).to ∧ (gD a_3.r i).sp.lo = (gD a_1.r i).sp.lo ∧ (gD a_3.r i).sp.hi = (gD a_1.r i).sp.hi) ∧ z32_58 a_3 a a_1 else (spoN
 a).g.length = a.N.g.length ∧ (∀ (i : Nat), i < (spoN a).g.length → (gD (spoN a).g i).lo = (gD a.N.g i).lo ∧ (gD (spoN a).g i).hi = (gD a.N.g i).hi) ∧ (spoN a).r.length = a_1.r.length ∧ (0 : Nat) + a_1.r.length ≤
 a_1.r.length ∧ (∀ (j : Nat), j < (spoN a).r.length → (gD (spoN a).r j).fr = (z32_59 a_1 j).fr ∧ (gD (spoN a).r j).to = (z32_59 a_1 j).to ∧ (gD (spoN a).r j).sp.lo = (z32_60 a_1 j).lo ∧ (gD (spoN a).r j).sp.hi = (z32_60
 a_1 j).hi) ∧ z32_62 a = a_1.s.bs.length ∧ (∀ (i : Nat), i < z32_62 a → gD (z32_61 a) i = gD a_1.s.bs i) ∧ (z32_16 a).used = a_1.s.used ∧ (z32_16 a).mix = a_1.s.mix) := by kernel_rfl
def A32e (a : SNet) : Ann := { ann 43 [(15, C15.spec d67), (33, C33.spec d33), (43, C43.spec d43)] with E := [100], loops := fun id => if id = 3 then some [{ α := One, dflt := default, T := fun s => ⟨[(0, .bptr 100 0), (3, .bptr 201 0), (4, .bptr 202 0), (5, .int 0)], [(100, stmH a.s), (201, spoO a.N (.d (eReachesL a.N.r))), (202, .live (.box [.d nilL, .d nilL]))]⟩, inv := fun s => True, meas := fun s => 0, first := [(201, 1000), (202, 1016)] }] else none }
def V32e (a : SNet) : Prop := fnVC Try.prog (A32e a) Try.f32 (bodyOf Try.f32) (C32.xs a) (heapOf (C32.L a)) (C32.val a) (C32.keep a) [] []
abbrev z32e_0 (a : SNet) : List Span := rng a.N.g.length fun (i : Nat) => gD a.N.g i
abbrev z32e_1 (a : SNet) : Nat := (z32e_0 a).length
abbrev z32e_2 (a : SNet) (i : Nat) : Span := gD (z32e_0 a) i
abbrev z32e_3 (a : SNet) (i : Nat) : Int := (z32e_2 a i).lo
abbrev z32e_4 (a : SNet) (i : Nat) : Int := (z32e_2 a i).hi
abbrev z32e_5 (a : SNet) : List Reach := rng a.N.r.length fun (i : Nat) => gD a.N.r i
abbrev z32e_6 (a : SNet) : Nat := (z32e_5 a).length
abbrev z32e_7 (a : SNet) (i : Nat) : Reach := gD (z32e_5 a) i
abbrev z32e_8 (a : SNet) (i : Nat) : Int := (z32e_7 a i).fr
abbrev z32e_9 (a : SNet) (i : Nat) : Int := (z32e_7 a i).to
abbrev z32e_10 (a : SNet) (i : Nat) : Span := (z32e_7 a i).sp
abbrev z32e_11 (a : SNet) (i : Nat) : Int := (z32e_10 a i).lo
abbrev z32e_12 (a : SNet) (i : Nat) : Int := (z32e_10 a i).hi
abbrev z32e_13 : Prop := (0 : Nat) = (0 : Nat)
abbrev z32e_14 : Prop := ∀ (i : Nat), i < (0 : Nat) → false = false
abbrev z32e_15 : Prop := z32e_13 ∧ z32e_14 ∧ z32e_13 ∧ z32e_14
abbrev z32e_16 (a : SNet) : List Int := rng a.s.bs.length fun (i : Nat) => gD a.s.bs i
abbrev z32e_17 (a : SNet) : Nat := (z32e_16 a).length
abbrev z32e_18 (a : SNet) : Stm := Stm.mk (z32e_16 a) a.s.used a.s.mix
abbrev z32e_19 (a : SNet) : Stm := nextS (z32e_18 a) (4 : Int)
abbrev z32e_20 (a : SNet) : List Int := (z32e_19 a).bs
abbrev z32e_21 (a : SNet) : Stm := (spoRs a.s a.N.r).fst
abbrev z32e_22 (a : SNet) : List Int := (z32e_21 a).bs
abbrev z32e_23 (a : SNet) : Nat := (z32e_22 a).length
theorem vc32e (a : SNet) : (V32e a) = ((z32e_1 a = a.N.g.length ∧ (∀ (i : Nat), i < z32e_1 a → z32e_3 a i = (gD a.N.g i).lo ∧ z32e_4 a i = (gD a.N.g i).hi) ∧ z32e_6 a = a.N.r.length ∧ (∀ (i : Nat), i < z32e_6 a → z32e_8
 a i = (gD a.N.r i).fr ∧ z32e_9 a i = (gD a.N.r i).to ∧ z32e_11 a i = (gD a.N.r i).sp.lo ∧ z32e_12 a i = (gD a.N.r i).sp.hi) ∧ z32e_1 a ≤ (1000000 : Nat) ∧ (z32e_6 a).le (1000000 : Nat)) ∧ (∃ (a_1 : One), (Int.ofNat (0 :
 Nat) = Int.ofNat (0 : Nat) ∧ a.s.bs.length = a.s.bs.length ∧ (∀ (i : Nat), i < a.s.bs.length → gD a.s.bs i = gD a.s.bs i) ∧ a.s.used = a.s.used ∧ a.s.mix = a.s.mix ∧ a.N.g.length = z32e_1 a ∧ (∀ (i : Nat), i <
 a.N.g.length → (gD a.N.g i).lo = z32e_3 a i ∧ (gD a.N.g i).hi = z32e_4 a i) ∧ a.N.r.length = z32e_6 a ∧ (∀ (i : Nat), i < a.N.r.length → (gD a.N.r i).fr = z32e_8 a i ∧ (gD a.N.r i).to = z32e_9 a i ∧ (gD a.N.r i).sp.lo =
 z32e_11 a i ∧ (gD a.N.r i).sp.hi = z32e_12 a i) ∧ z32e_15) ∧ True) ∧ ∀ (a_1 : One), True → bif decide ((0 : Int) < (↑a.N.r.length : Int)) then ((4 : Int) = Int.ofNat (4 : Nat) ∧ z32e_17 a = a.s.bs.length ∧ (∀ (i : Nat),
 i < z32e_17 a → gD (z32e_16 a) i = gD a.s.bs i) ∧ a.s.used = a.s.used ∧ a.s.mix = a.s.mix ∧ (a.s.used - (0 : Int)).NonNeg) ∧ bif nextV (z32e_18 a) (4 : Int) == (0 : Int) then False else ∃ (a_3 : One), (Int.ofNat (0 :
 Nat) = Int.ofNat (((0 : Nat) + (1 : Nat)) % ((2 : Int) ^ IntKind.i64.bits).natAbs) ∧ a.s.bs.length = (z32e_20 a).length ∧ (∀ (i : Nat), i < a.s.bs.length → gD a.s.bs i = gD (z32e_20 a) i) ∧ a.s.used = (z32e_19 a).used ∧
 a.s.mix = (z32e_19 a).mix ∧ a.N.g.length = a.N.g.length ∧ (∀ (i : Nat), i < a.N.g.length → (gD a.N.g i).lo = (gD a.N.g i).lo ∧ (gD a.N.g i).hi = (gD a.N.g i).hi) ∧ a.N.r.length = a.N.r.length ∧ (∀ (i : Nat), i <
 a.N.r.length → (gD a.N.r i).fr = (gD a.N.r i).fr ∧ (gD a.N.r i).to = (gD a.N.r i).to ∧ (gD a.N.r i).sp.lo = (gD a.N.r i).sp.lo ∧ (gD a.N.r i).sp.hi = (gD a.N.r i).sp.hi) ∧ z32e_15) ∧ True ∧ (0 : Nat) < (0 : Nat) else
 (spoN a).g.length = a.N.g.length ∧ (∀ (i : Nat), i < (spoN a).g.length → (gD (spoN a).g i).lo = (gD a.N.g i).lo ∧ (gD (spoN a).g i).hi = (gD a.N.g i).hi) ∧ (spoN a).r.length = a.N.r.length ∧ (∀ (i : Nat), i < (spoN
 a).r.length → (gD (spoN a).r i).fr = (gD a.N.r i).fr ∧ (gD (spoN a).r i).to = (gD a.N.r i).to ∧ (gD (spoN a).r i).sp.lo = (gD a.N.r i).sp.lo ∧ (gD (spoN a).r i).sp.hi = (gD a.N.r i).sp.hi) ∧ z32e_23 a = a.s.bs.length ∧
 (∀ (i : Nat), i < z32e_23 a → gD (z32e_22 a) i = gD a.s.bs i) ∧ (z32e_21 a).used = a.s.used ∧ (z32e_21 a).mix = a.s.mix) := by kernel_rfl
theorem p52o (l : List Reach) (h : 0 < l.length ∧ l.length ≤ 1000) : V52o l := by
  rw [vc52o]; simp only [condP, eq_self, implies_true, and_self, true_and, and_true, true_implies, forall_const, decide_eq_true_eq, decide_eq_false_iff_not, Int.toNat_natCast, dSpan_eSpan, dReach_eReach, dWay_eWay, dStep_eStep, dFar_eFar, dInt_eInt, Nat.zero_add, Int.zero_sub, Nat.le_eq, Nat.succ_eq_add_one, Nat.add_one_le_iff, Bool.not_eq_true', Bool.not_eq_false', rng_length, dSpan_mk, dReach_mk, dWay_mk, dStep_mk, dFar_mk, rng_getD]
  exact ⟨⟨fun h => absurd h (by decide), h.1, by omega, by omega⟩, fun _ _ => ⟨rfl, rfl, rfl, rfl⟩⟩
theorem p16o (l : List Int) (h : 0 < l.length ∧ l.length ≤ 1000) : V16o l := by
  rw [vc16o]; simp only [condP, eq_self, implies_true, and_self, true_and, and_true, true_implies, forall_const, decide_eq_true_eq, decide_eq_false_iff_not, Int.toNat_natCast, dSpan_eSpan, dReach_eReach, dWay_eWay, dStep_eStep, dFar_eFar, dInt_eInt, Nat.zero_add, Int.zero_sub, Nat.le_eq, Nat.succ_eq_add_one, Nat.add_one_le_iff, Bool.not_eq_true', Bool.not_eq_false', rng_length, dSpan_mk, dReach_mk, dWay_mk, dStep_mk, dFar_mk, rng_getD]
  exact ⟨⟨fun h => absurd h (by decide), h.1, by omega, by omega⟩, fun _ _ => rfl⟩
theorem p15o (N : NetL) (h1 : N.g.length ≤ 1000000) (h2 : 0 < N.r.length ∧ N.r.length ≤ 1000) : V15o N := by
  rw [vc15o]; simp only [condP, eq_self, implies_true, and_self, true_and, and_true, true_implies, forall_const, decide_eq_true_eq, decide_eq_false_iff_not, Int.toNat_natCast, dSpan_eSpan, dReach_eReach, dWay_eWay, dStep_eStep, dFar_eFar, dInt_eInt, Nat.zero_add, Int.zero_sub, Nat.le_eq, Nat.succ_eq_add_one, Nat.add_one_le_iff, Bool.not_eq_true', Bool.not_eq_false', rng_length, dSpan_mk, dReach_mk, dWay_mk, dStep_mk, dFar_mk, rng_getD]
  exact ⟨h1, h2⟩
theorem ok52o : SpecOk Try.prog 52 (C52o.spec d52) := okC C52o (fun _ => A52o) [(0, 3032)] [] Try.func52 (fun _ => by kernel_rfl) (fun _ => gok_nil) (fun l h => p52o l h) (fun _ => noI rfl rfl) _
theorem ok16o : SpecOk Try.prog 16 (C16o.spec d16) := okC C16o (fun _ => A52o) [(0, 3032)] [] Try.func16 (fun _ => by kernel_rfl) (fun _ => gok_nil) (fun l h => p16o l h) (fun _ => noI rfl rfl) _
theorem ok15o : SpecOk Try.prog 15 (C15o.spec d67) := okC C15o (fun _ => A15o) [(0, 2080)] [] Try.func15 (fun _ => by kernel_rfl) (fun _ => gok_cons ok51 (gok_cons ok52o gok_nil)) (fun N h => p15o N h.1 h.2) (fun _ => noI rfl rfl) _
theorem spoRs_len : ∀ (l : List Reach) (s : Stm), (spoRs s l).2.length = l.length
  | [], _ => rfl
  | r :: l, s => by simp only [spoRs, List.length_cons, spoRs_len l]
theorem spoR_ok {K : Int} {s : Stm} (h : StmB K s) (hK : K ≤ 100000000000000) (r : Reach) : StmB (K + 3) (spoR s r).1 := by
  have a := h.next (by omega) 4
  have b := a.next (by omega) (witN (-50) 150)
  have c := b.next (by omega) 9
  unfold spoR
  split
  · exact c.mono (by omega)
  · exact a.mono (by omega)
theorem spo_step {s : Stm} {r : Reach} {l m : List Reach} {f : Stm} {k : Nat} (h : spoRs s (r :: l) = (f, m.drop k)) (hk : k < m.length) : (spoR s r).2 = gD m k ∧ spoRs (spoR s r).1 l = (f, m.drop (k + 1)) := by
  rw [drop_gD hk] at h
  simp only [spoRs, Prod.mk.injEq, List.cons.injEq] at h
  exact ⟨h.2.1, Prod.ext h.1 h.2.2⟩
theorem p32 (a : SNet) (h1 : StmB 1000000000 a.s) (h2 : a.N.g.length ≤ 1000) (h3 : a.N.r.length ≤ 1000) (h4 : 0 < a.N.r.length) : V32 a := by
  have hl : (spoN a).r.length = a.N.r.length := spoRs_len _ _
  rw [vc32]; delta z32_0 z32_1 z32_2 z32_3 z32_4 z32_5 z32_6 z32_7 z32_8 z32_9 z32_10 z32_11 z32_12 z32_13 z32_14 z32_15 z32_16 z32_17 z32_18 z32_19 z32_20 z32_21 z32_22 z32_23 z32_24 z32_25 z32_26 z32_27 z32_28 z32_29 z32_30 z32_31 z32_32 z32_33 z32_34 z32_35 z32_36 z32_37 z32_38 z32_39 z32_40 z32_41 z32_42 z32_43 z32_44 z32_45 z32_46 z32_47 z32_48 z32_49 z32_50 z32_51 z32_52 z32_53 z32_54 z32_55 z32_56 z32_57 z32_58 z32_59 z32_60 z32_61 z32_62; simp only [condP, eq_self, implies_true, and_self, true_and, and_true, true_implies, forall_const, decide_eq_true_eq, decide_eq_false_iff_not, Int.toNat_natCast, dSpan_eSpan, dReach_eReach, dWay_eWay, dStep_eStep, dFar_eFar, dInt_eInt, Nat.zero_add, Int.zero_sub, Nat.le_eq, Nat.succ_eq_add_one, Nat.add_one_le_iff, Bool.not_eq_true', Bool.not_eq_false', rng_length, dSpan_mk, dReach_mk, dWay_mk, dStep_mk, dFar_mk, rng_getD, DL.m2]
  refine ⟨⟨by omega, h4, h3⟩, ⟨⟨a.s, a.N.r, 0⟩, ⟨rfl, rfl, fun _ _ => rfl, rfl, rfl, rfl, rfl, fun _ _ => ⟨rfl, rfl, rfl, rfl⟩⟩, Nat.zero_le _, rfl, h1.mono (by simp only; omega), fun i _ => (if_neg (Nat.not_lt_zero i)).symm, rfl⟩, fun s ⟨q1, q2, q3, q4, q5⟩ => ⟨fun hlt => ?_, fun hge => ?_⟩⟩
  · have hk : s.k < a.N.r.length := by omega
    rw [drop_gD hk] at q5
    obtain ⟨e1, e2⟩ := spo_step q5 (by omega)
    have hr : gD s.r s.k = gD a.N.r s.k := by rw [q4 s.k (by omega), if_neg (by omega)]
    have t1 := q3.next (by omega) 4
    have t2 : StmB _ (spoS s.s) := t1.next (by omega) (witN (-50) 150)
    have tt := spoR_ok q3 (by omega) (gD a.N.r s.k)
    have q4' : ∀ i, i < s.r.length → i ≠ s.k → gD s.r i = if i < s.k + 1 then gD (spoN a).r i else gD a.N.r i := fun i hi hne => by
      rw [q4 i hi]
      by_cases x : i < s.k
      · rw [if_pos x, if_pos (by omega)]
      · rw [if_neg x, if_neg (by omega)]
    refine ⟨⟨rfl, q3.used.1⟩, fun hc => ⟨⟨rfl, rfl, t1.used.1, ⟨by omega, hlt⟩, by omega⟩, ⟨⟨by omega, hlt⟩, by omega, rfl, t2.used.1, ⟨by omega, hlt⟩, by omega⟩, ⟨⟨nextS (spoS s.s) 9, s.r.set s.k (spoR s.s (gD a.N.r s.k)).2, s.k + 1⟩, ⟨(wsucc (by omega)).symm, rfl, fun _ _ => rfl, rfl, rfl, by simp, by simp, fun i hi => ?_⟩, ⟨by simp; omega, by simp; omega, ?_, fun i hi => ?_, ?_⟩, by simp; omega⟩⟩, fun hc => ⟨⟨nextS s.s 4, s.r, s.k + 1⟩, ⟨(wsucc (by omega)).symm, rfl, fun _ _ => rfl, rfl, rfl, rfl, rfl, fun i hi => ⟨rfl, rfl, rfl, rfl⟩⟩, ⟨by simp only; omega, q2, ?_, fun i hi => ?_, ?_⟩, by simp only; omega⟩⟩
    all_goals first
      | have hcc : spoH s.s = true := by unfold spoH; simpa using hc
      | have hcc : spoH s.s = false := by unfold spoH; simpa using hc
    · have hv : (spoR s.s (gD a.N.r s.k)).2 = { (gD a.N.r s.k) with sp := ⟨spoLo s.s, wr (spoLo s.s + nextV (spoS s.s) 9)⟩ } := by unfold spoR; rw [hcc]; rfl
      simp only [hv, hr]
      rw [gD_set (by omega)]
      by_cases he : i = s.k
      · subst he; simp; exact ⟨rfl, rfl⟩
      · simp [he]
    · have hv : (spoR s.s (gD a.N.r s.k)).1 = nextS (spoS s.s) 9 := by unfold spoR; rw [hcc]; rfl
      rw [hv] at tt
      exact tt.mono (by simp only; omega)
    · simp only
      rw [gD_set (by omega)]
      by_cases he : i = s.k
      · rw [if_pos he, if_pos (by omega), e1, he]
      · rw [if_neg he]; exact q4' i (by simpa using hi) he
    · have hv : (spoR s.s (gD a.N.r s.k)).1 = nextS (spoS s.s) 9 := by unfold spoR; rw [hcc]; rfl
      simp only; rw [← hv]; exact e2
    · have hv : (spoR s.s (gD a.N.r s.k)).1 = nextS s.s 4 := by unfold spoR; rw [hcc]; rfl
      rw [hv] at tt
      exact tt.mono (by simp only; omega)
    · have hv : (spoR s.s (gD a.N.r s.k)).2 = gD a.N.r s.k := by unfold spoR; rw [hcc]; rfl
      simp only
      by_cases he : i = s.k
      · rw [if_pos (by omega), he, ← e1, hv, hr]
      · exact q4' i hi he
    · have hv : (spoR s.s (gD a.N.r s.k)).1 = nextS s.s 4 := by unfold spoR; rw [hcc]; rfl
      simp only; rw [← hv]; exact e2
  · have hk : s.k = a.N.r.length := by omega
    rw [List.drop_eq_nil_of_le (by omega)] at q5
    have q5 : (s.s, []) = _ := q5
    have e := congrArg Prod.fst q5
    have e : s.s = (spoRs a.s a.N.r).1 := e
    have er : ∀ j, j < (spoN a).r.length → gD s.r j = gD (spoN a).r j := fun j hj => by rw [q4 j (by omega), if_pos (by omega)]
    rw [← e]
    exact ⟨rfl, fun _ _ => ⟨rfl, rfl⟩, by omega, Nat.le_refl _, fun j hj => by rw [er j hj]; exact ⟨rfl, rfl, rfl, rfl⟩, rfl, fun _ _ => rfl, rfl, rfl⟩
theorem p32e (a : SNet) (h1 : StmB 1000000000 a.s) (h2 : a.N.g.length ≤ 1000) (h3 : a.N.r.length = 0) : V32e a := by
  have hl : (spoN a).r.length = a.N.r.length := spoRs_len _ _
  have h0 : a.N.r = [] := List.eq_nil_of_length_eq_zero h3
  have hs : (spoRs a.s a.N.r).1 = a.s := by rw [h0]; rfl
  rw [vc32e]; delta z32e_0 z32e_1 z32e_2 z32e_3 z32e_4 z32e_5 z32e_6 z32e_7 z32e_8 z32e_9 z32e_10 z32e_11 z32e_12 z32e_13 z32e_14 z32e_15 z32e_16 z32e_17 z32e_18 z32e_19 z32e_20 z32e_21 z32e_22 z32e_23; simp only [condP, eq_self, implies_true, and_self, true_and, and_true, true_implies, forall_const, decide_eq_true_eq, decide_eq_false_iff_not, Int.toNat_natCast, dSpan_eSpan, dReach_eReach, dWay_eWay, dStep_eStep, dFar_eFar, dInt_eInt, Nat.zero_add, Int.zero_sub, Nat.le_eq, Nat.succ_eq_add_one, Nat.add_one_le_iff, Bool.not_eq_true', Bool.not_eq_false', rng_length, dSpan_mk, dReach_mk, dWay_mk, dStep_mk, dFar_mk, rng_getD, DL.m2]
  refine ⟨⟨by omega, by omega⟩, ⟨⟨0⟩, trivial⟩, fun h => by omega, fun _ => ?_⟩
  rw [hs]
  exact ⟨rfl, fun _ _ => ⟨rfl, rfl⟩, hl, fun i hi => by omega, rfl, fun _ _ => rfl, rfl, rfl⟩
def d32 : List AVal → Heap → Option (SNet × List (Nat × Nat) × List Nat)
  | [.bptr p _, .d x], H => match decStm H p, decNet x with
    | some s, some N => some (⟨s, N⟩, [(100, p)], [])
    | _, _ => none
  | _, _ => none
theorem ok32 : SpecOk Try.prog 32 (C32.spec d32) := Ctr.spec_ok (C := C32) (fun (a : SNet) ha => by
  obtain ⟨h1, h2, h3⟩ : StmB 1000000000 a.s ∧ a.N.g.length ≤ 1000 ∧ a.N.r.length ≤ 1000 := ha
  by_cases h : a.N.r.length = 0
  · exact fnt (A := A32e a) (ren := []) (fz := []) Try.func32 (by kernel_rfl) (gok_cons ok15 (gok_cons ok33 (gok_cons ok43 gok_nil))) (p32e a h1 h2 h)
  · exact fnt (A := A32 a) (ren := []) (fz := [203]) Try.func32 (by kernel_rfl) (gok_cons ok15o (gok_cons ok33 (gok_cons ok43 gok_nil))) (p32 a h1 h2 h3 (by omega))) _
end Go.Bal
