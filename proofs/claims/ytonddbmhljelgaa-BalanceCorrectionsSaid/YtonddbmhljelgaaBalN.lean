/- Package balance: Spans, Reached. -/
import Derived.Test.YtonddbmhljelgaaBalL
set_option linter.unusedVariables false
set_option linter.unusedSimpArgs false
namespace Go.Bal
open Go Go.Sym Go.Proofs
def spanL (d : Desk) : List Span := (List.range d.all.length).map fun (i : Nat) => (spanV d i).getD default
def rowS (n : Nat) (l : List Span) : HCell := .live (.row 2 n fun i => eSpan (gD l i))
def spH (N : NetL) : List (Nat × HCell) := [(301, .live (deskB (setD N) 302)), (302, .live (deskR (setD N)))]
def spS (N : NetL) (a b : AVal) (k : Nat) : List (Nat × AVal) := [(2, a), (3, b), (5, .bptr 301 0), (21, .int (setD N).all.length), (22, .int k)]
def spF (N : NetL) : List Span := (spanL (setD N)).take (setD N).nR
def spG (N : NetL) : List Span := (spanL (setD N)).drop (setD N).nR
def A34 (N : NetL) : Ann := { ann 45 [(73, C73.spec d67), (74, C74.spec dDI)] with mt := fun id => id == 9 || id == 10, loops := fun id => if id = 5 then some [{ α := Nat, dflt := 0, T := fun k => ⟨spS N (.d nilL) (.d nilL) k, spH N⟩, inv := fun k => k = 0, meas := fun k => (setD N).all.length - k, first := [(301, 2016), (302, 2017)] }, { α := Nat, dflt := 0, T := fun k => ⟨spS N (.own 210 2 0 k) (.d nilL) k, spH N ++ [(210, rowS k (spF N))]⟩, inv := fun k => 0 < k ∧ k ≤ (setD N).nR, meas := fun k => (setD N).all.length - k, again := [(210, 10048)] }, { α := Nat, dflt := 0, T := fun k => ⟨spS N (.own 210 2 0 (setD N).nR) (.own 211 2 0 (k - (setD N).nR)) k, spH N ++ [(210, rowS (setD N).nR (spF N)), (211, rowS (k - (setD N).nR) (spG N))]⟩, inv := fun k => (setD N).nR < k ∧ k ≤ (setD N).all.length, meas := fun k => (setD N).all.length - k, again := [(211, 11048)] }, { α := Nat, dflt := 0, T := fun k => ⟨spS N (.d nilL) (.own 211 2 0 k) k, spH N ++ [(211, rowS k (spG N))]⟩, inv := fun k => (setD N).nR = 0 ∧ 0 < k ∧ k ≤ (setD N).all.length, meas := fun k => (setD N).all.length - k, again := [(211, 11048)] }] else none }
def eSpL (l : List Span) : AVal := .d (eSpansL l)
def C34 : Ctr := { α := NetL, xs := fun N => [.d (eNetL N)], L := fun _ => [], val := fun N => .tup [eSpL (spF N), eSpL (spG N), .int 0], keep := fun _ => [], pre := fun N => [checkL N = 0, (settledV N).isSome = true, ¬ 0 < setC N, ∀ i : Nat, i < (setD N).all.length → (spanV (setD N) i).isSome = true] }
def V34 (N : NetL) : Prop := fnVC Try.prog (A34 N) Try.f34 (bodyOf Try.f34) (C34.xs N) (heapOf (C34.L N)) (C34.val N) (C34.keep N) [] [210, 211]
abbrev z34_0 (N : NetL) : List Span := rng N.g.length fun (i : Nat) => gD N.g i
abbrev z34_1 (N : NetL) : Nat := (z34_0 N).length
abbrev z34_2 (N : NetL) (i : Nat) : Span := gD (z34_0 N) i
abbrev z34_3 (N : NetL) : List Reach := rng N.r.length fun (i : Nat) => gD N.r i
abbrev z34_4 (N : NetL) : Nat := (z34_3 N).length
abbrev z34_5 (N : NetL) (i : Nat) : Reach := gD (z34_3 N) i
abbrev z34_6 (N : NetL) (i : Nat) : Span := (z34_5 N i).sp
abbrev z34_7 (N : NetL) : NetL := NetL.mk (z34_0 N) (z34_3 N)
abbrev z34_8 : Prop := (0 : Nat) = (0 : Nat)
abbrev z34_9 : Prop := ∀ (i : Nat), i < (0 : Nat) → false = false
abbrev z34_10 (N : NetL) : Desk := setD (z34_7 N)
abbrev z34_11 (N : NetL) : List Way := (z34_10 N).all
abbrev z34_12 (N : NetL) : Nat := (z34_11 N).length
abbrev z34_13 (N : NetL) : Prop := (setD N).all.length = z34_12 N
abbrev z34_14 (N : NetL) (i : Nat) : Way := gD (z34_11 N) i
abbrev z34_15 (N : NetL) (i : Nat) : Span := (z34_14 N i).sp
abbrev z34_16 (a : Nat) (N : NetL) : Bool := decide ((↑a : Int) < (↑(setD N).all.length : Int))
abbrev z34_17 (N : NetL) : List Way := rng (setD N).all.length fun (i : Nat) => gD (setD N).all i
abbrev z34_18 (N : NetL) : Nat := (z34_17 N).length
abbrev z34_19 (N : NetL) : Prop := z34_18 N = (setD N).all.length
abbrev z34_20 (N : NetL) : Prop := (↑(setD N).out : Int) = (↑(setD N).out : Int)
abbrev z34_21 (N : NetL) : Prop := (↑(setD N).nR : Int) = (↑(setD N).nR : Int)
abbrev z34_22 (N : NetL) (i : Nat) : Way := gD (z34_17 N) i
abbrev z34_23 (N : NetL) (i : Nat) : Int := (z34_22 N i).fr
abbrev z34_24 (N : NetL) (i : Nat) : Int := (z34_22 N i).to
abbrev z34_25 (N : NetL) (i : Nat) : Span := (z34_22 N i).sp
abbrev z34_26 (N : NetL) (i : Nat) : Int := (z34_25 N i).lo
abbrev z34_27 (N : NetL) (i : Nat) : Int := (z34_25 N i).hi
abbrev z34_28 (N : NetL) (i : Nat) : Int := (z34_22 N i).now
abbrev z34_29 (N : NetL) : Prop := (setD N).all.length = z34_18 N
abbrev z34_30 (N : NetL) : Desk := Desk.mk (z34_17 N) (setD N).out (setD N).nR
abbrev z34_31 (N : NetL) (a : Nat) : Option Span := spanV (z34_30 N) (↑a : Int)
abbrev z34_32 (a : Nat) (N : NetL) : Prop := (↑a : Int) = (↑a : Int) ∧ z34_8 ∧ z34_19 N ∧ z34_20 N ∧ z34_21 N ∧ z34_19 N ∧ (∀ (i : Nat), i < z34_18 N → z34_23 N i = (gD (setD N).all i).fr ∧ z34_24 N i = (gD (setD N).all
 i).to ∧ z34_26 N i = (gD (setD N).all i).sp.lo ∧ z34_27 N i = (gD (setD N).all i).sp.hi ∧ z34_28 N i = (gD (setD N).all i).now) ∧ z34_8 ∧ z34_29 N ∧ z34_20 N ∧ z34_21 N ∧ z34_29 N ∧ (∀ (i : Nat), i < (setD N).all.length
 → (gD (setD N).all i).fr = z34_23 N i ∧ (gD (setD N).all i).to = z34_24 N i ∧ (gD (setD N).all i).sp.lo = z34_26 N i ∧ (gD (setD N).all i).sp.hi = z34_27 N i ∧ (gD (setD N).all i).now = z34_28 N i) ∧ (z34_30 N).ok ∧ ((0
 : Int) ≤ (↑a : Int) ∧ (↑a : Int) < (↑(z34_18 N) : Int)) ∧ (z34_31 N a).isSome = true
abbrev z34_33 (a : Nat) (N : NetL) : Bool := decide ((↑a : Int) < (↑(setD N).nR : Int))
abbrev z34_34 : Prop := (0 : Nat) < (1 : Nat)
abbrev z34_35 : Prop := (2 : Nat) = (2 : Nat)
abbrev z34_36 : Prop := (1 : Nat) ≤ (1 : Nat) ∧ (z34_34 → z34_35)
abbrev z34_37 : Prop := (True ∧ ((0 : Nat) < (0 : Nat) → (0 : Nat) = (2 : Nat))) ∧ z34_36 ∧ (true = true → z34_34) ∧ (1 : Nat) ≤ (9223372036854775807 : Nat) ∧ (16 : Nat) ≤ (140737488355328 : Nat)
abbrev z34_38 (N : NetL) : Prop := (↑(setD N).all.length : Int) = (↑(setD N).all.length : Int)
abbrev z34_39 (a : Nat) (a1 : Nat) : Prop := (↑a : Int) = IntKind.i64.wrap ((↑a1 : Int) + (1 : Int))
abbrev z34_40 (N : NetL) : Prop := (setD N).all.length = (setD N).all.length
abbrev z34_41 (N : NetL) : Prop := ∀ (i : Nat), i < (setD N).all.length → (gD (setD N).all i).fr = (gD (setD N).all i).fr ∧ (gD (setD N).all i).to = (gD (setD N).all i).to ∧ (gD (setD N).all i).sp.lo = (gD (setD N).all
 i).sp.lo ∧ (gD (setD N).all i).sp.hi = (gD (setD N).all i).sp.hi ∧ (gD (setD N).all i).now = (gD (setD N).all i).now
abbrev z34_42 (N : NetL) (a : Nat) : Span := (z34_31 N a).getD default
abbrev z34_43 (N : NetL) (a : Nat) : Int := (z34_42 N a).lo
abbrev z34_44 (N : NetL) (a : Nat) : Int := (z34_42 N a).hi
abbrev z34_45 (a : Nat) (N : NetL) : Prop := (0 : Nat) < a ∧ a ≤ (setD N).nR
abbrev z34_46 (N : NetL) (a : Nat) : Nat := (setD N).all.length - a
abbrev z34_47 (N : NetL) (a : Nat) (a1 : Nat) : Prop := z34_46 N a < z34_46 N a1
abbrev z34_48 (a : Nat) (N : NetL) (a1 : Nat) : Prop := z34_45 a N ∧ z34_47 N a a1
abbrev z34_49 (N : NetL) (i : Nat) (a : Nat) : Prop := (gD (spG N) i).lo = z34_43 N a ∧ (gD (spG N) i).hi = z34_44 N a
abbrev z34_50 (N : NetL) (a : Nat) : Prop := (setD N).nR = (0 : Nat) ∧ (0 : Nat) < a ∧ a ≤ (setD N).all.length
abbrev z34_51 (N : NetL) (a : Nat) (a1 : Nat) : Prop := z34_50 N a ∧ z34_47 N a a1
abbrev z34_52 (N : NetL) : Prop := (spF N).length = (0 : Nat)
abbrev z34_53 (N : NetL) : Prop := (spG N).length = (0 : Nat)
abbrev z34_54 : Prop := Int.ofNat (0 : Nat) = Int.ofNat (0 : Nat)
abbrev z34_55 (N : NetL) : Prop := z34_53 N ∧ z34_53 N ∧ z34_54
abbrev z34_56 : Prop := false = true → z34_34
abbrev z34_57 (a : Nat) : Nat := a + (1 : Nat)
abbrev z34_58 (a : Nat) : Prop := (a = a ∧ ((0 : Nat) < a → z34_35)) ∧ z34_36 ∧ z34_56 ∧ z34_57 a ≤ (9223372036854775807 : Nat) ∧ z34_57 a * (16 : Nat) ≤ (140737488355328 : Nat)
abbrev z34_59 (a : Nat) (a1 : Nat) : Prop := a = z34_57 a1
abbrev z34_60 (a : Nat) (N : NetL) : Nat := a - (setD N).nR
abbrev z34_61 (a : Nat) (N : NetL) : Prop := z34_60 a N = (1 : Nat)
abbrev z34_62 (N : NetL) : Prop := ∀ (i : Nat), i < (setD N).nR → (gD (spF N) i).lo = (gD (spF N) i).lo ∧ (gD (spF N) i).hi = (gD (spF N) i).hi
abbrev z34_63 (i : Nat) (a : Nat) (N : NetL) : Prop := i < z34_60 a N
abbrev z34_64 (N : NetL) (a : Nat) : Prop := (setD N).nR < a ∧ a ≤ (setD N).all.length
abbrev z34_65 (N : NetL) (a : Nat) (a1 : Nat) : Prop := z34_64 N a ∧ z34_47 N a a1
abbrev z34_66 (a : Nat) : Nat := (0 : Nat) + a
abbrev z34_67 (a : Nat) : Prop := z34_66 a ≤ a
abbrev z34_68 (N : NetL) (j : Nat) : Span := gD (spF N) (z34_66 j)
abbrev z34_69 (N : NetL) : Prop := ∀ (j : Nat), j < (spF N).length → (gD (spF N) j).lo = (z34_68 N j).lo ∧ (gD (spF N) j).hi = (z34_68 N j).hi
abbrev z34_70 (N : NetL) : Nat := (setD N).nR + (1 : Nat)
abbrev z34_71 (a : Nat) (N : NetL) : Nat := z34_60 a N + (1 : Nat)
abbrev z34_72 (a : Nat) (N : NetL) (a1 : Nat) : Prop := z34_60 a N = z34_71 a1 N
abbrev z34_73 (i : Nat) (a : Nat) (N : NetL) : Bool := decide (z34_63 i a N)
abbrev z34_74 (N : NetL) (j : Nat) : Span := gD (spG N) (z34_66 j)
abbrev z34_75 (N : NetL) : Prop := (∀ (j : Nat), j < (spG N).length → (gD (spG N) j).lo = (z34_74 N j).lo ∧ (gD (spG N) j).hi = (z34_74 N j).hi) ∧ z34_54
theorem vc34 (N : NetL) : (V34 N) = ((z34_1 N = N.g.length ∧ (∀ (i : Nat), i < z34_1 N → (z34_2 N i).lo = (gD N.g i).lo ∧ (z34_2 N i).hi = (gD N.g i).hi) ∧ z34_4 N = N.r.length ∧ (∀ (i : Nat), i < z34_4 N → (z34_5 N
 i).fr = (gD N.r i).fr ∧ (z34_5 N i).to = (gD N.r i).to ∧ (z34_6 N i).lo = (gD N.r i).sp.lo ∧ (z34_6 N i).hi = (gD N.r i).sp.hi) ∧ checkL (z34_7 N) = (0 : Int) ∧ (settledV (z34_7 N)).isSome = true ∧ ((0 : Int) < setC
 (z34_7 N) → False)) ∧ (∃ (a : Nat), (z34_8 ∧ z34_9 ∧ z34_8 ∧ z34_9 ∧ (↑(setD N).all.length : Int) = (↑(z34_12 N) : Int) ∧ (↑a : Int) = (0 : Int) ∧ z34_8 ∧ z34_13 N ∧ (↑(setD N).out : Int) = (↑(z34_10 N).out : Int) ∧
 (↑(setD N).nR : Int) = (↑(z34_10 N).nR : Int) ∧ z34_13 N ∧ ∀ (i : Nat), i < (setD N).all.length → (gD (setD N).all i).fr = (z34_14 N i).fr ∧ (gD (setD N).all i).to = (z34_14 N i).to ∧ (gD (setD N).all i).sp.lo = (z34_15
 N i).lo ∧ (gD (setD N).all i).sp.hi = (z34_15 N i).hi ∧ (gD (setD N).all i).now = (z34_14 N i).now) ∧ a = (0 : Nat)) ∧ (∀ (a : Nat), a = (0 : Nat) → bif z34_16 a N then z34_32 a N ∧ bif z34_33 a N then z34_37 ∧ ∃ (a_2 :
 Nat), (z34_8 ∧ a_2 = (1 : Nat) ∧ z34_8 ∧ z34_9 ∧ z34_38 N ∧ z34_39 a_2 a ∧ z34_8 ∧ z34_40 N ∧ z34_20 N ∧ z34_21 N ∧ z34_40 N ∧ z34_41 N ∧ a_2 = (1 : Nat) ∧ ∀ (i : Nat), i < a_2 → (gD (spF N) i).lo = z34_43 N a ∧ (gD (spF
 N) i).hi = z34_44 N a) ∧ z34_48 a_2 N a else z34_37 ∧ ∃ (a_2 : Nat), (z34_8 ∧ z34_9 ∧ z34_8 ∧ a_2 = (1 : Nat) ∧ z34_38 N ∧ z34_39 a_2 a ∧ z34_8 ∧ z34_40 N ∧ z34_20 N ∧ z34_21 N ∧ z34_40 N ∧ z34_41 N ∧ a_2 = (1 : Nat) ∧ ∀
 (i : Nat), i < a_2 → z34_49 N i a) ∧ z34_51 N a_2 a else z34_52 N ∧ z34_52 N ∧ z34_55 N) ∧ (∀ (a : Nat), z34_45 a N → bif z34_16 a N then z34_32 a N ∧ bif z34_33 a N then z34_58 a ∧ ∃ (a_2 : Nat), (z34_8 ∧ z34_59 a_2 a ∧
 z34_8 ∧ z34_9 ∧ z34_38 N ∧ z34_39 a_2 a ∧ z34_8 ∧ z34_40 N ∧ z34_20 N ∧ z34_21 N ∧ z34_40 N ∧ z34_41 N ∧ z34_59 a_2 a ∧ ∀ (i : Nat), i < a_2 → ((gD (spF N) i).lo = bif decide (i < a) then (gD (spF N) i).lo else z34_43 N
 a) ∧ (gD (spF N) i).hi = bif decide (i < a) then (gD (spF N) i).hi else z34_44 N a) ∧ z34_48 a_2 N a else z34_37 ∧ ∃ (a_2 : Nat), (z34_8 ∧ (setD N).nR = a ∧ z34_8 ∧ z34_61 a_2 N ∧ z34_38 N ∧ z34_39 a_2 a ∧ z34_8 ∧ z34_40
 N ∧ z34_20 N ∧ z34_21 N ∧ z34_40 N ∧ z34_41 N ∧ (setD N).nR = a ∧ z34_62 N ∧ z34_61 a_2 N ∧ ∀ (i : Nat), z34_63 i a_2 N → z34_49 N i a) ∧ z34_65 N a_2 a else (spF N).length = a ∧ z34_67 a ∧ z34_69 N ∧ z34_55 N) ∧ (∀ (a :
 Nat), z34_64 N a → bif z34_16 a N then z34_32 a N ∧ bif z34_33 a N then (((setD N).nR = (setD N).nR ∧ ((0 : Nat) < (setD N).nR → z34_35)) ∧ z34_36 ∧ z34_56 ∧ z34_70 N ≤ (9223372036854775807 : Nat) ∧ z34_70 N * (16 : Nat)
 ≤ (140737488355328 : Nat)) ∧ False else ((z34_60 a N = z34_60 a N ∧ ((0 : Nat) < z34_60 a N → z34_35)) ∧ z34_36 ∧ z34_56 ∧ z34_71 a N ≤ (9223372036854775807 : Nat) ∧ z34_71 a N * (16 : Nat) ≤ (140737488355328 : Nat)) ∧ ∃
 (a_2 : Nat), (z34_8 ∧ (setD N).nR = (setD N).nR ∧ z34_8 ∧ z34_72 a_2 N a ∧ z34_38 N ∧ z34_39 a_2 a ∧ z34_8 ∧ z34_40 N ∧ z34_20 N ∧ z34_21 N ∧ z34_40 N ∧ z34_41 N ∧ (setD N).nR = (setD N).nR ∧ z34_62 N ∧ z34_72 a_2 N a ∧
 ∀ (i : Nat), z34_63 i a_2 N → ((gD (spG N) i).lo = bif z34_73 i a N then (gD (spG N) i).lo else z34_43 N a) ∧ (gD (spG N) i).hi = bif z34_73 i a N then (gD (spG N) i).hi else z34_44 N a) ∧ z34_65 N a_2 a else (spF
 N).length = (setD N).nR ∧ (0 : Nat) + (setD N).nR ≤ (setD N).nR ∧ z34_69 N ∧ (spG N).length = z34_60 a N ∧ (0 : Nat) + z34_60 a N ≤ z34_60 a N ∧ z34_75 N) ∧ ∀ (a : Nat), z34_50 N a → bif z34_16 a N then z34_32 a N ∧ bif
 z34_33 a N then z34_37 ∧ False else z34_58 a ∧ ∃ (a_2 : Nat), (z34_8 ∧ z34_9 ∧ z34_8 ∧ z34_59 a_2 a ∧ z34_38 N ∧ z34_39 a_2 a ∧ z34_8 ∧ z34_40 N ∧ z34_20 N ∧ z34_21 N ∧ z34_40 N ∧ z34_41 N ∧ z34_59 a_2 a ∧ ∀ (i : Nat), i
 < a_2 → ((gD (spG N) i).lo = bif decide (i < a) then (gD (spG N) i).lo else z34_43 N a) ∧ (gD (spG N) i).hi = bif decide (i < a) then (gD (spG N) i).hi else z34_44 N a) ∧ z34_51 N a_2 a else z34_52 N ∧ z34_52 N ∧ (spG
 N).length = a ∧ z34_67 a ∧ z34_75 N) := by kernel_rfl
theorem p34 (N : NetL) (h1 : checkL N = 0) (h2 : (settledV N).isSome = true) (h3 : ¬ 0 < setC N) (h4 : ∀ i : Nat, i < (setD N).all.length → (spanV (setD N) i).isSome = true) : V34 N := by
  rw [vc34]; delta z34_0 z34_1 z34_2 z34_3 z34_4 z34_5 z34_6 z34_7 z34_8 z34_9 z34_10 z34_11 z34_12 z34_13 z34_14 z34_15 z34_16 z34_17 z34_18 z34_19 z34_20 z34_21 z34_22 z34_23 z34_24 z34_25 z34_26 z34_27 z34_28 z34_29 z34_30 z34_31 z34_32 z34_33 z34_34 z34_35 z34_36 z34_37 z34_38 z34_39 z34_40 z34_41 z34_42 z34_43 z34_44 z34_45 z34_46 z34_47 z34_48 z34_49 z34_50 z34_51 z34_52 z34_53 z34_54 z34_55 z34_56 z34_57 z34_58 z34_59 z34_60 z34_61 z34_62 z34_63 z34_64 z34_65 z34_66 z34_67 z34_68 z34_69 z34_70 z34_71 z34_72 z34_73 z34_74 z34_75; simp only [condP, eq_self, implies_true, and_self, true_and, and_true, true_implies, forall_const, decide_eq_true_eq, decide_eq_false_iff_not, Int.toNat_natCast, dSpan_eSpan, dReach_eReach, dWay_eWay, dStep_eStep, dFar_eFar, dInt_eInt, Nat.zero_add, Int.zero_sub, Nat.le_eq, Nat.succ_eq_add_one, Nat.add_one_le_iff, Bool.not_eq_true', Bool.not_eq_false', rng_length, dSpan_mk, dReach_mk, dWay_mk, dStep_mk, dFar_mk, rng_getD, DL.d6, DL.d7, DL.d8]
  obtain ⟨l1, l2, l3⟩ := set_len h2
  have hg := good_of h1
  have g1 := hg.g1
  have g8 := hg.g8
  have r14 := hg.r14
  have hok := setD_ok h1 h2
  have hF : ∀ i, i < (setD N).nR → gD (spF N) i = (spanV (setD N) (i : Nat)).getD default := fun i hi => by
    unfold spF
    have : gD ((spanL (setD N)).take (setD N).nR) i = gD (spanL (setD N)) i := by
      simp only [gD, List.getD_eq_getElem?_getD]; rw [List.getElem?_take_of_lt hi]
    rw [this]; exact gD_range (fun (i : Nat) => (spanV (setD N) i).getD default) (by omega)
  have hG : ∀ j, (setD N).nR + j < (setD N).all.length → gD (spG N) j = (spanV (setD N) (((setD N).nR + j : Nat) : Int)).getD default := fun j hj => by
    unfold spG
    have : gD ((spanL (setD N)).drop (setD N).nR) j = gD (spanL (setD N)) ((setD N).nR + j) := by
      simp only [gD, List.getD_eq_getElem?_getD, List.getElem?_drop]
    rw [this]; exact gD_range (fun (i : Nat) => (spanV (setD N) i).getD default) hj
  have hFl : (spF N).length = (setD N).nR := by simp [spF, spanL]; omega
  have hGl : (spG N).length = (setD N).all.length - (setD N).nR := by simp [spG, spanL]
  rw [hFl, hGl]
  generalize (setD N).all.length = n at *
  generalize (setD N).nR = q at *
  refine ⟨⟨h1, h2, h3⟩, ⟨0, rfl, rfl⟩, fun k hk => ⟨fun hlt => ⟨⟨hok, ⟨by omega, hlt⟩, h4 k (by omega)⟩, fun hq => ?_, fun hq => ?_⟩, fun hge => by omega⟩, fun k hk => ⟨fun hlt => ⟨⟨hok, ⟨by omega, hlt⟩, h4 k (by omega)⟩, fun hq => ?_, fun hq => ?_⟩, fun hge => by omega⟩, fun k hk => ⟨fun hlt => ⟨⟨hok, ⟨by omega, hlt⟩, h4 k (by omega)⟩, fun hq => by omega, fun hq => ?_⟩, fun hge => by omega⟩, fun k hk => ⟨fun hlt => ⟨⟨hok, ⟨by omega, hlt⟩, h4 k (by omega)⟩, fun hq => by omega, fun hq => ?_⟩, fun hge => by omega⟩⟩
  · subst hk
    refine ⟨⟨by decide, by decide, by decide, by decide, by decide⟩, 1, ⟨rfl, rfl, rfl, fun i hi => ?_⟩, by omega, by omega⟩
    have : i = 0 := by omega
    subst this; rw [hF 0 (by omega)]; exact ⟨rfl, rfl⟩
  · subst hk
    have hq0 : q = 0 := by omega
    refine ⟨⟨by decide, by decide, by decide, by decide, by decide⟩, 1, ⟨rfl, rfl, rfl, fun i hi => ?_⟩, by omega, by omega⟩
    have : i = 0 := by omega
    subst this; rw [hG 0 (by omega), hq0]; exact ⟨rfl, rfl⟩
  · refine ⟨⟨by decide, by decide, by omega, by omega⟩, k + 1, ⟨rfl, (wsucc (by omega)).symm, rfl, fun i hi => ?_⟩, by omega, by omega⟩
    by_cases hi2 : i < k
    · simp [hi2]
    · have : i = k := by omega
      subst this
      simp only [hi2, decide_false, cond_false]
      rw [hF i (by omega)]; exact ⟨rfl, rfl⟩
  · have hk2 : k = q := by omega
    subst hk2
    refine ⟨⟨by decide, by decide, by decide, by decide, by decide⟩, k + 1, ⟨rfl, by omega, (wsucc (by omega)).symm, rfl, by omega, fun i hi => ?_⟩, by omega, by omega⟩
    have : i = 0 := by omega
    subst this; rw [hG 0 (by omega)]; exact ⟨rfl, rfl⟩
  · refine ⟨⟨by decide, by decide, by omega, by omega⟩, k + 1, ⟨by omega, (wsucc (by omega)).symm, by omega, fun i hi => ?_⟩, by omega, by omega⟩
    by_cases hi2 : i < k - q
    · simp [hi2]
    · have : i = k - q := by omega
      subst this
      simp only [hi2, decide_false, cond_false]
      rw [hG (k - q) (by omega), show q + (k - q) = k by omega]; exact ⟨rfl, rfl⟩
  · refine ⟨⟨by decide, by decide, by omega, by omega⟩, k + 1, ⟨rfl, (wsucc (by omega)).symm, rfl, fun i hi => ?_⟩, by omega, by omega⟩
    by_cases hi2 : i < k
    · simp [hi2]
    · have : i = k := by omega
      subst this
      simp only [hi2, decide_false, cond_false]
      rw [hG i (by omega), show q + i = i by omega]; exact ⟨rfl, rfl⟩
theorem ok34 : SpecOk Try.prog 34 (C34.spec d67) := okC C34 A34 [] [210, 211] Try.func34 (fun _ => by kernel_rfl) (fun _ => gok_cons ok73 (gok_cons ok74 gok_nil)) (fun N h => p34 N h.1 h.2.1 h.2.2.1 h.2.2.2) (fun _ => noI rfl rfl) _
end Go.Bal
