/- The reference: what levels prove; Proves. -/
import Derived.Test.YtonddbmhljelgaaBalLv
set_option linter.unusedVariables false
set_option linter.unusedSimpArgs false
namespace Go.Bal
open Go Go.Sym Go.Proofs
structure PvA where
  N : NetL
  lv : List Int
  grp : List Bool
  gate : Int
  skip : Int
def pvRi (a : PvA) (i : Nat) : Int := wr (gD a.lv (gD a.N.r i).to.toNat - gD a.lv (gD a.N.r i).fr.toNat)
def pvGi (a : PvA) (i : Nat) : Int := wr (gD a.lv i - (bif gD a.grp i then a.gate else 0))
def pvR (a : PvA) : Nat → Int
  | 0 => 0
  | i + 1 => bif (i : Int) != a.skip then wr (pvR a i + pullM (pvRi a i) (gD a.N.r i).sp) else pvR a i
def pvG (a : PvA) : Nat → Int
  | 0 => pvR a a.N.r.length
  | i + 1 => bif (i : Int) != wr (a.skip - 100) then wr (pvG a i + pullM (pvGi a i) (gD a.N.g i)) else pvG a i
def pvSl (a : PvA) : List (Nat × AVal) := [(1, .d (eIntsL a.lv)), (2, .d (eBoolsL a.grp)), (3, .int a.gate), (4, .int a.skip), (5, .bptr 203 0)]
def A54 (a : PvA) : Ann := { ann 84 [(84, s84)] with loops := fun id => if id = 3 then some [{ α := Nat, dflt := 0, T := fun i => ⟨pvSl a ++ [(11, .int (pvR a i)), (12, .int i)], [(203, begO a.N)]⟩, inv := fun i => i ≤ a.N.r.length, meas := fun i => a.N.r.length - i, first := [(203, 1000)] }] else if id = 8 then some [{ α := Nat, dflt := 0, T := fun i => ⟨pvSl a ++ [(11, .int (pvG a i)), (13, .int i)], [(203, begO a.N)]⟩, inv := fun i => i ≤ a.N.g.length, meas := fun i => a.N.g.length - i }] else none }
def C54 : Ctr := { α := PvA, xs := fun a => [.d (eNetL a.N), .d (eIntsL a.lv), .d (eBoolsL a.grp), .int a.gate, .int a.skip], L := fun _ => [], val := fun a => .int (pvG a a.N.g.length), keep := fun _ => [], pre := fun a => [checkL a.N = 0, a.lv.length = a.N.g.length, a.grp.length = a.N.g.length] }
def V54 (a : PvA) : Prop := fnVC Try.prog (A54 a) Try.f54 (bodyOf Try.f54) (C54.xs a) (heapOf []) (C54.val a) (C54.keep a) [] []
abbrev z54_0 (a : PvA) : Prop := a.lv.length = a.lv.length
abbrev z54_1 (a : PvA) : Prop := ∀ (i : Nat), i < a.lv.length → gD a.lv i = gD a.lv i
abbrev z54_2 (a : PvA) : Prop := a.grp.length = a.grp.length
abbrev z54_3 (a : PvA) : Prop := ∀ (i : Nat), i < a.grp.length → gD a.grp i = gD a.grp i
abbrev z54_4 (a : PvA) : Prop := a.N.g.length = a.N.g.length ∧ (∀ (i : Nat), i < a.N.g.length → (gD a.N.g i).lo = (gD a.N.g i).lo ∧ (gD a.N.g i).hi = (gD a.N.g i).hi) ∧ a.N.r.length = a.N.r.length ∧ ∀ (i : Nat), i <
 a.N.r.length → (gD a.N.r i).fr = (gD a.N.r i).fr ∧ (gD a.N.r i).to = (gD a.N.r i).to ∧ (gD a.N.r i).sp.lo = (gD a.N.r i).sp.lo ∧ (gD a.N.r i).sp.hi = (gD a.N.r i).sp.hi
abbrev z54_5 (a : Nat) (a1 : PvA) : Prop := (↑a : Int) = 0 ∧ z54_4 a1
abbrev z54_6 (a : Nat) (a1 : PvA) : Prop := (↑a : Int) < (↑a1.N.r.length : Int)
abbrev z54_7 (a : Nat) : Prop := 0 ≤ (↑a : Int)
abbrev z54_8 (a : Nat) (a1 : PvA) : Prop := z54_7 a ∧ z54_6 a a1
abbrev z54_9 (a : Nat) (a1 : Nat) (a2 : PvA) : Prop := (↑a : Int) = IntKind.i64.wrap ((↑a1 : Int) + 1) ∧ z54_4 a2
abbrev z54_10 (a : PvA) (a1 : Nat) : Nat := a.N.r.length - a1
abbrev z54_11 (a : Nat) (a1 : PvA) (a2 : Nat) : Prop := a.le a1.N.r.length ∧ z54_10 a1 a < z54_10 a1 a2
abbrev z54_12 (a : Nat) (a1 : PvA) : Prop := (↑a : Int) < (↑a1.N.g.length : Int)
abbrev z54_13 (a : Nat) (a1 : PvA) : Bool := (↑a : Int) != IntKind.i64.wrap (a1.skip - 100)
abbrev z54_14 (a : Nat) (a1 : PvA) : Prop := (z54_7 a ∧ (↑a : Int) < (↑a1.lv.length : Int)) ∧ z54_7 a ∧ z54_12 a a1
abbrev z54_15 (a : PvA) (a1 : Nat) : Nat := a.N.g.length - a1
abbrev z54_16 (a : Nat) (a1 : PvA) (a2 : Nat) : Prop := a.le a1.N.g.length ∧ z54_15 a1 a < z54_15 a1 a2
abbrev z54_17 (a : PvA) (a1 : Nat) : Prop := ∃ (a_1 : Nat), (z54_0 a ∧ z54_1 a ∧ z54_2 a ∧ z54_3 a ∧ a.gate = a.gate ∧ a.skip = a.skip ∧ pvG a a_1 = pvG a a1 ∧ z54_9 a_1 a1 a) ∧ z54_16 a_1 a a1
theorem vc54 (a : PvA) : (V54 a) = ((∃ (a_1 : Nat), (z54_0 a ∧ z54_1 a ∧ z54_2 a ∧ z54_3 a ∧ a.gate = a.gate ∧ a.skip = a.skip ∧ pvR a a_1 = 0 ∧ z54_5 a_1 a) ∧ a_1.le a.N.r.length) ∧ ∀ (a_1 : Nat), a_1.le a.N.r.length →
 bif decide (z54_6 a_1 a) then bif (↑a_1 : Int) != a.skip then (z54_8 a_1 a ∧ (0 ≤ (gD a.N.r a_1).to ∧ (gD a.N.r a_1).to < (↑a.lv.length : Int)) ∧ z54_8 a_1 a ∧ (0 ≤ (gD a.N.r a_1).fr ∧ (gD a.N.r a_1).fr < (↑a.lv.length :
 Int)) ∧ z54_8 a_1 a) ∧ ∃ (a_3 : Nat), (z54_0 a ∧ z54_1 a ∧ z54_2 a ∧ z54_3 a ∧ a.gate = a.gate ∧ a.skip = a.skip ∧ pvR a a_3 = IntKind.i64.wrap (pvR a a_1 + pullM (IntKind.i64.wrap (gD a.lv (gD a.N.r a_1).to.toNat - gD
 a.lv (gD a.N.r a_1).fr.toNat)) (gD a.N.r a_1).sp) ∧ z54_9 a_3 a_1 a) ∧ z54_11 a_3 a a_1 else ∃ (a_3 : Nat), (z54_0 a ∧ z54_1 a ∧ z54_2 a ∧ z54_3 a ∧ a.gate = a.gate ∧ a.skip = a.skip ∧ pvR a a_3 = pvR a a_1 ∧ z54_9 a_3
 a_1 a) ∧ z54_11 a_3 a a_1 else (∃ (a_3 : Nat), (z54_0 a ∧ z54_1 a ∧ z54_2 a ∧ z54_3 a ∧ a.gate = a.gate ∧ a.skip = a.skip ∧ pvG a a_3 = pvR a a_1 ∧ z54_5 a_3 a) ∧ a_3.le a.N.g.length) ∧ ∀ (a_3 : Nat), a_3.le a.N.g.length
 → bif decide (z54_12 a_3 a) then (z54_7 a_3 ∧ (↑a_3 : Int) < (↑a.grp.length : Int)) ∧ bif gD a.grp a_3 then bif z54_13 a_3 a then z54_14 a_3 a ∧ ∃ (a_5 : Nat), (z54_0 a ∧ z54_1 a ∧ z54_2 a ∧ z54_3 a ∧ a.gate = a.gate ∧
 a.skip = a.skip ∧ pvG a a_5 = IntKind.i64.wrap (pvG a a_3 + pullM (IntKind.i64.wrap (gD a.lv a_3 - a.gate)) (gD a.N.g a_3)) ∧ z54_9 a_5 a_3 a) ∧ z54_16 a_5 a a_3 else z54_17 a a_3 else bif z54_13 a_3 a then z54_14 a_3 a
 ∧ ∃ (a_5 : Nat), (z54_0 a ∧ z54_1 a ∧ z54_2 a ∧ z54_3 a ∧ a.gate = a.gate ∧ a.skip = a.skip ∧ pvG a a_5 = IntKind.i64.wrap (pvG a a_3 + pullM (IntKind.i64.wrap (gD a.lv a_3 - 0)) (gD a.N.g a_3)) ∧ z54_9 a_5 a_3 a) ∧
 z54_16 a_5 a a_3 else z54_17 a a_3 else pvG a a.N.g.length = pvG a a_3) := by kernel_rfl
def d54 : List AVal → Heap → Option (PvA × List (Nat × Nat) × List Nat)
  | [x, l, g, .d (.v (.int _ q)), .d (.v (.int _ s))], H => match dNet x H, dInts l H, dBools g H with
    | some (N, f1), some (lv, f2), some (grp, f3) => some (⟨N, lv, grp, q, s⟩, [], f1 ++ (f2 ++ f3))
    | _, _, _ => none
  | _, _ => none
theorem p54 (a : PvA) (h1 : checkL a.N = 0) (h2 : a.lv.length = a.N.g.length) (h3 : a.grp.length = a.N.g.length) : V54 a := by
  have hg := good_of h1
  have hg8 := hg.g8
  have hr14 := hg.r14
  rw [vc54]; delta z54_0 z54_1 z54_2 z54_3 z54_4 z54_5 z54_6 z54_7 z54_8 z54_9 z54_10 z54_11 z54_12 z54_13 z54_14 z54_15 z54_16 z54_17; simp only [condP, eq_self, implies_true, and_self, true_and, and_true, true_implies, forall_const, decide_eq_true_eq, decide_eq_false_iff_not, Int.toNat_natCast, dSpan_eSpan, dReach_eReach, dWay_eWay, dStep_eStep, dFar_eFar, dInt_eInt, Nat.zero_add, Int.zero_sub, Nat.le_eq, Nat.succ_eq_add_one, Nat.add_one_le_iff, Bool.not_eq_true', Bool.not_eq_false', rng_length, dSpan_mk, dReach_mk, dWay_mk, dStep_mk, dFar_mk, rng_getD]
  refine ⟨⟨0, ⟨rfl, rfl⟩, Nat.zero_le _⟩, fun i hi => ⟨fun hlt => ?_, fun hge => ⟨⟨0, ⟨?_, rfl⟩, Nat.zero_le _⟩, fun j hj => ⟨fun hlt => ⟨⟨by omega, by omega⟩, fun hb => ⟨fun hs => ⟨⟨⟨by omega, by omega⟩, by omega, by omega⟩, ⟨j + 1, ⟨?_, (wsucc (by omega)).symm⟩, by omega, by omega⟩⟩, fun hs => ⟨j + 1, ⟨?_, (wsucc (by omega)).symm⟩, by omega, by omega⟩⟩, fun hb => ⟨fun hs => ⟨⟨⟨by omega, by omega⟩, by omega, by omega⟩, ⟨j + 1, ⟨?_, (wsucc (by omega)).symm⟩, by omega, by omega⟩⟩, fun hs => ⟨j + 1, ⟨?_, (wsucc (by omega)).symm⟩, by omega, by omega⟩⟩⟩, fun hge => ?_⟩⟩⟩⟩
  · obtain ⟨_, b1, b2, _⟩ := hg.r i (by omega)
    refine ⟨fun hs => ⟨⟨⟨by omega, by omega⟩, ⟨by omega, by omega⟩, ⟨by omega, by omega⟩, ⟨by omega, by omega⟩, by omega, by omega⟩, ⟨i + 1, ⟨?_, (wsucc (by omega)).symm⟩, by omega, by omega⟩⟩, fun hs => ⟨i + 1, ⟨?_, (wsucc (by omega)).symm⟩, by omega, by omega⟩⟩
    · simp only [pvR, hs, cond_true]; rfl
    · simp only [pvR, hs, cond_false]
  · have : i = a.N.r.length := by omega
    rw [this]; rfl
  · simp only [pvG, hs, cond_true, pvGi, hb]
  · simp only [pvG, hs, cond_false]
  · simp only [pvG, hs, cond_true, pvGi, hb, cond_false]
  · simp only [pvG, hs, cond_false]
  · have : j = a.N.g.length := by omega
    rw [this]
theorem ok54 : SpecOk Try.prog 54 (C54.spec d54) := okC C54 A54 [] [] Try.func54 (fun _ => by kernel_rfl) (fun _ => gok_cons ok84 gok_nil) (fun a h => p54 a h.1 h.2.1 h.2.2) (fun _ => noI rfl rfl) _
def A23 (a : NPL) : Ann := { ann 69 [(45, C45.spec d67), (60, s60), (54, C54.spec d54)] with loops := fun id => if id = 7 then some [{ α := Nat, dflt := 0, T := fun i => ⟨[(1, .int a.price), (2, .d (eIntsL a.lv)), (3, .bptr 203 0), (9, .int i)], [(203, begO a.N)]⟩, inv := fun i => i ≤ a.lv.length ∧ checkL a.N = 0 ∧ a.lv.length = a.N.g.length ∧ ∀ j, j < i → inM (gD a.lv j) (-1) 1 = true, meas := fun i => a.lv.length - i, first := [(203, 1000)] }] else if id = 12 then some [{ α := Nat, dflt := 0, T := fun i => ⟨[(1, .int a.price), (2, .d (eIntsL a.lv)), (3, .bptr 203 0), (10, .int i)], [(203, begO a.N)]⟩, inv := fun i => i ≤ a.N.r.length ∧ checkL a.N = 0 ∧ a.lv.length = a.N.g.length ∧ (∀ j, j < a.lv.length → inM (gD a.lv j) (-1) 1 = true) ∧ ∀ j, j < i → nearM a.lv (gD a.N.r j) = true, meas := fun i => a.N.r.length - i }] else none }
def noneL (N : NetL) : List Bool := List.replicate N.g.length false
def C23 : Ctr := { α := NPL, xs := xs24, L := fun _ => [], val := fun a => .tup [.bool (decide (provE a = 0) && decide (a.price ≤ pvG ⟨a.N, a.lv, noneL a.N, 0, -1⟩ a.N.g.length)), .int (provE a)], keep := fun _ => [], pre := fun a => [a.lv.length < 4611686018427387904, a.N.g.length ≤ 1000000 ∧ a.N.r.length ≤ 1000000] }
def V23 (a : NPL) : Prop := fnVC Try.prog (A23 a) Try.f23 (bodyOf Try.f23) (C23.xs a) (heapOf []) (C23.val a) (C23.keep a) [] []
abbrev z23_0 (a : NPL) : List Span := rng a.N.g.length fun (i : Nat) => gD a.N.g i
abbrev z23_1 (a : NPL) : Nat := (z23_0 a).length
abbrev z23_2 (a : NPL) : Prop := z23_1 a = a.N.g.length
abbrev z23_3 (a : NPL) (i : Nat) : Span := gD (z23_0 a) i
abbrev z23_4 (a : NPL) : Prop := ∀ (i : Nat), i < z23_1 a → (z23_3 a i).lo = (gD a.N.g i).lo ∧ (z23_3 a i).hi = (gD a.N.g i).hi
abbrev z23_5 (a : NPL) : List Reach := rng a.N.r.length fun (i : Nat) => gD a.N.r i
abbrev z23_6 (a : NPL) : Nat := (z23_5 a).length
abbrev z23_7 (a : NPL) : Prop := z23_6 a = a.N.r.length
abbrev z23_8 (a : NPL) (i : Nat) : Reach := gD (z23_5 a) i
abbrev z23_9 (a : NPL) (i : Nat) : Span := (z23_8 a i).sp
abbrev z23_10 (a : NPL) : Prop := ∀ (i : Nat), i < z23_6 a → (z23_8 a i).fr = (gD a.N.r i).fr ∧ (z23_8 a i).to = (gD a.N.r i).to ∧ (z23_9 a i).lo = (gD a.N.r i).sp.lo ∧ (z23_9 a i).hi = (gD a.N.r i).sp.hi
abbrev z23_11 (a : NPL) : NetL := NetL.mk (z23_0 a) (z23_5 a)
abbrev z23_12 (a : NPL) : Int := checkL (z23_11 a)
abbrev z23_13 (a : NPL) : Bool := decide (provE a = (0 : Int)) && decide (a.price ≤ pvG (PvA.mk a.N a.lv (noneL a.N) (0 : Int) (-1 : Int)) a.N.g.length)
abbrev z23_14 (a : NPL) : Prop := z23_13 a = false
abbrev z23_15 (a : NPL) : Prop := z23_14 a ∧ provE a = (2 : Int)
abbrev z23_16 (a : NPL) : Prop := a.lv.length = a.lv.length
abbrev z23_17 (a : NPL) : Prop := ∀ (i : Nat), i < a.lv.length → gD a.lv i = gD a.lv i
abbrev z23_18 (a : NPL) : Prop := a.N.g.length = a.N.g.length ∧ (∀ (i : Nat), i < a.N.g.length → (gD a.N.g i).lo = (gD a.N.g i).lo ∧ (gD a.N.g i).hi = (gD a.N.g i).hi) ∧ a.N.r.length = a.N.r.length ∧ ∀ (i : Nat), i <
 a.N.r.length → (gD a.N.r i).fr = (gD a.N.r i).fr ∧ (gD a.N.r i).to = (gD a.N.r i).to ∧ (gD a.N.r i).sp.lo = (gD a.N.r i).sp.lo ∧ (gD a.N.r i).sp.hi = (gD a.N.r i).sp.hi
abbrev z23_19 (a : NPL) (a1 : Nat) : Prop := a.price = a.price ∧ z23_16 a ∧ z23_17 a ∧ (↑a1 : Int) = (0 : Int) ∧ z23_18 a
abbrev z23_20 (a : NPL) : Prop := checkL a.N = (0 : Int)
abbrev z23_21 (a : NPL) : Prop := a.lv.length = a.N.g.length
abbrev z23_22 (a : NPL) (j : Nat) : Bool := inM (gD a.lv j) (-1 : Int) (1 : Int)
abbrev z23_23 (a : NPL) (j : Nat) : Prop := z23_22 a j = true
abbrev z23_24 (a : Nat) (a1 : NPL) : Prop := a ≤ a1.lv.length ∧ z23_20 a1 ∧ z23_21 a1 ∧ ∀ (j : Nat), j < a → z23_23 a1 j
abbrev z23_25 (a : Nat) (a1 : NPL) : Prop := (↑a : Int) < (↑a1.lv.length : Int)
abbrev z23_26 (a : Nat) : Prop := (0 : Int) ≤ (↑a : Int)
abbrev z23_27 (a : NPL) (a1 : Nat) (a2 : Nat) : Prop := a.price = a.price ∧ z23_16 a ∧ z23_17 a ∧ (↑a1 : Int) = IntKind.i64.wrap ((↑a2 : Int) + (1 : Int)) ∧ z23_18 a
abbrev z23_28 (a : NPL) (a1 : Nat) : Nat := a.lv.length - a1
abbrev z23_29 (a : Nat) (a1 : NPL) : Prop := a ≤ a1.N.r.length ∧ z23_20 a1 ∧ z23_21 a1 ∧ (∀ (j : Nat), j < a1.lv.length → z23_23 a1 j) ∧ ∀ (j : Nat), j < a → nearM a1.lv (gD a1.N.r j) = true
abbrev z23_30 (a : Nat) (a1 : NPL) : Prop := (↑a : Int) < (↑a1.N.r.length : Int)
abbrev z23_31 (a : Nat) (a1 : NPL) : Prop := z23_26 a ∧ z23_30 a a1
abbrev z23_32 (a : NPL) (a1 : Nat) : Nat := a.N.r.length - a1
abbrev z23_33 (a : NPL) : List Int := rng a.lv.length fun (i : Nat) => gD a.lv i
abbrev z23_34 (a : NPL) : Nat := (z23_33 a).length
abbrev z23_35 (a : NPL) : List Bool := rng a.N.g.length fun (i : Nat) => false
abbrev z23_36 (a : NPL) : Nat := (z23_35 a).length
theorem vc23 (a : NPL) : (V23 a) = ((z23_2 a ∧ z23_4 a ∧ z23_7 a ∧ z23_10 a ∧ z23_1 a ≤ (1000000 : Nat) ∧ z23_6 a ≤ (1000000 : Nat)) ∧ bif z23_12 a != (0 : Int) then z23_14 a ∧ provE a = z23_12 a else bif (↑a.lv.length :
 Int) != (↑a.N.g.length : Int) then z23_15 a else (∃ (a_1 : Nat), z23_19 a a_1 ∧ z23_24 a_1 a) ∧ ∀ (a_1 : Nat), z23_24 a_1 a → bif decide (z23_25 a_1 a) then (z23_26 a_1 ∧ z23_25 a_1 a) ∧ bif !z23_22 a a_1 then z23_15 a
 else ∃ (a_3 : Nat), z23_27 a a_3 a_1 ∧ z23_24 a_3 a ∧ z23_28 a a_3 < z23_28 a a_1 else (∃ (a_3 : Nat), z23_19 a a_3 ∧ z23_29 a_3 a) ∧ ∀ (a_3 : Nat), z23_29 a_3 a → bif decide (z23_30 a_3 a) then (z23_31 a_3 a ∧ ((0 :
 Int) ≤ (gD a.N.r a_3).to ∧ (gD a.N.r a_3).to < (↑a.lv.length : Int)) ∧ z23_31 a_3 a ∧ (0 : Int) ≤ (gD a.N.r a_3).fr ∧ (gD a.N.r a_3).fr < (↑a.lv.length : Int)) ∧ bif !inM (IntKind.i64.wrap (gD a.lv (gD a.N.r
 a_3).to.toNat - gD a.lv (gD a.N.r a_3).fr.toNat)) (-1 : Int) (1 : Int) then z23_15 a else ∃ (a_5 : Nat), z23_27 a a_5 a_3 ∧ z23_29 a_5 a ∧ z23_32 a a_5 < z23_32 a a_3 else (((0 : Int) ≤ (↑a.N.g.length : Int) ∧
 (↑a.N.g.length : Int) = (↑a.N.g.length : Int) ∧ (↑a.N.g.length : Int) ≤ (9223372036854775807 : Int) ∧ (↑(1 : Nat) : Int) * (↑a.N.g.length : Int) ≤ (281474976710656 : Int)) ∧ z23_2 a ∧ z23_4 a ∧ z23_7 a ∧ z23_10 a ∧
 z23_34 a = a.lv.length ∧ (∀ (i : Nat), i < z23_34 a → gD (z23_33 a) i = gD a.lv i) ∧ z23_36 a = a.N.g.length ∧ (0 : Nat) + a.N.g.length ≤ a.N.g.length ∧ (∀ (j : Nat), j < z23_36 a → gD (z23_35 a) j = false) ∧ (0 : Int) =
 Int.ofNat (0 : Nat) ∧ (-1 : Int) = Int.negSucc (0 : Nat) ∧ z23_12 a = (0 : Int) ∧ z23_34 a = z23_1 a ∧ z23_36 a = z23_1 a) ∧ z23_13 a = decide (pvG (PvA.mk (z23_11 a) (z23_33 a) (z23_35 a) (0 : Int) (-1 : Int)) (z23_1 a)
 ≥ a.price) ∧ provE a = (0 : Int)) := by kernel_rfl
theorem rng_false (n : Nat) : rng n (fun _ => false) = List.replicate n false := by
  apply gD_ext
  · simp
  · intro i hi
    simp only [rng_length] at hi
    rw [rng_get _ _ _ hi, gD_replicate, if_pos hi]
theorem p23 (a : NPL) (h1 : a.lv.length < 4611686018427387904) (h2 : a.N.g.length ≤ 1000000 ∧ a.N.r.length ≤ 1000000) : V23 a := by
  have et : NetL.mk a.N.g a.N.r = a.N := rfl
  have en : rng a.N.g.length (fun _ => false) = noneL a.N := rng_false _
  have e2 : checkL a.N = 0 → levOk a.N a.lv = false → provE a = 2 := fun h h' => by unfold provE; rw [if_pos h, h']; rfl
  have f2 : ∀ x y : Bool, (provE a = 2) → ((decide (provE a = 0) && decide (a.price ≤ pvG ⟨a.N, a.lv, noneL a.N, 0, -1⟩ a.N.g.length)) = false ∧ provE a = 2) := fun _ _ h => ⟨by rw [h]; rfl, h⟩
  rw [vc23]; delta z23_0 z23_1 z23_2 z23_3 z23_4 z23_5 z23_6 z23_7 z23_8 z23_9 z23_10 z23_11 z23_12 z23_13 z23_14 z23_15 z23_16 z23_17 z23_18 z23_19 z23_20 z23_21 z23_22 z23_23 z23_24 z23_25 z23_26 z23_27 z23_28 z23_29 z23_30 z23_31 z23_32 z23_33 z23_34 z23_35 z23_36; simp only [condP, eq_self, implies_true, and_self, true_and, and_true, true_implies, forall_const, decide_eq_true_eq, decide_eq_false_iff_not, Int.toNat_natCast, dSpan_eSpan, dReach_eReach, dWay_eWay, dStep_eStep, dFar_eFar, dInt_eInt, Nat.zero_add, Int.zero_sub, Nat.le_eq, Nat.succ_eq_add_one, Nat.add_one_le_iff, Bool.not_eq_true', Bool.not_eq_false', rng_length, dSpan_mk, dReach_mk, dWay_mk, dStep_mk, dFar_mk, rng_getD, et, en]
  refine ⟨h2, fun hc => ?_, fun hc => ?_⟩
  · have hc : checkL a.N ≠ 0 := by simpa using hc
    have : provE a = checkL a.N := by unfold provE; rw [if_neg hc]
    rw [this, decide_eq_false hc]; exact ⟨rfl, rfl⟩
  · have hc : checkL a.N = 0 := by simpa using hc
    have hg := good_of hc
    refine ⟨fun hl => ?_, fun hl => ?_⟩
    · have hl : ¬ a.lv.length = a.N.g.length := by
        intro h; rw [h] at hl; simp at hl
      refine f2 true true (e2 hc ?_)
      cases h : levOk a.N a.lv with
      | false => rfl
      | true => exact absurd (levOk_iff.1 h).1 hl
    · have hl : a.lv.length = a.N.g.length := by
        have : ((a.lv.length : Int)) = a.N.g.length := by simpa using hl
        omega
      refine ⟨⟨0, rfl, Nat.zero_le _, hc, hl, fun j hj => absurd hj (Nat.not_lt_zero _)⟩, fun i ⟨q1, _, _, q2⟩ => ⟨fun hlt => ⟨⟨by omega, by omega⟩, fun hb => ?_, fun hb => ⟨i + 1, (wsucc (by omega)).symm, ⟨by omega, hc, hl, fun j hj => ?_⟩, by omega⟩⟩, fun hge => ⟨⟨0, rfl, Nat.zero_le _, hc, hl, fun j hj => q2 j (by omega), fun j hj => absurd hj (Nat.not_lt_zero _)⟩, fun k ⟨w1, _, _, w2, w3⟩ => ⟨fun hlt => ?_, fun hge => ?_⟩⟩⟩⟩
      · refine f2 true true (e2 hc ?_)
        cases h : levOk a.N a.lv with
        | false => rfl
        | true =>
          have := (levOk_iff.1 h).2.1 i (by omega)
          rw [inM_iff.2 this] at hb; cases hb
      · by_cases h : j = i
        · subst h; exact hb
        · exact q2 j (by omega)
      · obtain ⟨_, b1, b2, _⟩ := hg.r k (by omega)
        refine ⟨⟨⟨by omega, by omega⟩, ⟨by omega, by omega⟩, ⟨by omega, by omega⟩, by omega, by omega⟩, fun hb => ?_, fun hb => ⟨k + 1, (wsucc (by omega)).symm, ⟨by omega, hc, hl, w2, fun j hj => ?_⟩, by omega⟩⟩
        · refine f2 true true (e2 hc ?_)
          cases h : levOk a.N a.lv with
          | false => rfl
          | true =>
            have := (levOk_iff.1 h).2.2 k (by omega)
            have hb : inM (riseM a.lv (gD a.N.r k)) (-1) 1 = false := hb
            rw [inM_iff.2 this] at hb; cases hb
        · by_cases h : j = k
          · subst h; exact hb
          · exact w3 j (by omega)
      · have hv : levOk a.N a.lv = true := levOk_iff.2 ⟨hl, fun j hj => inM_iff.1 (w2 j hj), fun j hj => inM_iff.1 (w3 j (by omega))⟩
        have hp : provE a = 0 := by unfold provE; rw [if_pos hc, hv]; rfl
        have hg8 := hg.g8
        have nl : (noneL a.N).length = a.N.g.length := by simp [noneL]
        refine ⟨⟨⟨by omega, by omega, by omega⟩, nl, Nat.le_refl _, fun j hj => ?_, rfl, rfl, hc, hl, nl⟩, ?_, hp⟩
        · rw [nl] at hj; simp [noneL, gD_replicate, hj]
        · rw [hp]; rfl
theorem ok23 : SpecOk Try.prog 23 (C23.spec dP) := okC C23 A23 [] [] Try.func23 (fun _ => by kernel_rfl) (fun _ => gok_cons ok45 (gok_cons ok60 (gok_cons ok54 gok_nil))) (fun a h => p23 a h.1 h.2) (fun _ => noI rfl rfl) _
end Go.Bal
