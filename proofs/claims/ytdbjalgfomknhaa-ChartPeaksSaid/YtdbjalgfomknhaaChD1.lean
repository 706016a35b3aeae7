/- Package chart: times that notes allow. -/
import Derived.Test.YtdbjalgfomknhaaChC
set_option linter.unusedVariables false
set_option linter.unusedSimpArgs false
namespace Go.Bal
open Go Go.Sym Go.Proofs
def dU2 : List AVal -> Option I2
 | [.d (.v (.int .u64 a)), .d (.v (.int .u64 b))] => some ⟨a, b⟩
 | _ => none
def xU2 (x : I2) : List AVal := [.d (.v (.int .u64 x.a)), .d (.v (.int .u64 x.b))]
def V_mul64 (x : I2) : Prop := fnVC Try.prog (ann 51 []) F_bMul64 (bodyOf F_bMul64) (xU2 x) (heapOf []) (.tup [.d (.v (.int .u64 0)), .d (.v (.int .u64 x.b))]) [] [] []
theorem vc_mul64 (x : I2) : (V_mul64 x) = (((0 : Int) <= (32 : Int) /\ (32 : Int) <= (↑(64 : Nat) : Int)) /\ ((0 : Int) <= (32 : Int) /\ (32 : Int) <= (↑(64 : Nat) : Int)) /\ ((0 : Int) <= (32 : Int) /\ (32 : Int) <= (↑(64 : Nat) :
 Int)) /\ ((0 : Int) <= (32 : Int) /\ (32 : Int) <= (↑(64 : Nat) : Int)) /\ ((0 : Int) <= (32 : Int) /\ (32 : Int) <= (↑(64 : Nat) : Int)) /\ (0 : Int) = IntKind.u64.wrap (IntKind.u64.wrap (IntKind.u64.wrap (x.a / (2 : Int) ^
 Int.toNat (32 : Int) * (x.b / (2 : Int) ^ Int.toNat (32 : Int))) + IntKind.u64.wrap (IntKind.u64.wrap (x.a / (2 : Int) ^ Int.toNat (32 : Int) * andI IntKind.u64 x.b (4294967295 : Int)) + IntKind.u64.wrap (andI
 IntKind.u64 x.a (4294967295 : Int) * andI IntKind.u64 x.b (4294967295 : Int)) / (2 : Int) ^ Int.toNat (32 : Int)) / (2 : Int) ^ Int.toNat (32 : Int)) + IntKind.u64.wrap (andI IntKind.u64 (IntKind.u64.wrap
 (IntKind.u64.wrap (x.a / (2 : Int) ^ Int.toNat (32 : Int) * andI IntKind.u64 x.b (4294967295 : Int)) + IntKind.u64.wrap (andI IntKind.u64 x.a (4294967295 : Int) * andI IntKind.u64 x.b (4294967295 : Int)) / (2 : Int) ^
 Int.toNat (32 : Int))) (4294967295 : Int) + IntKind.u64.wrap (andI IntKind.u64 x.a (4294967295 : Int) * (x.b / (2 : Int) ^ Int.toNat (32 : Int)))) / (2 : Int) ^ Int.toNat (32 : Int)) /\ x.b = IntKind.u64.wrap (x.a * x.b))
 := by kernel_rfl
def s_mul64 := pD dU2 (λ x => .tup [.d (.v (.int .u64 0)), .d (.v (.int .u64 x.b))]) (λ x => [x.a = 1 /\ 0 <= x.b /\ x.b <= 40])
def V_mul (x : I2) : Prop := fnVC Try.prog (ann 30 [(n_bMul64, s_mul64)]) F_bMul (bodyOf F_bMul) (xU2 x) (heapOf []) (.tup [.d (.v (.int .u64 0)), .d (.v (.int .u64 x.b))]) [] [] []
theorem vc_mul (x : I2) : (V_mul x) = ((x.a = (1 : Int) /\ (0 : Int) <= x.b /\ x.b <= (40 : Int)) /\ Int.ofNat (0 : Nat) = Int.ofNat (0 : Nat) /\ x.b = x.b) := by kernel_rfl
theorem hU2 (xs : List AVal) (a : I2) (h : dU2 xs = some a) : xs = xU2 a := by
 unfold dU2 at h; split at h <;> cases h; rfl
theorem u64w {n : Int} (h0 : 0 <= n) (h1 : n < 18446744073709551616) : IntKind.u64.wrap n = n := by
 simp only [IntKind.wrap, IntKind.bits, IntKind.signed]
 have : n % (2 ^ 64 : Int) = n := Int.emod_eq_of_lt h0 (by omega)
 simp only [this]
 simp
theorem ok_mul64 : SpecOk Try.prog n_bMul64 s_mul64 := pD_ok xU2 hU2 λ x h => fnt (A := ann 51 []) (ren := []) (fz := []) fn_bMul64 (by kernel_rfl) gok_nil (by
 show V_mul64 x; rw [vc_mul64]
 obtain ⟨a, b⟩ := x
 obtain ⟨h1, h2, h3⟩ : a = 1 /\ 0 <= b /\ b <= 40 := h
 subst h1
 obtain ⟨n, rfl⟩ := Int.eq_ofNat_of_zero_le h2
 have hn : n < 41 := by omega
 clear h2 h3
 revert hn; revert n; decide +kernel)
theorem ok_mul : SpecOk Try.prog n_bMul s_mul64 := pD_ok xU2 hU2 λ x h => fnt (A := ann 30 [(n_bMul64, s_mul64)]) (ren := []) (fz := []) fn_bMul (by kernel_rfl) (gok_cons ok_mul64 gok_nil) (by
 show V_mul x; rw [vc_mul]; exact ⟨h, rfl, rfl⟩)
def sng (s : Span) : List Span := [s]
def zSp : Span := ⟨0, 0⟩
structure SpN where
 s : Span
 n : Nat
def C_rep : Ctr := { α := SpN, xs := λ a => [.d (eSpans (sng a.s)), .int a.n], val := λ a => .own 0 2 0 a.n, keep := λ a => [(0, .live (.row 2 a.n λ _ => eSpan a.s))], pre := λ a => [1 <= a.n /\ a.n <= 40] }
def d_rep : List AVal -> Heap -> Option (SpN × List (Nat × Nat) × List Nat)
 | [y, .d n], H => match dSpans y H with
  | some (l, f) => some (⟨gD l 0, (dInt n).toNat⟩, [], f)
  | none => none
 | _, _ => none
def rp8 (a : SpN) : Shape := { α := Nat, dflt := 0, T := λ k => ⟨[(7, .own 201 2 0 a.n), (8, .int k)], [(201, .live (.row 2 a.n λ i => eSpan (bif decide (i < k) then a.s else zSp)))]⟩, inv := λ k => 1 <= k /\ k <= a.n, meas := λ k => a.n - k, first := [(201, 7032)] }
def A_rep (a : SpN) : Ann := { ann 48 [(n_bMul, s_mul64)] with loops := λ id => if id = 8 then some [rp8 a] else none }
def V_rep (a : SpN) : Prop := fnVC Try.prog (A_rep a) F_repS (bodyOf F_repS) (C_rep.xs a) (heapOf []) (C_rep.val a) (C_rep.keep a) [(0, 201)] []
abbrev z_rep_0 : Prop := (2 : Nat) = (2 : Nat)
abbrev z_rep_1 (a : SpN) : Nat := (IntKind.i64.wrap (IntKind.u64.wrap (↑a.n : Int))).toNat
abbrev z_rep_2 : Prop := (0 : Nat) = (0 : Nat)
abbrev z_rep_3 (a : SpN) : Prop := a.n = z_rep_1 a
abbrev z_rep_4 (a : SpN) : Nat := min (sng a.s).length (z_rep_1 a)
abbrev z_rep_5 (i : Nat) (a : Nat) (a1 : SpN) : Span := bif decide (i < a) then a1.s else zSp
abbrev z_rep_6 (i : Nat) (a : Nat) (a1 : SpN) : Int := (z_rep_5 i a a1).lo
abbrev z_rep_7 (i : Nat) (a : SpN) : Bool := decide (i < z_rep_4 a)
abbrev z_rep_8 (i : Nat) (a : Nat) (a1 : SpN) : Int := (z_rep_5 i a a1).hi
abbrev z_rep_9 (a : Nat) (a1 : SpN) : Prop := (1 : Nat) <= a /\ a <= a1.n
abbrev z_rep_10 (a : Nat) (a1 : SpN) : Prop := (↑a : Int) < (↑a1.n : Int)
abbrev z_rep_11 (a : Nat) : Prop := (0 : Int) <= (↑a : Int)
abbrev z_rep_12 (a : Nat) (a1 : SpN) : Prop := (↑a : Int) <= (↑a1.n : Int)
abbrev z_rep_13 (a : Nat) : Nat := a - (0 : Nat)
abbrev z_rep_14 (a : Nat) : Nat := (0 : Nat) + a
abbrev z_rep_15 (a : SpN) (a1 : Nat) : Nat := a.n - a1
abbrev z_rep_16 (a : Nat) (a1 : SpN) : Nat := min (a - Int.toNat (0 : Int)) (z_rep_15 a1 a)
abbrev z_rep_17 (a : Nat) (i : Nat) (a1 : SpN) : Bool := decide (z_rep_14 a <= i) && decide (i < z_rep_14 a + z_rep_16 a a1)
abbrev z_rep_18 (i : Nat) (a : Nat) (a1 : SpN) : Span := bif decide ((0 : Nat) + Int.toNat (0 : Int) + (i - z_rep_14 a) < a) then a1.s else zSp
theorem vc_rep (a : SpN) : (V_rep a) = ((IntKind.u64.wrap (↑(sng a.s).length : Int) = (1 : Int) /\ (0 : Int) <= IntKind.u64.wrap (↑a.n : Int) /\ IntKind.u64.wrap (↑a.n : Int) <= (40 : Int)) /\ bif bif decide ((0 : Int) > (0 :
 Int)) then true else decide (IntKind.u64.wrap (↑a.n : Int) > (9223372036854775807 : Int)) then False else ((0 : Int) <= IntKind.i64.wrap (IntKind.u64.wrap (↑a.n : Int)) /\ IntKind.i64.wrap (IntKind.u64.wrap (↑a.n : Int)) =
 IntKind.i64.wrap (IntKind.u64.wrap (↑a.n : Int)) /\ IntKind.i64.wrap (IntKind.u64.wrap (↑a.n : Int)) <= (9223372036854775807 : Int) /\ (↑(16 : Nat) : Int) * IntKind.i64.wrap (IntKind.u64.wrap (↑a.n : Int)) <=
 (281474976710656 : Int)) /\ ((True /\ ((0 : Nat) < (sng a.s).length -> z_rep_0)) /\ (z_rep_1 a).le (z_rep_1 a)) /\ (∃ (a_1 : Nat), (z_rep_2 /\ z_rep_3 a /\ (↑a_1 : Int) = (↑(z_rep_4 a) : Int) /\ z_rep_3 a /\ ∀ (i : Nat), i < a.n
 -> (z_rep_6 i a_1 a = bif z_rep_7 i a then (gD (sng a.s) i).lo else (0 : Int)) /\ z_rep_8 i a_1 a = bif z_rep_7 i a then (gD (sng a.s) i).hi else (0 : Int)) /\ z_rep_9 a_1 a) /\ ∀ (a_1 : Nat), z_rep_9 a_1 a -> bif decide
 (z_rep_10 a_1 a) then ((z_rep_11 a_1 /\ z_rep_12 a_1 a /\ (↑a.n : Int) <= (↑a.n : Int) /\ ((↑a_1 : Int) = (0 : Int) ∨ z_rep_10 a_1 a)) /\ ((0 : Int) <= (0 : Int) /\ z_rep_11 a_1 /\ z_rep_12 a_1 a /\ ((0 : Int) = (0 : Int) ∨ (0 :
 Int) < (↑a_1 : Int))) /\ ((0 : Nat) + z_rep_13 a_1 <= a.n /\ ((0 : Nat) < z_rep_13 a_1 -> z_rep_0)) /\ (z_rep_14 a_1 + z_rep_15 a a_1).le a.n) /\ ∃ (a_3 : Nat), (z_rep_2 /\ a.n = a.n /\ (↑a_3 : Int) = IntKind.i64.wrap ((↑a_1 :
 Int) + (↑(z_rep_16 a_1 a) : Int)) /\ a.n = a.n /\ ∀ (i : Nat), i < a.n -> (z_rep_6 i a_3 a = bif z_rep_17 a_1 i a then (z_rep_18 i a_1 a).lo else z_rep_6 i a_1 a) /\ z_rep_8 i a_3 a = bif z_rep_17 a_1 i a then (z_rep_18 i
 a_1 a).hi else z_rep_8 i a_1 a) /\ z_rep_9 a_3 a /\ z_rep_15 a a_3 < z_rep_15 a a_1 else z_rep_2 /\ a.n = a.n /\ a.n = a.n /\ ∀ (i : Nat), i < a.n -> a.s.lo = z_rep_6 i a_1 a /\ a.s.hi = z_rep_8 i a_1 a) := by kernel_rfl
theorem p_rep (a : SpN) (h : 1 <= a.n /\ a.n <= 40) : V_rep a := by
 obtain ⟨h1, h2⟩ := h
 have e1 : IntKind.u64.wrap (a.n : Int) = a.n := u64w (by omega) (by omega)
 have e2 : IntKind.i64.wrap (a.n : Int) = a.n := w64 (by omega) (by omega)
 have e3 : (sng a.s).length = 1 := rfl
 rw [vc_rep]; delta z_rep_0 z_rep_1 z_rep_2 z_rep_3 z_rep_4 z_rep_5 z_rep_6 z_rep_7 z_rep_8 z_rep_9 z_rep_10 z_rep_11 z_rep_12 z_rep_13 z_rep_14 z_rep_15 z_rep_16 z_rep_17 z_rep_18; simp only [condP, eq_self, implies_true, and_self, true_and, and_true, true_implies, forall_const, decide_eq_true_eq, decide_eq_false_iff_not, Int.toNat_natCast, dSpan_eSpan, dInt_eInt, dMk_e, dNt_e, dPr_e, Nat.zero_add, Int.zero_sub, Nat.le_eq, Nat.succ_eq_add_one, Nat.add_one_le_iff, Bool.not_eq_true', Bool.not_eq_false', rng_length, dSpan_mk, rng_getD, e1, e2, e3, Nat.sub_zero, Int.toNat_zero]
 refine ⟨⟨rfl, by omega, by omega⟩, λ h => ?_, λ _ => ⟨⟨by omega, by omega, by omega⟩, by omega, ⟨1, ⟨by omega, λ i hi => ?_⟩, by omega, by omega⟩, λ k hk => ⟨λ hlt => ⟨⟨by omega, by omega, by omega⟩, min (2 * k) a.n, ⟨?_, λ i hi => ?_⟩, by omega, by omega⟩, λ hge i hi => ?_⟩⟩⟩
 ·simp at h; omega
 ·by_cases h : i < 1
  ·obtain rfl : i = 0 := by omega
   have : 0 < min 1 a.n := by omega
   simp [this]; exact ⟨rfl, rfl⟩
  ·have : ¬ i < min 1 a.n := by omega
   simp [h, this, zSp]
 ·rw [w64 (by omega) (by omega)]; omega
 ·have e : (decide (k <= i) && decide (i < k + min k (a.n - k))) = (decide (k <= i) && decide (i < min (2 * k) a.n)) := by
   congr 1; rw [decide_eq_decide]; omega
  rw [e]
  by_cases q1 : k <= i
  ·by_cases q2 : i < min (2 * k) a.n
   ·have q3 : i - k < k := by omega
    simp [q1, q2, q3]
   ·have q4 : ¬ i < k := by omega
    simp [q1, q2, q4]
  ·have q2 : i < min (2 * k) a.n := by omega
   have q3 : i < k := by omega
   simp [q1, q2, q3]
 ·have : i < k := by omega
  simp [this]
theorem ok_rep : SpecOk Try.prog n_repS (C_rep.spec d_rep) := okC C_rep A_rep [(0, 201)] [] fn_repS (λ _ => by kernel_rfl) (λ _ => gok_cons ok_mul gok_nil) (λ a h => p_rep a h) (λ _ => noI rfl rfl) _
def dSs1 : List AVal -> Heap -> Option (List Span × List (Nat × Nat) × List Nat)
 | [y], H => match dSpans y H with
  | some (l, f) => some (l, [], f)
  | none => none
 | _, _ => none
def C_clo : Ctr := { α := List Span, xs := λ l => [.d (eSpans l)], val := λ l => .own 0 2 0 l.length, keep := λ l => [(0, .live (rowS l))], pre := λ l => [0 < l.length /\ l.length < 1073741824] }
def A_clo : Ann := { ann 8 [] with mt := λ id => id == 3 }
def V_clo (l : List Span) : Prop := fnVC Try.prog A_clo F_cloneS (bodyOf F_cloneS) (C_clo.xs l) (heapOf []) (C_clo.val l) (C_clo.keep l) [(0, 4032)] []
theorem vc_clo (l : List Span) : (V_clo l) = ((Nat.succ 0).le l.length /\ ((0 = 0 /\ (0 < 0 -> 2 = 2)) /\ (True /\ (0 < l.length -> 2 = 2)) /\ (false = true -> 0 < l.length) /\ 0 + l.length <= 9223372036854775807 /\ (0 + l.length)
 * 16 <= 140737488355328) /\ 0 = 0 /\ l.length = 0 + l.length /\ l.length = 0 + l.length /\ ∀ (i : Nat), i < l.length -> (gD l i).lo = (gD l (i - 0)).lo /\ (gD l i).hi = (gD l (i - 0)).hi) := by kernel_rfl
theorem ok_clo : SpecOk Try.prog n_cloneS (C_clo.spec dSs1) := okC C_clo (λ _ => A_clo) [(0, 4032)] [] fn_cloneS (λ _ => by kernel_rfl) (λ _ => gok_nil) (λ (l : List Span) h => by
 show V_clo l; rw [vc_clo]; simp only [condP, eq_self, implies_true, and_self, true_and, and_true, true_implies, forall_const, decide_eq_true_eq, decide_eq_false_iff_not, Int.toNat_natCast, dSpan_eSpan, dInt_eInt, dMk_e, dNt_e, dPr_e, Nat.zero_add, Int.zero_sub, Nat.le_eq, Nat.succ_eq_add_one, Nat.add_one_le_iff, Bool.not_eq_true', Bool.not_eq_false', rng_length, dSpan_mk, rng_getD]
 obtain ⟨h1, h2⟩ : 0 < l.length /\ l.length < 1073741824 := h
 exact ⟨h1, ⟨λ _ => h1, by omega, by omega⟩, λ _ _ => ⟨rfl, rfl⟩⟩) (λ _ => noI rfl rfl) _
def farS : Span := ⟨-100000000, 100000000⟩
def notM (c : Cht) (j : Int) : Span := bif hasN c.ns j then (ntOf c.ns j).t else farS
def notL (c : Cht) : List Span := rng c.ms.length λ i => notM c (i : Int)
structure Sn where
 seen : Int -> Bool
 deriving Inhabited
def left (c : Cht) (seen : Int -> Bool) : Nat -> Nat
 | 0 => 0
 | k + 1 => left c seen k + bif (hasN c.ns (k : Int) && !seen (k : Int)) then 1 else 0
def nt3 (w : Dk) : Shape := { α := Sn, dflt := default, T := λ s => ⟨[(3, .own 202 2 0 w.c.ms.length), (19, .bptr 203 0)], dkK w ++ [(202, .live (.row 2 w.c.ms.length λ i => eSpan (bif s.seen (i : Int) then (ntOf w.c.ns (i : Int)).t else farS))), (203, .live (.miter 101 (hasN w.c.ns) w.st s.seen none))]⟩, inv := λ s => ∀ j, s.seen j = true -> hasN w.c.ns j = true, meas := λ s => left w.c s.seen w.c.ms.length, first := [(202, 2128), (203, 3064)] }
def nsIn (c : Cht) : Prop := ∀ j, hasN c.ns j = true -> 0 <= j /\ j < c.ms.length
def C_not : Ctr := { ro := [100, 101], α := Dk, xs := λ _ => [.bptr 100 0], L := λ w => dkL w, val := λ w => .d (eSpans (notL w.c)), keep := λ w => dkK w, pre := λ w => [1 <= w.c.ms.length /\ w.c.ms.length <= 40 /\ nsIn w.c] }
def A_not (w : Dk) : Ann := { ann 31 [(n_repS, C_rep.spec d_rep)] with E := [100, 101], md := λ id => if id = 2 then some (λ k => if k = 4 then 5 else 0) else if id = 3 then some (λ k => if k = 0 then 6 else 0) else if id = 4 then some (λ k => if k = 0 then 7 else 0) else none, loops := λ id => if id = 3 then some [nt3 w] else none }
def V_not (w : Dk) : Prop := fnVC Try.prog (A_not w) F_noted (bodyOf F_noted) (C_not.xs w) (heapOf (C_not.L w)) (C_not.val w) (C_not.keep w) [] [202]
abbrev z_not_0 : Span := gD (rng 1 λ (i : Nat) => Span.mk (-100000000) 100000000) 0
abbrev z_not_1 (j : Nat) : Span := gD (sng z_not_0) j
abbrev z_not_2 : Prop := 0 = 0
abbrev z_not_3 (w : Dk) : Prop := w.c.ms.length = w.c.ms.length
abbrev z_not_4 (w : Dk) : Prop := w.c.p.lo = w.c.p.lo
abbrev z_not_5 (w : Dk) : Prop := w.c.p.hi = w.c.p.hi
abbrev z_not_6 (w : Dk) : Prop := ∀ (i : Nat), i < w.c.ms.length -> (gD w.c.ms i).pl = (gD w.c.ms i).pl /\ (gD w.c.ms i).ht = (gD w.c.ms i).ht
abbrev z_not_7 (w : Dk) : Prop := w.c.ns.length = w.c.ns.length
abbrev z_not_8 (w : Dk) : Prop := ∀ (i : Nat), i < w.c.ns.length -> (gD w.c.ns i).mi = (gD w.c.ns i).mi /\ (gD w.c.ns i).t.lo = (gD w.c.ns i).t.lo /\ (gD w.c.ns i).t.hi = (gD w.c.ns i).t.hi /\ (gD w.c.ns i).s.lo = (gD w.c.ns
 i).s.lo /\ (gD w.c.ns i).s.hi = (gD w.c.ns i).s.hi
abbrev z_not_9 (w : Dk) : Prop := ∀ (i : Nat), i < 40 -> w.sp i = w.sp i
abbrev z_not_10 (w : Dk) : Prop := ∀ (n : Int), hasN w.c.ns n = hasN w.c.ns n
abbrev z_not_11 (w : Dk) : Prop := ∀ (n : Int), w.st n = w.st n
abbrev z_not_12 (w : Dk) : Prop := ∀ (n : Int), (ntOf w.c.ns n).mi = (ntOf w.c.ns n).mi /\ (ntOf w.c.ns n).t.lo = (ntOf w.c.ns n).t.lo /\ (ntOf w.c.ns n).t.hi = (ntOf w.c.ns n).t.hi /\ (ntOf w.c.ns n).s.lo = (ntOf w.c.ns
 n).s.lo /\ (ntOf w.c.ns n).s.hi = (ntOf w.c.ns n).s.hi
abbrev z_not_13 (a : Sn) (i : Nat) (w : Dk) : Span := bif a.seen (↑i : Int) then (ntOf w.c.ns (↑i : Int)).t else farS
abbrev z_not_14 (a : Sn) (i : Nat) (w : Dk) : Int := (z_not_13 a i w).lo
abbrev z_not_15 (a : Sn) (i : Nat) (w : Dk) : Int := (z_not_13 a i w).hi
abbrev z_not_16 (a : Sn) (w : Dk) : Prop := ∀ (j : Int), a.seen j = true -> hasN w.c.ns j = true
abbrev z_not_17 (j : Nat) : Nat := 0 + j
abbrev z_not_18 (a : Sn) (j : Nat) (w : Dk) : Span := bif a.seen (↑(z_not_17 j) : Int) then (ntOf w.c.ns (↑(z_not_17 j) : Int)).t else farS
abbrev z_not_19 (k : Int) : Nat := 0 + k.toNat
abbrev z_not_20 (i : Nat) (k : Int) : Bool := decide (i = z_not_19 k)
abbrev z_not_21 (w : Dk) (a : Sn) : Nat := left w.c a.seen w.c.ms.length
theorem vc_not (w : Dk) : (V_not w) = ((1 = 1 /\ 1 <= 1 /\ (∀ (j : Nat), j < 1 -> (z_not_1 j).lo = -100000000 /\ (z_not_1 j).hi = 100000000) /\ (↑w.c.ms.length : Int) = (↑w.c.ms.length : Int) /\ 1 <= w.c.ms.length /\
 w.c.ms.length <= 40) /\ (∃ (a : Sn), (z_not_2 /\ z_not_3 w /\ z_not_4 w /\ z_not_5 w /\ w.c.base = w.c.base /\ w.c.scale = w.c.scale /\ w.c.off = w.c.off /\ z_not_3 w /\ z_not_6 w /\ z_not_7 w /\ z_not_8 w /\ z_not_9 w /\ zNt = zNt /\
 z_not_10 w /\ z_not_11 w /\ z_not_12 w /\ z_not_3 w /\ (∀ (i : Nat), i < w.c.ms.length -> z_not_14 a i w = z_not_0.lo /\ z_not_15 a i w = z_not_0.hi) /\ z_not_10 w /\ z_not_11 w /\ ∀ (n : Int), a.seen n = false) /\ z_not_16 a w) /\
 ∀ (a : Sn), z_not_16 a w -> z_not_10 w /\ z_not_11 w /\ ((∀ (n : Int), hasN w.c.ns n = true -> a.seen n = true) -> (notL w.c).length = w.c.ms.length /\ 0 + w.c.ms.length <= w.c.ms.length /\ (∀ (j : Nat), j < (notL w.c).length ->
 (gD (notL w.c) j).lo = (z_not_18 a j w).lo /\ (gD (notL w.c) j).hi = (z_not_18 a j w).hi) /\ z_not_4 w /\ z_not_5 w /\ w.c.base = w.c.base /\ w.c.scale = w.c.scale /\ w.c.off = w.c.off /\ z_not_3 w /\ z_not_6 w /\ z_not_7 w /\
 z_not_8 w /\ z_not_9 w /\ zNt = zNt /\ z_not_10 w /\ z_not_11 w /\ z_not_12 w) /\ ∀ (k : Int), hasN w.c.ns k = true -> a.seen k = false -> z_not_10 w /\ z_not_11 w /\ ((0 <= k /\ k < (↑w.c.ms.length : Int)) /\ (z_not_19 k).succ.le
 w.c.ms.length) /\ ∃ (a_4 : Sn), (z_not_2 /\ z_not_3 w /\ z_not_4 w /\ z_not_5 w /\ w.c.base = w.c.base /\ w.c.scale = w.c.scale /\ w.c.off = w.c.off /\ z_not_3 w /\ z_not_6 w /\ z_not_7 w /\ z_not_8 w /\ z_not_9 w /\ zNt = zNt /\
 z_not_10 w /\ z_not_11 w /\ z_not_12 w /\ z_not_3 w /\ (∀ (i : Nat), i < w.c.ms.length -> (z_not_14 a_4 i w = bif z_not_20 i k then (ntOf w.c.ns k).t.lo else z_not_14 a i w) /\ z_not_15 a_4 i w = bif z_not_20 i k then (ntOf
 w.c.ns k).t.hi else z_not_15 a i w) /\ z_not_10 w /\ z_not_11 w /\ ∀ (n : Int), a_4.seen n = (decide (n = k) || a.seen n)) /\ z_not_16 a_4 w /\ z_not_21 w a_4 < z_not_21 w a) := by kernel_rfl
theorem left_le (c : Cht) (s t : Int -> Bool) (h : ∀ j, s j = true -> t j = true) : ∀ k, left c t k <= left c s k
 | 0 => Nat.le_refl _
 | k + 1 => by
  have ih := left_le c s t h k
  have hk := h (k : Int)
  simp only [left]
  cases hN : hasN c.ns (k : Int) <;> cases h1 : s (k : Int) <;> cases h2 : t (k : Int) <;> simp_all <;> omega
theorem left_lt (c : Cht) (s t : Int -> Bool) (h : ∀ j, s j = true -> t j = true) {j : Nat} (h0 : hasN c.ns (j : Int) = true) (h1 : s (j : Int) = false) (h2 : t (j : Int) = true) : ∀ k, j < k -> left c t k < left c s k
 | 0, hj => by omega
 | k + 1, hj => by
  by_cases e : j = k
  ·subst e
   have := left_le c s t h j
   simp only [left, h0, h1, h2]
   simp; omega
  ·have ih := left_lt c s t h h0 h1 h2 k (by omega)
   have hk := h (k : Int)
   simp only [left]
   cases hN : hasN c.ns (k : Int) <;> cases h3 : s (k : Int) <;> cases h4 : t (k : Int) <;> simp_all <;> omega
theorem p_not (w : Dk) (h : 1 <= w.c.ms.length /\ w.c.ms.length <= 40 /\ nsIn w.c) : V_not w := by
 obtain ⟨h1, h2, h3⟩ := h
 rw [vc_not]; delta z_not_0 z_not_1 z_not_2 z_not_3 z_not_4 z_not_5 z_not_6 z_not_7 z_not_8 z_not_9 z_not_10 z_not_11 z_not_12 z_not_13 z_not_14 z_not_15 z_not_16 z_not_17 z_not_18 z_not_19 z_not_20 z_not_21; simp only [condP, eq_self, implies_true, and_self, true_and, and_true, true_implies, forall_const, decide_eq_true_eq, decide_eq_false_iff_not, Int.toNat_natCast, dSpan_eSpan, dInt_eInt, dMk_e, dNt_e, dPr_e, Nat.zero_add, Int.zero_sub, Nat.le_eq, Nat.succ_eq_add_one, Nat.add_one_le_iff, Bool.not_eq_true', Bool.not_eq_false', rng_length, dSpan_mk, rng_getD]
 refine ⟨⟨by omega, λ j hj => ?_, by omega, h2⟩, ⟨⟨λ _ => false⟩, ⟨λ i hi => ⟨rfl, rfl⟩, λ _ => rfl⟩, λ j hj => by cases hj⟩, λ s hs => ⟨λ hall => ⟨rng_length _ _, Nat.le_refl _, λ j hj => ?_⟩, λ k hk hsk => ⟨⟨h3 k hk, by have := h3 k hk; omega⟩, ⟨λ n => decide (n = k) || s.seen n⟩, ⟨λ i hi => ?_, λ _ => rfl⟩, λ j hj => ?_, ?_⟩⟩⟩
 ·obtain rfl : j = 0 := by omega
  exact ⟨rfl, rfl⟩
 ·have hj : j < w.c.ms.length := by simpa [notL] using hj
  have e : s.seen (j : Int) = hasN w.c.ns (j : Int) := by
   cases hq : hasN w.c.ns (j : Int) with
   | true => exact hall _ hq
   | false =>
    cases hq2 : s.seen (j : Int) with
    | false => rfl
    | true => rw [hs _ hq2] at hq; cases hq
  unfold notL; rw [rng_get _ _ _ hj, e]; exact ⟨rfl, rfl⟩
 ·have hk0 := h3 k hk
  have e : decide ((i : Int) = k) = decide (i = k.toNat) := by
   rw [Bool.eq_iff_iff, decide_eq_true_eq, decide_eq_true_eq]; omega
  simp only [e]
  by_cases hi2 : i = k.toNat
  ·have : (i : Int) = k := by omega
   rw [this]; simp [hi2]
  ·simp [hi2]
 ·simp only [Bool.or_eq_true, decide_eq_true_eq] at hj
  rcases hj with rfl | hj
  ·exact hk
  ·exact hs j hj
 ·have hk0 := h3 k hk
  have e : ((k.toNat : Nat) : Int) = k := by omega
  exact left_lt w.c _ _ (λ j hj => by simp [hj]) (j := k.toNat) (by rw [e]; exact hk) (by rw [e]; exact hsk) (by rw [e]; simp) _ (by omega)
theorem ok_not : SpecOk Try.prog n_noted (C_not.spec dDk1) := okC C_not A_not [] [202] fn_noted (λ _ => by kernel_rfl) (λ _ => gok_cons ok_rep gok_nil) (λ w h => p_not w h) (λ _ => noI rfl rfl) _
end Go.Bal
