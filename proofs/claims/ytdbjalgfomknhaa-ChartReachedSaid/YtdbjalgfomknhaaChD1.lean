/- Package chart: times that notes allow. -/
import Derived.Test.YtdbjalgfomknhaaChC
set_option linter.unusedVariables false
set_option linter.unusedSimpArgs false
namespace Go.Bal
open Go Go.Sym Go.Proofs
def dU2 : List AVal -> Option I2
 | [.d (.v (.int .u64 a)), .d (.v (.int .u64 b))] => some ⟨a, b⟩
 | _ => none
def xU2 (x : I2) : List AVal := [.d (.v (.int .u64 x.a)), .d (.v (.int .u64 x.b))]
def CZE (x : I2) : Prop := BA Try.prog (ann 51 []) BUA (AL BUA) (xU2 x) (AG []) (.tup [.d (.v (.int .u64 0)), .d (.v (.int .u64 x.b))]) [] [] []
theorem DHJ (x : I2) : (CZE x) = (((0 : Int) <= (32 : Int) /\ (32 : Int) <= (↑(64 : Nat) : Int)) /\ ((0 : Int) <= (32 : Int) /\ (32 : Int) <= (↑(64 : Nat) : Int)) /\ ((0 : Int) <= (32 : Int) /\ (32 : Int) <= (↑(64 : Nat) :
 Int)) /\ ((0 : Int) <= (32 : Int) /\ (32 : Int) <= (↑(64 : Nat) : Int)) /\ ((0 : Int) <= (32 : Int) /\ (32 : Int) <= (↑(64 : Nat) : Int)) /\ (0 : Int) = IntKind.u64.wrap (IntKind.u64.wrap (IntKind.u64.wrap (x.a / (2 : Int) ^
 Int.toNat (32 : Int) * (x.b / (2 : Int) ^ Int.toNat (32 : Int))) + IntKind.u64.wrap (IntKind.u64.wrap (x.a / (2 : Int) ^ Int.toNat (32 : Int) * andI IntKind.u64 x.b (4294967295 : Int)) + IntKind.u64.wrap (andI
 IntKind.u64 x.a (4294967295 : Int) * andI IntKind.u64 x.b (4294967295 : Int)) / (2 : Int) ^ Int.toNat (32 : Int)) / (2 : Int) ^ Int.toNat (32 : Int)) + IntKind.u64.wrap (andI IntKind.u64 (IntKind.u64.wrap
 (IntKind.u64.wrap (x.a / (2 : Int) ^ Int.toNat (32 : Int) * andI IntKind.u64 x.b (4294967295 : Int)) + IntKind.u64.wrap (andI IntKind.u64 x.a (4294967295 : Int) * andI IntKind.u64 x.b (4294967295 : Int)) / (2 : Int) ^
 Int.toNat (32 : Int))) (4294967295 : Int) + IntKind.u64.wrap (andI IntKind.u64 x.a (4294967295 : Int) * (x.b / (2 : Int) ^ Int.toNat (32 : Int)))) / (2 : Int) ^ Int.toNat (32 : Int)) /\ x.b = IntKind.u64.wrap (x.a * x.b))
 := by kernel_rfl
def AHL := pD dU2 (λ x => .tup [.d (.v (.int .u64 0)), .d (.v (.int .u64 x.b))]) (λ x => [x.a = 1 /\ 0 <= x.b /\ x.b <= 40])
def DMH (x : I2) : Prop := BA Try.prog (ann 30 [(AGV, AHL)]) CVJ (AL CVJ) (xU2 x) (AG []) (.tup [.d (.v (.int .u64 0)), .d (.v (.int .u64 x.b))]) [] [] []
theorem DQY (x : I2) : (DMH x) = ((x.a = (1 : Int) /\ (0 : Int) <= x.b /\ x.b <= (40 : Int)) /\ Int.ofNat (0 : Nat) = Int.ofNat (0 : Nat) /\ x.b = x.b) := by kernel_rfl
theorem hU2 (xs : List AVal) (a : I2) (h : dU2 xs = some a) : xs = xU2 a := by
 unfold dU2 at h; split at h <;> cases h; rfl
theorem u64w {n : Int} (h0 : 0 <= n) (h1 : n < 18446744073709551616) : IntKind.u64.wrap n = n := by
 simp only [IntKind.wrap, IntKind.bits, IntKind.signed]
 have : n % (2 ^ 64 : Int) = n := Int.emod_eq_of_lt h0 (by omega)
 simp only [this]
 simp
theorem DGK : AN Try.prog AGV AHL := XL xU2 hU2 λ x h => PJ (A := ann 51 []) (ren := []) (fz := []) CZX (by kernel_rfl) AI (by
 show CZE x; rw [DHJ]
 obtain ⟨a, b⟩ := x
 obtain ⟨h1, h2, h3⟩ : a = 1 /\ 0 <= b /\ b <= 40 := h
 subst h1
 obtain ⟨n, rfl⟩ := Int.eq_ofNat_of_zero_le h2
 have hn : n < 41 := by omega
 clear h2 h3
 revert hn; revert n; decide +kernel)
theorem DRA : AN Try.prog CTJ AHL := XL xU2 hU2 λ x h => PJ (A := ann 30 [(AGV, AHL)]) (ren := []) (fz := []) DJG (by kernel_rfl) (AD DGK AI) (by
 show DMH x; rw [DQY]; exact ⟨h, rfl, rfl⟩)
def sng (s : Span) : List Span := [s]
def zSp : Span := ⟨0, 0⟩
structure SpN where
 s : Span
 n : Nat
def C_rep : Ctr := { α := SpN, xs := λ a => [.d (AT (sng a.s)), .int a.n], val := λ a => .own 0 2 0 a.n, keep := λ a => [(0, .live (.row 2 a.n λ _ => CH a.s))], pre := λ a => [1 <= a.n /\ a.n <= 40] }
def DNU : List AVal -> Heap -> Option (SpN × List (Nat × Nat) × List Nat)
 | [y, .d n], H => match Db y H with
  | some (l, f) => some (⟨gD l 0, (BV n).toNat⟩, [], f)
  | none => none
 | _, _ => none
def rp8 (a : SpN) : Shape := { α := Nat, dflt := 0, T := λ k => ⟨[(7, .own 201 2 0 a.n), (8, .int k)], [(201, .live (.row 2 a.n λ i => CH (bif decide (i < k) then a.s else zSp)))]⟩, inv := λ k => 1 <= k /\ k <= a.n, meas := λ k => a.n - k, first := [(201, 7032)] }
def DML (a : SpN) : Ann := { ann 48 [(CTJ, AHL)] with loops := λ id => if id = 8 then some [rp8 a] else none }
def DMR (a : SpN) : Prop := BA Try.prog (DML a) CVR (AL CVR) (C_rep.xs a) (AG []) (C_rep.val a) (C_rep.keep a) [(0, 201)] []
abbrev CNX : Prop := (2 : Nat) = (2 : Nat)
abbrev ABF (a : SpN) : Nat := (IntKind.i64.wrap (IntKind.u64.wrap (↑a.n : Int))).toNat
abbrev BIW : Prop := (0 : Nat) = (0 : Nat)
abbrev CGU (a : SpN) : Prop := a.n = ABF a
abbrev CHF (a : SpN) : Nat := min (sng a.s).length (ABF a)
abbrev CHX (i : Nat) (a : Nat) (a1 : SpN) : Span := bif decide (i < a) then a1.s else zSp
abbrev ABL (i : Nat) (a : Nat) (a1 : SpN) : Int := (CHX i a a1).lo
abbrev CFZ (i : Nat) (a : SpN) : Bool := decide (i < CHF a)
abbrev AAT (i : Nat) (a : Nat) (a1 : SpN) : Int := (CHX i a a1).hi
abbrev BKH (a : Nat) (a1 : SpN) : Prop := (1 : Nat) <= a /\ a <= a1.n
abbrev BWW (a : Nat) (a1 : SpN) : Prop := (↑a : Int) < (↑a1.n : Int)
abbrev BWN (a : Nat) : Prop := (0 : Int) <= (↑a : Int)
abbrev BMR (a : Nat) (a1 : SpN) : Prop := (↑a : Int) <= (↑a1.n : Int)
abbrev BNK (a : Nat) : Nat := a - (0 : Nat)
abbrev Vf (a : Nat) : Nat := (0 : Nat) + a
abbrev bQ (a : SpN) (a1 : Nat) : Nat := a.n - a1
abbrev BZY (a : Nat) (a1 : SpN) : Nat := min (a - Int.toNat (0 : Int)) (bQ a1 a)
abbrev BTQ (a : Nat) (i : Nat) (a1 : SpN) : Bool := decide (Vf a <= i) && decide (i < Vf a + BZY a a1)
abbrev CCN (i : Nat) (a : Nat) (a1 : SpN) : Span := bif decide ((0 : Nat) + Int.toNat (0 : Int) + (i - Vf a) < a) then a1.s else zSp
theorem DSH (a : SpN) : (DMR a) = ((IntKind.u64.wrap (↑(sng a.s).length : Int) = (1 : Int) /\ (0 : Int) <= IntKind.u64.wrap (↑a.n : Int) /\ IntKind.u64.wrap (↑a.n : Int) <= (40 : Int)) /\ bif bif decide ((0 : Int) > (0 :
 Int)) then true else decide (IntKind.u64.wrap (↑a.n : Int) > (9223372036854775807 : Int)) then False else ((0 : Int) <= IntKind.i64.wrap (IntKind.u64.wrap (↑a.n : Int)) /\ IntKind.i64.wrap (IntKind.u64.wrap (↑a.n : Int)) =
 IntKind.i64.wrap (IntKind.u64.wrap (↑a.n : Int)) /\ IntKind.i64.wrap (IntKind.u64.wrap (↑a.n : Int)) <= (9223372036854775807 : Int) /\ (↑(16 : Nat) : Int) * IntKind.i64.wrap (IntKind.u64.wrap (↑a.n : Int)) <=
 (281474976710656 : Int)) /\ ((True /\ ((0 : Nat) < (sng a.s).length -> CNX)) /\ (ABF a).le (ABF a)) /\ (∃ (a_1 : Nat), (BIW /\ CGU a /\ (↑a_1 : Int) = (↑(CHF a) : Int) /\ CGU a /\ ∀ (i : Nat), i < a.n
 -> (ABL i a_1 a = bif CFZ i a then (gD (sng a.s) i).lo else (0 : Int)) /\ AAT i a_1 a = bif CFZ i a then (gD (sng a.s) i).hi else (0 : Int)) /\ BKH a_1 a) /\ ∀ (a_1 : Nat), BKH a_1 a -> bif decide
 (BWW a_1 a) then ((BWN a_1 /\ BMR a_1 a /\ (↑a.n : Int) <= (↑a.n : Int) /\ ((↑a_1 : Int) = (0 : Int) ∨ BWW a_1 a)) /\ ((0 : Int) <= (0 : Int) /\ BWN a_1 /\ BMR a_1 a /\ ((0 : Int) = (0 : Int) ∨ (0 :
 Int) < (↑a_1 : Int))) /\ ((0 : Nat) + BNK a_1 <= a.n /\ ((0 : Nat) < BNK a_1 -> CNX)) /\ (Vf a_1 + bQ a a_1).le a.n) /\ ∃ (a_3 : Nat), (BIW /\ a.n = a.n /\ (↑a_3 : Int) = IntKind.i64.wrap ((↑a_1 :
 Int) + (↑(BZY a_1 a) : Int)) /\ a.n = a.n /\ ∀ (i : Nat), i < a.n -> (ABL i a_3 a = bif BTQ a_1 i a then (CCN i a_1 a).lo else ABL i a_1 a) /\ AAT i a_3 a = bif BTQ a_1 i a then (CCN i
 a_1 a).hi else AAT i a_1 a) /\ BKH a_3 a /\ bQ a a_3 < bQ a a_1 else BIW /\ a.n = a.n /\ a.n = a.n /\ ∀ (i : Nat), i < a.n -> a.s.lo = ABL i a_1 a /\ a.s.hi = AAT i a_1 a) := by kernel_rfl
theorem DTN (a : SpN) (h : 1 <= a.n /\ a.n <= 40) : DMR a := by
 obtain ⟨h1, h2⟩ := h
 have e1 : IntKind.u64.wrap (a.n : Int) = a.n := u64w (by omega) (by omega)
 have e2 : IntKind.i64.wrap (a.n : Int) = a.n := EN (by omega) (by omega)
 have e3 : (sng a.s).length = 1 := rfl
 rw [DSH]; delta CNX ABF BIW CGU CHF CHX ABL CFZ AAT BKH BWW BWN BMR BNK Vf bQ BZY BTQ CCN; simp only [AU, eq_self, implies_true, and_self, true_and, and_true, true_implies, forall_const, decide_eq_true_eq, decide_eq_false_iff_not, Int.toNat_natCast, dSpan_eSpan, dInt_eInt, AY, AW, AX, Nat.zero_add, Int.zero_sub, Nat.le_eq, Nat.succ_eq_add_one, Nat.add_one_le_iff, Bool.not_eq_true', Bool.not_eq_false', rng_length, AK, AJ, e1, e2, e3, Nat.sub_zero, Int.toNat_zero]
 refine ⟨⟨rfl, by omega, by omega⟩, λ h => ?_, λ _ => ⟨⟨by omega, by omega, by omega⟩, by omega, ⟨1, ⟨by omega, λ i hi => ?_⟩, by omega, by omega⟩, λ k hk => ⟨λ hlt => ⟨⟨by omega, by omega, by omega⟩, min (2 * k) a.n, ⟨?_, λ i hi => ?_⟩, by omega, by omega⟩, λ hge i hi => ?_⟩⟩⟩
 ·simp at h; omega
 ·by_cases h : i < 1
  ·obtain rfl : i = 0 := by omega
   have : 0 < min 1 a.n := by omega
   simp [this]; exact ⟨rfl, rfl⟩
  ·have : ¬ i < min 1 a.n := by omega
   simp [h, this, zSp]
 ·rw [EN (by omega) (by omega)]; omega
 ·have e : (decide (k <= i) && decide (i < k + min k (a.n - k))) = (decide (k <= i) && decide (i < min (2 * k) a.n)) := by
   congr 1; rw [decide_eq_decide]; omega
  rw [e]
  by_cases q1 : k <= i
  ·by_cases q2 : i < min (2 * k) a.n
   ·have q3 : i - k < k := by omega
    simp [q1, q2, q3]
   ·have q4 : ¬ i < k := by omega
    simp [q1, q2, q4]
  ·have q2 : i < min (2 * k) a.n := by omega
   have q3 : i < k := by omega
   simp [q1, q2, q3]
 ·have : i < k := by omega
  simp [this]
theorem DQT : AN Try.prog CVX (C_rep.spec DNU) := MB C_rep DML [(0, 201)] [] DKW (λ _ => by kernel_rfl) (λ _ => AD DRA AI) (λ a h => DTN a h) (λ _ => OS rfl rfl) _
def dSs1 : List AVal -> Heap -> Option (List Span × List (Nat × Nat) × List Nat)
 | [y], H => match Db y H with
  | some (l, f) => some (l, [], f)
  | none => none
 | _, _ => none
def C_clo : Ctr := { α := List Span, xs := λ l => [.d (AT l)], val := λ l => .own 0 2 0 l.length, keep := λ l => [(0, .live (rowS l))], pre := λ l => [0 < l.length /\ l.length < 1073741824] }
def DOZ : Ann := { ann 8 [] with mt := λ id => id == 3 }
def DOT (l : List Span) : Prop := BA Try.prog DOZ BRM (AL BRM) (C_clo.xs l) (AG []) (C_clo.val l) (C_clo.keep l) [(0, 4032)] []
theorem DRT (l : List Span) : (DOT l) = ((Nat.succ 0).le l.length /\ ((0 = 0 /\ (0 < 0 -> 2 = 2)) /\ (True /\ (0 < l.length -> 2 = 2)) /\ (false = true -> 0 < l.length) /\ 0 + l.length <= 9223372036854775807 /\ (0 + l.length)
 * 16 <= 140737488355328) /\ 0 = 0 /\ l.length = 0 + l.length /\ l.length = 0 + l.length /\ ∀ (i : Nat), i < l.length -> (gD l i).lo = (gD l (i - 0)).lo /\ (gD l i).hi = (gD l (i - 0)).hi) := by kernel_rfl
theorem CVO : AN Try.prog AIA (C_clo.spec dSs1) := MB C_clo (λ _ => DOZ) [(0, 4032)] [] DAT (λ _ => by kernel_rfl) (λ _ => AI) (λ (l : List Span) h => by
 show DOT l; rw [DRT]; simp only [AU, eq_self, implies_true, and_self, true_and, and_true, true_implies, forall_const, decide_eq_true_eq, decide_eq_false_iff_not, Int.toNat_natCast, dSpan_eSpan, dInt_eInt, AY, AW, AX, Nat.zero_add, Int.zero_sub, Nat.le_eq, Nat.succ_eq_add_one, Nat.add_one_le_iff, Bool.not_eq_true', Bool.not_eq_false', rng_length, AK, AJ]
 obtain ⟨h1, h2⟩ : 0 < l.length /\ l.length < 1073741824 := h
 exact ⟨h1, ⟨λ _ => h1, by omega, by omega⟩, λ _ _ => ⟨rfl, rfl⟩⟩) (λ _ => OS rfl rfl) _
def farS : Span := ⟨-100000000, 100000000⟩
def notM (c : Cht) (j : Int) : Span := bif hasN c.ns j then (ntOf c.ns j).t else farS
def DQ (c : Cht) : List Span := AF c.ms.length λ i => notM c (i : Int)
structure Sn where
 seen : Int -> Bool
 deriving Inhabited
def left (c : Cht) (seen : Int -> Bool) : Nat -> Nat
 | 0 => 0
 | k + 1 => left c seen k + bif (hasN c.ns (k : Int) && !seen (k : Int)) then 1 else 0
def nt3 (w : Dk) : Shape := { α := Sn, dflt := default, T := λ s => ⟨[(3, .own 202 2 0 w.c.ms.length), (19, .bptr 203 0)], dkK w ++ [(202, .live (.row 2 w.c.ms.length λ i => CH (bif s.seen (i : Int) then (ntOf w.c.ns (i : Int)).t else farS))), (203, .live (.miter 101 (hasN w.c.ns) w.st s.seen none))]⟩, inv := λ s => ∀ j, s.seen j = true -> hasN w.c.ns j = true, meas := λ s => left w.c s.seen w.c.ms.length, first := [(202, 2128), (203, 3064)] }
def nsIn (c : Cht) : Prop := ∀ j, hasN c.ns j = true -> 0 <= j /\ j < c.ms.length
def C_not : Ctr := { ro := [100, 101], α := Dk, xs := λ _ => [.bptr 100 0], L := λ w => dkL w, val := λ w => .d (AT (DQ w.c)), keep := λ w => dkK w, pre := λ w => [1 <= w.c.ms.length /\ w.c.ms.length <= 40 /\ nsIn w.c] }
def DOC (w : Dk) : Ann := { ann 31 [(CVX, C_rep.spec DNU)] with E := [100, 101], md := λ id => if id = 2 then some (λ k => if k = 4 then 5 else 0) else if id = 3 then some (λ k => if k = 0 then 6 else 0) else if id = 4 then some (λ k => if k = 0 then 7 else 0) else none, loops := λ id => if id = 3 then some [nt3 w] else none }
def DOM (w : Dk) : Prop := BA Try.prog (DOC w) CEU (AL CEU) (C_not.xs w) (AG (C_not.L w)) (C_not.val w) (C_not.keep w) [] [202]
abbrev z_not_0 : Span := gD (AF 1 λ (i : Nat) => Span.mk (-100000000) 100000000) 0
abbrev CHH (j : Nat) : Span := gD (sng z_not_0) j
abbrev CGQ : Prop := 0 = 0
abbrev ZA (w : Dk) : Prop := w.c.ms.length = w.c.ms.length
abbrev BJF (w : Dk) : Prop := w.c.p.lo = w.c.p.lo
abbrev BLV (w : Dk) : Prop := w.c.p.hi = w.c.p.hi
abbrev BLS (w : Dk) : Prop := ∀ (i : Nat), i < w.c.ms.length -> (gD w.c.ms i).pl = (gD w.c.ms i).pl /\ (gD w.c.ms i).ht = (gD w.c.ms i).ht
abbrev BIS (w : Dk) : Prop := w.c.ns.length = w.c.ns.length
abbrev BKE (w : Dk) : Prop := ∀ (i : Nat), i < w.c.ns.length -> (gD w.c.ns i).mi = (gD w.c.ns i).mi /\ (gD w.c.ns i).t.lo = (gD w.c.ns i).t.lo /\ (gD w.c.ns i).t.hi = (gD w.c.ns i).t.hi /\ (gD w.c.ns i).s.lo = (gD w.c.ns
 i).s.lo /\ (gD w.c.ns i).s.hi = (gD w.c.ns i).s.hi
abbrev BJZ (w : Dk) : Prop := ∀ (i : Nat), i < 40 -> w.sp i = w.sp i
abbrev QO (w : Dk) : Prop := ∀ (n : Int), hasN w.c.ns n = hasN w.c.ns n
abbrev QB (w : Dk) : Prop := ∀ (n : Int), w.st n = w.st n
abbrev AJF (w : Dk) : Prop := ∀ (n : Int), (ntOf w.c.ns n).mi = (ntOf w.c.ns n).mi /\ (ntOf w.c.ns n).t.lo = (ntOf w.c.ns n).t.lo /\ (ntOf w.c.ns n).t.hi = (ntOf w.c.ns n).t.hi /\ (ntOf w.c.ns n).s.lo = (ntOf w.c.ns
 n).s.lo /\ (ntOf w.c.ns n).s.hi = (ntOf w.c.ns n).s.hi
abbrev BMG (a : Sn) (i : Nat) (w : Dk) : Span := bif a.seen (↑i : Int) then (ntOf w.c.ns (↑i : Int)).t else farS
abbrev ABK (a : Sn) (i : Nat) (w : Dk) : Int := (BMG a i w).lo
abbrev AHF (a : Sn) (i : Nat) (w : Dk) : Int := (BMG a i w).hi
abbrev ADC (a : Sn) (w : Dk) : Prop := ∀ (j : Int), a.seen j = true -> hasN w.c.ns j = true
abbrev BZJ (j : Nat) : Nat := 0 + j
abbrev BML (a : Sn) (j : Nat) (w : Dk) : Span := bif a.seen (↑(BZJ j) : Int) then (ntOf w.c.ns (↑(BZJ j) : Int)).t else farS
abbrev BNP (k : Int) : Nat := 0 + k.toNat
abbrev BVO (i : Nat) (k : Int) : Bool := decide (i = BNP k)
abbrev BQF (w : Dk) (a : Sn) : Nat := left w.c a.seen w.c.ms.length
theorem DQS (w : Dk) : (DOM w) = ((1 = 1 /\ 1 <= 1 /\ (∀ (j : Nat), j < 1 -> (CHH j).lo = -100000000 /\ (CHH j).hi = 100000000) /\ (↑w.c.ms.length : Int) = (↑w.c.ms.length : Int) /\ 1 <= w.c.ms.length /\
 w.c.ms.length <= 40) /\ (∃ (a : Sn), (CGQ /\ ZA w /\ BJF w /\ BLV w /\ w.c.base = w.c.base /\ w.c.scale = w.c.scale /\ w.c.off = w.c.off /\ ZA w /\ BLS w /\ BIS w /\ BKE w /\ BJZ w /\ AO = AO /\
 QO w /\ QB w /\ AJF w /\ ZA w /\ (∀ (i : Nat), i < w.c.ms.length -> ABK a i w = z_not_0.lo /\ AHF a i w = z_not_0.hi) /\ QO w /\ QB w /\ ∀ (n : Int), a.seen n = false) /\ ADC a w) /\
 ∀ (a : Sn), ADC a w -> QO w /\ QB w /\ ((∀ (n : Int), hasN w.c.ns n = true -> a.seen n = true) -> (DQ w.c).length = w.c.ms.length /\ 0 + w.c.ms.length <= w.c.ms.length /\ (∀ (j : Nat), j < (DQ w.c).length ->
 (gD (DQ w.c) j).lo = (BML a j w).lo /\ (gD (DQ w.c) j).hi = (BML a j w).hi) /\ BJF w /\ BLV w /\ w.c.base = w.c.base /\ w.c.scale = w.c.scale /\ w.c.off = w.c.off /\ ZA w /\ BLS w /\ BIS w /\
 BKE w /\ BJZ w /\ AO = AO /\ QO w /\ QB w /\ AJF w) /\ ∀ (k : Int), hasN w.c.ns k = true -> a.seen k = false -> QO w /\ QB w /\ ((0 <= k /\ k < (↑w.c.ms.length : Int)) /\ (BNP k).succ.le
 w.c.ms.length) /\ ∃ (a_4 : Sn), (CGQ /\ ZA w /\ BJF w /\ BLV w /\ w.c.base = w.c.base /\ w.c.scale = w.c.scale /\ w.c.off = w.c.off /\ ZA w /\ BLS w /\ BIS w /\ BKE w /\ BJZ w /\ AO = AO /\
 QO w /\ QB w /\ AJF w /\ ZA w /\ (∀ (i : Nat), i < w.c.ms.length -> (ABK a_4 i w = bif BVO i k then (ntOf w.c.ns k).t.lo else ABK a i w) /\ AHF a_4 i w = bif BVO i k then (ntOf
 w.c.ns k).t.hi else AHF a i w) /\ QO w /\ QB w /\ ∀ (n : Int), a_4.seen n = (decide (n = k) || a.seen n)) /\ ADC a_4 w /\ BQF w a_4 < BQF w a) := by kernel_rfl
theorem CZG (c : Cht) (s t : Int -> Bool) (h : ∀ j, s j = true -> t j = true) : ∀ k, left c t k <= left c s k
 | 0 => Nat.le_refl _
 | k + 1 => by
  have ih := CZG c s t h k
  have hk := h (k : Int)
  simp only [left]
  cases hN : hasN c.ns (k : Int) <;> cases h1 : s (k : Int) <;> cases h2 : t (k : Int) <;> simp_all <;> omega
theorem CZD (c : Cht) (s t : Int -> Bool) (h : ∀ j, s j = true -> t j = true) {j : Nat} (h0 : hasN c.ns (j : Int) = true) (h1 : s (j : Int) = false) (h2 : t (j : Int) = true) : ∀ k, j < k -> left c t k < left c s k
 | 0, hj => by omega
 | k + 1, hj => by
  by_cases e : j = k
  ·subst e
   have := CZG c s t h j
   simp only [left, h0, h1, h2]
   simp; omega
  ·have ih := CZD c s t h h0 h1 h2 k (by omega)
   have hk := h (k : Int)
   simp only [left]
   cases hN : hasN c.ns (k : Int) <;> cases h3 : s (k : Int) <;> cases h4 : t (k : Int) <;> simp_all <;> omega
theorem DSI (w : Dk) (h : 1 <= w.c.ms.length /\ w.c.ms.length <= 40 /\ nsIn w.c) : DOM w := by
 obtain ⟨h1, h2, h3⟩ := h
 rw [DQS]; delta z_not_0 CHH CGQ ZA BJF BLV BLS BIS BKE BJZ QO QB AJF BMG ABK AHF ADC BZJ BML BNP BVO BQF; simp only [AU, eq_self, implies_true, and_self, true_and, and_true, true_implies, forall_const, decide_eq_true_eq, decide_eq_false_iff_not, Int.toNat_natCast, dSpan_eSpan, dInt_eInt, AY, AW, AX, Nat.zero_add, Int.zero_sub, Nat.le_eq, Nat.succ_eq_add_one, Nat.add_one_le_iff, Bool.not_eq_true', Bool.not_eq_false', rng_length, AK, AJ]
 refine ⟨⟨by omega, λ j hj => ?_, by omega, h2⟩, ⟨⟨λ _ => false⟩, ⟨λ i hi => ⟨rfl, rfl⟩, λ _ => rfl⟩, λ j hj => by cases hj⟩, λ s hs => ⟨λ hall => ⟨rng_length _ _, Nat.le_refl _, λ j hj => ?_⟩, λ k hk hsk => ⟨⟨h3 k hk, by have := h3 k hk; omega⟩, ⟨λ n => decide (n = k) || s.seen n⟩, ⟨λ i hi => ?_, λ _ => rfl⟩, λ j hj => ?_, ?_⟩⟩⟩
 ·obtain rfl : j = 0 := by omega
  exact ⟨rfl, rfl⟩
 ·have hj : j < w.c.ms.length := by simpa [DQ] using hj
  have e : s.seen (j : Int) = hasN w.c.ns (j : Int) := by
   cases hq : hasN w.c.ns (j : Int) with
   | true => exact hall _ hq
   | false =>
    cases hq2 : s.seen (j : Int) with
    | false => rfl
    | true => rw [hs _ hq2] at hq; cases hq
  unfold DQ; rw [BD _ _ _ hj, e]; exact ⟨rfl, rfl⟩
 ·have hk0 := h3 k hk
  have e : decide ((i : Int) = k) = decide (i = k.toNat) := by
   rw [Bool.eq_iff_iff, decide_eq_true_eq, decide_eq_true_eq]; omega
  simp only [e]
  by_cases hi2 : i = k.toNat
  ·have : (i : Int) = k := by omega
   rw [this]; simp [hi2]
  ·simp [hi2]
 ·simp only [Bool.or_eq_true, decide_eq_true_eq] at hj
  rcases hj with rfl | hj
  ·exact hk
  ·exact hs j hj
 ·have hk0 := h3 k hk
  have e : ((k.toNat : Nat) : Int) = k := by omega
  exact CZD w.c _ _ (λ j hj => by simp [hj]) (j := k.toNat) (by rw [e]; exact hk) (by rw [e]; exact hsk) (by rw [e]; simp) _ (by omega)
theorem CUP : AN Try.prog AIG (C_not.spec Dh) := MB C_not DOC [] [202] DHD (λ _ => by kernel_rfl) (λ _ => AD DQT AI) (λ w h => DSI w h) (λ _ => OS rfl rfl) _
end Go.Bal
