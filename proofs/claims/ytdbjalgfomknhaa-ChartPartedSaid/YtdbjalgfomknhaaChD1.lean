/- Package chart: times that notes allow. -/
import Derived.Test.YtdbjalgfomknhaaChC
set_option linter.unusedVariables false
set_option linter.unusedSimpArgs false
namespace Go.Bal
open Go Go.Sym Go.Proofs
def dU2 : List AVal -> Option I2
 | [.d (.v (.int .u64 a)), .d (.v (.int .u64 b))] => some ⟨a, b⟩
 | _ => none
def xU2 (x : I2) : List AVal := [.d (.v (.int .u64 x.a)), .d (.v (.int .u64 x.b))]
def CFI (x : I2) : Prop := BB Try.prog (ann 51 []) AUF (AL AUF) (xU2 x) (AG []) (.tup [.d (.v (.int .u64 0)), .d (.v (.int .u64 x.b))]) [] [] []
theorem CJN (x : I2) : (CFI x) = (((0 : Int) <= (32 : Int) /\ (32 : Int) <= (↑(64 : Nat) : Int)) /\ ((0 : Int) <= (32 : Int) /\ (32 : Int) <= (↑(64 : Nat) : Int)) /\ ((0 : Int) <= (32 : Int) /\ (32 : Int) <= (↑(64 : Nat) :
 Int)) /\ ((0 : Int) <= (32 : Int) /\ (32 : Int) <= (↑(64 : Nat) : Int)) /\ ((0 : Int) <= (32 : Int) /\ (32 : Int) <= (↑(64 : Nat) : Int)) /\ (0 : Int) = IntKind.u64.wrap (IntKind.u64.wrap (IntKind.u64.wrap (x.a / (2 : Int) ^
 Int.toNat (32 : Int) * (x.b / (2 : Int) ^ Int.toNat (32 : Int))) + IntKind.u64.wrap (IntKind.u64.wrap (x.a / (2 : Int) ^ Int.toNat (32 : Int) * andI IntKind.u64 x.b (4294967295 : Int)) + IntKind.u64.wrap (andI
 IntKind.u64 x.a (4294967295 : Int) * andI IntKind.u64 x.b (4294967295 : Int)) / (2 : Int) ^ Int.toNat (32 : Int)) / (2 : Int) ^ Int.toNat (32 : Int)) + IntKind.u64.wrap (andI IntKind.u64 (IntKind.u64.wrap
 (IntKind.u64.wrap (x.a / (2 : Int) ^ Int.toNat (32 : Int) * andI IntKind.u64 x.b (4294967295 : Int)) + IntKind.u64.wrap (andI IntKind.u64 x.a (4294967295 : Int) * andI IntKind.u64 x.b (4294967295 : Int)) / (2 : Int) ^
 Int.toNat (32 : Int))) (4294967295 : Int) + IntKind.u64.wrap (andI IntKind.u64 x.a (4294967295 : Int) * (x.b / (2 : Int) ^ Int.toNat (32 : Int)))) / (2 : Int) ^ Int.toNat (32 : Int)) /\ x.b = IntKind.u64.wrap (x.a * x.b))
 := by kernel_rfl
def zJ := pD dU2 (λ x => .tup [.d (.v (.int .u64 0)), .d (.v (.int .u64 x.b))]) (λ x => [x.a = 1 /\ 0 <= x.b /\ x.b <= 40])
def CTL (x : I2) : Prop := BB Try.prog (ann 30 [(zS, zJ)]) BZD (AL BZD) (xU2 x) (AG []) (.tup [.d (.v (.int .u64 0)), .d (.v (.int .u64 x.b))]) [] [] []
theorem CVZ (x : I2) : (CTL x) = ((x.a = (1 : Int) /\ (0 : Int) <= x.b /\ x.b <= (40 : Int)) /\ Int.ofNat (0 : Nat) = Int.ofNat (0 : Nat) /\ x.b = x.b) := by kernel_rfl
theorem hU2 (xs : List AVal) (a : I2) (h : dU2 xs = some a) : xs = xU2 a := by
 unfold dU2 at h; split at h <;> cases h; rfl
theorem u64w {n : Int} (h0 : 0 <= n) (h1 : n < 18446744073709551616) : IntKind.u64.wrap n = n := by
 simp only [IntKind.wrap, IntKind.bits, IntKind.signed]
 have : n % (2 ^ 64 : Int) = n := Int.emod_eq_of_lt h0 (by omega)
 simp only [this]
 simp
theorem CHG : AM Try.prog zS zJ := WW xU2 hU2 λ x h => UV (A := ann 51 []) (ren := []) (fz := []) CGH (by kernel_rfl) AJ (by
 show CFI x; rw [CJN]
 obtain ⟨a, b⟩ := x
 obtain ⟨h1, h2, h3⟩ : a = 1 /\ 0 <= b /\ b <= 40 := h
 subst h1
 obtain ⟨n, rfl⟩ := Int.eq_ofNat_of_zero_le h2
 have hn : n < 41 := by omega
 clear h2 h3
 revert hn; revert n; decide +kernel)
theorem CVO : AM Try.prog CBR zJ := WW xU2 hU2 λ x h => UV (A := ann 30 [(zS, zJ)]) (ren := []) (fz := []) CPR (by kernel_rfl) (AC CHG AJ) (by
 show CTL x; rw [CVZ]; exact ⟨h, rfl, rfl⟩)
def sng (s : Span) : List Span := [s]
def zSp : Span := ⟨0, 0⟩
structure SpN where
 s : Span
 n : Nat
def C_rep : Ctr := { α := SpN, xs := λ a => [.d (AX (sng a.s)), .int a.n], val := λ a => .own 0 2 0 a.n, keep := λ a => [(0, .live (.row 2 a.n λ _ => CN a.s))], pre := λ a => [1 <= a.n /\ a.n <= 40] }
def CTA : List AVal -> Heap -> Option (SpN × List (Nat × Nat) × List Nat)
 | [y, .d n], H => match YC y H with
  | some (l, f) => some (⟨gD l 0, (CL n).toNat⟩, [], f)
  | none => none
 | _, _ => none
def rp8 (a : SpN) : Shape := { α := Nat, dflt := 0, T := λ k => ⟨[(7, .own 201 2 0 a.n), (8, .int k)], [(201, .live (.row 2 a.n λ i => CN (bif decide (i < k) then a.s else zSp)))]⟩, inv := λ k => 1 <= k /\ k <= a.n, meas := λ k => a.n - k, first := [(201, 7032)] }
def CRZ (a : SpN) : Ann := { ann 48 [(CBR, zJ)] with loops := λ id => if id = 8 then some [rp8 a] else none }
def CTN (a : SpN) : Prop := BB Try.prog (CRZ a) CAO (AL CAO) (C_rep.xs a) (AG []) (C_rep.val a) (C_rep.keep a) [(0, 201)] []
abbrev BOG : Prop := (2 : Nat) = (2 : Nat)
abbrev uT (a : SpN) : Nat := (IntKind.i64.wrap (IntKind.u64.wrap (↑a.n : Int))).toNat
abbrev ANW : Prop := (0 : Nat) = (0 : Nat)
abbrev BMW (a : SpN) : Prop := a.n = uT a
abbrev BOJ (a : SpN) : Nat := min (sng a.s).length (uT a)
abbrev BQL (i : Nat) (a : Nat) (a1 : SpN) : Span := bif decide (i < a) then a1.s else zSp
abbrev wD (i : Nat) (a : Nat) (a1 : SpN) : Int := (BQL i a a1).lo
abbrev BRF (i : Nat) (a : SpN) : Bool := decide (i < BOJ a)
abbrev J7 (i : Nat) (a : Nat) (a1 : SpN) : Int := (BQL i a a1).hi
abbrev APN (a : Nat) (a1 : SpN) : Prop := (1 : Nat) <= a /\ a <= a1.n
abbrev AUE (a : Nat) (a1 : SpN) : Prop := (↑a : Int) < (↑a1.n : Int)
abbrev AUH (a : Nat) : Prop := (0 : Int) <= (↑a : Int)
abbrev AXK (a : Nat) (a1 : SpN) : Prop := (↑a : Int) <= (↑a1.n : Int)
abbrev ASY (a : Nat) : Nat := a - (0 : Nat)
abbrev Sq (a : Nat) : Nat := (0 : Nat) + a
abbrev Pv (a : SpN) (a1 : Nat) : Nat := a.n - a1
abbrev BBG (a : Nat) (a1 : SpN) : Nat := min (a - Int.toNat (0 : Int)) (Pv a1 a)
abbrev AXL (a : Nat) (i : Nat) (a1 : SpN) : Bool := decide (Sq a <= i) && decide (i < Sq a + BBG a a1)
abbrev BDW (i : Nat) (a : Nat) (a1 : SpN) : Span := bif decide ((0 : Nat) + Int.toNat (0 : Int) + (i - Sq a) < a) then a1.s else zSp
theorem CWN (a : SpN) : (CTN a) = ((IntKind.u64.wrap (↑(sng a.s).length : Int) = (1 : Int) /\ (0 : Int) <= IntKind.u64.wrap (↑a.n : Int) /\ IntKind.u64.wrap (↑a.n : Int) <= (40 : Int)) /\ bif bif decide ((0 : Int) > (0 :
 Int)) then true else decide (IntKind.u64.wrap (↑a.n : Int) > (9223372036854775807 : Int)) then False else ((0 : Int) <= IntKind.i64.wrap (IntKind.u64.wrap (↑a.n : Int)) /\ IntKind.i64.wrap (IntKind.u64.wrap (↑a.n : Int)) =
 IntKind.i64.wrap (IntKind.u64.wrap (↑a.n : Int)) /\ IntKind.i64.wrap (IntKind.u64.wrap (↑a.n : Int)) <= (9223372036854775807 : Int) /\ (↑(16 : Nat) : Int) * IntKind.i64.wrap (IntKind.u64.wrap (↑a.n : Int)) <=
 (281474976710656 : Int)) /\ ((True /\ ((0 : Nat) < (sng a.s).length -> BOG)) /\ (uT a).le (uT a)) /\ (∃ (a_1 : Nat), (ANW /\ BMW a /\ (↑a_1 : Int) = (↑(BOJ a) : Int) /\ BMW a /\ ∀ (i : Nat), i < a.n
 -> (wD i a_1 a = bif BRF i a then (gD (sng a.s) i).lo else (0 : Int)) /\ J7 i a_1 a = bif BRF i a then (gD (sng a.s) i).hi else (0 : Int)) /\ APN a_1 a) /\ ∀ (a_1 : Nat), APN a_1 a -> bif decide
 (AUE a_1 a) then ((AUH a_1 /\ AXK a_1 a /\ (↑a.n : Int) <= (↑a.n : Int) /\ ((↑a_1 : Int) = (0 : Int) ∨ AUE a_1 a)) /\ ((0 : Int) <= (0 : Int) /\ AUH a_1 /\ AXK a_1 a /\ ((0 : Int) = (0 : Int) ∨ (0 :
 Int) < (↑a_1 : Int))) /\ ((0 : Nat) + ASY a_1 <= a.n /\ ((0 : Nat) < ASY a_1 -> BOG)) /\ (Sq a_1 + Pv a a_1).le a.n) /\ ∃ (a_3 : Nat), (ANW /\ a.n = a.n /\ (↑a_3 : Int) = IntKind.i64.wrap ((↑a_1 :
 Int) + (↑(BBG a_1 a) : Int)) /\ a.n = a.n /\ ∀ (i : Nat), i < a.n -> (wD i a_3 a = bif AXL a_1 i a then (BDW i a_1 a).lo else wD i a_1 a) /\ J7 i a_3 a = bif AXL a_1 i a then (BDW i
 a_1 a).hi else J7 i a_1 a) /\ APN a_3 a /\ Pv a a_3 < Pv a a_1 else ANW /\ a.n = a.n /\ a.n = a.n /\ ∀ (i : Nat), i < a.n -> a.s.lo = wD i a_1 a /\ a.s.hi = J7 i a_1 a) := by kernel_rfl
theorem CZU (a : SpN) (h : 1 <= a.n /\ a.n <= 40) : CTN a := by
 obtain ⟨h1, h2⟩ := h
 have e1 : IntKind.u64.wrap (a.n : Int) = a.n := u64w (by omega) (by omega)
 have e2 : IntKind.i64.wrap (a.n : Int) = a.n := FC (by omega) (by omega)
 have e3 : (sng a.s).length = 1 := rfl
 rw [CWN]; delta BOG uT ANW BMW BOJ BQL wD BRF J7 APN AUE AUH AXK ASY Sq Pv BBG AXL BDW; simp only [CC, eq_self, implies_true, forall_const, e1, e2, e3, Nat.sub_zero, Int.toNat_zero]
 refine ⟨⟨rfl, by omega, by omega⟩, λ h => ?_, λ _ => ⟨⟨by omega, by omega, by omega⟩, by omega, ⟨1, ⟨by omega, λ i hi => ?_⟩, by omega, by omega⟩, λ k hk => ⟨λ hlt => ⟨⟨by omega, by omega, by omega⟩, min (2 * k) a.n, ⟨?_, λ i hi => ?_⟩, by omega, by omega⟩, λ hge i hi => ?_⟩⟩⟩
 ·simp at h; omega
 ·by_cases h : i < 1
  ·obtain rfl : i = 0 := by omega
   have : 0 < min 1 a.n := by omega
   simp [this]; exact ⟨rfl, rfl⟩
  ·have : ¬ i < min 1 a.n := by omega
   simp [h, this, zSp]
 ·rw [FC (by omega) (by omega)]; omega
 ·have e : (decide (k <= i) && decide (i < k + min k (a.n - k))) = (decide (k <= i) && decide (i < min (2 * k) a.n)) := by
   congr 1; rw [decide_eq_decide]; omega
  rw [e]
  by_cases q1 : k <= i
  ·by_cases q2 : i < min (2 * k) a.n
   ·have q3 : i - k < k := by omega
    simp [q1, q2, q3]
   ·have q4 : ¬ i < k := by omega
    simp [q1, q2, q4]
  ·have q2 : i < min (2 * k) a.n := by omega
   have q3 : i < k := by omega
   simp [q1, q2, q3]
 ·have : i < k := by omega
  simp [this]
theorem CXX : AM Try.prog CCP (C_rep.spec CTA) := LM C_rep CRZ [(0, 201)] [] CPI (λ _ => by kernel_rfl) (λ _ => AC CVO AJ) (λ a h => CZU a h) (λ _ => OA rfl rfl) _
def dSs1 : List AVal -> Heap -> Option (List Span × List (Nat × Nat) × List Nat)
 | [y], H => match YC y H with
  | some (l, f) => some (l, [], f)
  | none => none
 | _, _ => none
def C_clo : Ctr := { α := List Span, xs := λ l => [.d (AX l)], val := λ l => .own 0 2 0 l.length, keep := λ l => [(0, .live (rowS l))], pre := λ l => [0 < l.length /\ l.length < 1073741824] }
def CSR : Ann := { ann 8 [] with mt := λ id => id == 3 }
def CSS (l : List Span) : Prop := BB Try.prog CSR BIE (AL BIE) (C_clo.xs l) (AG []) (C_clo.val l) (C_clo.keep l) [(0, 4032)] []
theorem CXG (l : List Span) : (CSS l) = ((Nat.succ 0).le l.length /\ ((0 = 0 /\ (0 < 0 -> 2 = 2)) /\ (True /\ (0 < l.length -> 2 = 2)) /\ (false = true -> 0 < l.length) /\ 0 + l.length <= 9223372036854775807 /\ (0 + l.length)
 * 16 <= 140737488355328) /\ 0 = 0 /\ l.length = 0 + l.length /\ l.length = 0 + l.length /\ ∀ (i : Nat), i < l.length -> (gD l i).lo = (gD l (i - 0)).lo /\ (gD l i).hi = (gD l (i - 0)).hi) := by kernel_rfl
theorem COL : AM Try.prog xM (C_clo.spec dSs1) := LM C_clo (λ _ => CSR) [(0, 4032)] [] CGY (λ _ => by kernel_rfl) (λ _ => AJ) (λ (l : List Span) h => by
 show CSS l; rw [CXG]; simp only [CC, eq_self, implies_true, forall_const]
 obtain ⟨h1, h2⟩ : 0 < l.length /\ l.length < 1073741824 := h
 exact ⟨h1, ⟨λ _ => h1, by omega, by omega⟩, λ _ _ => ⟨rfl, rfl⟩⟩) (λ _ => OA rfl rfl) _
def farS : Span := ⟨-100000000, 100000000⟩
def FT (c : Cht) (j : Int) : Span := bif hasN c.ns j then (ntOf c.ns j).t else farS
def Hb (c : Cht) : List Span := AE c.ms.length λ i => FT c (i : Int)
structure Sn where
 seen : Int -> Bool
 deriving Inhabited
def left (c : Cht) (seen : Int -> Bool) : Nat -> Nat
 | 0 => 0
 | k + 1 => left c seen k + bif (hasN c.ns (k : Int) && !seen (k : Int)) then 1 else 0
def nt3 (w : Dk) : Shape := { α := Sn, dflt := default, T := λ s => ⟨[(3, .own 202 2 0 w.c.ms.length), (19, .bptr 203 0)], dkK w ++ [(202, .live (.row 2 w.c.ms.length λ i => CN (bif s.seen (i : Int) then (ntOf w.c.ns (i : Int)).t else farS))), (203, .live (.miter 101 (hasN w.c.ns) w.st s.seen none))]⟩, inv := λ s => ∀ j, s.seen j = true -> hasN w.c.ns j = true, meas := λ s => left w.c s.seen w.c.ms.length, first := [(202, 2128), (203, 3064)] }
def nsIn (c : Cht) : Prop := ∀ j, hasN c.ns j = true -> 0 <= j /\ j < c.ms.length
def C_not : Ctr := { ro := [100, 101], α := Dk, xs := λ _ => [.bptr 100 0], L := λ w => dkL w, val := λ w => .d (AX (Hb w.c)), keep := λ w => dkK w, pre := λ w => [1 <= w.c.ms.length /\ w.c.ms.length <= 40 /\ nsIn w.c] }
def CSD (w : Dk) : Ann := { ann 31 [(CCP, C_rep.spec CTA)] with E := [100, 101], md := λ id => if id = 2 then some (λ k => if k = 4 then 5 else 0) else if id = 3 then some (λ k => if k = 0 then 6 else 0) else if id = 4 then some (λ k => if k = 0 then 7 else 0) else none, loops := λ id => if id = 3 then some [nt3 w] else none }
def CUF (w : Dk) : Prop := BB Try.prog (CSD w) BVZ (AL BVZ) (C_not.xs w) (AG (C_not.L w)) (C_not.val w) (C_not.keep w) [] [202]
abbrev z_not_0 : Span := gD (AE 1 λ (i : Nat) => Span.mk (-100000000) 100000000) 0
abbrev BSH (j : Nat) : Span := gD (sng z_not_0) j
abbrev BWF : Prop := 0 = 0
abbrev WM (w : Dk) : Prop := w.c.ms.length = w.c.ms.length
abbrev AOP (w : Dk) : Prop := w.c.p.lo = w.c.p.lo
abbrev AMU (w : Dk) : Prop := w.c.p.hi = w.c.p.hi
abbrev AMW (w : Dk) : Prop := ∀ (i : Nat), i < w.c.ms.length -> (gD w.c.ms i).pl = (gD w.c.ms i).pl /\ (gD w.c.ms i).ht = (gD w.c.ms i).ht
abbrev AOW (w : Dk) : Prop := w.c.ns.length = w.c.ns.length
abbrev APE (w : Dk) : Prop := ∀ (i : Nat), i < w.c.ns.length -> (gD w.c.ns i).mi = (gD w.c.ns i).mi /\ (gD w.c.ns i).t.lo = (gD w.c.ns i).t.lo /\ (gD w.c.ns i).t.hi = (gD w.c.ns i).t.hi /\ (gD w.c.ns i).s.lo = (gD w.c.ns
 i).s.lo /\ (gD w.c.ns i).s.hi = (gD w.c.ns i).s.hi
abbrev AOC (w : Dk) : Prop := ∀ (i : Nat), i < 40 -> w.sp i = w.sp i
abbrev OI (w : Dk) : Prop := ∀ (n : Int), hasN w.c.ns n = hasN w.c.ns n
abbrev PC (w : Dk) : Prop := ∀ (n : Int), w.st n = w.st n
abbrev J5 (w : Dk) : Prop := ∀ (n : Int), (ntOf w.c.ns n).mi = (ntOf w.c.ns n).mi /\ (ntOf w.c.ns n).t.lo = (ntOf w.c.ns n).t.lo /\ (ntOf w.c.ns n).t.hi = (ntOf w.c.ns n).t.hi /\ (ntOf w.c.ns n).s.lo = (ntOf w.c.ns
 n).s.lo /\ (ntOf w.c.ns n).s.hi = (ntOf w.c.ns n).s.hi
abbrev ASA (a : Sn) (i : Nat) (w : Dk) : Span := bif a.seen (↑i : Int) then (ntOf w.c.ns (↑i : Int)).t else farS
abbrev xP (a : Sn) (i : Nat) (w : Dk) : Int := (ASA a i w).lo
abbrev C1 (a : Sn) (i : Nat) (w : Dk) : Int := (ASA a i w).hi
abbrev K7 (a : Sn) (w : Dk) : Prop := ∀ (j : Int), a.seen j = true -> hasN w.c.ns j = true
abbrev AXP (j : Nat) : Nat := 0 + j
abbrev ASD (a : Sn) (j : Nat) (w : Dk) : Span := bif a.seen (↑(AXP j) : Int) then (ntOf w.c.ns (↑(AXP j) : Int)).t else farS
abbrev BIS (k : Int) : Nat := 0 + k.toNat
abbrev BAL (i : Nat) (k : Int) : Bool := decide (i = BIS k)
abbrev BGU (w : Dk) (a : Sn) : Nat := left w.c a.seen w.c.ms.length
theorem CXU (w : Dk) : (CUF w) = ((1 = 1 /\ 1 <= 1 /\ (∀ (j : Nat), j < 1 -> (BSH j).lo = -100000000 /\ (BSH j).hi = 100000000) /\ (↑w.c.ms.length : Int) = (↑w.c.ms.length : Int) /\ 1 <= w.c.ms.length /\
 w.c.ms.length <= 40) /\ (∃ (a : Sn), (BWF /\ WM w /\ AOP w /\ AMU w /\ w.c.base = w.c.base /\ w.c.scale = w.c.scale /\ w.c.off = w.c.off /\ WM w /\ AMW w /\ AOW w /\ APE w /\ AOC w /\ AT = AT /\
 OI w /\ PC w /\ J5 w /\ WM w /\ (∀ (i : Nat), i < w.c.ms.length -> xP a i w = z_not_0.lo /\ C1 a i w = z_not_0.hi) /\ OI w /\ PC w /\ ∀ (n : Int), a.seen n = false) /\ K7 a w) /\
 ∀ (a : Sn), K7 a w -> OI w /\ PC w /\ ((∀ (n : Int), hasN w.c.ns n = true -> a.seen n = true) -> (Hb w.c).length = w.c.ms.length /\ 0 + w.c.ms.length <= w.c.ms.length /\ (∀ (j : Nat), j < (Hb w.c).length ->
 (gD (Hb w.c) j).lo = (ASD a j w).lo /\ (gD (Hb w.c) j).hi = (ASD a j w).hi) /\ AOP w /\ AMU w /\ w.c.base = w.c.base /\ w.c.scale = w.c.scale /\ w.c.off = w.c.off /\ WM w /\ AMW w /\ AOW w /\
 APE w /\ AOC w /\ AT = AT /\ OI w /\ PC w /\ J5 w) /\ ∀ (k : Int), hasN w.c.ns k = true -> a.seen k = false -> OI w /\ PC w /\ ((0 <= k /\ k < (↑w.c.ms.length : Int)) /\ (BIS k).succ.le
 w.c.ms.length) /\ ∃ (a_4 : Sn), (BWF /\ WM w /\ AOP w /\ AMU w /\ w.c.base = w.c.base /\ w.c.scale = w.c.scale /\ w.c.off = w.c.off /\ WM w /\ AMW w /\ AOW w /\ APE w /\ AOC w /\ AT = AT /\
 OI w /\ PC w /\ J5 w /\ WM w /\ (∀ (i : Nat), i < w.c.ms.length -> (xP a_4 i w = bif BAL i k then (ntOf w.c.ns k).t.lo else xP a i w) /\ C1 a_4 i w = bif BAL i k then (ntOf
 w.c.ns k).t.hi else C1 a i w) /\ OI w /\ PC w /\ ∀ (n : Int), a_4.seen n = (decide (n = k) || a.seen n)) /\ K7 a_4 w /\ BGU w a_4 < BGU w a) := by kernel_rfl
theorem CER (c : Cht) (s t : Int -> Bool) (h : ∀ j, s j = true -> t j = true) : ∀ k, left c t k <= left c s k
 | 0 => Nat.le_refl _
 | k + 1 => by
  have ih := CER c s t h k
  have hk := h (k : Int)
  simp only [left]
  cases hN : hasN c.ns (k : Int) <;> cases h1 : s (k : Int) <;> cases h2 : t (k : Int) <;> simp_all <;> omega
theorem CEJ (c : Cht) (s t : Int -> Bool) (h : ∀ j, s j = true -> t j = true) {j : Nat} (h0 : hasN c.ns (j : Int) = true) (h1 : s (j : Int) = false) (h2 : t (j : Int) = true) : ∀ k, j < k -> left c t k < left c s k
 | 0, hj => by omega
 | k + 1, hj => by
  by_cases e : j = k
  ·subst e
   have := CER c s t h j
   simp only [left, h0, h1, h2]
   simp; omega
  ·have ih := CEJ c s t h h0 h1 h2 k (by omega)
   have hk := h (k : Int)
   simp only [left]
   cases hN : hasN c.ns (k : Int) <;> cases h3 : s (k : Int) <;> cases h4 : t (k : Int) <;> simp_all <;> omega
theorem DAC (w : Dk) (h : 1 <= w.c.ms.length /\ w.c.ms.length <= 40 /\ nsIn w.c) : CUF w := by
 obtain ⟨h1, h2, h3⟩ := h
 rw [CXU]; delta z_not_0 BSH BWF WM AOP AMU AMW AOW APE AOC OI PC J5 ASA xP C1 K7 AXP ASD BIS BAL BGU; simp only [CC, eq_self, implies_true, forall_const]
 refine ⟨⟨by omega, λ j hj => ?_, by omega, h2⟩, ⟨⟨λ _ => false⟩, ⟨λ i hi => ⟨rfl, rfl⟩, λ _ => rfl⟩, λ j hj => by cases hj⟩, λ s hs => ⟨λ hall => ⟨rng_length _ _, Nat.le_refl _, λ j hj => ?_⟩, λ k hk hsk => ⟨⟨h3 k hk, by have := h3 k hk; omega⟩, ⟨λ n => decide (n = k) || s.seen n⟩, ⟨λ i hi => ?_, λ _ => rfl⟩, λ j hj => ?_, ?_⟩⟩⟩
 ·obtain rfl : j = 0 := by omega
  exact ⟨rfl, rfl⟩
 ·have hj : j < w.c.ms.length := by simpa [Hb] using hj
  have e : s.seen (j : Int) = hasN w.c.ns (j : Int) := by
   cases hq : hasN w.c.ns (j : Int) with
   | true => exact hall _ hq
   | false =>
    cases hq2 : s.seen (j : Int) with
    | false => rfl
    | true => rw [hs _ hq2] at hq; cases hq
  unfold Hb; rw [BH _ _ _ hj, e]; exact ⟨rfl, rfl⟩
 ·have hk0 := h3 k hk
  have e : decide ((i : Int) = k) = decide (i = k.toNat) := by
   rw [Bool.eq_iff_iff, decide_eq_true_eq, decide_eq_true_eq]; omega
  simp only [e]
  by_cases hi2 : i = k.toNat
  ·have : (i : Int) = k := by omega
   rw [this]; simp [hi2]
  ·simp [hi2]
 ·simp only [Bool.or_eq_true, decide_eq_true_eq] at hj
  rcases hj with rfl | hj
  ·exact hk
  ·exact hs j hj
 ·have hk0 := h3 k hk
  have e : ((k.toNat : Nat) : Int) = k := by omega
  exact CEJ w.c _ _ (λ j hj => by simp [hj]) (j := k.toNat) (by rw [e]; exact hk) (by rw [e]; exact hsk) (by rw [e]; simp) _ (by omega)
theorem CXO : AM Try.prog BTZ (C_not.spec dDk1) := LM C_not CSD [] [202] CLV (λ _ => by kernel_rfl) (λ _ => AC CXX AJ) (λ w h => DAC w h) (λ _ => OA rfl rfl) _
end Go.Bal
