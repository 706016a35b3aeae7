/- Package chart: times that notes allow. -/
import Derived.Test.YtdbjalgfomknhaaChC
set_option linter.unusedVariables false
set_option linter.unusedSimpArgs false
namespace Go.Bal
open Go Go.Sym Go.Proofs
def dU2 : List AVal -> Option I2
 | [.d (.v (.int .u64 a)), .d (.v (.int .u64 b))] => some ⟨a, b⟩
 | _ => none
def xU2 (x : I2) : List AVal := [.d (.v (.int .u64 x.a)), .d (.v (.int .u64 x.b))]
def CEC (x : I2) : Prop := AZ Try.prog (ann 51 []) AUJ (AL AUJ) (xU2 x) (AG []) (.tup [.d (.v (.int .u64 0)), .d (.v (.int .u64 x.b))]) [] [] []
theorem COA (x : I2) : (CEC x) = (((0 : Int) <= (32 : Int) /\ (32 : Int) <= (↑(64 : Nat) : Int)) /\ ((0 : Int) <= (32 : Int) /\ (32 : Int) <= (↑(64 : Nat) : Int)) /\ ((0 : Int) <= (32 : Int) /\ (32 : Int) <= (↑(64 : Nat) :
 Int)) /\ ((0 : Int) <= (32 : Int) /\ (32 : Int) <= (↑(64 : Nat) : Int)) /\ ((0 : Int) <= (32 : Int) /\ (32 : Int) <= (↑(64 : Nat) : Int)) /\ (0 : Int) = IntKind.u64.wrap (IntKind.u64.wrap (IntKind.u64.wrap (x.a / (2 : Int) ^
 Int.toNat (32 : Int) * (x.b / (2 : Int) ^ Int.toNat (32 : Int))) + IntKind.u64.wrap (IntKind.u64.wrap (x.a / (2 : Int) ^ Int.toNat (32 : Int) * andI IntKind.u64 x.b (4294967295 : Int)) + IntKind.u64.wrap (andI
 IntKind.u64 x.a (4294967295 : Int) * andI IntKind.u64 x.b (4294967295 : Int)) / (2 : Int) ^ Int.toNat (32 : Int)) / (2 : Int) ^ Int.toNat (32 : Int)) + IntKind.u64.wrap (andI IntKind.u64 (IntKind.u64.wrap
 (IntKind.u64.wrap (x.a / (2 : Int) ^ Int.toNat (32 : Int) * andI IntKind.u64 x.b (4294967295 : Int)) + IntKind.u64.wrap (andI IntKind.u64 x.a (4294967295 : Int) * andI IntKind.u64 x.b (4294967295 : Int)) / (2 : Int) ^
 Int.toNat (32 : Int))) (4294967295 : Int) + IntKind.u64.wrap (andI IntKind.u64 x.a (4294967295 : Int) * (x.b / (2 : Int) ^ Int.toNat (32 : Int)))) / (2 : Int) ^ Int.toNat (32 : Int)) /\ x.b = IntKind.u64.wrap (x.a * x.b))
 := by kernel_rfl
def F1 := pD dU2 (λ x => .tup [.d (.v (.int .u64 0)), .d (.v (.int .u64 x.b))]) (λ x => [x.a = 1 /\ 0 <= x.b /\ x.b <= 40])
def CST (x : I2) : Prop := AZ Try.prog (ann 30 [(xN, F1)]) CBJ (AL CBJ) (xU2 x) (AG []) (.tup [.d (.v (.int .u64 0)), .d (.v (.int .u64 x.b))]) [] [] []
theorem CWN (x : I2) : (CST x) = ((x.a = (1 : Int) /\ (0 : Int) <= x.b /\ x.b <= (40 : Int)) /\ Int.ofNat (0 : Nat) = Int.ofNat (0 : Nat) /\ x.b = x.b) := by kernel_rfl
theorem hU2 (xs : List AVal) (a : I2) (h : dU2 xs = some a) : xs = xU2 a := by
 unfold dU2 at h; split at h <;> cases h; rfl
theorem u64w {n : Int} (h0 : 0 <= n) (h1 : n < 18446744073709551616) : IntKind.u64.wrap n = n := by
 simp only [IntKind.wrap, IntKind.bits, IntKind.signed]
 have : n % (2 ^ 64 : Int) = n := Int.emod_eq_of_lt h0 (by omega)
 simp only [this]
 simp
theorem CMW : AM Try.prog xN F1 := XN xU2 hU2 λ x h => UO (A := ann 51 []) (ren := []) (fz := []) CGP (by kernel_rfl) AJ (by
 show CEC x; rw [COA]
 obtain ⟨a, b⟩ := x
 obtain ⟨h1, h2, h3⟩ : a = 1 /\ 0 <= b /\ b <= 40 := h
 subst h1
 obtain ⟨n, rfl⟩ := Int.eq_ofNat_of_zero_le h2
 have hn : n < 41 := by omega
 clear h2 h3
 revert hn; revert n; decide +kernel)
theorem CVX : AM Try.prog CBA F1 := XN xU2 hU2 λ x h => UO (A := ann 30 [(xN, F1)]) (ren := []) (fz := []) CQY (by kernel_rfl) (AC CMW AJ) (by
 show CST x; rw [CWN]; exact ⟨h, rfl, rfl⟩)
def sng (s : Span) : List Span := [s]
def zSp : Span := ⟨0, 0⟩
structure SpN where
 s : Span
 n : Nat
def C_rep : Ctr := { α := SpN, xs := λ a => [.d (AX (sng a.s)), .int a.n], val := λ a => .own 0 2 0 a.n, keep := λ a => [(0, .live (.row 2 a.n λ _ => CL a.s))], pre := λ a => [1 <= a.n /\ a.n <= 40] }
def CSK : List AVal -> Heap -> Option (SpN × List (Nat × Nat) × List Nat)
 | [y, .d n], H => match XV y H with
  | some (l, f) => some (⟨gD l 0, (CK n).toNat⟩, [], f)
  | none => none
 | _, _ => none
def rp8 (a : SpN) : Shape := { α := Nat, dflt := 0, T := λ k => ⟨[(7, .own 201 2 0 a.n), (8, .int k)], [(201, .live (.row 2 a.n λ i => CL (bif decide (i < k) then a.s else zSp)))]⟩, inv := λ k => 1 <= k /\ k <= a.n, meas := λ k => a.n - k, first := [(201, 7032)] }
def CTN (a : SpN) : Ann := { ann 48 [(CBA, F1)] with loops := λ id => if id = 8 then some [rp8 a] else none }
def CRY (a : SpN) : Prop := AZ Try.prog (CTN a) CCD (AL CCD) (C_rep.xs a) (AG []) (C_rep.val a) (C_rep.keep a) [(0, 201)] []
abbrev BQA : Prop := (2 : Nat) = (2 : Nat)
abbrev zW (a : SpN) : Nat := (IntKind.i64.wrap (IntKind.u64.wrap (↑a.n : Int))).toNat
abbrev AOW : Prop := (0 : Nat) = (0 : Nat)
abbrev BUZ (a : SpN) : Prop := a.n = zW a
abbrev BPM (a : SpN) : Nat := min (sng a.s).length (zW a)
abbrev BTE (i : Nat) (a : Nat) (a1 : SpN) : Span := bif decide (i < a) then a1.s else zSp
abbrev L5 (i : Nat) (a : Nat) (a1 : SpN) : Int := (BTE i a a1).lo
abbrev BUY (i : Nat) (a : SpN) : Bool := decide (i < BPM a)
abbrev D6 (i : Nat) (a : Nat) (a1 : SpN) : Int := (BTE i a a1).hi
abbrev AML (a : Nat) (a1 : SpN) : Prop := (1 : Nat) <= a /\ a <= a1.n
abbrev BAD (a : Nat) (a1 : SpN) : Prop := (↑a : Int) < (↑a1.n : Int)
abbrev AQU (a : Nat) : Prop := (0 : Int) <= (↑a : Int)
abbrev AZV (a : Nat) (a1 : SpN) : Prop := (↑a : Int) <= (↑a1.n : Int)
abbrev BHH (a : Nat) : Nat := a - (0 : Nat)
abbrev Ty (a : Nat) : Nat := (0 : Nat) + a
abbrev Kv (a : SpN) (a1 : Nat) : Nat := a.n - a1
abbrev AYY (a : Nat) (a1 : SpN) : Nat := min (a - Int.toNat (0 : Int)) (Kv a1 a)
abbrev BHS (a : Nat) (i : Nat) (a1 : SpN) : Bool := decide (Ty a <= i) && decide (i < Ty a + AYY a a1)
abbrev AWZ (i : Nat) (a : Nat) (a1 : SpN) : Span := bif decide ((0 : Nat) + Int.toNat (0 : Int) + (i - Ty a) < a) then a1.s else zSp
theorem CXP (a : SpN) : (CRY a) = ((IntKind.u64.wrap (↑(sng a.s).length : Int) = (1 : Int) /\ (0 : Int) <= IntKind.u64.wrap (↑a.n : Int) /\ IntKind.u64.wrap (↑a.n : Int) <= (40 : Int)) /\ bif bif decide ((0 : Int) > (0 :
 Int)) then true else decide (IntKind.u64.wrap (↑a.n : Int) > (9223372036854775807 : Int)) then False else ((0 : Int) <= IntKind.i64.wrap (IntKind.u64.wrap (↑a.n : Int)) /\ IntKind.i64.wrap (IntKind.u64.wrap (↑a.n : Int)) =
 IntKind.i64.wrap (IntKind.u64.wrap (↑a.n : Int)) /\ IntKind.i64.wrap (IntKind.u64.wrap (↑a.n : Int)) <= (9223372036854775807 : Int) /\ (↑(16 : Nat) : Int) * IntKind.i64.wrap (IntKind.u64.wrap (↑a.n : Int)) <=
 (281474976710656 : Int)) /\ ((True /\ ((0 : Nat) < (sng a.s).length -> BQA)) /\ (zW a).le (zW a)) /\ (∃ (a_1 : Nat), (AOW /\ BUZ a /\ (↑a_1 : Int) = (↑(BPM a) : Int) /\ BUZ a /\ ∀ (i : Nat), i < a.n
 -> (L5 i a_1 a = bif BUY i a then (gD (sng a.s) i).lo else (0 : Int)) /\ D6 i a_1 a = bif BUY i a then (gD (sng a.s) i).hi else (0 : Int)) /\ AML a_1 a) /\ ∀ (a_1 : Nat), AML a_1 a -> bif decide
 (BAD a_1 a) then ((AQU a_1 /\ AZV a_1 a /\ (↑a.n : Int) <= (↑a.n : Int) /\ ((↑a_1 : Int) = (0 : Int) ∨ BAD a_1 a)) /\ ((0 : Int) <= (0 : Int) /\ AQU a_1 /\ AZV a_1 a /\ ((0 : Int) = (0 : Int) ∨ (0 :
 Int) < (↑a_1 : Int))) /\ ((0 : Nat) + BHH a_1 <= a.n /\ ((0 : Nat) < BHH a_1 -> BQA)) /\ (Ty a_1 + Kv a a_1).le a.n) /\ ∃ (a_3 : Nat), (AOW /\ a.n = a.n /\ (↑a_3 : Int) = IntKind.i64.wrap ((↑a_1 :
 Int) + (↑(AYY a_1 a) : Int)) /\ a.n = a.n /\ ∀ (i : Nat), i < a.n -> (L5 i a_3 a = bif BHS a_1 i a then (AWZ i a_1 a).lo else L5 i a_1 a) /\ D6 i a_3 a = bif BHS a_1 i a then (AWZ i
 a_1 a).hi else D6 i a_1 a) /\ AML a_3 a /\ Kv a a_3 < Kv a a_1 else AOW /\ a.n = a.n /\ a.n = a.n /\ ∀ (i : Nat), i < a.n -> a.s.lo = L5 i a_1 a /\ a.s.hi = D6 i a_1 a) := by kernel_rfl
theorem CYL (a : SpN) (h : 1 <= a.n /\ a.n <= 40) : CRY a := by
 obtain ⟨h1, h2⟩ := h
 have e1 : IntKind.u64.wrap (a.n : Int) = a.n := u64w (by omega) (by omega)
 have e2 : IntKind.i64.wrap (a.n : Int) = a.n := FH (by omega) (by omega)
 have e3 : (sng a.s).length = 1 := rfl
 rw [CXP]; delta BQA zW AOW BUZ BPM BTE L5 BUY D6 AML BAD AQU AZV BHH Ty Kv AYY BHS AWZ; simp only [CC, eq_self, implies_true, forall_const, e1, e2, e3, Nat.sub_zero, Int.toNat_zero]
 refine ⟨⟨rfl, by omega, by omega⟩, λ h => ?_, λ _ => ⟨⟨by omega, by omega, by omega⟩, by omega, ⟨1, ⟨by omega, λ i hi => ?_⟩, by omega, by omega⟩, λ k hk => ⟨λ hlt => ⟨⟨by omega, by omega, by omega⟩, min (2 * k) a.n, ⟨?_, λ i hi => ?_⟩, by omega, by omega⟩, λ hge i hi => ?_⟩⟩⟩
 ·simp at h; omega
 ·by_cases h : i < 1
  ·obtain rfl : i = 0 := by omega
   have : 0 < min 1 a.n := by omega
   simp [this]; exact ⟨rfl, rfl⟩
  ·have : ¬ i < min 1 a.n := by omega
   simp [h, this, zSp]
 ·rw [FH (by omega) (by omega)]; omega
 ·have e : (decide (k <= i) && decide (i < k + min k (a.n - k))) = (decide (k <= i) && decide (i < min (2 * k) a.n)) := by
   congr 1; rw [decide_eq_decide]; omega
  rw [e]
  by_cases q1 : k <= i
  ·by_cases q2 : i < min (2 * k) a.n
   ·have q3 : i - k < k := by omega
    simp [q1, q2, q3]
   ·have q4 : ¬ i < k := by omega
    simp [q1, q2, q4]
  ·have q2 : i < min (2 * k) a.n := by omega
   have q3 : i < k := by omega
   simp [q1, q2, q3]
 ·have : i < k := by omega
  simp [this]
theorem CWT : AM Try.prog CAA (C_rep.spec CSK) := LF C_rep CTN [(0, 201)] [] CQN (λ _ => by kernel_rfl) (λ _ => AC CVX AJ) (λ a h => CYL a h) (λ _ => NP rfl rfl) _
def dSs1 : List AVal -> Heap -> Option (List Span × List (Nat × Nat) × List Nat)
 | [y], H => match XV y H with
  | some (l, f) => some (l, [], f)
  | none => none
 | _, _ => none
def C_clo : Ctr := { α := List Span, xs := λ l => [.d (AX l)], val := λ l => .own 0 2 0 l.length, keep := λ l => [(0, .live (rowS l))], pre := λ l => [0 < l.length /\ l.length < 1073741824] }
def CRT : Ann := { ann 8 [] with mt := λ id => id == 3 }
def CSM (l : List Span) : Prop := AZ Try.prog CRT BAH (AL BAH) (C_clo.xs l) (AG []) (C_clo.val l) (C_clo.keep l) [(0, 4032)] []
theorem CVJ (l : List Span) : (CSM l) = ((Nat.succ 0).le l.length /\ ((0 = 0 /\ (0 < 0 -> 2 = 2)) /\ (True /\ (0 < l.length -> 2 = 2)) /\ (false = true -> 0 < l.length) /\ 0 + l.length <= 9223372036854775807 /\ (0 + l.length)
 * 16 <= 140737488355328) /\ 0 = 0 /\ l.length = 0 + l.length /\ l.length = 0 + l.length /\ ∀ (i : Nat), i < l.length -> (gD l i).lo = (gD l (i - 0)).lo /\ (gD l i).hi = (gD l (i - 0)).hi) := by kernel_rfl
theorem CMP : AM Try.prog tU (C_clo.spec dSs1) := LF C_clo (λ _ => CRT) [(0, 4032)] [] CGE (λ _ => by kernel_rfl) (λ _ => AJ) (λ (l : List Span) h => by
 show CSM l; rw [CVJ]; simp only [CC, eq_self, implies_true, forall_const]
 obtain ⟨h1, h2⟩ : 0 < l.length /\ l.length < 1073741824 := h
 exact ⟨h1, ⟨λ _ => h1, by omega, by omega⟩, λ _ _ => ⟨rfl, rfl⟩⟩) (λ _ => NP rfl rfl) _
def farS : Span := ⟨-100000000, 100000000⟩
def FU (c : Cht) (j : Int) : Span := bif hasN c.ns j then (ntOf c.ns j).t else farS
def Dz (c : Cht) : List Span := AE c.ms.length λ i => FU c (i : Int)
structure Sn where
 seen : Int -> Bool
 deriving Inhabited
def left (c : Cht) (seen : Int -> Bool) : Nat -> Nat
 | 0 => 0
 | k + 1 => left c seen k + bif (hasN c.ns (k : Int) && !seen (k : Int)) then 1 else 0
def nt3 (w : Dk) : Shape := { α := Sn, dflt := default, T := λ s => ⟨[(3, .own 202 2 0 w.c.ms.length), (19, .bptr 203 0)], dkK w ++ [(202, .live (.row 2 w.c.ms.length λ i => CL (bif s.seen (i : Int) then (ntOf w.c.ns (i : Int)).t else farS))), (203, .live (.miter 101 (hasN w.c.ns) w.st s.seen none))]⟩, inv := λ s => ∀ j, s.seen j = true -> hasN w.c.ns j = true, meas := λ s => left w.c s.seen w.c.ms.length, first := [(202, 2128), (203, 3064)] }
def nsIn (c : Cht) : Prop := ∀ j, hasN c.ns j = true -> 0 <= j /\ j < c.ms.length
def C_not : Ctr := { ro := [100, 101], α := Dk, xs := λ _ => [.bptr 100 0], L := λ w => dkL w, val := λ w => .d (AX (Dz w.c)), keep := λ w => dkK w, pre := λ w => [1 <= w.c.ms.length /\ w.c.ms.length <= 40 /\ nsIn w.c] }
def CRW (w : Dk) : Ann := { ann 31 [(CAA, C_rep.spec CSK)] with E := [100, 101], md := λ id => if id = 2 then some (λ k => if k = 4 then 5 else 0) else if id = 3 then some (λ k => if k = 0 then 6 else 0) else if id = 4 then some (λ k => if k = 0 then 7 else 0) else none, loops := λ id => if id = 3 then some [nt3 w] else none }
def CUE (w : Dk) : Prop := AZ Try.prog (CRW w) BRQ (AL BRQ) (C_not.xs w) (AG (C_not.L w)) (C_not.val w) (C_not.keep w) [] [202]
abbrev z_not_0 : Span := gD (AE 1 λ (i : Nat) => Span.mk (-100000000) 100000000) 0
abbrev BRH (j : Nat) : Span := gD (sng z_not_0) j
abbrev BPB : Prop := 0 = 0
abbrev WH (w : Dk) : Prop := w.c.ms.length = w.c.ms.length
abbrev AMM (w : Dk) : Prop := w.c.p.lo = w.c.p.lo
abbrev APH (w : Dk) : Prop := w.c.p.hi = w.c.p.hi
abbrev APN (w : Dk) : Prop := ∀ (i : Nat), i < w.c.ms.length -> (gD w.c.ms i).pl = (gD w.c.ms i).pl /\ (gD w.c.ms i).ht = (gD w.c.ms i).ht
abbrev AMJ (w : Dk) : Prop := w.c.ns.length = w.c.ns.length
abbrev APC (w : Dk) : Prop := ∀ (i : Nat), i < w.c.ns.length -> (gD w.c.ns i).mi = (gD w.c.ns i).mi /\ (gD w.c.ns i).t.lo = (gD w.c.ns i).t.lo /\ (gD w.c.ns i).t.hi = (gD w.c.ns i).t.hi /\ (gD w.c.ns i).s.lo = (gD w.c.ns
 i).s.lo /\ (gD w.c.ns i).s.hi = (gD w.c.ns i).s.hi
abbrev ANY (w : Dk) : Prop := ∀ (i : Nat), i < 40 -> w.sp i = w.sp i
abbrev NY (w : Dk) : Prop := ∀ (n : Int), hasN w.c.ns n = hasN w.c.ns n
abbrev OX (w : Dk) : Prop := ∀ (n : Int), w.st n = w.st n
abbrev wD (w : Dk) : Prop := ∀ (n : Int), (ntOf w.c.ns n).mi = (ntOf w.c.ns n).mi /\ (ntOf w.c.ns n).t.lo = (ntOf w.c.ns n).t.lo /\ (ntOf w.c.ns n).t.hi = (ntOf w.c.ns n).t.hi /\ (ntOf w.c.ns n).s.lo = (ntOf w.c.ns
 n).s.lo /\ (ntOf w.c.ns n).s.hi = (ntOf w.c.ns n).s.hi
abbrev BEI (a : Sn) (i : Nat) (w : Dk) : Span := bif a.seen (↑i : Int) then (ntOf w.c.ns (↑i : Int)).t else farS
abbrev A4 (a : Sn) (i : Nat) (w : Dk) : Int := (BEI a i w).lo
abbrev yG (a : Sn) (i : Nat) (w : Dk) : Int := (BEI a i w).hi
abbrev tR (a : Sn) (w : Dk) : Prop := ∀ (j : Int), a.seen j = true -> hasN w.c.ns j = true
abbrev BBH (j : Nat) : Nat := 0 + j
abbrev ARB (a : Sn) (j : Nat) (w : Dk) : Span := bif a.seen (↑(BBH j) : Int) then (ntOf w.c.ns (↑(BBH j) : Int)).t else farS
abbrev AQF (k : Int) : Nat := 0 + k.toNat
abbrev AQI (i : Nat) (k : Int) : Bool := decide (i = AQF k)
abbrev BIL (w : Dk) (a : Sn) : Nat := left w.c a.seen w.c.ms.length
theorem CVF (w : Dk) : (CUE w) = ((1 = 1 /\ 1 <= 1 /\ (∀ (j : Nat), j < 1 -> (BRH j).lo = -100000000 /\ (BRH j).hi = 100000000) /\ (↑w.c.ms.length : Int) = (↑w.c.ms.length : Int) /\ 1 <= w.c.ms.length /\
 w.c.ms.length <= 40) /\ (∃ (a : Sn), (BPB /\ WH w /\ AMM w /\ APH w /\ w.c.base = w.c.base /\ w.c.scale = w.c.scale /\ w.c.off = w.c.off /\ WH w /\ APN w /\ AMJ w /\ APC w /\ ANY w /\ AT = AT /\
 NY w /\ OX w /\ wD w /\ WH w /\ (∀ (i : Nat), i < w.c.ms.length -> A4 a i w = z_not_0.lo /\ yG a i w = z_not_0.hi) /\ NY w /\ OX w /\ ∀ (n : Int), a.seen n = false) /\ tR a w) /\
 ∀ (a : Sn), tR a w -> NY w /\ OX w /\ ((∀ (n : Int), hasN w.c.ns n = true -> a.seen n = true) -> (Dz w.c).length = w.c.ms.length /\ 0 + w.c.ms.length <= w.c.ms.length /\ (∀ (j : Nat), j < (Dz w.c).length ->
 (gD (Dz w.c) j).lo = (ARB a j w).lo /\ (gD (Dz w.c) j).hi = (ARB a j w).hi) /\ AMM w /\ APH w /\ w.c.base = w.c.base /\ w.c.scale = w.c.scale /\ w.c.off = w.c.off /\ WH w /\ APN w /\ AMJ w /\
 APC w /\ ANY w /\ AT = AT /\ NY w /\ OX w /\ wD w) /\ ∀ (k : Int), hasN w.c.ns k = true -> a.seen k = false -> NY w /\ OX w /\ ((0 <= k /\ k < (↑w.c.ms.length : Int)) /\ (AQF k).succ.le
 w.c.ms.length) /\ ∃ (a_4 : Sn), (BPB /\ WH w /\ AMM w /\ APH w /\ w.c.base = w.c.base /\ w.c.scale = w.c.scale /\ w.c.off = w.c.off /\ WH w /\ APN w /\ AMJ w /\ APC w /\ ANY w /\ AT = AT /\
 NY w /\ OX w /\ wD w /\ WH w /\ (∀ (i : Nat), i < w.c.ms.length -> (A4 a_4 i w = bif AQI i k then (ntOf w.c.ns k).t.lo else A4 a i w) /\ yG a_4 i w = bif AQI i k then (ntOf
 w.c.ns k).t.hi else yG a i w) /\ NY w /\ OX w /\ ∀ (n : Int), a_4.seen n = (decide (n = k) || a.seen n)) /\ tR a_4 w /\ BIL w a_4 < BIL w a) := by kernel_rfl
theorem CEN (c : Cht) (s t : Int -> Bool) (h : ∀ j, s j = true -> t j = true) : ∀ k, left c t k <= left c s k
 | 0 => Nat.le_refl _
 | k + 1 => by
  have ih := CEN c s t h k
  have hk := h (k : Int)
  simp only [left]
  cases hN : hasN c.ns (k : Int) <;> cases h1 : s (k : Int) <;> cases h2 : t (k : Int) <;> simp_all <;> omega
theorem CFH (c : Cht) (s t : Int -> Bool) (h : ∀ j, s j = true -> t j = true) {j : Nat} (h0 : hasN c.ns (j : Int) = true) (h1 : s (j : Int) = false) (h2 : t (j : Int) = true) : ∀ k, j < k -> left c t k < left c s k
 | 0, hj => by omega
 | k + 1, hj => by
  by_cases e : j = k
  ·subst e
   have := CEN c s t h j
   simp only [left, h0, h1, h2]
   simp; omega
  ·have ih := CFH c s t h h0 h1 h2 k (by omega)
   have hk := h (k : Int)
   simp only [left]
   cases hN : hasN c.ns (k : Int) <;> cases h3 : s (k : Int) <;> cases h4 : t (k : Int) <;> simp_all <;> omega
theorem DAJ (w : Dk) (h : 1 <= w.c.ms.length /\ w.c.ms.length <= 40 /\ nsIn w.c) : CUE w := by
 obtain ⟨h1, h2, h3⟩ := h
 rw [CVF]; delta z_not_0 BRH BPB WH AMM APH APN AMJ APC ANY NY OX wD BEI A4 yG tR BBH ARB AQF AQI BIL; simp only [CC, eq_self, implies_true, forall_const]
 refine ⟨⟨by omega, λ j hj => ?_, by omega, h2⟩, ⟨⟨λ _ => false⟩, ⟨λ i hi => ⟨rfl, rfl⟩, λ _ => rfl⟩, λ j hj => by cases hj⟩, λ s hs => ⟨λ hall => ⟨rng_length _ _, Nat.le_refl _, λ j hj => ?_⟩, λ k hk hsk => ⟨⟨h3 k hk, by have := h3 k hk; omega⟩, ⟨λ n => decide (n = k) || s.seen n⟩, ⟨λ i hi => ?_, λ _ => rfl⟩, λ j hj => ?_, ?_⟩⟩⟩
 ·obtain rfl : j = 0 := by omega
  exact ⟨rfl, rfl⟩
 ·have hj : j < w.c.ms.length := by simpa [Dz] using hj
  have e : s.seen (j : Int) = hasN w.c.ns (j : Int) := by
   cases hq : hasN w.c.ns (j : Int) with
   | true => exact hall _ hq
   | false =>
    cases hq2 : s.seen (j : Int) with
    | false => rfl
    | true => rw [hs _ hq2] at hq; cases hq
  unfold Dz; rw [BN _ _ _ hj, e]; exact ⟨rfl, rfl⟩
 ·have hk0 := h3 k hk
  have e : decide ((i : Int) = k) = decide (i = k.toNat) := by
   rw [Bool.eq_iff_iff, decide_eq_true_eq, decide_eq_true_eq]; omega
  simp only [e]
  by_cases hi2 : i = k.toNat
  ·have : (i : Int) = k := by omega
   rw [this]; simp [hi2]
  ·simp [hi2]
 ·simp only [Bool.or_eq_true, decide_eq_true_eq] at hj
  rcases hj with rfl | hj
  ·exact hk
  ·exact hs j hj
 ·have hk0 := h3 k hk
  have e : ((k.toNat : Nat) : Int) = k := by omega
  exact CFH w.c _ _ (λ j hj => by simp [hj]) (j := k.toNat) (by rw [e]; exact hk) (by rw [e]; exact hsk) (by rw [e]; simp) _ (by omega)
theorem CVG : AM Try.prog BRT (C_not.spec Z1) := LF C_not CRW [] [202] CIZ (λ _ => by kernel_rfl) (λ _ => AC CWT AJ) (λ w h => DAJ w h) (λ _ => NP rfl rfl) _
end Go.Bal
