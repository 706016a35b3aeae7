/- Package chart: times that notes allow. -/
import Derived.Test.YtdbjalgfomknhaaChC
set_option linter.unusedVariables false
set_option linter.unusedSimpArgs false
namespace Go.Bal
open Go Go.Sym Go.Proofs
def dU2 : List AVal -> Option I2
 | [.d (.v (.int .u64 a)), .d (.v (.int .u64 b))] => some ⟨a, b⟩
 | _ => none
def xU2 (x : I2) : List AVal := [.d (.v (.int .u64 x.a)), .d (.v (.int .u64 x.b))]
def CDG (x : I2) : Prop := AW Try.prog (ann 51 []) BFP (AK BFP) (xU2 x) (AF []) (.tup [.d (.v (.int .u64 0)), .d (.v (.int .u64 x.b))]) [] [] []
theorem CGQ (x : I2) : (CDG x) = (((0 : Int) <= (32 : Int) /\ (32 : Int) <= (↑(64 : Nat) : Int)) /\ ((0 : Int) <= (32 : Int) /\ (32 : Int) <= (↑(64 : Nat) : Int)) /\ ((0 : Int) <= (32 : Int) /\ (32 : Int) <= (↑(64 : Nat) :
 Int)) /\ ((0 : Int) <= (32 : Int) /\ (32 : Int) <= (↑(64 : Nat) : Int)) /\ ((0 : Int) <= (32 : Int) /\ (32 : Int) <= (↑(64 : Nat) : Int)) /\ (0 : Int) = IntKind.u64.wrap (IntKind.u64.wrap (IntKind.u64.wrap (x.a / (2 : Int) ^
 Int.toNat (32 : Int) * (x.b / (2 : Int) ^ Int.toNat (32 : Int))) + IntKind.u64.wrap (IntKind.u64.wrap (x.a / (2 : Int) ^ Int.toNat (32 : Int) * andI IntKind.u64 x.b (4294967295 : Int)) + IntKind.u64.wrap (andI
 IntKind.u64 x.a (4294967295 : Int) * andI IntKind.u64 x.b (4294967295 : Int)) / (2 : Int) ^ Int.toNat (32 : Int)) / (2 : Int) ^ Int.toNat (32 : Int)) + IntKind.u64.wrap (andI IntKind.u64 (IntKind.u64.wrap
 (IntKind.u64.wrap (x.a / (2 : Int) ^ Int.toNat (32 : Int) * andI IntKind.u64 x.b (4294967295 : Int)) + IntKind.u64.wrap (andI IntKind.u64 x.a (4294967295 : Int) * andI IntKind.u64 x.b (4294967295 : Int)) / (2 : Int) ^
 Int.toNat (32 : Int))) (4294967295 : Int) + IntKind.u64.wrap (andI IntKind.u64 x.a (4294967295 : Int) * (x.b / (2 : Int) ^ Int.toNat (32 : Int)))) / (2 : Int) ^ Int.toNat (32 : Int)) /\ x.b = IntKind.u64.wrap (x.a * x.b))
 := by kernel_rfl
def uT := pD dU2 (λ x => .tup [.d (.v (.int .u64 0)), .d (.v (.int .u64 x.b))]) (λ x => [x.a = 1 /\ 0 <= x.b /\ x.b <= 40])
def CQE (x : I2) : Prop := AW Try.prog (ann 30 [(L3, uT)]) CAN (AK CAN) (xU2 x) (AF []) (.tup [.d (.v (.int .u64 0)), .d (.v (.int .u64 x.b))]) [] [] []
theorem CTS (x : I2) : (CQE x) = ((x.a = (1 : Int) /\ (0 : Int) <= x.b /\ x.b <= (40 : Int)) /\ Int.ofNat (0 : Nat) = Int.ofNat (0 : Nat) /\ x.b = x.b) := by kernel_rfl
theorem hU2 (xs : List AVal) (a : I2) (h : dU2 xs = some a) : xs = xU2 a := by
 unfold dU2 at h; split at h <;> cases h; rfl
theorem u64w {n : Int} (h0 : 0 <= n) (h1 : n < 18446744073709551616) : IntKind.u64.wrap n = n := by
 simp only [IntKind.wrap, IntKind.bits, IntKind.signed]
 have : n % (2 ^ 64 : Int) = n := Int.emod_eq_of_lt h0 (by omega)
 simp only [this]
 simp
theorem CHG : AL Try.prog L3 uT := XE xU2 hU2 λ x h => QX (A := ann 51 []) (ren := []) (fz := []) CEC (by kernel_rfl) AI (by
 show CDG x; rw [CGQ]
 obtain ⟨a, b⟩ := x
 obtain ⟨h1, h2, h3⟩ : a = 1 /\ 0 <= b /\ b <= 40 := h
 subst h1
 obtain ⟨n, rfl⟩ := Int.eq_ofNat_of_zero_le h2
 have hn : n < 41 := by omega
 clear h2 h3
 revert hn; revert n; decide +kernel)
theorem CTK : AL Try.prog BYA uT := XE xU2 hU2 λ x h => QX (A := ann 30 [(L3, uT)]) (ren := []) (fz := []) CMZ (by kernel_rfl) (AD CHG AI) (by
 show CQE x; rw [CTS]; exact ⟨h, rfl, rfl⟩)
def sng (s : Span) : List Span := [s]
def zSp : Span := ⟨0, 0⟩
structure SpN where
 s : Span
 n : Nat
def C_rep : Ctr := { α := SpN, xs := λ a => [.d (AV (sng a.s)), .int a.n], val := λ a => .own 0 2 0 a.n, keep := λ a => [(0, .live (.row 2 a.n λ _ => BT a.s))], pre := λ a => [1 <= a.n /\ a.n <= 40] }
def CSZ : List AVal -> Heap -> Option (SpN × List (Nat × Nat) × List Nat)
 | [y, .d n], H => match YT y H with
  | some (l, f) => some (⟨gD l 0, (BU n).toNat⟩, [], f)
  | none => none
 | _, _ => none
def rp8 (a : SpN) : Shape := { α := Nat, dflt := 0, T := λ k => ⟨[(7, .own 201 2 0 a.n), (8, .int k)], [(201, .live (.row 2 a.n λ i => BT (bif decide (i < k) then a.s else zSp)))]⟩, inv := λ k => 1 <= k /\ k <= a.n, meas := λ k => a.n - k, first := [(201, 7032)] }
def CRT (a : SpN) : Ann := { ann 48 [(BYA, uT)] with loops := λ id => if id = 8 then some [rp8 a] else none }
def CRK (a : SpN) : Prop := AW Try.prog (CRT a) BZJ (AK BZJ) (C_rep.xs a) (AF []) (C_rep.val a) (C_rep.keep a) [(0, 201)] []
abbrev BNF : Prop := (2 : Nat) = (2 : Nat)
abbrev yK (a : SpN) : Nat := (IntKind.i64.wrap (IntKind.u64.wrap (↑a.n : Int))).toNat
abbrev AND : Prop := (0 : Nat) = (0 : Nat)
abbrev BQL (a : SpN) : Prop := a.n = yK a
abbrev BSN (a : SpN) : Nat := min (sng a.s).length (yK a)
abbrev BLR (i : Nat) (a : Nat) (a1 : SpN) : Span := bif decide (i < a) then a1.s else zSp
abbrev I5 (i : Nat) (a : Nat) (a1 : SpN) : Int := (BLR i a a1).lo
abbrev BNT (i : Nat) (a : SpN) : Bool := decide (i < BSN a)
abbrev yG (i : Nat) (a : Nat) (a1 : SpN) : Int := (BLR i a a1).hi
abbrev ANK (a : Nat) (a1 : SpN) : Prop := (1 : Nat) <= a /\ a <= a1.n
abbrev AWB (a : Nat) (a1 : SpN) : Prop := (↑a : Int) < (↑a1.n : Int)
abbrev BFZ (a : Nat) : Prop := (0 : Int) <= (↑a : Int)
abbrev AXO (a : Nat) (a1 : SpN) : Prop := (↑a : Int) <= (↑a1.n : Int)
abbrev ARO (a : Nat) : Nat := a - (0 : Nat)
abbrev Xe (a : Nat) : Nat := (0 : Nat) + a
abbrev Uw (a : SpN) (a1 : Nat) : Nat := a.n - a1
abbrev AUD (a : Nat) (a1 : SpN) : Nat := min (a - Int.toNat (0 : Int)) (Uw a1 a)
abbrev BIF (a : Nat) (i : Nat) (a1 : SpN) : Bool := decide (Xe a <= i) && decide (i < Xe a + AUD a a1)
abbrev ARE (i : Nat) (a : Nat) (a1 : SpN) : Span := bif decide ((0 : Nat) + Int.toNat (0 : Int) + (i - Xe a) < a) then a1.s else zSp
theorem CWA (a : SpN) : (CRK a) = ((IntKind.u64.wrap (↑(sng a.s).length : Int) = (1 : Int) /\ (0 : Int) <= IntKind.u64.wrap (↑a.n : Int) /\ IntKind.u64.wrap (↑a.n : Int) <= (40 : Int)) /\ bif bif decide ((0 : Int) > (0 :
 Int)) then true else decide (IntKind.u64.wrap (↑a.n : Int) > (9223372036854775807 : Int)) then False else ((0 : Int) <= IntKind.i64.wrap (IntKind.u64.wrap (↑a.n : Int)) /\ IntKind.i64.wrap (IntKind.u64.wrap (↑a.n : Int)) =
 IntKind.i64.wrap (IntKind.u64.wrap (↑a.n : Int)) /\ IntKind.i64.wrap (IntKind.u64.wrap (↑a.n : Int)) <= (9223372036854775807 : Int) /\ (↑(16 : Nat) : Int) * IntKind.i64.wrap (IntKind.u64.wrap (↑a.n : Int)) <=
 (281474976710656 : Int)) /\ ((True /\ ((0 : Nat) < (sng a.s).length -> BNF)) /\ (yK a).le (yK a)) /\ (∃ (a_1 : Nat), (AND /\ BQL a /\ (↑a_1 : Int) = (↑(BSN a) : Int) /\ BQL a /\ ∀ (i : Nat), i < a.n
 -> (I5 i a_1 a = bif BNT i a then (gD (sng a.s) i).lo else (0 : Int)) /\ yG i a_1 a = bif BNT i a then (gD (sng a.s) i).hi else (0 : Int)) /\ ANK a_1 a) /\ ∀ (a_1 : Nat), ANK a_1 a -> bif decide
 (AWB a_1 a) then ((BFZ a_1 /\ AXO a_1 a /\ (↑a.n : Int) <= (↑a.n : Int) /\ ((↑a_1 : Int) = (0 : Int) ∨ AWB a_1 a)) /\ ((0 : Int) <= (0 : Int) /\ BFZ a_1 /\ AXO a_1 a /\ ((0 : Int) = (0 : Int) ∨ (0 :
 Int) < (↑a_1 : Int))) /\ ((0 : Nat) + ARO a_1 <= a.n /\ ((0 : Nat) < ARO a_1 -> BNF)) /\ (Xe a_1 + Uw a a_1).le a.n) /\ ∃ (a_3 : Nat), (AND /\ a.n = a.n /\ (↑a_3 : Int) = IntKind.i64.wrap ((↑a_1 :
 Int) + (↑(AUD a_1 a) : Int)) /\ a.n = a.n /\ ∀ (i : Nat), i < a.n -> (I5 i a_3 a = bif BIF a_1 i a then (ARE i a_1 a).lo else I5 i a_1 a) /\ yG i a_3 a = bif BIF a_1 i a then (ARE i
 a_1 a).hi else yG i a_1 a) /\ ANK a_3 a /\ Uw a a_3 < Uw a a_1 else AND /\ a.n = a.n /\ a.n = a.n /\ ∀ (i : Nat), i < a.n -> a.s.lo = I5 i a_1 a /\ a.s.hi = yG i a_1 a) := by kernel_rfl
theorem CXL (a : SpN) (h : 1 <= a.n /\ a.n <= 40) : CRK a := by
 obtain ⟨h1, h2⟩ := h
 have e1 : IntKind.u64.wrap (a.n : Int) = a.n := u64w (by omega) (by omega)
 have e2 : IntKind.i64.wrap (a.n : Int) = a.n := CP (by omega) (by omega)
 have e3 : (sng a.s).length = 1 := rfl
 rw [CWA]; delta BNF yK AND BQL BSN BLR I5 BNT yG ANK AWB BFZ AXO ARO Xe Uw AUD BIF ARE; simp only [CC, eq_self, implies_true, forall_const, e1, e2, e3, Nat.sub_zero, Int.toNat_zero]
 refine ⟨⟨rfl, by omega, by omega⟩, λ h => ?_, λ _ => ⟨⟨by omega, by omega, by omega⟩, by omega, ⟨1, ⟨by omega, λ i hi => ?_⟩, by omega, by omega⟩, λ k hk => ⟨λ hlt => ⟨⟨by omega, by omega, by omega⟩, min (2 * k) a.n, ⟨?_, λ i hi => ?_⟩, by omega, by omega⟩, λ hge i hi => ?_⟩⟩⟩
 ·simp at h; omega
 ·by_cases h : i < 1
  ·obtain rfl : i = 0 := by omega
   have : 0 < min 1 a.n := by omega
   simp [this]; exact ⟨rfl, rfl⟩
  ·have : ¬ i < min 1 a.n := by omega
   simp [h, this, zSp]
 ·rw [CP (by omega) (by omega)]; omega
 ·have e : (decide (k <= i) && decide (i < k + min k (a.n - k))) = (decide (k <= i) && decide (i < min (2 * k) a.n)) := by
   congr 1; rw [decide_eq_decide]; omega
  rw [e]
  by_cases q1 : k <= i
  ·by_cases q2 : i < min (2 * k) a.n
   ·have q3 : i - k < k := by omega
    simp [q1, q2, q3]
   ·have q4 : ¬ i < k := by omega
    simp [q1, q2, q4]
  ·have q2 : i < min (2 * k) a.n := by omega
   have q3 : i < k := by omega
   simp [q1, q2, q3]
 ·have : i < k := by omega
  simp [this]
theorem CUT : AL Try.prog BXG (C_rep.spec CSZ) := KV C_rep CRT [(0, 201)] [] CNK (λ _ => by kernel_rfl) (λ _ => AD CTK AI) (λ a h => CXL a h) (λ _ => MD rfl rfl) _
def dSs1 : List AVal -> Heap -> Option (List Span × List (Nat × Nat) × List Nat)
 | [y], H => match YT y H with
  | some (l, f) => some (l, [], f)
  | none => none
 | _, _ => none
def C_clo : Ctr := { α := List Span, xs := λ l => [.d (AV l)], val := λ l => .own 0 2 0 l.length, keep := λ l => [(0, .live (rowS l))], pre := λ l => [0 < l.length /\ l.length < 1073741824] }
def CRE : Ann := { ann 8 [] with mt := λ id => id == 3 }
def CRB (l : List Span) : Prop := AW Try.prog CRE BFL (AK BFL) (C_clo.xs l) (AF []) (C_clo.val l) (C_clo.keep l) [(0, 4032)] []
theorem CUD (l : List Span) : (CRB l) = ((Nat.succ 0).le l.length /\ ((0 = 0 /\ (0 < 0 -> 2 = 2)) /\ (True /\ (0 < l.length -> 2 = 2)) /\ (false = true -> 0 < l.length) /\ 0 + l.length <= 9223372036854775807 /\ (0 + l.length)
 * 16 <= 140737488355328) /\ 0 = 0 /\ l.length = 0 + l.length /\ l.length = 0 + l.length /\ ∀ (i : Nat), i < l.length -> (gD l i).lo = (gD l (i - 0)).lo /\ (gD l i).hi = (gD l (i - 0)).hi) := by kernel_rfl
theorem CII : AL Try.prog H4 (C_clo.spec dSs1) := KV C_clo (λ _ => CRE) [(0, 4032)] [] CEI (λ _ => by kernel_rfl) (λ _ => AI) (λ (l : List Span) h => by
 show CRB l; rw [CUD]; simp only [CC, eq_self, implies_true, forall_const]
 obtain ⟨h1, h2⟩ : 0 < l.length /\ l.length < 1073741824 := h
 exact ⟨h1, ⟨λ _ => h1, by omega, by omega⟩, λ _ _ => ⟨rfl, rfl⟩⟩) (λ _ => MD rfl rfl) _
def farS : Span := ⟨-100000000, 100000000⟩
def IN (c : Cht) (j : Int) : Span := bif hasN c.ns j then (ntOf c.ns j).t else farS
def Fb (c : Cht) : List Span := AE c.ms.length λ i => IN c (i : Int)
structure Sn where
 seen : Int -> Bool
 deriving Inhabited
def left (c : Cht) (seen : Int -> Bool) : Nat -> Nat
 | 0 => 0
 | k + 1 => left c seen k + bif (hasN c.ns (k : Int) && !seen (k : Int)) then 1 else 0
def nt3 (w : Dk) : Shape := { α := Sn, dflt := default, T := λ s => ⟨[(3, .own 202 2 0 w.c.ms.length), (19, .bptr 203 0)], dkK w ++ [(202, .live (.row 2 w.c.ms.length λ i => BT (bif s.seen (i : Int) then (ntOf w.c.ns (i : Int)).t else farS))), (203, .live (.miter 101 (hasN w.c.ns) w.st s.seen none))]⟩, inv := λ s => ∀ j, s.seen j = true -> hasN w.c.ns j = true, meas := λ s => left w.c s.seen w.c.ms.length, first := [(202, 2128), (203, 3064)] }
def nsIn (c : Cht) : Prop := ∀ j, hasN c.ns j = true -> 0 <= j /\ j < c.ms.length
def C_not : Ctr := { ro := [100, 101], α := Dk, xs := λ _ => [.bptr 100 0], L := λ w => dkL w, val := λ w => .d (AV (Fb w.c)), keep := λ w => dkK w, pre := λ w => [1 <= w.c.ms.length /\ w.c.ms.length <= 40 /\ nsIn w.c] }
def CSP (w : Dk) : Ann := { ann 31 [(BXG, C_rep.spec CSZ)] with E := [100, 101], md := λ id => if id = 2 then some (λ k => if k = 4 then 5 else 0) else if id = 3 then some (λ k => if k = 0 then 6 else 0) else if id = 4 then some (λ k => if k = 0 then 7 else 0) else none, loops := λ id => if id = 3 then some [nt3 w] else none }
def CSQ (w : Dk) : Prop := AW Try.prog (CSP w) BLB (AK BLB) (C_not.xs w) (AF (C_not.L w)) (C_not.val w) (C_not.keep w) [] [202]
abbrev z_not_0 : Span := gD (AE 1 λ (i : Nat) => Span.mk (-100000000) 100000000) 0
abbrev BTG (j : Nat) : Span := gD (sng z_not_0) j
abbrev BRW : Prop := 0 = 0
abbrev XP (w : Dk) : Prop := w.c.ms.length = w.c.ms.length
abbrev ANZ (w : Dk) : Prop := w.c.p.lo = w.c.p.lo
abbrev ANP (w : Dk) : Prop := w.c.p.hi = w.c.p.hi
abbrev ANL (w : Dk) : Prop := ∀ (i : Nat), i < w.c.ms.length -> (gD w.c.ms i).pl = (gD w.c.ms i).pl /\ (gD w.c.ms i).ht = (gD w.c.ms i).ht
abbrev ANG (w : Dk) : Prop := w.c.ns.length = w.c.ns.length
abbrev AOY (w : Dk) : Prop := ∀ (i : Nat), i < w.c.ns.length -> (gD w.c.ns i).mi = (gD w.c.ns i).mi /\ (gD w.c.ns i).t.lo = (gD w.c.ns i).t.lo /\ (gD w.c.ns i).t.hi = (gD w.c.ns i).t.hi /\ (gD w.c.ns i).s.lo = (gD w.c.ns
 i).s.lo /\ (gD w.c.ns i).s.hi = (gD w.c.ns i).s.hi
abbrev AOK (w : Dk) : Prop := ∀ (i : Nat), i < 40 -> w.sp i = w.sp i
abbrev OP (w : Dk) : Prop := ∀ (n : Int), hasN w.c.ns n = hasN w.c.ns n
abbrev NU (w : Dk) : Prop := ∀ (n : Int), w.st n = w.st n
abbrev E2 (w : Dk) : Prop := ∀ (n : Int), (ntOf w.c.ns n).mi = (ntOf w.c.ns n).mi /\ (ntOf w.c.ns n).t.lo = (ntOf w.c.ns n).t.lo /\ (ntOf w.c.ns n).t.hi = (ntOf w.c.ns n).t.hi /\ (ntOf w.c.ns n).s.lo = (ntOf w.c.ns
 n).s.lo /\ (ntOf w.c.ns n).s.hi = (ntOf w.c.ns n).s.hi
abbrev BDB (a : Sn) (i : Nat) (w : Dk) : Span := bif a.seen (↑i : Int) then (ntOf w.c.ns (↑i : Int)).t else farS
abbrev A5 (a : Sn) (i : Nat) (w : Dk) : Int := (BDB a i w).lo
abbrev zU (a : Sn) (i : Nat) (w : Dk) : Int := (BDB a i w).hi
abbrev F1 (a : Sn) (w : Dk) : Prop := ∀ (j : Int), a.seen j = true -> hasN w.c.ns j = true
abbrev BIE (j : Nat) : Nat := 0 + j
abbrev ARC (a : Sn) (j : Nat) (w : Dk) : Span := bif a.seen (↑(BIE j) : Int) then (ntOf w.c.ns (↑(BIE j) : Int)).t else farS
abbrev BFS (k : Int) : Nat := 0 + k.toNat
abbrev ATD (i : Nat) (k : Int) : Bool := decide (i = BFS k)
abbrev ATT (w : Dk) (a : Sn) : Nat := left w.c a.seen w.c.ms.length
theorem CVA (w : Dk) : (CSQ w) = ((1 = 1 /\ 1 <= 1 /\ (∀ (j : Nat), j < 1 -> (BTG j).lo = -100000000 /\ (BTG j).hi = 100000000) /\ (↑w.c.ms.length : Int) = (↑w.c.ms.length : Int) /\ 1 <= w.c.ms.length /\
 w.c.ms.length <= 40) /\ (∃ (a : Sn), (BRW /\ XP w /\ ANZ w /\ ANP w /\ w.c.base = w.c.base /\ w.c.scale = w.c.scale /\ w.c.off = w.c.off /\ XP w /\ ANL w /\ ANG w /\ AOY w /\ AOK w /\ AT = AT /\
 OP w /\ NU w /\ E2 w /\ XP w /\ (∀ (i : Nat), i < w.c.ms.length -> A5 a i w = z_not_0.lo /\ zU a i w = z_not_0.hi) /\ OP w /\ NU w /\ ∀ (n : Int), a.seen n = false) /\ F1 a w) /\
 ∀ (a : Sn), F1 a w -> OP w /\ NU w /\ ((∀ (n : Int), hasN w.c.ns n = true -> a.seen n = true) -> (Fb w.c).length = w.c.ms.length /\ 0 + w.c.ms.length <= w.c.ms.length /\ (∀ (j : Nat), j < (Fb w.c).length ->
 (gD (Fb w.c) j).lo = (ARC a j w).lo /\ (gD (Fb w.c) j).hi = (ARC a j w).hi) /\ ANZ w /\ ANP w /\ w.c.base = w.c.base /\ w.c.scale = w.c.scale /\ w.c.off = w.c.off /\ XP w /\ ANL w /\ ANG w /\
 AOY w /\ AOK w /\ AT = AT /\ OP w /\ NU w /\ E2 w) /\ ∀ (k : Int), hasN w.c.ns k = true -> a.seen k = false -> OP w /\ NU w /\ ((0 <= k /\ k < (↑w.c.ms.length : Int)) /\ (BFS k).succ.le
 w.c.ms.length) /\ ∃ (a_4 : Sn), (BRW /\ XP w /\ ANZ w /\ ANP w /\ w.c.base = w.c.base /\ w.c.scale = w.c.scale /\ w.c.off = w.c.off /\ XP w /\ ANL w /\ ANG w /\ AOY w /\ AOK w /\ AT = AT /\
 OP w /\ NU w /\ E2 w /\ XP w /\ (∀ (i : Nat), i < w.c.ms.length -> (A5 a_4 i w = bif ATD i k then (ntOf w.c.ns k).t.lo else A5 a i w) /\ zU a_4 i w = bif ATD i k then (ntOf
 w.c.ns k).t.hi else zU a i w) /\ OP w /\ NU w /\ ∀ (n : Int), a_4.seen n = (decide (n = k) || a.seen n)) /\ F1 a_4 w /\ ATT w a_4 < ATT w a) := by kernel_rfl
theorem CBY (c : Cht) (s t : Int -> Bool) (h : ∀ j, s j = true -> t j = true) : ∀ k, left c t k <= left c s k
 | 0 => Nat.le_refl _
 | k + 1 => by
  have ih := CBY c s t h k
  have hk := h (k : Int)
  simp only [left]
  cases hN : hasN c.ns (k : Int) <;> cases h1 : s (k : Int) <;> cases h2 : t (k : Int) <;> simp_all <;> omega
theorem CCD (c : Cht) (s t : Int -> Bool) (h : ∀ j, s j = true -> t j = true) {j : Nat} (h0 : hasN c.ns (j : Int) = true) (h1 : s (j : Int) = false) (h2 : t (j : Int) = true) : ∀ k, j < k -> left c t k < left c s k
 | 0, hj => by omega
 | k + 1, hj => by
  by_cases e : j = k
  ·subst e
   have := CBY c s t h j
   simp only [left, h0, h1, h2]
   simp; omega
  ·have ih := CCD c s t h h0 h1 h2 k (by omega)
   have hk := h (k : Int)
   simp only [left]
   cases hN : hasN c.ns (k : Int) <;> cases h3 : s (k : Int) <;> cases h4 : t (k : Int) <;> simp_all <;> omega
theorem CYR (w : Dk) (h : 1 <= w.c.ms.length /\ w.c.ms.length <= 40 /\ nsIn w.c) : CSQ w := by
 obtain ⟨h1, h2, h3⟩ := h
 rw [CVA]; delta z_not_0 BTG BRW XP ANZ ANP ANL ANG AOY AOK OP NU E2 BDB A5 zU F1 BIE ARC BFS ATD ATT; simp only [CC, eq_self, implies_true, forall_const]
 refine ⟨⟨by omega, λ j hj => ?_, by omega, h2⟩, ⟨⟨λ _ => false⟩, ⟨λ i hi => ⟨rfl, rfl⟩, λ _ => rfl⟩, λ j hj => by cases hj⟩, λ s hs => ⟨λ hall => ⟨rng_length _ _, Nat.le_refl _, λ j hj => ?_⟩, λ k hk hsk => ⟨⟨h3 k hk, by have := h3 k hk; omega⟩, ⟨λ n => decide (n = k) || s.seen n⟩, ⟨λ i hi => ?_, λ _ => rfl⟩, λ j hj => ?_, ?_⟩⟩⟩
 ·obtain rfl : j = 0 := by omega
  exact ⟨rfl, rfl⟩
 ·have hj : j < w.c.ms.length := by simpa [Fb] using hj
  have e : s.seen (j : Int) = hasN w.c.ns (j : Int) := by
   cases hq : hasN w.c.ns (j : Int) with
   | true => exact hall _ hq
   | false =>
    cases hq2 : s.seen (j : Int) with
    | false => rfl
    | true => rw [hs _ hq2] at hq; cases hq
  unfold Fb; rw [BK _ _ _ hj, e]; exact ⟨rfl, rfl⟩
 ·have hk0 := h3 k hk
  have e : decide ((i : Int) = k) = decide (i = k.toNat) := by
   rw [Bool.eq_iff_iff, decide_eq_true_eq, decide_eq_true_eq]; omega
  simp only [e]
  by_cases hi2 : i = k.toNat
  ·have : (i : Int) = k := by omega
   rw [this]; simp [hi2]
  ·simp [hi2]
 ·simp only [Bool.or_eq_true, decide_eq_true_eq] at hj
  rcases hj with rfl | hj
  ·exact hk
  ·exact hs j hj
 ·have hk0 := h3 k hk
  have e : ((k.toNat : Nat) : Int) = k := by omega
  exact CCD w.c _ _ (λ j hj => by simp [hj]) (j := k.toNat) (by rw [e]; exact hk) (by rw [e]; exact hsk) (by rw [e]; simp) _ (by omega)
theorem CVD : AL Try.prog BNK (C_not.spec dDk1) := KV C_not CSP [] [202] CHO (λ _ => by kernel_rfl) (λ _ => AD CUT AI) (λ w h => CYR w h) (λ _ => MD rfl rfl) _
end Go.Bal
