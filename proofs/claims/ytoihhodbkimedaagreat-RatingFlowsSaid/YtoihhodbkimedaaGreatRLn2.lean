/- Package rating: the reference: what a line has. -/
import Derived.Test.YtoihhodbkimedaaGreatRLn1
import Derived.Test.YtoihhodbkimedaaGreatRatC
set_option linter.unusedVariables false
set_option linter.unusedSimpArgs false
namespace Go.Bal
open Go Go.Sym Go.Proofs
def zBx : HCell := .live (.box [.int 0, .int 0])
def rl4 (x : I2) : Shape := { α := NN, dflt := default, T := λ s => ⟨[(0, .int x.a), (1, .int x.b), (4, .bptr 1000 0), (5, .int s.a), (6, .int s.b)], [(1000, zBx)]⟩, inv := λ s => 0 < s.b /\ s.a <= 2305843009213693952 /\ s.b <= 2305843009213693952 /\ Nat.gcd s.a s.b = Nat.gcd x.a.natAbs x.b.natAbs, meas := λ s => s.a }
def CED (x : I2) : Ann := { ann 26 [] with loops := λ id => if id = 4 then some [rl4 x] else none }
def CGX (x : I2) : Prop := AN Try.prog (CED x) BOP (AF BOP) (xI2 x) (AC []) (.d (xQ (FD x.a x.b))) [] [] []
theorem CMS (x : I2) : (CGX x) = (bif decide (x.a < (0 : Int)) then (∃ (a : NN), (x.a = x.a /\ x.b = x.b /\ (↑a.a : Int) = IntKind.i64.wrap ((0 : Int) - x.a) /\ (↑a.b : Int) = x.b /\ Int.ofNat (0 : Nat) = Int.ofNat (0
 : Nat) /\ Int.ofNat (0 : Nat) = Int.ofNat (0 : Nat)) /\ (0 : Nat) < a.b /\ a.a <= (2305843009213693952 : Nat) /\ a.b <= (2305843009213693952 : Nat) /\ a.a.gcd a.b = x.a.natAbs.gcd x.b.natAbs) /\ ∀ (a : NN), (0 : Nat) < a.b /\ a.a
 <= (2305843009213693952 : Nat) /\ a.b <= (2305843009213693952 : Nat) /\ a.a.gcd a.b = x.a.natAbs.gcd x.b.natAbs -> bif (↑a.a : Int) != (0 : Int) then ((↑a.a : Int) = (0 : Int) -> False) /\ ∃ (a_2 : NN), (x.a = x.a /\ x.b = x.b /\
 (↑a_2.a : Int) = (↑a.b : Int).tmod (↑a.a : Int) /\ (↑a_2.b : Int) = (↑a.a : Int) /\ Int.ofNat (0 : Nat) = Int.ofNat (0 : Nat) /\ Int.ofNat (0 : Nat) = Int.ofNat (0 : Nat)) /\ ((0 : Nat) < a_2.b /\ a_2.a <= (2305843009213693952
 : Nat) /\ a_2.b <= (2305843009213693952 : Nat) /\ a_2.a.gcd a_2.b = x.a.natAbs.gcd x.b.natAbs) /\ a_2.a < a.a else ((↑a.b : Int) ≠ (0 : Int) /\ ((↑a.b : Int) = (0 : Int) -> False)) /\ (FD x.a x.b).n = IntKind.i64.wrap
 (x.a.tdiv (↑a.b : Int)) /\ (FD x.a x.b).d = IntKind.i64.wrap (x.b.tdiv (↑a.b : Int)) else (∃ (a : NN), (x.a = x.a /\ x.b = x.b /\ (↑a.a : Int) = x.a /\ (↑a.b : Int) = x.b /\ Int.ofNat (0 : Nat) = Int.ofNat (0 : Nat) /\
 Int.ofNat (0 : Nat) = Int.ofNat (0 : Nat)) /\ (0 : Nat) < a.b /\ a.a <= (2305843009213693952 : Nat) /\ a.b <= (2305843009213693952 : Nat) /\ a.a.gcd a.b = x.a.natAbs.gcd x.b.natAbs) /\ ∀ (a : NN), (0 : Nat) < a.b /\ a.a <=
 (2305843009213693952 : Nat) /\ a.b <= (2305843009213693952 : Nat) /\ a.a.gcd a.b = x.a.natAbs.gcd x.b.natAbs -> bif (↑a.a : Int) != (0 : Int) then ((↑a.a : Int) = (0 : Int) -> False) /\ ∃ (a_2 : NN), (x.a = x.a /\ x.b = x.b /\
 (↑a_2.a : Int) = (↑a.b : Int).tmod (↑a.a : Int) /\ (↑a_2.b : Int) = (↑a.a : Int) /\ Int.ofNat (0 : Nat) = Int.ofNat (0 : Nat) /\ Int.ofNat (0 : Nat) = Int.ofNat (0 : Nat)) /\ ((0 : Nat) < a_2.b /\ a_2.a <= (2305843009213693952
 : Nat) /\ a_2.b <= (2305843009213693952 : Nat) /\ a_2.a.gcd a_2.b = x.a.natAbs.gcd x.b.natAbs) /\ a_2.a < a.a else ((↑a.b : Int) ≠ (0 : Int) /\ ((↑a.b : Int) = (0 : Int) -> False)) /\ (FD x.a x.b).n = IntKind.i64.wrap
 (x.a.tdiv (↑a.b : Int)) /\ (FD x.a x.b).d = IntKind.i64.wrap (x.b.tdiv (↑a.b : Int))) := by kernel_rfl
def UX (a b : Rt) : Bool := decide (wr (a.n * b.d) < wr (b.n * a.d))
def gX := pD dR2 λ x => .bool (UX x.lo x.hi)
def CFI (a : Bnd) : Prop := AN Try.prog (ann 16 []) BSL (AF BSL) (xR2 a) (AC []) (.bool (UX a.lo a.hi)) [] [] []
theorem CLI (a : Bnd) : (CFI a) = (UX a.lo a.hi = decide (IntKind.i64.wrap (a.lo.n * a.hi.d) < IntKind.i64.wrap (a.hi.n * a.lo.d))) := by kernel_rfl
def CDZ (a : LnI) : Prop := AN Try.prog (ann 32 [(aC, OX)]) BQM (AF BQM) (xLI a) (AC []) (.d (xQ (ER a.x a.s))) [] [] []
theorem CNP (a : LnI) : (CDZ a) = ((0 < IntKind.i64.wrap (a.x.b0 - a.x.a0) /\ IntKind.i64.wrap (a.x.b0 - a.x.a0) <= 2305843009213693952 /\ -2305843009213693952 <= IntKind.i64.wrap (IntKind.i64.wrap (a.x.a1 *
 IntKind.i64.wrap (a.x.b0 - a.s)) + IntKind.i64.wrap (a.x.b1 * IntKind.i64.wrap (a.s - a.x.a0))) /\ IntKind.i64.wrap (IntKind.i64.wrap (a.x.a1 * IntKind.i64.wrap (a.x.b0 - a.s)) + IntKind.i64.wrap (a.x.b1 *
 IntKind.i64.wrap (a.s - a.x.a0))) <= 2305843009213693952) /\ (ER a.x a.s).n = (FD (IntKind.i64.wrap (IntKind.i64.wrap (a.x.a1 * IntKind.i64.wrap (a.x.b0 - a.s)) + IntKind.i64.wrap (a.x.b1 * IntKind.i64.wrap (a.s -
 a.x.a0)))) (IntKind.i64.wrap (a.x.b0 - a.x.a0))).n /\ (ER a.x a.s).d = (FD (IntKind.i64.wrap (IntKind.i64.wrap (a.x.a1 * IntKind.i64.wrap (a.x.b0 - a.s)) + IntKind.i64.wrap (a.x.b1 * IntKind.i64.wrap (a.s - a.x.a0))))
 (IntKind.i64.wrap (a.x.b0 - a.x.a0))).d) := by kernel_rfl
def BVY (r : Rt) : Prop := AN Try.prog (ann 12 [(Ok, gX)]) BIS (AF BIS) (xR1 r) (AC []) (.d (xQ (CT r))) [] [] []
theorem CDA (r : Rt) : (BVY r) = (bif decide (r.n < 0) then (CT r).n = 0 /\ (CT r).d = 1 else bif UX (Rt.mk 200000 1) r then (CT r).n = 200000 /\ (CT r).d = 1 else (CT r).n = r.n /\ (CT r).d =
 r.d) := by kernel_rfl
def hasE (x : Ln) (s : Int) : Int := bif SK x then (bif BY s 0 2000 then 0 else 4) else 50
def C_rPart : Ctr := { α := IX, xs := λ a => [.d (BC a.l), .int a.x], val := λ a => .int (ET a.l a.x), pre := λ a => [a.l.length < 1073741824 /\ True] }
def rp3 (a : IX) : Shape := { α := Nat, dflt := 0, T := λ i => ⟨[(0, .d (BC a.l)), (1, .int a.x), (5, .int (ET (a.l.take i) a.x)), (6, .int i)], []⟩, inv := λ i => i <= a.l.length, meas := λ i => a.l.length - i }
def BWD (a : IX) : Ann := { ann 22 [] with loops := λ id => if id = 3 then some [rp3 a] else none }
def BVN (a : IX) : Prop := AN Try.prog (BWD a) BFS (AF BFS) (C_rPart.xs a) (AC []) (C_rPart.val a) [] [] []
theorem CFQ (a : IX) : (BVN a) = ((∃ (a_1 : Nat), (a.l.length = a.l.length /\ (∀ (i : Nat), i < a.l.length -> gD a.l i = gD a.l i) /\ a.x = a.x /\ (↑(ET (List.take a_1 a.l) a.x) : Int) = 0 /\ (↑a_1 : Int) = 0) /\
 a_1.le a.l.length) /\ ∀ (a_1 : Nat), a_1.le a.l.length -> bif decide ((↑a_1 : Int) < (↑a.l.length : Int)) then (0 <= (↑a_1 : Int) /\ (↑a_1 : Int) < (↑a.l.length : Int)) /\ bif decide (gD a.l a_1 <= a.x) then ∃ (a_3 : Nat),
 (a.l.length = a.l.length /\ (∀ (i : Nat), i < a.l.length -> gD a.l i = gD a.l i) /\ a.x = a.x /\ (↑(ET (List.take a_3 a.l) a.x) : Int) = IntKind.i64.wrap ((↑(ET (List.take a_1 a.l) a.x) : Int) + 1) /\ (↑a_3 : Int) =
 IntKind.i64.wrap ((↑a_1 : Int) + 1)) /\ a_3.le a.l.length /\ a.l.length - a_3 < a.l.length - a_1 else ∃ (a_3 : Nat), (a.l.length = a.l.length /\ (∀ (i : Nat), i < a.l.length -> gD a.l i = gD a.l i) /\ a.x = a.x /\ (↑(ET
 (List.take a_3 a.l) a.x) : Int) = (↑(ET (List.take a_1 a.l) a.x) : Int) /\ (↑a_3 : Int) = IntKind.i64.wrap ((↑a_1 : Int) + 1)) /\ a_3.le a.l.length /\ a.l.length - a_3 < a.l.length - a_1 else (↑(ET a.l a.x) : Int) =
 (↑(ET (List.take a_1 a.l) a.x) : Int)) := by kernel_rfl
theorem BHM : AG Try.prog aC OX := EL xI2 hI2 λ x h => KZ (A := CED x) (ren := []) (fz := []) CNZ (by kernel_rfl) AD (by
 show CGX x; rw [CMS]; simp only [CC, eq_self, implies_true, forall_const]
 obtain ⟨h1, h2, h3, h4⟩ : 0 < x.b /\ x.b <= 2305843009213693952 /\ -2305843009213693952 <= x.a /\ x.a <= 2305843009213693952 := h
 have hg0 : 0 < Nat.gcd x.a.natAbs x.b.natAbs := Nat.gcd_pos_of_pos_right _ (by omega)
 have hb : ((x.b.natAbs : Nat) : Int) = x.b := by omega
 have loop : ∀ s : NN, (0 < s.b /\ s.a <= 2305843009213693952 /\ s.b <= 2305843009213693952 /\ Nat.gcd s.a s.b = Nat.gcd x.a.natAbs x.b.natAbs) -> ((((s.a : Int) != 0) = true -> ((s.a : Int) = 0 -> False) /\ ∃ t : NN, ((t.a : Int) = (s.b : Int).tmod s.a /\ (t.b : Int) = s.a) /\ (0 < t.b /\ t.a <= 2305843009213693952 /\ t.b <= 2305843009213693952 /\ Nat.gcd t.a t.b = Nat.gcd x.a.natAbs x.b.natAbs) /\ t.a < s.a) /\ (((s.a : Int) != 0) = false -> (s.b : Int) ≠ 0 /\ (FD x.a x.b).n = IntKind.i64.wrap (x.a.tdiv s.b) /\ (FD x.a x.b).d = IntKind.i64.wrap (x.b.tdiv s.b))) := λ s ⟨s1, s2, s3, s4⟩ => by
  refine ⟨λ hc => ?_, λ hc => ?_⟩
  ·have hc : s.a ≠ 0 := by simpa using hc
   refine ⟨by omega, ⟨s.b % s.a, s.a⟩, ⟨(Int.ofNat_tmod s.b s.a), rfl⟩, ⟨Nat.pos_of_ne_zero hc, ?_, s2, ?_⟩, Nat.mod_lt _ (Nat.pos_of_ne_zero hc)⟩
   ·have := Nat.mod_lt s.b (Nat.pos_of_ne_zero hc); show s.b % s.a <= _; omega
   ·show Nat.gcd (s.b % s.a) s.a = _
    rw [<- Nat.gcd_rec]; exact s4
  ·have hc : s.a = 0 := by simpa using hc
   rw [hc, Nat.gcd_zero_left] at s4
   have ha : ∀ z : Int, (z.tdiv (s.b : Int)).natAbs <= z.natAbs := λ z => by rw [Int.natAbs_tdiv]; exact Nat.div_le_self _ _
   have e1 := ha x.a
   have e2 := ha x.b
   refine ⟨by omega, ?_, ?_⟩
   ·rw [EV (by omega) (by omega)]; unfold FD; rw [<- s4]
   ·rw [EV (by omega) (by omega)]; unfold FD; rw [<- s4]
 refine ⟨λ hn => ⟨⟨⟨x.a.natAbs, x.b.natAbs⟩, ⟨by show ((x.a.natAbs : Nat) : Int) = _; rw [EV (by omega) (by omega)]; omega, hb⟩, by show 0 < x.b.natAbs; omega, by show x.a.natAbs <= _; omega, by show x.b.natAbs <= _; omega, rfl⟩, loop⟩, λ hn => ⟨⟨⟨x.a.natAbs, x.b.natAbs⟩, ⟨by show ((x.a.natAbs : Nat) : Int) = _; omega, hb⟩, by show 0 < x.b.natAbs; omega, by show x.a.natAbs <= _; omega, by show x.b.natAbs <= _; omega, rfl⟩, loop⟩⟩)
theorem rB : AG Try.prog Ok gX := EL xR2 hR2 λ g _ => KZ (A := ann 16 []) (ren := []) (fz := []) CNQ (by kernel_rfl) AD (by
 show CFI g; rw [CLI]; rfl)
theorem CLO : AG Try.prog BRT APN := EL xLI hLI λ a h => KZ (A := ann 32 [(aC, OX)]) (ren := []) (fz := []) CLC (by kernel_rfl) (AB BHM AD) (by
 show CDZ a; rw [CNP]
 obtain ⟨⟨h1, h2, h3, h4, h5, h6⟩, h7, h8⟩ : DR a.x /\ 0 <= a.s /\ a.s <= 2000 := h
 have b1 : a.x.a1 * (a.x.b0 - a.s) <= 200000 * 2000 := Int.le_trans (Int.mul_le_mul_of_nonneg_left (show a.x.b0 - a.s <= 2000 by omega) h4) (Int.mul_le_mul_of_nonneg_right (by omega) (by omega))
 have b2 : -(200000 * 2000) <= a.x.a1 * (a.x.b0 - a.s) := by
  have e1 := Int.mul_le_mul_of_nonneg_left (show -2000 <= a.x.b0 - a.s by omega) h4
  have e2 := Int.mul_le_mul_of_nonneg_right (show a.x.a1 <= 200000 by omega) (show (0 : Int) <= 2000 by omega)
  rw [Int.mul_neg] at e1; omega
 have b3 : a.x.b1 * (a.s - a.x.a0) <= 200000 * 2000 := Int.le_trans (Int.mul_le_mul_of_nonneg_left (show a.s - a.x.a0 <= 2000 by omega) (by omega)) (Int.mul_le_mul_of_nonneg_right h6 (by omega))
 have b4 : -(200000 * 2000) <= a.x.b1 * (a.s - a.x.a0) := by
  have e1 := Int.mul_le_mul_of_nonneg_left (show -2000 <= a.s - a.x.a0 by omega) (show 0 <= a.x.b1 by omega)
  have e2 := Int.mul_le_mul_of_nonneg_right h6 (show (0 : Int) <= 2000 by omega)
  rw [Int.mul_neg] at e1; omega
 have w1 : IntKind.i64.wrap (a.x.b0 - a.x.a0) = a.x.b0 - a.x.a0 := EV (by omega) (by omega)
 have w2 : IntKind.i64.wrap (a.x.b0 - a.s) = a.x.b0 - a.s := EV (by omega) (by omega)
 have w3 : IntKind.i64.wrap (a.s - a.x.a0) = a.s - a.x.a0 := EV (by omega) (by omega)
 rw [w1, w2, w3]
 rw [EV (n := a.x.a1 * (a.x.b0 - a.s)) (by omega) (by omega), EV (n := a.x.b1 * (a.s - a.x.a0)) (by omega) (by omega), EV (n := a.x.a1 * (a.x.b0 - a.s) + a.x.b1 * (a.s - a.x.a0)) (by omega) (by omega)]
 have e : a.x.a1 * (a.x.b0 - a.s) + a.x.b1 * (a.s - a.x.a0) = a.x.a1 * (a.x.b0 - a.x.a0) + (a.x.b1 - a.x.a1) * (a.s - a.x.a0) := by grind
 refine ⟨⟨by omega, by omega, by omega, by omega⟩, ?_, ?_⟩
 ·unfold ER; rw [e]
 ·unfold ER; rw [e])
def BIK := pD dR1 (λ r => .d (xQ (CT r))) (λ r => [(0 < r.d /\ r.d <= 4000000) /\ -2305843009213693952 <= r.n /\ r.n <= 2305843009213693952])
theorem BNB : AG Try.prog AIH BIK := EL xR1 hR1 λ r h => KZ (A := ann 12 [(Ok, gX)]) (ren := []) (fz := []) CEI (by kernel_rfl) (AB rB AD) (by
 show BVY r; rw [CDA]; simp only [CC, eq_self, implies_true, forall_const]
 obtain ⟨⟨h1, h2⟩, h3, h4⟩ : (0 < r.d /\ r.d <= 4000000) /\ -2305843009213693952 <= r.n /\ r.n <= 2305843009213693952 := h
 have e : UX (Rt.mk 200000 1) r = decide (200000 * r.d < r.n) := by
  unfold UX
  show decide (wr (200000 * r.d) < wr (r.n * 1)) = _
  rw [show wr (200000 * r.d) = 200000 * r.d from EV (by omega) (by omega), show wr (r.n * 1) = r.n by rw [Int.mul_one]; exact EV (by omega) (by omega)]
 rw [e]
 unfold CT
 refine ⟨λ h3 => by rw [if_pos h3]; exact ⟨rfl, rfl⟩, λ h3 => ⟨λ h4 => ?_, λ h4 => ?_⟩⟩
 ·rw [if_neg h3, if_pos (by simpa using h4)]; exact ⟨rfl, rfl⟩
 ·rw [if_neg h3, if_neg (by simpa using h4)]; exact ⟨rfl, rfl⟩)
theorem BNC (l : List Int) (y x : Int) : ET (l ++ [y]) x = ET l x + (if y <= x then 1 else 0) := by
 unfold ET; rw [List.countP_append]
 by_cases h : y <= x <;> simp [h]
theorem tC : AG Try.prog Xc (C_rPart.spec dIX) := HR C_rPart BWD [] [] CIJ (λ _ => by kernel_rfl) (λ _ => AD) (λ (a : IX) h => by
 show BVN a; rw [CFQ]; simp only [CC, eq_self, implies_true, forall_const]
 have hl : a.l.length < 1073741824 := (show a.l.length < 1073741824 /\ True from h).1
 have hle : ∀ i, ET (a.l.take i) a.x <= a.l.length := λ i => by
  unfold ET
  exact Nat.le_trans List.countP_le_length (by rw [List.length_take]; omega)
 refine ⟨⟨0, ⟨rfl, rfl⟩, Nat.zero_le _⟩, λ i hi => ⟨λ hlt => ⟨⟨by omega, by omega⟩, λ hc => ⟨i + 1, ⟨?_, (BF (by omega)).symm⟩, by omega, by omega⟩, λ hc => ⟨i + 1, ⟨?_, (BF (by omega)).symm⟩, by omega, by omega⟩⟩, λ hge => ?_⟩⟩
 ·have := hle i
  rw [DF (by omega), BNC, if_pos hc, EV (by omega) (by omega)]; omega
 ·rw [DF (by omega), BNC, if_neg hc]; rfl
 ·rw [List.take_of_length_le (by omega)]) (λ _ => IN rfl rfl) _
end Go.Bal
