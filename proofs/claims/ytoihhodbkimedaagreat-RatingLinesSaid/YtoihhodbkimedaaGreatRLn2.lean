/- Package rating: the reference: what a line has. -/
import Derived.Test.YtoihhodbkimedaaGreatRLn1
import Derived.Test.YtoihhodbkimedaaGreatRatC
set_option linter.unusedVariables false
set_option linter.unusedSimpArgs false
namespace Go.Bal
open Go Go.Sym Go.Proofs
def zBx : HCell := .live (.box [.int 0, .int 0])
def rl4 (x : I2) : Shape := { α := NN, dflt := default, T := λ s => ⟨[(0, .int x.a), (1, .int x.b), (4, .bptr 1000 0), (5, .int s.a), (6, .int s.b)], [(1000, zBx)]⟩, inv := λ s => 0 < s.b /\ s.a <= 2305843009213693952 /\ s.b <= 2305843009213693952 /\ Nat.gcd s.a s.b = Nat.gcd x.a.natAbs x.b.natAbs, meas := λ s => s.a }
def BGN (x : I2) : Ann := { ann 26 [] with loops := λ id => if id = 4 then some [rl4 x] else none }
def BLV (x : I2) : Prop := AO Try.prog (BGN x) AXH (AF AXH) (xI2 x) (AC []) (.d (sX (OI x.a x.b))) [] [] []
theorem BPZ (x : I2) : (BLV x) = (bif decide (x.a < (0 : Int)) then (∃ (a : NN), (x.a = x.a /\ x.b = x.b /\ (↑a.a : Int) = IntKind.i64.wrap ((0 : Int) - x.a) /\ (↑a.b : Int) = x.b /\ Int.ofNat (0 : Nat) = Int.ofNat (0
 : Nat) /\ Int.ofNat (0 : Nat) = Int.ofNat (0 : Nat)) /\ (0 : Nat) < a.b /\ a.a <= (2305843009213693952 : Nat) /\ a.b <= (2305843009213693952 : Nat) /\ a.a.gcd a.b = x.a.natAbs.gcd x.b.natAbs) /\ ∀ (a : NN), (0 : Nat) < a.b /\ a.a
 <= (2305843009213693952 : Nat) /\ a.b <= (2305843009213693952 : Nat) /\ a.a.gcd a.b = x.a.natAbs.gcd x.b.natAbs -> bif (↑a.a : Int) != (0 : Int) then ((↑a.a : Int) = (0 : Int) -> False) /\ ∃ (a_2 : NN), (x.a = x.a /\ x.b = x.b /\
 (↑a_2.a : Int) = (↑a.b : Int).tmod (↑a.a : Int) /\ (↑a_2.b : Int) = (↑a.a : Int) /\ Int.ofNat (0 : Nat) = Int.ofNat (0 : Nat) /\ Int.ofNat (0 : Nat) = Int.ofNat (0 : Nat)) /\ ((0 : Nat) < a_2.b /\ a_2.a <= (2305843009213693952
 : Nat) /\ a_2.b <= (2305843009213693952 : Nat) /\ a_2.a.gcd a_2.b = x.a.natAbs.gcd x.b.natAbs) /\ a_2.a < a.a else ((↑a.b : Int) ≠ (0 : Int) /\ ((↑a.b : Int) = (0 : Int) -> False)) /\ (OI x.a x.b).n = IntKind.i64.wrap
 (x.a.tdiv (↑a.b : Int)) /\ (OI x.a x.b).d = IntKind.i64.wrap (x.b.tdiv (↑a.b : Int)) else (∃ (a : NN), (x.a = x.a /\ x.b = x.b /\ (↑a.a : Int) = x.a /\ (↑a.b : Int) = x.b /\ Int.ofNat (0 : Nat) = Int.ofNat (0 : Nat) /\
 Int.ofNat (0 : Nat) = Int.ofNat (0 : Nat)) /\ (0 : Nat) < a.b /\ a.a <= (2305843009213693952 : Nat) /\ a.b <= (2305843009213693952 : Nat) /\ a.a.gcd a.b = x.a.natAbs.gcd x.b.natAbs) /\ ∀ (a : NN), (0 : Nat) < a.b /\ a.a <=
 (2305843009213693952 : Nat) /\ a.b <= (2305843009213693952 : Nat) /\ a.a.gcd a.b = x.a.natAbs.gcd x.b.natAbs -> bif (↑a.a : Int) != (0 : Int) then ((↑a.a : Int) = (0 : Int) -> False) /\ ∃ (a_2 : NN), (x.a = x.a /\ x.b = x.b /\
 (↑a_2.a : Int) = (↑a.b : Int).tmod (↑a.a : Int) /\ (↑a_2.b : Int) = (↑a.a : Int) /\ Int.ofNat (0 : Nat) = Int.ofNat (0 : Nat) /\ Int.ofNat (0 : Nat) = Int.ofNat (0 : Nat)) /\ ((0 : Nat) < a_2.b /\ a_2.a <= (2305843009213693952
 : Nat) /\ a_2.b <= (2305843009213693952 : Nat) /\ a_2.a.gcd a_2.b = x.a.natAbs.gcd x.b.natAbs) /\ a_2.a < a.a else ((↑a.b : Int) ≠ (0 : Int) /\ ((↑a.b : Int) = (0 : Int) -> False)) /\ (OI x.a x.b).n = IntKind.i64.wrap
 (x.a.tdiv (↑a.b : Int)) /\ (OI x.a x.b).d = IntKind.i64.wrap (x.b.tdiv (↑a.b : Int))) := by kernel_rfl
def yZ (a b : Rt) : Bool := decide (wr (a.n * b.d) < wr (b.n * a.d))
def APZ := pD dR2 λ x => .bool (yZ x.lo x.hi)
def BFP (a : Bnd) : Prop := AO Try.prog (ann 16 []) AWG (AF AWG) (xR2 a) (AC []) (.bool (yZ a.lo a.hi)) [] [] []
theorem BPN (a : Bnd) : (BFP a) = (yZ a.lo a.hi = decide (IntKind.i64.wrap (a.lo.n * a.hi.d) < IntKind.i64.wrap (a.hi.n * a.lo.d))) := by kernel_rfl
def BHZ (a : LnI) : Prop := AO Try.prog (ann 32 [(ANN, Mj)]) AWA (AF AWA) (xLI a) (AC []) (.d (sX (DP a.x a.s))) [] [] []
theorem BMK (a : LnI) : (BHZ a) = ((0 < IntKind.i64.wrap (a.x.b0 - a.x.a0) /\ IntKind.i64.wrap (a.x.b0 - a.x.a0) <= 2305843009213693952 /\ -2305843009213693952 <= IntKind.i64.wrap (IntKind.i64.wrap (a.x.a1 *
 IntKind.i64.wrap (a.x.b0 - a.s)) + IntKind.i64.wrap (a.x.b1 * IntKind.i64.wrap (a.s - a.x.a0))) /\ IntKind.i64.wrap (IntKind.i64.wrap (a.x.a1 * IntKind.i64.wrap (a.x.b0 - a.s)) + IntKind.i64.wrap (a.x.b1 *
 IntKind.i64.wrap (a.s - a.x.a0))) <= 2305843009213693952) /\ (DP a.x a.s).n = (OI (IntKind.i64.wrap (IntKind.i64.wrap (a.x.a1 * IntKind.i64.wrap (a.x.b0 - a.s)) + IntKind.i64.wrap (a.x.b1 * IntKind.i64.wrap (a.s -
 a.x.a0)))) (IntKind.i64.wrap (a.x.b0 - a.x.a0))).n /\ (DP a.x a.s).d = (OI (IntKind.i64.wrap (IntKind.i64.wrap (a.x.a1 * IntKind.i64.wrap (a.x.b0 - a.s)) + IntKind.i64.wrap (a.x.b1 * IntKind.i64.wrap (a.s - a.x.a0))))
 (IntKind.i64.wrap (a.x.b0 - a.x.a0))).d) := by kernel_rfl
def BAX (r : Rt) : Prop := AO Try.prog (ann 12 [(AEN, APZ)]) ALP (AF ALP) (xR1 r) (AC []) (.d (sX (GN r))) [] [] []
theorem BKY (r : Rt) : (BAX r) = (bif decide (r.n < 0) then (GN r).n = 0 /\ (GN r).d = 1 else bif yZ (Rt.mk 200000 1) r then (GN r).n = 200000 /\ (GN r).d = 1 else (GN r).n = r.n /\ (GN r).d =
 r.d) := by kernel_rfl
def NE (x : Ln) (s : Int) : Int := bif FT x then (bif CJ s 0 2000 then 0 else 4) else 50
def JX (x : Ln) (s : Int) : Rt := bif NE x s == 0 then DP x s else ⟨0, 0⟩
def ANQ := pD dLI λ a => .tup [.d (sX (JX a.x a.s)), .int (NE a.x a.s)]
def BLG (a : LnI) : Prop := AO Try.prog (ann 19 [(jI, ACU), (Qw, Uh), (D0, Dx)]) AYL (AF AYL) (xLI a) (AC []) (.tup [.d (sX (JX a.x a.s)), .int (NE a.x a.s)]) [] [] []
theorem BOU (a : LnI) : (BLG a) = (bif !FT a.x then (JX a.x a.s).n = 0 /\ (JX a.x a.s).d = 0 /\ NE a.x a.s = 50 else bif !CJ a.s 0 2000 then (JX a.x a.s).n = 0 /\ (JX a.x a.s).d = 0 /\ NE a.x a.s = 4
 else ((0 <= a.x.a0 /\ a.x.a0 < a.x.b0 /\ a.x.b0 <= 2000 /\ 0 <= a.x.a1 /\ a.x.a1 <= a.x.b1 /\ a.x.b1 <= 200000) /\ 0 <= a.s /\ a.s <= 2000) /\ (JX a.x a.s).n = (DP a.x a.s).n /\ (JX a.x a.s).d = (DP a.x a.s).d /\ NE a.x a.s =
 0) := by kernel_rfl
def BEM (a : LnI) : Prop := AO Try.prog (ann 15 [(Fp, lK), (Dl, Hr), (nY, Dx)]) AVV (AF AVV) (xLI a) (AC []) (.tup [.d (sX (JX a.x a.s)), .int (NE a.x a.s)]) [] [] []
theorem BOK (a : LnI) : (BEM a) = (bif !FT a.x then (JX a.x a.s).n = 0 /\ (JX a.x a.s).d = 0 /\ NE a.x a.s = 50 else bif !CJ a.s 0 2000 then (JX a.x a.s).n = 0 /\ (JX a.x a.s).d = 0 /\ NE a.x a.s = 4
 else ((0 <= a.x.a0 /\ a.x.a0 < a.x.b0 /\ a.x.b0 <= 2000 /\ 0 <= a.x.a1 /\ a.x.a1 <= a.x.b1 /\ a.x.b1 <= 200000) /\ 0 <= a.s /\ a.s <= 2000) /\ (JX a.x a.s).n = (DP a.x a.s).n /\ (JX a.x a.s).d = (DP a.x a.s).d /\ NE a.x a.s =
 0) := by kernel_rfl
def C_rPart : Ctr := { α := IX, xs := λ a => [.d (BD a.l), .int a.x], val := λ a => .int (FA a.l a.x), pre := λ a => [a.l.length < 1073741824 /\ True] }
def rp3 (a : IX) : Shape := { α := Nat, dflt := 0, T := λ i => ⟨[(0, .d (BD a.l)), (1, .int a.x), (5, .int (FA (a.l.take i) a.x)), (6, .int i)], []⟩, inv := λ i => i <= a.l.length, meas := λ i => a.l.length - i }
def AZT (a : IX) : Ann := { ann 22 [] with loops := λ id => if id = 3 then some [rp3 a] else none }
def BAN (a : IX) : Prop := AO Try.prog (AZT a) ALX (AF ALX) (C_rPart.xs a) (AC []) (C_rPart.val a) [] [] []
theorem BFH (a : IX) : (BAN a) = ((∃ (a_1 : Nat), (a.l.length = a.l.length /\ (∀ (i : Nat), i < a.l.length -> gD a.l i = gD a.l i) /\ a.x = a.x /\ (↑(FA (List.take a_1 a.l) a.x) : Int) = 0 /\ (↑a_1 : Int) = 0) /\
 a_1.le a.l.length) /\ ∀ (a_1 : Nat), a_1.le a.l.length -> bif decide ((↑a_1 : Int) < (↑a.l.length : Int)) then (0 <= (↑a_1 : Int) /\ (↑a_1 : Int) < (↑a.l.length : Int)) /\ bif decide (gD a.l a_1 <= a.x) then ∃ (a_3 : Nat),
 (a.l.length = a.l.length /\ (∀ (i : Nat), i < a.l.length -> gD a.l i = gD a.l i) /\ a.x = a.x /\ (↑(FA (List.take a_3 a.l) a.x) : Int) = IntKind.i64.wrap ((↑(FA (List.take a_1 a.l) a.x) : Int) + 1) /\ (↑a_3 : Int) =
 IntKind.i64.wrap ((↑a_1 : Int) + 1)) /\ a_3.le a.l.length /\ a.l.length - a_3 < a.l.length - a_1 else ∃ (a_3 : Nat), (a.l.length = a.l.length /\ (∀ (i : Nat), i < a.l.length -> gD a.l i = gD a.l i) /\ a.x = a.x /\ (↑(FA
 (List.take a_3 a.l) a.x) : Int) = (↑(FA (List.take a_1 a.l) a.x) : Int) /\ (↑a_3 : Int) = IntKind.i64.wrap ((↑a_1 : Int) + 1)) /\ a_3.le a.l.length /\ a.l.length - a_3 < a.l.length - a_1 else (↑(FA a.l a.x) : Int) =
 (↑(FA (List.take a_1 a.l) a.x) : Int)) := by kernel_rfl
theorem BPL : AG Try.prog ANN Mj := EB xI2 hI2 λ x h => JZ (A := BGN x) (ren := []) (fz := []) BNI (by kernel_rfl) AE (by
 show BLV x; rw [BPZ]; simp only [CC, eq_self, implies_true, forall_const]
 obtain ⟨h1, h2, h3, h4⟩ : 0 < x.b /\ x.b <= 2305843009213693952 /\ -2305843009213693952 <= x.a /\ x.a <= 2305843009213693952 := h
 have hg0 : 0 < Nat.gcd x.a.natAbs x.b.natAbs := Nat.gcd_pos_of_pos_right _ (by omega)
 have hb : ((x.b.natAbs : Nat) : Int) = x.b := by omega
 have loop : ∀ s : NN, (0 < s.b /\ s.a <= 2305843009213693952 /\ s.b <= 2305843009213693952 /\ Nat.gcd s.a s.b = Nat.gcd x.a.natAbs x.b.natAbs) -> ((((s.a : Int) != 0) = true -> ((s.a : Int) = 0 -> False) /\ ∃ t : NN, ((t.a : Int) = (s.b : Int).tmod s.a /\ (t.b : Int) = s.a) /\ (0 < t.b /\ t.a <= 2305843009213693952 /\ t.b <= 2305843009213693952 /\ Nat.gcd t.a t.b = Nat.gcd x.a.natAbs x.b.natAbs) /\ t.a < s.a) /\ (((s.a : Int) != 0) = false -> (s.b : Int) ≠ 0 /\ (OI x.a x.b).n = IntKind.i64.wrap (x.a.tdiv s.b) /\ (OI x.a x.b).d = IntKind.i64.wrap (x.b.tdiv s.b))) := λ s ⟨s1, s2, s3, s4⟩ => by
  refine ⟨λ hc => ?_, λ hc => ?_⟩
  ·have hc : s.a ≠ 0 := by simpa using hc
   refine ⟨by omega, ⟨s.b % s.a, s.a⟩, ⟨(Int.ofNat_tmod s.b s.a), rfl⟩, ⟨Nat.pos_of_ne_zero hc, ?_, s2, ?_⟩, Nat.mod_lt _ (Nat.pos_of_ne_zero hc)⟩
   ·have := Nat.mod_lt s.b (Nat.pos_of_ne_zero hc); show s.b % s.a <= _; omega
   ·show Nat.gcd (s.b % s.a) s.a = _
    rw [<- Nat.gcd_rec]; exact s4
  ·have hc : s.a = 0 := by simpa using hc
   rw [hc, Nat.gcd_zero_left] at s4
   have ha : ∀ z : Int, (z.tdiv (s.b : Int)).natAbs <= z.natAbs := λ z => by rw [Int.natAbs_tdiv]; exact Nat.div_le_self _ _
   have e1 := ha x.a
   have e2 := ha x.b
   refine ⟨by omega, ?_, ?_⟩
   ·rw [HM (by omega) (by omega)]; unfold OI; rw [<- s4]
   ·rw [HM (by omega) (by omega)]; unfold OI; rw [<- s4]
 refine ⟨λ hn => ⟨⟨⟨x.a.natAbs, x.b.natAbs⟩, ⟨by show ((x.a.natAbs : Nat) : Int) = _; rw [HM (by omega) (by omega)]; omega, hb⟩, by show 0 < x.b.natAbs; omega, by show x.a.natAbs <= _; omega, by show x.b.natAbs <= _; omega, rfl⟩, loop⟩, λ hn => ⟨⟨⟨x.a.natAbs, x.b.natAbs⟩, ⟨by show ((x.a.natAbs : Nat) : Int) = _; omega, hb⟩, by show 0 < x.b.natAbs; omega, by show x.a.natAbs <= _; omega, by show x.b.natAbs <= _; omega, rfl⟩, loop⟩⟩)
theorem BBD : AG Try.prog AEN APZ := EB xR2 hR2 λ g _ => JZ (A := ann 16 []) (ren := []) (fz := []) BPC (by kernel_rfl) AE (by
 show BFP g; rw [BPN]; rfl)
theorem ANV : AG Try.prog nY Dx := EB xLI hLI λ a h => JZ (A := ann 32 [(ANN, Mj)]) (ren := []) (fz := []) BPQ (by kernel_rfl) (AB BPL AE) (by
 show BHZ a; rw [BMK]
 obtain ⟨⟨h1, h2, h3, h4, h5, h6⟩, h7, h8⟩ : HY a.x /\ 0 <= a.s /\ a.s <= 2000 := h
 have b1 : a.x.a1 * (a.x.b0 - a.s) <= 200000 * 2000 := Int.le_trans (Int.mul_le_mul_of_nonneg_left (show a.x.b0 - a.s <= 2000 by omega) h4) (Int.mul_le_mul_of_nonneg_right (by omega) (by omega))
 have b2 : -(200000 * 2000) <= a.x.a1 * (a.x.b0 - a.s) := by
  have e1 := Int.mul_le_mul_of_nonneg_left (show -2000 <= a.x.b0 - a.s by omega) h4
  have e2 := Int.mul_le_mul_of_nonneg_right (show a.x.a1 <= 200000 by omega) (show (0 : Int) <= 2000 by omega)
  rw [Int.mul_neg] at e1; omega
 have b3 : a.x.b1 * (a.s - a.x.a0) <= 200000 * 2000 := Int.le_trans (Int.mul_le_mul_of_nonneg_left (show a.s - a.x.a0 <= 2000 by omega) (by omega)) (Int.mul_le_mul_of_nonneg_right h6 (by omega))
 have b4 : -(200000 * 2000) <= a.x.b1 * (a.s - a.x.a0) := by
  have e1 := Int.mul_le_mul_of_nonneg_left (show -2000 <= a.s - a.x.a0 by omega) (show 0 <= a.x.b1 by omega)
  have e2 := Int.mul_le_mul_of_nonneg_right h6 (show (0 : Int) <= 2000 by omega)
  rw [Int.mul_neg] at e1; omega
 have w1 : IntKind.i64.wrap (a.x.b0 - a.x.a0) = a.x.b0 - a.x.a0 := HM (by omega) (by omega)
 have w2 : IntKind.i64.wrap (a.x.b0 - a.s) = a.x.b0 - a.s := HM (by omega) (by omega)
 have w3 : IntKind.i64.wrap (a.s - a.x.a0) = a.s - a.x.a0 := HM (by omega) (by omega)
 rw [w1, w2, w3]
 rw [HM (n := a.x.a1 * (a.x.b0 - a.s)) (by omega) (by omega), HM (n := a.x.b1 * (a.s - a.x.a0)) (by omega) (by omega), HM (n := a.x.a1 * (a.x.b0 - a.s) + a.x.b1 * (a.s - a.x.a0)) (by omega) (by omega)]
 have e : a.x.a1 * (a.x.b0 - a.s) + a.x.b1 * (a.s - a.x.a0) = a.x.a1 * (a.x.b0 - a.x.a0) + (a.x.b1 - a.x.a1) * (a.s - a.x.a0) := by grind
 refine ⟨⟨by omega, by omega, by omega, by omega⟩, ?_, ?_⟩
 ·unfold DP; rw [e]
 ·unfold DP; rw [e])
def BBG := pD dR1 (λ r => .d (sX (GN r))) (λ r => [(0 < r.d /\ r.d <= 4000000) /\ -2305843009213693952 <= r.n /\ r.n <= 2305843009213693952])
theorem BFI : AG Try.prog AQP BBG := EB xR1 hR1 λ r h => JZ (A := ann 12 [(AEN, APZ)]) (ren := []) (fz := []) BFL (by kernel_rfl) (AB BBD AE) (by
 show BAX r; rw [BKY]; simp only [CC, eq_self, implies_true, forall_const]
 obtain ⟨⟨h1, h2⟩, h3, h4⟩ : (0 < r.d /\ r.d <= 4000000) /\ -2305843009213693952 <= r.n /\ r.n <= 2305843009213693952 := h
 have e : yZ (Rt.mk 200000 1) r = decide (200000 * r.d < r.n) := by
  unfold yZ
  show decide (wr (200000 * r.d) < wr (r.n * 1)) = _
  rw [show wr (200000 * r.d) = 200000 * r.d from HM (by omega) (by omega), show wr (r.n * 1) = r.n by rw [Int.mul_one]; exact HM (by omega) (by omega)]
 rw [e]
 unfold GN
 refine ⟨λ h3 => by rw [if_pos h3]; exact ⟨rfl, rfl⟩, λ h3 => ⟨λ h4 => ?_, λ h4 => ?_⟩⟩
 ·rw [if_neg h3, if_pos (by simpa using h4)]; exact ⟨rfl, rfl⟩
 ·rw [if_neg h3, if_neg (by simpa using h4)]; exact ⟨rfl, rfl⟩)
theorem AZI (a : LnI) : (FT a.x = false -> (JX a.x a.s).n = 0 /\ (JX a.x a.s).d = 0 /\ NE a.x a.s = 50) /\ (FT a.x = true -> (CJ a.s 0 2000 = false -> (JX a.x a.s).n = 0 /\ (JX a.x a.s).d = 0 /\ NE a.x a.s = 4) /\ (CJ a.s 0 2000 = true -> ((0 <= a.x.a0 /\ a.x.a0 < a.x.b0 /\ a.x.b0 <= 2000 /\ 0 <= a.x.a1 /\ a.x.a1 <= a.x.b1 /\ a.x.b1 <= 200000) /\ 0 <= a.s /\ a.s <= 2000) /\ (JX a.x a.s).n = (DP a.x a.s).n /\ (JX a.x a.s).d = (DP a.x a.s).d /\ NE a.x a.s = 0)) := by
 refine ⟨λ h => ?_, λ h => ⟨λ h2 => ?_, λ h2 => ?_⟩⟩
 ·have e : NE a.x a.s = 50 := by unfold NE; rw [h]; rfl
  unfold JX; rw [e]; exact ⟨rfl, rfl, rfl⟩
 ·have e : NE a.x a.s = 4 := by unfold NE; rw [h, h2]; rfl
  unfold JX; rw [e]; exact ⟨rfl, rfl, rfl⟩
 ·have e : NE a.x a.s = 0 := by unfold NE; rw [h, h2]; rfl
  refine ⟨⟨?_, ?_⟩, ?_⟩
  ·unfold FT riP CJ at h
   simp only [Bool.and_eq_true, decide_eq_true_eq] at h
   omega
  ·unfold CJ at h2
   simp only [Bool.and_eq_true, decide_eq_true_eq] at h2
   omega
  ·unfold JX; rw [e]; exact ⟨rfl, rfl, rfl⟩
theorem BNN : AG Try.prog AWP ANQ := EB xLI hLI λ a _ => JZ (A := ann 19 [(jI, ACU), (Qw, Uh), (D0, Dx)]) (ren := []) (fz := []) BOX (by kernel_rfl) (AB Zy (AB XG (AB AWS AE))) (by
 show BLG a; rw [BOU]; simp only [CC, eq_self, implies_true, forall_const]; exact AZI a)
theorem BNX : AG Try.prog AXI ANQ := EB xLI hLI λ a _ => JZ (A := ann 15 [(Fp, lK), (Dl, Hr), (nY, Dx)]) (ren := []) (fz := []) BNU (by kernel_rfl) (AB AKR (AB fN (AB ANV AE))) (by
 show BEM a; rw [BOK]; simp only [CC, eq_self, implies_true, forall_const]; exact AZI a)
theorem AVF (l : List Int) (y x : Int) : FA (l ++ [y]) x = FA l x + (if y <= x then 1 else 0) := by
 unfold FA; rw [List.countP_append]
 by_cases h : y <= x <;> simp [h]
theorem AVB : AG Try.prog L7 (C_rPart.spec dIX) := GD C_rPart AZT [] [] BME (λ _ => by kernel_rfl) (λ _ => AE) (λ (a : IX) h => by
 show BAN a; rw [BFH]; simp only [CC, eq_self, implies_true, forall_const]
 have hl : a.l.length < 1073741824 := (show a.l.length < 1073741824 /\ True from h).1
 have hle : ∀ i, FA (a.l.take i) a.x <= a.l.length := λ i => by
  unfold FA
  exact Nat.le_trans List.countP_le_length (by rw [List.length_take]; omega)
 refine ⟨⟨0, ⟨rfl, rfl⟩, Nat.zero_le _⟩, λ i hi => ⟨λ hlt => ⟨⟨by omega, by omega⟩, λ hc => ⟨i + 1, ⟨?_, (BH (by omega)).symm⟩, by omega, by omega⟩, λ hc => ⟨i + 1, ⟨?_, (BH (by omega)).symm⟩, by omega, by omega⟩⟩, λ hge => ?_⟩⟩
 ·have := hle i
  rw [DG (by omega), AVF, if_pos hc, HM (by omega) (by omega)]; omega
 ·rw [DG (by omega), AVF, if_neg hc]; rfl
 ·rw [List.take_of_length_le (by omega)]) (λ _ => GJ rfl rfl) _
end Go.Bal
