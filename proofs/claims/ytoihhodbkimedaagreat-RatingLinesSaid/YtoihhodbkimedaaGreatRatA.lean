/- Package rating: numbers, lines, fractions. -/
import Derived.Test.YtoihhodbkimedaaGreatRat0
set_option linter.unusedVariables false
set_option linter.unusedSimpArgs false
namespace Go.Bal
open Go Go.Sym Go.Proofs
def wr (n : Int) : Int := IntKind.i64.wrap n
def CJ (a b c : Int) : Bool := decide (b <= a) && decide (a <= c)
def Dz (g : Gau) : Bool := CJ g.st 0 2000 && CJ g.lo 0 g.hi && CJ g.hi 0 200000
def riP (p : Pt) : Bool := CJ p.st 0 2000 && CJ p.fl 0 200000
def FT (x : Ln) : Bool := riP ⟨x.a0, x.a1⟩ && riP ⟨x.b0, x.b1⟩ && decide (x.a0 < x.b0) && decide (x.a1 <= x.b1)
def V_in (x : I3) : Prop := AO Try.prog (ann 15 []) F_in (AF F_in) (xI3 x) (AC []) (.bool (CJ x.a x.b x.c)) [] [] []
theorem BWV (x : I3) : (V_in x) = (CJ x.a x.b x.c = bif decide (x.a >= x.b) then decide (x.a <= x.c) else false) := by kernel_rfl
def Uh := pD dI3 λ x => .bool (CJ x.a x.b x.c)
theorem XG : AG Try.prog Qw Uh := EB xI3 hI3 λ x _ => JZ (A := ann 15 []) (ren := []) (fz := []) BXC (by kernel_rfl) AE (by
 show V_in x; rw [BWV]; unfold CJ; by_cases h : x.b <= x.a <;> simp [h])
def BSJ (g : Gau) : Prop := AO Try.prog (ann 21 [(Qw, Uh)]) BGV (AF BGV) (xG1 g) (AC []) (.bool (Dz g)) [] [] []
theorem BUF (g : Gau) : (BSJ g) = (Dz g = bif bif CJ g.st 0 2000 then CJ g.lo 0 g.hi else false then CJ g.hi 0 200000 else false) := by kernel_rfl
def BRR := pD dG1 λ g => .bool (Dz g)
theorem BUA : AG Try.prog AZW BRR := EB xG1 hG1 λ g _ => JZ (A := ann 21 [(Qw, Uh)]) (ren := []) (fz := []) BWE (by kernel_rfl) (AB XG AE) (by
 show BSJ g; rw [BUF]; unfold Dz; cases CJ g.st 0 2000 <;> cases CJ g.lo 0 g.hi <;> simp)
def BRN (g : Pt) : Prop := AO Try.prog (ann 11 [(Qw, Uh)]) BFC (AF BFC) (xP1 g) (AC []) (.bool (riP g)) [] [] []
theorem BWA (g : Pt) : (BRN g) = (riP g = bif CJ g.st 0 2000 then CJ g.fl 0 200000 else false) := by kernel_rfl
def BGS := pD dP1 λ g => .bool (riP g)
theorem BUM : AG Try.prog AZU BGS := EB xP1 hP1 λ g _ => JZ (A := ann 11 [(Qw, Uh)]) (ren := []) (fz := []) BVQ (by kernel_rfl) (AB XG AE) (by
 show BRN g; rw [BWA]; unfold riP; cases CJ g.st 0 2000 <;> simp)
def BRQ (g : Ln) : Prop := AO Try.prog (ann 29 [(AZU, BGS)]) BGH (AF BGH) (xL1 g) (AC []) (.bool (FT g)) [] [] []
theorem BTW (g : Ln) : (BRQ g) = (FT g = bif bif bif riP (Pt.mk g.a0 g.a1) then riP (Pt.mk g.b0 g.b1) else false then decide (g.a0 < g.b0) else false then decide (g.a1 <= g.b1) else false) := by kernel_rfl
def ACU := pD dL1 λ g => .bool (FT g)
theorem Zy : AG Try.prog jI ACU := EB xL1 hL1 λ g _ => JZ (A := ann 29 [(AZU, BGS)]) (ren := []) (fz := []) BUR (by kernel_rfl) (AB BUM AE) (by
 show BRQ g; rw [BTW]; unfold FT; cases riP ⟨g.a0, g.a1⟩ <;> cases riP ⟨g.b0, g.b1⟩ <;> by_cases h : g.a0 < g.b0 <;> simp [h])
def BJE (x : Int) : Prop := AO Try.prog (ann 6 []) AWF (AF AWF) (xI1 x) (AC []) (.bool false) [] [] []
theorem BQG (x : Int) : (BJE x) = (false = (x != x)) := by kernel_rfl
def dW := pD dI1 λ _ => .bool false
theorem BAK : AG Try.prog yD dW := EB xI1 hI1 λ g _ => JZ (A := ann 6 []) (ren := []) (fz := []) BPX (by kernel_rfl) AE (by
 show BJE g; rw [BQG]; simp)
def BJG (x : Int) : Prop := AO Try.prog (ann 6 []) AXV (AF AXV) (xI1 x) (AC []) (.bool false) [] [] []
theorem BQI (x : Int) : (BJG x) = (false = (x != x)) := by kernel_rfl
theorem BMV : AG Try.prog AWC dW := EB xI1 hI1 λ g _ => JZ (A := ann 6 []) (ren := []) (fz := []) BNE (by kernel_rfl) AE (by
 show BJG g; rw [BQI]; simp)
def BBH (x : I2) : Prop := AO Try.prog (ann 17 [(yD, dW)]) ANK (AF ANK) (xI2 x) (AC []) (.bool (decide (x.a < x.b))) [] [] []
theorem BLM (x : I2) : (BBH x) = (decide (x.a < x.b) = bif bif false then !false else false then true else decide (x.a < x.b)) := by kernel_rfl
def BAE := pD dI2 λ x => .bool (decide (x.a < x.b))
theorem BKX : AG Try.prog ASC BAE := EB xI2 hI2 λ g _ => JZ (A := ann 17 [(yD, dW)]) (ren := []) (fz := []) BHJ (by kernel_rfl) (AB BAK AE) (by
 show BBH g; rw [BLM]; try simp)
def JH (a b : Int) : Int := bif decide (a < b) then -1 else bif decide (a > b) then 1 else 0
def BGY (x : I2) : Prop := AO Try.prog (ann 20 [(yD, dW)]) AWO (AF AWO) (xI2 x) (AC []) (.int (JH x.a x.b)) [] [] []
theorem BOF (x : I2) : (BGY x) = (bif decide (x.a < x.b) then JH x.a x.b = -1 else bif decide (x.a > x.b) then JH x.a x.b = 1 else JH x.a x.b = 0) := by kernel_rfl
def uK := pD dI2 λ x => .int (JH x.a x.b)
theorem AQB : AG Try.prog Sn uK := EB xI2 hI2 λ g _ => JZ (A := ann 20 [(yD, dW)]) (ren := []) (fz := []) BNB (by kernel_rfl) (AB BAK AE) (by
 show BGY g; rw [BOF]; unfold JH; by_cases h : g.a < g.b <;> by_cases h2 : g.b < g.a <;> simp [h, h2])
structure IL where
 a : Int
 l : List Int
def grM (x : IL) : Int := x.l.foldl F3 x.a
structure NI where
 k : Nat
 m : Int
 deriving Inhabited
def C_gr : Ctr := { α := IL, xs := λ x => [.int x.a, .d (BD x.l)], L := λ _ => [], val := λ x => .int (grM x), keep := λ _ => [], pre := λ x => [decide (x.l.length < 4611686018427387904) = true] }
def d_gr : List AVal -> Heap -> Option (IL × List (Nat × Nat) × List Nat)
 | [.d a, y], H => match Re y H with
  | some (l, f) => some (⟨CT a, l⟩, [], f)
  | none => none
 | _, _ => none
def A_gr (x : IL) : Ann := { ann 18 [] with loops := λ id => if id = 2 then some [{ α := NI, dflt := default, T := λ s => ⟨[(0, .int s.m), (7, .d (BD x.l)), (8, .int x.l.length), (9, .int s.k)], []⟩, inv := λ s => s.k <= x.l.length /\ s.m = (x.l.take s.k).foldl F3 x.a, meas := λ s => x.l.length - s.k }] else none }
def V_gr (x : IL) : Prop := AO Try.prog (A_gr x) Vn (AF Vn) (C_gr.xs x) (AC []) (C_gr.val x) [] [] []
theorem BXB (x : IL) : (V_gr x) = ((∃ (a : NI), (a.m = x.a /\ x.l.length = x.l.length /\ (∀ (i : Nat), i < x.l.length -> gD x.l i = gD x.l i) /\ (↑x.l.length : Int) = (↑x.l.length : Int) /\ (↑a.k : Int) = 0) /\ a.k <=
 x.l.length /\ a.m = List.foldl F3 x.a (List.take a.k x.l)) /\ ∀ (a : NI), a.k <= x.l.length /\ a.m = List.foldl F3 x.a (List.take a.k x.l) -> bif decide ((↑a.k : Int) < (↑x.l.length : Int)) then (0 <= (↑a.k : Int) /\ (↑a.k
 : Int) < (↑x.l.length : Int)) /\ ∃ (a_2 : NI), (a_2.m = F3 a.m (gD x.l a.k) /\ x.l.length = x.l.length /\ (∀ (i : Nat), i < x.l.length -> gD x.l i = gD x.l i) /\ (↑x.l.length : Int) = (↑x.l.length : Int) /\ (↑a_2.k : Int) =
 IntKind.i64.wrap ((↑a.k : Int) + 1)) /\ (a_2.k <= x.l.length /\ a_2.m = List.foldl F3 x.a (List.take a_2.k x.l)) /\ x.l.length - a_2.k < x.l.length - a.k else grM x = a.m) := by kernel_rfl
theorem DG {α : Type} [Inhabited α] {l : List α} {k : Nat} (h : k < l.length) : l.take (k + 1) = l.take k ++ [gD l k] := by
 rw [List.take_add_one, List.getElem?_eq_getElem h]; simp [gD, List.getD_eq_getElem?_getD, h]
theorem p_gr (x : IL) (h : x.l.length < 4611686018427387904) : V_gr x := by
 rw [BXB]; try simp only [CC, eq_self, implies_true, forall_const]
 refine ⟨⟨⟨0, x.a⟩, ⟨rfl, rfl⟩, Nat.zero_le _, rfl⟩, λ s hs => ⟨λ hlt => ⟨by omega, ⟨s.k + 1, F3 s.m (gD x.l s.k)⟩, ⟨rfl, (BH (by omega)).symm⟩, ⟨⟨by show s.k + 1 <= _; omega, ?_⟩, ?_⟩⟩, λ hge => ?_⟩⟩
 ·show F3 s.m (gD x.l s.k) = _
  rw [DG (by omega), List.foldl_append, hs.2]; rfl
 ·show x.l.length - (s.k + 1) < _; omega
 ·rw [hs.2]; unfold grM; rw [List.take_of_length_le (by omega)]
theorem BXJ : AG Try.prog Zd (C_gr.spec d_gr) := GD C_gr A_gr [] [] AUH (λ _ => by kernel_rfl) (λ _ => AE) (λ x h => p_gr x (of_decide_eq_true h)) (λ _ => GJ rfl rfl) _
def OI (n d : Int) : Rt := ⟨n.tdiv (Nat.gcd n.natAbs d.natAbs : Nat), d.tdiv (Nat.gcd n.natAbs d.natAbs : Nat)⟩
structure NN where
 a : Nat
 b : Nat
 deriving Inhabited
def BBN (x : I2) : Ann := { ann 26 [(Zd, C_gr.spec d_gr)] with loops := λ id => if id = 2 then some [{ α := NN, dflt := default, T := λ s => ⟨[(0, .int x.a), (1, .int x.b), (4, .bptr 201 0), (5, .int s.a), (6, .int s.b)], [(201, .live (.box [.int 0, .int 0]))]⟩, inv := λ s => Nat.gcd s.a s.b = Nat.gcd x.a.natAbs x.b.natAbs /\ s.a <= 2305843009213693952 /\ s.b <= 2305843009213693952, meas := λ s => s.b, first := [(201, 1000)] }] else none }
def AZC (x : I2) : Prop := AO Try.prog (BBN x) ANW (AF ANW) (xI2 x) (AC []) (.d (sX (OI x.a x.b))) [] [] []
theorem BJX (x : I2) : (AZC x) = ((x.a = x.a /\ (AD (1 : Nat) λ (i : Nat) => IntKind.i64.wrap ((0 : Int) - x.a)).length = (1 : Nat) /\ (1 : Nat) <= (1 : Nat) /\ (∀ (j : Nat), j < (AD (1 : Nat) λ (i : Nat) =>
 IntKind.i64.wrap ((0 : Int) - x.a)).length -> gD (AD (1 : Nat) λ (i : Nat) => IntKind.i64.wrap ((0 : Int) - x.a)) j = IntKind.i64.wrap ((0 : Int) - x.a)) /\ true = true) /\ (∃ (a : NN), (x.a = x.a /\ x.b = x.b /\ (↑a.a :
 Int) = grM (IL.mk x.a (AD (1 : Nat) λ (i : Nat) => IntKind.i64.wrap ((0 : Int) - x.a))) /\ (↑a.b : Int) = x.b /\ Int.ofNat (0 : Nat) = Int.ofNat (0 : Nat) /\ Int.ofNat (0 : Nat) = Int.ofNat (0 : Nat)) /\ a.a.gcd a.b =
 x.a.natAbs.gcd x.b.natAbs /\ a.a <= (2305843009213693952 : Nat) /\ a.b <= (2305843009213693952 : Nat)) /\ ∀ (a : NN), a.a.gcd a.b = x.a.natAbs.gcd x.b.natAbs /\ a.a <= (2305843009213693952 : Nat) /\ a.b <= (2305843009213693952 :
 Nat) -> bif (↑a.b : Int) != (0 : Int) then ((↑a.b : Int) = (0 : Int) -> False) /\ ∃ (a_2 : NN), (x.a = x.a /\ x.b = x.b /\ (↑a_2.a : Int) = (↑a.b : Int) /\ (↑a_2.b : Int) = (↑a.a : Int).tmod (↑a.b : Int) /\ Int.ofNat (0 : Nat)
 = Int.ofNat (0 : Nat) /\ Int.ofNat (0 : Nat) = Int.ofNat (0 : Nat)) /\ (a_2.a.gcd a_2.b = x.a.natAbs.gcd x.b.natAbs /\ a_2.a <= (2305843009213693952 : Nat) /\ a_2.b <= (2305843009213693952 : Nat)) /\ a_2.b < a.b else ((↑a.a :
 Int) ≠ (0 : Int) /\ ((↑a.a : Int) = (0 : Int) -> False)) /\ (OI x.a x.b).n = IntKind.i64.wrap (x.a.tdiv (↑a.a : Int)) /\ (OI x.a x.b).d = IntKind.i64.wrap (x.b.tdiv (↑a.a : Int))) := by kernel_rfl
def Mj := pD dI2 (λ x => .d (sX (OI x.a x.b))) (λ x => [0 < x.b /\ x.b <= 2305843009213693952 /\ -2305843009213693952 <= x.a /\ x.a <= 2305843009213693952])
theorem BOM {n : Int} (h1 : -2305843009213693952 <= n) (h2 : n <= 2305843009213693952) : grM ⟨n, AD 1 λ _ => IntKind.i64.wrap (-n)⟩ = n.natAbs := by
 rw [HM (by omega) (by omega)]
 show F3 n (-n) = _
 unfold F3; split <;> omega
theorem BEZ : AG Try.prog G5 Mj := EB xI2 hI2 λ x h => JZ (A := BBN x) (ren := []) (fz := []) BJP (by kernel_rfl) (AB BXJ AE) (by
 show AZC x; rw [BJX]; try simp only [CC, eq_self, implies_true, forall_const]
 obtain ⟨h1, h2, h3, h4⟩ : 0 < x.b /\ x.b <= 2305843009213693952 /\ -2305843009213693952 <= x.a /\ x.a <= 2305843009213693952 := h
 refine ⟨⟨by omega, λ j hj => BCC _ _ _ hj⟩, ⟨⟨x.a.natAbs, x.b.natAbs⟩, ⟨(BOM h3 h4).symm, by show (x.b.natAbs : Int) = _; omega⟩, rfl, by show x.a.natAbs <= _; omega, by show x.b.natAbs <= _; omega⟩, λ s hs => ⟨λ hb => ?_, λ hb => ?_⟩⟩
 ·have hb : s.b ≠ 0 := by simpa using hb
  refine ⟨by omega, ⟨s.b, s.a % s.b⟩, ⟨rfl, ?_⟩, ⟨?_, hs.2.2, ?_⟩, Nat.mod_lt _ (by omega)⟩
  ·exact (Int.ofNat_tmod s.a s.b)
  ·show Nat.gcd s.b (s.a % s.b) = _
   rw [<- hs.1, Nat.gcd_comm s.b, <- Nat.gcd_rec, Nat.gcd_comm]
  ·exact Nat.le_trans (Nat.le_of_lt (Nat.mod_lt _ (by omega))) hs.2.2
 ·have hb : s.b = 0 := by simpa using hb
  have hg : s.a = Nat.gcd x.a.natAbs x.b.natAbs := by rw [<- hs.1, hb, Nat.gcd_zero_right]
  have hp : 0 < Nat.gcd x.a.natAbs x.b.natAbs := Nat.gcd_pos_of_pos_right _ (by omega)
  have ha : ∀ z : Int, (z.tdiv (s.a : Int)).natAbs <= z.natAbs := λ z => by rw [Int.natAbs_tdiv]; exact Nat.div_le_self _ _
  have e1 := ha x.a
  have e2 := ha x.b
  refine ⟨by omega, ?_, ?_⟩
  ·rw [HM (by omega) (by omega)]; unfold OI; rw [<- hg]
  ·rw [HM (by omega) (by omega)]; unfold OI; rw [<- hg])
theorem BTM {n d : Int} (h : 0 < d) : 0 < (OI n d).d /\ (OI n d).d <= d := by
 have hd : ((Nat.gcd n.natAbs d.natAbs : Nat) : Int) ∣ d := Int.ofNat_dvd_left.2 (Nat.gcd_dvd_right _ _)
 have hp : 0 < Nat.gcd n.natAbs d.natAbs := Nat.gcd_pos_of_pos_right _ (by omega)
 obtain ⟨c, hc⟩ := hd
 have hc0 : 0 < c := by
  rcases Int.lt_or_le 0 c with h1 | h1
  ·exact h1
  ·have := Int.mul_nonneg (show 0 <= ((Nat.gcd n.natAbs d.natAbs : Nat) : Int) by omega) (show 0 <= -c by omega)
   rw [Int.mul_neg, <- hc] at this; omega
 have e : (OI n d).d = c := by
  show d.tdiv _ = c
  generalize Nat.gcd n.natAbs d.natAbs = q at *
  rw [hc, Int.mul_tdiv_cancel_left _ (by omega)]
 rw [e]
 refine ⟨hc0, ?_⟩
 have := Int.mul_le_mul_of_nonneg_right (show (1 : Int) <= ((Nat.gcd n.natAbs d.natAbs : Nat) : Int) by omega) (show 0 <= c by omega)
 rw [<- hc] at this; omega
theorem BVA {n d : Int} : (OI n d).n.natAbs <= n.natAbs := by
 show (n.tdiv _).natAbs <= _
 rw [Int.natAbs_tdiv]; exact Nat.div_le_self _ _
def AKO (x : Bnd) : Prop := AO Try.prog (ann 16 [(Sn, uK)]) tT (AF tT) (xR2 x) (AC []) (.int (JH (wr (x.lo.n * x.hi.d)) (wr (x.hi.n * x.lo.d)))) [] [] []
theorem AYC (x : Bnd) : (AKO x) = (JH (wr (x.lo.n * x.hi.d)) (wr (x.hi.n * x.lo.d)) = JH (IntKind.i64.wrap (x.lo.n * x.hi.d)) (IntKind.i64.wrap (x.hi.n * x.lo.d))) := by kernel_rfl
def zN := pD dR2 λ x => .int (JH (wr (x.lo.n * x.hi.d)) (wr (x.hi.n * x.lo.d)))
theorem Cc : AG Try.prog Me zN := EB xR2 hR2 λ g _ => JZ (A := ann 16 [(Sn, uK)]) (ren := []) (fz := []) AWR (by kernel_rfl) (AB AQB AE) (by
 show AKO g; rw [AYC]; try rfl)
def DP (x : Ln) (s : Int) : Rt := OI (x.a1 * (x.b0 - x.a0) + (x.b1 - x.a1) * (s - x.a0)) (x.b0 - x.a0)
def HY (x : Ln) : Prop := 0 <= x.a0 /\ x.a0 < x.b0 /\ x.b0 <= 2000 /\ 0 <= x.a1 /\ x.a1 <= x.b1 /\ x.b1 <= 200000
def BQS (a : LnI) : Prop := AO Try.prog (ann 34 [(G5, Mj)]) BKW (AF BKW) (xLI a) (AC []) (.d (sX (DP a.x a.s))) [] [] []
theorem BUJ (a : LnI) : (BQS a) = ((0 < IntKind.i64.wrap (a.x.b0 - a.x.a0) /\ IntKind.i64.wrap (a.x.b0 - a.x.a0) <= 2305843009213693952 /\ -2305843009213693952 <= IntKind.i64.wrap (IntKind.i64.wrap (a.x.a1 *
 IntKind.i64.wrap (a.x.b0 - a.x.a0)) + IntKind.i64.wrap (IntKind.i64.wrap (a.x.b1 - a.x.a1) * IntKind.i64.wrap (a.s - a.x.a0))) /\ IntKind.i64.wrap (IntKind.i64.wrap (a.x.a1 * IntKind.i64.wrap (a.x.b0 - a.x.a0)) +
 IntKind.i64.wrap (IntKind.i64.wrap (a.x.b1 - a.x.a1) * IntKind.i64.wrap (a.s - a.x.a0))) <= 2305843009213693952) /\ (DP a.x a.s).n = (OI (IntKind.i64.wrap (IntKind.i64.wrap (a.x.a1 * IntKind.i64.wrap (a.x.b0 - a.x.a0))
 + IntKind.i64.wrap (IntKind.i64.wrap (a.x.b1 - a.x.a1) * IntKind.i64.wrap (a.s - a.x.a0)))) (IntKind.i64.wrap (a.x.b0 - a.x.a0))).n /\ (DP a.x a.s).d = (OI (IntKind.i64.wrap (IntKind.i64.wrap (a.x.a1 *
 IntKind.i64.wrap (a.x.b0 - a.x.a0)) + IntKind.i64.wrap (IntKind.i64.wrap (a.x.b1 - a.x.a1) * IntKind.i64.wrap (a.s - a.x.a0)))) (IntKind.i64.wrap (a.x.b0 - a.x.a0))).d) := by kernel_rfl
def Dx := pD dLI (λ a => .d (sX (DP a.x a.s))) (λ a => [HY a.x, 0 <= a.s /\ a.s <= 2000])
theorem BMP {x : Ln} {t : Int} (h : HY x) (h2 : 0 <= t /\ t <= 2000) : (0 <= x.a1 * (x.b0 - x.a0) /\ x.a1 * (x.b0 - x.a0) <= 400000000) /\ -400000000 <= (x.b1 - x.a1) * (t - x.a0) /\ (x.b1 - x.a1) * (t - x.a0) <= 400000000 := by
 obtain ⟨h3, h4, h5, h6, h7, h8⟩ := h
 exact ⟨mulb (A := 200000) (B := 2000) (by omega) (by omega) (by omega) (by omega), BXD (A := 200000) (B := 2000) (by omega) (by omega) (by omega) (by omega)⟩
theorem AWS : AG Try.prog D0 Dx := EB xLI hLI λ a h => JZ (A := ann 34 [(G5, Mj)]) (ren := []) (fz := []) BWG (by kernel_rfl) (AB BEZ AE) (by
 show BQS a; rw [BUJ]; try simp only [CC, eq_self, implies_true, forall_const]
 have hb := BMP h.1 h.2
 obtain ⟨⟨h3, h4, h5, h6, h7, h8⟩, h9, h10⟩ := h
 rw [HM (n := a.x.b0 - a.x.a0) (by omega) (by omega), HM (n := a.x.b1 - a.x.a1) (by omega) (by omega), HM (n := a.s - a.x.a0) (by omega) (by omega), HM (n := a.x.a1 * (a.x.b0 - a.x.a0)) (by omega) (by omega), HM (n := (a.x.b1 - a.x.a1) * (a.s - a.x.a0)) (by omega) (by omega), HM (n := a.x.a1 * (a.x.b0 - a.x.a0) + (a.x.b1 - a.x.a1) * (a.s - a.x.a0)) (by omega) (by omega)]
 exact ⟨⟨by omega, by omega, by omega, by omega⟩, rfl, rfl⟩)
theorem ANC {x : Ln} {t : Int} (h : HY x) : 0 < (DP x t).d /\ (DP x t).d <= 2000 := by
 have := BTM (n := x.a1 * (x.b0 - x.a0) + (x.b1 - x.a1) * (t - x.a0)) (d := x.b0 - x.a0) (by have := h.2.1; omega)
 refine ⟨this.1, ?_⟩
 have h1 := h.1
 have h3 := h.2.2.1
 have := this.2
 show (OI _ _).d <= _
 omega
def GN (r : Rt) : Rt := if r.n < 0 then ⟨0, 1⟩ else if 200000 * r.d < r.n then ⟨200000, 1⟩ else r
def AJS (r : Rt) : Prop := AO Try.prog (ann 17 []) mS (AF mS) (xR1 r) (AC []) (.d (sX (GN r))) [] [] []
theorem AXG (r : Rt) : (AJS r) = (bif decide (r.n < 0) then (GN r).n = 0 /\ (GN r).d = 1 else bif decide (r.n > IntKind.i64.wrap (200000 * r.d)) then (GN r).n = 200000 /\ (GN r).d = 1 else (GN
 r).n = r.n /\ (GN r).d = r.d) := by kernel_rfl
def nC := pD dR1 (λ r => .d (sX (GN r))) (λ r => [0 < r.d /\ r.d <= 4000000])
theorem AWB : AG Try.prog Px nC := EB xR1 hR1 λ r h => JZ (A := ann 17 []) (ren := []) (fz := []) AWE (by kernel_rfl) AE (by
 show AJS r; rw [AXG]; try simp only [CC, eq_self, implies_true, forall_const]
 obtain ⟨h1, h2⟩ : 0 < r.d /\ r.d <= 4000000 := h
 rw [HM (by omega) (by omega)]
 unfold GN
 refine ⟨λ h3 => by simp [h3], λ h3 => ⟨λ h4 => ?_, λ h4 => ?_⟩⟩
 ·rw [if_neg h3, if_pos (by omega)]; exact ⟨rfl, rfl⟩
 ·rw [if_neg h3, if_neg (by omega)]; exact ⟨rfl, rfl⟩)
def FW (x : Ln) (s : Int) : Rt := GN (DP x s)
def AZR (a : LnI) : Prop := AO Try.prog (ann 9 [(D0, Dx), (Px, nC)]) ALF (AF ALF) (xLI a) (AC []) (.d (sX (FW a.x a.s))) [] [] []
theorem BHI (a : LnI) : (AZR a) = (((0 <= a.x.a0 /\ a.x.a0 < a.x.b0 /\ a.x.b0 <= 2000 /\ 0 <= a.x.a1 /\ a.x.a1 <= a.x.b1 /\ a.x.b1 <= 200000) /\ (0 <= a.s /\ a.s <= 2000) /\ 0 < (DP a.x a.s).d /\ (DP a.x a.s).d <= 4000000) /\
 (FW a.x a.s).n = (GN (DP a.x a.s)).n /\ (FW a.x a.s).d = (GN (DP a.x a.s)).d) := by kernel_rfl
def H6 := pD dLI (λ a => .d (sX (FW a.x a.s))) (λ a => [HY a.x, 0 <= a.s /\ a.s <= 2000])
theorem ATS : AG Try.prog iW H6 := EB xLI hLI λ a h => JZ (A := ann 9 [(D0, Dx), (Px, nC)]) (ren := []) (fz := []) BLE (by kernel_rfl) (AB AWS (AB AWB AE)) (by
 show AZR a; rw [BHI]; try simp only [CC, eq_self, implies_true, forall_const]
 have := ANC (t := a.s) h.1
 exact ⟨⟨h.1, h.2, this.1, by omega⟩, rfl, rfl⟩)
def AM (p : Pt) : Ln := if p.st = 2000 then ⟨p.st - 1, p.fl, p.st, p.fl⟩ else ⟨p.st, p.fl, p.st + 1, p.fl⟩
def BBT (p : Pt) : Prop := AO Try.prog (ann 22 []) ARA (AF ARA) (xP1 p) (AC []) (.d (eLn (AM p))) [] [] []
theorem BLN (p : Pt) : (BBT p) = (bif p.st == 2000 then (AM p).a0 = IntKind.i64.wrap (p.st - 1) /\ (AM p).a1 = p.fl /\ (AM p).b0 = p.st /\ (AM p).b1 = p.fl else (AM p).a0 = p.st /\ (AM p).a1 = p.fl /\
 (AM p).b0 = IntKind.i64.wrap (p.st + 1) /\ (AM p).b1 = p.fl) := by kernel_rfl
def Mh := pD dP1 (λ p => .d (eLn (AM p))) (λ p => [0 <= p.st /\ p.st <= 2000])
theorem RU : AG Try.prog ZS Mh := EB xP1 hP1 λ p h => JZ (A := ann 22 []) (ren := []) (fz := []) BKO (by kernel_rfl) AE (by
 show BBT p; rw [BLN]
 obtain ⟨h1, h2⟩ : 0 <= p.st /\ p.st <= 2000 := h
 rw [HM (by omega) (by omega), HM (by omega) (by omega), BBA]
 unfold AM
 by_cases h : p.st = 2000 <;> simp [h])
def BF (x : Ln) (g : Gau) : Bool := decide (g.lo * (DP x g.st).d <= (DP x g.st).n) && decide ((DP x g.st).n <= g.hi * (DP x g.st).d)
def Dd (g : Gau) : Prop := 0 <= g.st /\ g.st <= 2000 /\ 0 <= g.lo /\ g.lo <= g.hi /\ g.hi <= 200000
def ATF (a : LnG) : Prop := AO Try.prog (ann 30 [(D0, Dx)]) AGR (AF AGR) (xLG a) (AC []) (.bool (BF a.x a.g)) [] [] []
theorem BDB (a : LnG) : (ATF a) = (((0 <= a.x.a0 /\ a.x.a0 < a.x.b0 /\ a.x.b0 <= 2000 /\ 0 <= a.x.a1 /\ a.x.a1 <= a.x.b1 /\ a.x.b1 <= 200000) /\ 0 <= a.g.st /\ a.g.st <= 2000) /\ BF a.x a.g = bif decide ((DP a.x
 a.g.st).n >= IntKind.i64.wrap (a.g.lo * (DP a.x a.g.st).d)) then decide ((DP a.x a.g.st).n <= IntKind.i64.wrap (a.g.hi * (DP a.x a.g.st).d)) else false) := by kernel_rfl
def W2 := pD dLG (λ a => .bool (BF a.x a.g)) (λ a => [HY a.x, Dd a.g])
theorem AJU : AG Try.prog Hp W2 := EB xLG hLG λ a h => JZ (A := ann 30 [(D0, Dx)]) (ren := []) (fz := []) BDN (by kernel_rfl) (AB AWS AE) (by
 show ATF a; rw [BDB]; try simp only [CC, eq_self, implies_true, forall_const]
 obtain ⟨h1, h2, h3, h4, h5, h6⟩ : HY a.x /\ Dd a.g := h
 have hd := ANC (t := a.g.st) h1
 have b1 := mulb (A := 200000) (B := 2000) h4 (by omega) (show 0 <= (DP a.x a.g.st).d by omega) hd.2
 have b2 := mulb (A := 200000) (B := 2000) (show 0 <= a.g.hi by omega) (by omega) (show 0 <= (DP a.x a.g.st).d by omega) hd.2
 rw [HM (by omega) (by omega), HM (by omega) (by omega)]
 refine ⟨⟨h1, h2, h3⟩, ?_⟩
 unfold BF
 cases decide (a.g.lo * (DP a.x a.g.st).d <= (DP a.x a.g.st).n) <;> simp_all)
end Go.Bal
