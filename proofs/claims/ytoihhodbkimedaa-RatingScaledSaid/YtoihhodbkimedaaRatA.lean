/- Package rating: numbers, lines, fractions. -/
import Derived.Test.YtoihhodbkimedaaRat0
set_option linter.unusedVariables false
set_option linter.unusedSimpArgs false
namespace Go.Bal
open Go Go.Sym Go.Proofs
def wr (n : Int) : Int := IntKind.i64.wrap n
def FT (a b c : Int) : Bool := decide (b <= a) && decide (a <= c)
def Tf (g : Gau) : Bool := FT g.st 0 2000 && FT g.lo 0 g.hi && FT g.hi 0 200000
def riP (p : Pt) : Bool := FT p.st 0 2000 && FT p.fl 0 200000
def Ar (x : Ln) : Bool := riP ⟨x.a0, x.a1⟩ && riP ⟨x.b0, x.b1⟩ && decide (x.a0 < x.b0) && decide (x.a1 <= x.b1)
def V_in (x : I3) : Prop := AY Try.prog (ann 15 []) F_in (AF F_in) (xI3 x) (AC []) (.bool (FT x.a x.b x.c)) [] [] []
theorem COC (x : I3) : (V_in x) = (FT x.a x.b x.c = bif decide (x.a >= x.b) then decide (x.a <= x.c) else false) := by kernel_rfl
def s_in := pD dI3 λ x => .bool (FT x.a x.b x.c)
theorem Ka : AG Try.prog J5 s_in := HF xI3 hI3 λ x _ => RD (A := ann 15 []) (ren := []) (fz := []) CNL (by kernel_rfl) AE (by
 show V_in x; rw [COC]; unfold FT; by_cases h : x.b <= x.a <;> simp [h])
def CIP (g : Gau) : Prop := AY Try.prog (ann 21 [(J5, s_in)]) BVQ (AF BVQ) (xG1 g) (AC []) (.bool (Tf g)) [] [] []
theorem CLB (g : Gau) : (CIP g) = (Tf g = bif bif FT g.st 0 2000 then FT g.lo 0 g.hi else false then FT g.hi 0 200000 else false) := by kernel_rfl
def CIV := pD dG1 λ g => .bool (Tf g)
theorem CNC : AG Try.prog BTI CIV := HF xG1 hG1 λ g _ => RD (A := ann 21 [(J5, s_in)]) (ren := []) (fz := []) CKA (by kernel_rfl) (AB Ka AE) (by
 show CIP g; rw [CLB]; unfold Tf; cases FT g.st 0 2000 <;> cases FT g.lo 0 g.hi <;> simp)
def CHR (g : Pt) : Prop := AY Try.prog (ann 11 [(J5, s_in)]) BXA (AF BXA) (xP1 g) (AC []) (.bool (riP g)) [] [] []
theorem CNG (g : Pt) : (CHR g) = (riP g = bif FT g.st 0 2000 then FT g.fl 0 200000 else false) := by kernel_rfl
def BZH := pD dP1 λ g => .bool (riP g)
theorem CLX : AG Try.prog BTK BZH := HF xP1 hP1 λ g _ => RD (A := ann 11 [(J5, s_in)]) (ren := []) (fz := []) CKM (by kernel_rfl) (AB Ka AE) (by
 show CHR g; rw [CNG]; unfold riP; cases FT g.st 0 2000 <;> simp)
def CIO (g : Ln) : Prop := AY Try.prog (ann 29 [(BTK, BZH)]) BWC (AF BWC) (xL1 g) (AC []) (.bool (Ar g)) [] [] []
theorem CND (g : Ln) : (CIO g) = (Ar g = bif bif bif riP (Pt.mk g.a0 g.a1) then riP (Pt.mk g.b0 g.b1) else false then decide (g.a0 < g.b0) else false then decide (g.a1 <= g.b1) else false) := by kernel_rfl
def BSY := pD dL1 λ g => .bool (Ar g)
theorem AZL : AG Try.prog BKJ BSY := HF xL1 hL1 λ g _ => RD (A := ann 29 [(BTK, BZH)]) (ren := []) (fz := []) CLF (by kernel_rfl) (AB CLX AE) (by
 show CIO g; rw [CND]; unfold Ar; cases riP ⟨g.a0, g.a1⟩ <;> cases riP ⟨g.b0, g.b1⟩ <;> by_cases h : g.a0 < g.b0 <;> simp [h])
def BYQ (x : Int) : Prop := AY Try.prog (ann 6 []) BNM (AF BNM) (xI1 x) (AC []) (.bool false) [] [] []
theorem CGS (x : Int) : (BYQ x) = (false = (x != x)) := by kernel_rfl
def fL := pD dI1 λ _ => .bool false
theorem BRM : AG Try.prog K9 fL := HF xI1 hI1 λ g _ => RD (A := ann 6 []) (ren := []) (fz := []) CGR (by kernel_rfl) AE (by
 show BYQ g; rw [CGS]; simp)
def BVS (x : Int) : Prop := AY Try.prog (ann 6 []) BNH (AF BNH) (xI1 x) (AC []) (.bool false) [] [] []
theorem CEI (x : Int) : (BVS x) = (false = (x != x)) := by kernel_rfl
theorem CGK : AG Try.prog BPL fL := HF xI1 hI1 λ g _ => RD (A := ann 6 []) (ren := []) (fz := []) CGG (by kernel_rfl) AE (by
 show BVS g; rw [CEI]; simp)
def BRG (x : I2) : Prop := AY Try.prog (ann 17 [(K9, fL)]) BEZ (AF BEZ) (xI2 x) (AC []) (.bool (decide (x.a < x.b))) [] [] []
theorem BYL (x : I2) : (BRG x) = (decide (x.a < x.b) = bif bif false then !false else false then true else decide (x.a < x.b)) := by kernel_rfl
def BRC := pD dI2 λ x => .bool (decide (x.a < x.b))
theorem CCB : AG Try.prog BHQ BRC := HF xI2 hI2 λ g _ => RD (A := ann 17 [(K9, fL)]) (ren := []) (fz := []) BVY (by kernel_rfl) (AB BRM AE) (by
 show BRG g; rw [BYL]; try simp)
def HJ (a b : Int) : Int := bif decide (a < b) then -1 else bif decide (a > b) then 1 else 0
def BYY (x : I2) : Prop := AY Try.prog (ann 20 [(K9, fL)]) BNV (AF BNV) (xI2 x) (AC []) (.int (HJ x.a x.b)) [] [] []
theorem CEM (x : I2) : (BYY x) = (bif decide (x.a < x.b) then HJ x.a x.b = -1 else bif decide (x.a > x.b) then HJ x.a x.b = 1 else HJ x.a x.b = 0) := by kernel_rfl
def ABA := pD dI2 λ x => .int (HJ x.a x.b)
theorem BGP : AG Try.prog dB ABA := HF xI2 hI2 λ g _ => RD (A := ann 20 [(K9, fL)]) (ren := []) (fz := []) CGE (by kernel_rfl) (AB BRM AE) (by
 show BYY g; rw [CEM]; unfold HJ; by_cases h : g.a < g.b <;> by_cases h2 : g.b < g.a <;> simp [h, h2])
structure IL where
 a : Int
 l : List Int
def grM (x : IL) : Int := x.l.foldl Ve x.a
structure NI where
 k : Nat
 m : Int
 deriving Inhabited
def C_gr : Ctr := { α := IL, xs := λ x => [.int x.a, .d (BL x.l)], L := λ _ => [], val := λ x => .int (grM x), keep := λ _ => [], pre := λ x => [decide (x.l.length < 4611686018427387904) = true] }
def d_gr : List AVal -> Heap -> Option (IL × List (Nat × Nat) × List Nat)
 | [.d a, y], H => match AEV y H with
  | some (l, f) => some (⟨DK a, l⟩, [], f)
  | none => none
 | _, _ => none
def A_gr (x : IL) : Ann := { ann 18 [] with loops := λ id => if id = 2 then some [{ α := NI, dflt := default, T := λ s => ⟨[(0, .int s.m), (7, .d (BL x.l)), (8, .int x.l.length), (9, .int s.k)], []⟩, inv := λ s => s.k <= x.l.length /\ s.m = (x.l.take s.k).foldl Ve x.a, meas := λ s => x.l.length - s.k }] else none }
def V_gr (x : IL) : Prop := AY Try.prog (A_gr x) Yq (AF Yq) (C_gr.xs x) (AC []) (C_gr.val x) [] [] []
theorem CPU (x : IL) : (V_gr x) = ((∃ (a : NI), (a.m = x.a /\ x.l.length = x.l.length /\ (∀ (i : Nat), i < x.l.length -> gD x.l i = gD x.l i) /\ (↑x.l.length : Int) = (↑x.l.length : Int) /\ (↑a.k : Int) = 0) /\ a.k <=
 x.l.length /\ a.m = List.foldl Ve x.a (List.take a.k x.l)) /\ ∀ (a : NI), a.k <= x.l.length /\ a.m = List.foldl Ve x.a (List.take a.k x.l) -> bif decide ((↑a.k : Int) < (↑x.l.length : Int)) then (0 <= (↑a.k : Int) /\ (↑a.k
 : Int) < (↑x.l.length : Int)) /\ ∃ (a_2 : NI), (a_2.m = Ve a.m (gD x.l a.k) /\ x.l.length = x.l.length /\ (∀ (i : Nat), i < x.l.length -> gD x.l i = gD x.l i) /\ (↑x.l.length : Int) = (↑x.l.length : Int) /\ (↑a_2.k : Int) =
 IntKind.i64.wrap ((↑a.k : Int) + 1)) /\ (a_2.k <= x.l.length /\ a_2.m = List.foldl Ve x.a (List.take a_2.k x.l)) /\ x.l.length - a_2.k < x.l.length - a.k else grM x = a.m) := by kernel_rfl
theorem EZ {α : Type} [Inhabited α] {l : List α} {k : Nat} (h : k < l.length) : l.take (k + 1) = l.take k ++ [gD l k] := by
 rw [List.take_add_one, List.getElem?_eq_getElem h]; simp [gD, List.getD_eq_getElem?_getD, h]
theorem p_gr (x : IL) (h : x.l.length < 4611686018427387904) : V_gr x := by
 rw [CPU]; try simp only [CC, eq_self, implies_true, forall_const]
 refine ⟨⟨⟨0, x.a⟩, ⟨rfl, rfl⟩, Nat.zero_le _, rfl⟩, λ s hs => ⟨λ hlt => ⟨by omega, ⟨s.k + 1, Ve s.m (gD x.l s.k)⟩, ⟨rfl, (CA (by omega)).symm⟩, ⟨⟨by show s.k + 1 <= _; omega, ?_⟩, ?_⟩⟩, λ hge => ?_⟩⟩
 ·show Ve s.m (gD x.l s.k) = _
  rw [EZ (by omega), List.foldl_append, hs.2]; rfl
 ·show x.l.length - (s.k + 1) < _; omega
 ·rw [hs.2]; unfold grM; rw [List.take_of_length_le (by omega)]
theorem CQI : AG Try.prog nG (C_gr.spec d_gr) := JX C_gr A_gr [] [] BJU (λ _ => by kernel_rfl) (λ _ => AE) (λ x h => p_gr x (of_decide_eq_true h)) (λ _ => KJ rfl rfl) _
def UT (n d : Int) : Rt := ⟨n.tdiv (Nat.gcd n.natAbs d.natAbs : Nat), d.tdiv (Nat.gcd n.natAbs d.natAbs : Nat)⟩
structure NN where
 a : Nat
 b : Nat
 deriving Inhabited
def BSG (x : I2) : Ann := { ann 26 [(nG, C_gr.spec d_gr)] with loops := λ id => if id = 2 then some [{ α := NN, dflt := default, T := λ s => ⟨[(0, .int x.a), (1, .int x.b), (4, .bptr 201 0), (5, .int s.a), (6, .int s.b)], [(201, .live (.box [.int 0, .int 0]))]⟩, inv := λ s => Nat.gcd s.a s.b = Nat.gcd x.a.natAbs x.b.natAbs /\ s.a <= 2305843009213693952 /\ s.b <= 2305843009213693952, meas := λ s => s.b, first := [(201, 1000)] }] else none }
def BQV (x : I2) : Prop := AY Try.prog (BSG x) BCM (AF BCM) (xI2 x) (AC []) (.d (eRt (UT x.a x.b))) [] [] []
theorem BZA (x : I2) : (BQV x) = ((x.a = x.a /\ (AD (1 : Nat) λ (i : Nat) => IntKind.i64.wrap ((0 : Int) - x.a)).length = (1 : Nat) /\ (1 : Nat) <= (1 : Nat) /\ (∀ (j : Nat), j < (AD (1 : Nat) λ (i : Nat) =>
 IntKind.i64.wrap ((0 : Int) - x.a)).length -> gD (AD (1 : Nat) λ (i : Nat) => IntKind.i64.wrap ((0 : Int) - x.a)) j = IntKind.i64.wrap ((0 : Int) - x.a)) /\ true = true) /\ (∃ (a : NN), (x.a = x.a /\ x.b = x.b /\ (↑a.a :
 Int) = grM (IL.mk x.a (AD (1 : Nat) λ (i : Nat) => IntKind.i64.wrap ((0 : Int) - x.a))) /\ (↑a.b : Int) = x.b /\ Int.ofNat (0 : Nat) = Int.ofNat (0 : Nat) /\ Int.ofNat (0 : Nat) = Int.ofNat (0 : Nat)) /\ a.a.gcd a.b =
 x.a.natAbs.gcd x.b.natAbs /\ a.a <= (2305843009213693952 : Nat) /\ a.b <= (2305843009213693952 : Nat)) /\ ∀ (a : NN), a.a.gcd a.b = x.a.natAbs.gcd x.b.natAbs /\ a.a <= (2305843009213693952 : Nat) /\ a.b <= (2305843009213693952 :
 Nat) -> bif (↑a.b : Int) != (0 : Int) then ((↑a.b : Int) = (0 : Int) -> False) /\ ∃ (a_2 : NN), (x.a = x.a /\ x.b = x.b /\ (↑a_2.a : Int) = (↑a.b : Int) /\ (↑a_2.b : Int) = (↑a.a : Int).tmod (↑a.b : Int) /\ Int.ofNat (0 : Nat)
 = Int.ofNat (0 : Nat) /\ Int.ofNat (0 : Nat) = Int.ofNat (0 : Nat)) /\ (a_2.a.gcd a_2.b = x.a.natAbs.gcd x.b.natAbs /\ a_2.a <= (2305843009213693952 : Nat) /\ a_2.b <= (2305843009213693952 : Nat)) /\ a_2.b < a.b else ((↑a.a :
 Int) ≠ (0 : Int) /\ ((↑a.a : Int) = (0 : Int) -> False)) /\ (UT x.a x.b).n = IntKind.i64.wrap (x.a.tdiv (↑a.a : Int)) /\ (UT x.a x.b).d = IntKind.i64.wrap (x.b.tdiv (↑a.a : Int))) := by kernel_rfl
def BIN := pD dI2 (λ x => .d (eRt (UT x.a x.b))) (λ x => [0 < x.b /\ x.b <= 2305843009213693952 /\ -2305843009213693952 <= x.a /\ x.a <= 2305843009213693952])
theorem CDY {n : Int} (h1 : -2305843009213693952 <= n) (h2 : n <= 2305843009213693952) : grM ⟨n, AD 1 λ _ => IntKind.i64.wrap (-n)⟩ = n.natAbs := by
 rw [EO (by omega) (by omega)]
 show Ve n (-n) = _
 unfold Ve; split <;> omega
theorem CBL : AG Try.prog AHR BIN := HF xI2 hI2 λ x h => RD (A := BSG x) (ren := []) (fz := []) CBJ (by kernel_rfl) (AB CQI AE) (by
 show BQV x; rw [BZA]; try simp only [CC, eq_self, implies_true, forall_const]
 obtain ⟨h1, h2, h3, h4⟩ : 0 < x.b /\ x.b <= 2305843009213693952 /\ -2305843009213693952 <= x.a /\ x.a <= 2305843009213693952 := h
 refine ⟨⟨by omega, λ j hj => BSU _ _ _ hj⟩, ⟨⟨x.a.natAbs, x.b.natAbs⟩, ⟨(CDY h3 h4).symm, by show (x.b.natAbs : Int) = _; omega⟩, rfl, by show x.a.natAbs <= _; omega, by show x.b.natAbs <= _; omega⟩, λ s hs => ⟨λ hb => ?_, λ hb => ?_⟩⟩
 ·have hb : s.b ≠ 0 := by simpa using hb
  refine ⟨by omega, ⟨s.b, s.a % s.b⟩, ⟨rfl, ?_⟩, ⟨?_, hs.2.2, ?_⟩, Nat.mod_lt _ (by omega)⟩
  ·exact (Int.ofNat_tmod s.a s.b)
  ·show Nat.gcd s.b (s.a % s.b) = _
   rw [<- hs.1, Nat.gcd_comm s.b, <- Nat.gcd_rec, Nat.gcd_comm]
  ·exact Nat.le_trans (Nat.le_of_lt (Nat.mod_lt _ (by omega))) hs.2.2
 ·have hb : s.b = 0 := by simpa using hb
  have hg : s.a = Nat.gcd x.a.natAbs x.b.natAbs := by rw [<- hs.1, hb, Nat.gcd_zero_right]
  have hp : 0 < Nat.gcd x.a.natAbs x.b.natAbs := Nat.gcd_pos_of_pos_right _ (by omega)
  have ha : ∀ z : Int, (z.tdiv (s.a : Int)).natAbs <= z.natAbs := λ z => by rw [Int.natAbs_tdiv]; exact Nat.div_le_self _ _
  have e1 := ha x.a
  have e2 := ha x.b
  refine ⟨by omega, ?_, ?_⟩
  ·rw [EO (by omega) (by omega)]; unfold UT; rw [<- hg]
  ·rw [EO (by omega) (by omega)]; unfold UT; rw [<- hg])
theorem BDO {n d : Int} (h : 0 < d) : 0 < (UT n d).d /\ (UT n d).d <= d := by
 have hd : ((Nat.gcd n.natAbs d.natAbs : Nat) : Int) ∣ d := Int.ofNat_dvd_left.2 (Nat.gcd_dvd_right _ _)
 have hp : 0 < Nat.gcd n.natAbs d.natAbs := Nat.gcd_pos_of_pos_right _ (by omega)
 obtain ⟨c, hc⟩ := hd
 have hc0 : 0 < c := by
  rcases Int.lt_or_le 0 c with h1 | h1
  ·exact h1
  ·have := Int.mul_nonneg (show 0 <= ((Nat.gcd n.natAbs d.natAbs : Nat) : Int) by omega) (show 0 <= -c by omega)
   rw [Int.mul_neg, <- hc] at this; omega
 have e : (UT n d).d = c := by
  show d.tdiv _ = c
  generalize Nat.gcd n.natAbs d.natAbs = q at *
  rw [hc, Int.mul_tdiv_cancel_left _ (by omega)]
 rw [e]
 refine ⟨hc0, ?_⟩
 have := Int.mul_le_mul_of_nonneg_right (show (1 : Int) <= ((Nat.gcd n.natAbs d.natAbs : Nat) : Int) by omega) (show 0 <= c by omega)
 rw [<- hc] at this; omega
theorem ANB {n d : Int} (h : 0 < d) : (UT n d).n * d = n * (UT n d).d := by
 have hd : ((Nat.gcd n.natAbs d.natAbs : Nat) : Int) ∣ d := Int.ofNat_dvd_left.2 (Nat.gcd_dvd_right _ _)
 have hn : ((Nat.gcd n.natAbs d.natAbs : Nat) : Int) ∣ n := Int.ofNat_dvd_left.2 (Nat.gcd_dvd_left _ _)
 have hp : 0 < Nat.gcd n.natAbs d.natAbs := Nat.gcd_pos_of_pos_right _ (by omega)
 show n.tdiv _ * d = n * d.tdiv _
 generalize Nat.gcd n.natAbs d.natAbs = q at *
 obtain ⟨c, rfl⟩ := hd
 obtain ⟨e, rfl⟩ := hn
 rw [Int.mul_tdiv_cancel_left _ (by omega), Int.mul_tdiv_cancel_left _ (by omega)]
 rw [Int.mul_comm (q : Int) e, Int.mul_assoc]
def BBE (x : Bnd) : Prop := AY Try.prog (ann 16 [(dB, ABA)]) T8 (AF T8) (xR2 x) (AC []) (.int (HJ (wr (x.lo.n * x.hi.d)) (wr (x.hi.n * x.lo.d)))) [] [] []
theorem BND (x : Bnd) : (BBE x) = (HJ (wr (x.lo.n * x.hi.d)) (wr (x.hi.n * x.lo.d)) = HJ (IntKind.i64.wrap (x.lo.n * x.hi.d)) (IntKind.i64.wrap (x.hi.n * x.lo.d))) := by kernel_rfl
def Q5 := pD dR2 λ x => .int (HJ (wr (x.lo.n * x.hi.d)) (wr (x.hi.n * x.lo.d)))
theorem Bc : AG Try.prog Si Q5 := HF xR2 hR2 λ g _ => RD (A := ann 16 [(dB, ABA)]) (ren := []) (fz := []) BMK (by kernel_rfl) (AB BGP AE) (by
 show BBE g; rw [BND]; try rfl)
def QD (x : Ln) (s : Int) : Rt := UT (x.a1 * (x.b0 - x.a0) + (x.b1 - x.a1) * (s - x.a0)) (x.b0 - x.a0)
def DS (x : Ln) : Prop := 0 <= x.a0 /\ x.a0 < x.b0 /\ x.b0 <= 2000 /\ 0 <= x.a1 /\ x.a1 <= x.b1 /\ x.b1 <= 200000
def CIH (a : LnI) : Prop := AY Try.prog (ann 34 [(AHR, BIN)]) BXV (AF BXV) (xLI a) (AC []) (.d (eRt (QD a.x a.s))) [] [] []
theorem CLH (a : LnI) : (CIH a) = ((0 < IntKind.i64.wrap (a.x.b0 - a.x.a0) /\ IntKind.i64.wrap (a.x.b0 - a.x.a0) <= 2305843009213693952 /\ -2305843009213693952 <= IntKind.i64.wrap (IntKind.i64.wrap (a.x.a1 *
 IntKind.i64.wrap (a.x.b0 - a.x.a0)) + IntKind.i64.wrap (IntKind.i64.wrap (a.x.b1 - a.x.a1) * IntKind.i64.wrap (a.s - a.x.a0))) /\ IntKind.i64.wrap (IntKind.i64.wrap (a.x.a1 * IntKind.i64.wrap (a.x.b0 - a.x.a0)) +
 IntKind.i64.wrap (IntKind.i64.wrap (a.x.b1 - a.x.a1) * IntKind.i64.wrap (a.s - a.x.a0))) <= 2305843009213693952) /\ (QD a.x a.s).n = (UT (IntKind.i64.wrap (IntKind.i64.wrap (a.x.a1 * IntKind.i64.wrap (a.x.b0 - a.x.a0))
 + IntKind.i64.wrap (IntKind.i64.wrap (a.x.b1 - a.x.a1) * IntKind.i64.wrap (a.s - a.x.a0)))) (IntKind.i64.wrap (a.x.b0 - a.x.a0))).n /\ (QD a.x a.s).d = (UT (IntKind.i64.wrap (IntKind.i64.wrap (a.x.a1 *
 IntKind.i64.wrap (a.x.b0 - a.x.a0)) + IntKind.i64.wrap (IntKind.i64.wrap (a.x.b1 - a.x.a1) * IntKind.i64.wrap (a.s - a.x.a0)))) (IntKind.i64.wrap (a.x.b0 - a.x.a0))).d) := by kernel_rfl
def BKO := pD dLI (λ a => .d (eRt (QD a.x a.s))) (λ a => [DS a.x, 0 <= a.s /\ a.s <= 2000])
theorem CDL {x : Ln} {t : Int} (h : DS x) (h2 : 0 <= t /\ t <= 2000) : (0 <= x.a1 * (x.b0 - x.a0) /\ x.a1 * (x.b0 - x.a0) <= 400000000) /\ -400000000 <= (x.b1 - x.a1) * (t - x.a0) /\ (x.b1 - x.a1) * (t - x.a0) <= 400000000 := by
 obtain ⟨h3, h4, h5, h6, h7, h8⟩ := h
 exact ⟨mulb (A := 200000) (B := 2000) (by omega) (by omega) (by omega) (by omega), COO (A := 200000) (B := 2000) (by omega) (by omega) (by omega) (by omega)⟩
theorem CCM : AG Try.prog BBC BKO := HF xLI hLI λ a h => RD (A := ann 34 [(AHR, BIN)]) (ren := []) (fz := []) CLA (by kernel_rfl) (AB CBL AE) (by
 show CIH a; rw [CLH]; try simp only [CC, eq_self, implies_true, forall_const]
 have hb := CDL h.1 h.2
 obtain ⟨⟨h3, h4, h5, h6, h7, h8⟩, h9, h10⟩ := h
 rw [EO (n := a.x.b0 - a.x.a0) (by omega) (by omega), EO (n := a.x.b1 - a.x.a1) (by omega) (by omega), EO (n := a.s - a.x.a0) (by omega) (by omega), EO (n := a.x.a1 * (a.x.b0 - a.x.a0)) (by omega) (by omega), EO (n := (a.x.b1 - a.x.a1) * (a.s - a.x.a0)) (by omega) (by omega), EO (n := a.x.a1 * (a.x.b0 - a.x.a0) + (a.x.b1 - a.x.a1) * (a.s - a.x.a0)) (by omega) (by omega)]
 exact ⟨⟨by omega, by omega, by omega, by omega⟩, rfl, rfl⟩)
theorem BNC {x : Ln} {t : Int} (h : DS x) : 0 < (QD x t).d /\ (QD x t).d <= 2000 := by
 have := BDO (n := x.a1 * (x.b0 - x.a0) + (x.b1 - x.a1) * (t - x.a0)) (d := x.b0 - x.a0) (by have := h.2.1; omega)
 refine ⟨this.1, ?_⟩
 have h1 := h.1
 have h3 := h.2.2.1
 have := this.2
 show (UT _ _).d <= _
 omega
def SZ (r : Rt) : Rt := if r.n < 0 then ⟨0, 1⟩ else if 200000 * r.d < r.n then ⟨200000, 1⟩ else r
def BAT (r : Rt) : Prop := AY Try.prog (ann 17 []) AAM (AF AAM) (xR1 r) (AC []) (.d (eRt (SZ r))) [] [] []
theorem BPE (r : Rt) : (BAT r) = (bif decide (r.n < 0) then (SZ r).n = 0 /\ (SZ r).d = 1 else bif decide (r.n > IntKind.i64.wrap (200000 * r.d)) then (SZ r).n = 200000 /\ (SZ r).d = 1 else (SZ
 r).n = r.n /\ (SZ r).d = r.d) := by kernel_rfl
def D6 := pD dR1 (λ r => .d (eRt (SZ r))) (λ r => [0 < r.d /\ r.d <= 4000000])
theorem BMJ : AG Try.prog Pz D6 := HF xR1 hR1 λ r h => RD (A := ann 17 []) (ren := []) (fz := []) BNF (by kernel_rfl) AE (by
 show BAT r; rw [BPE]; try simp only [CC, eq_self, implies_true, forall_const]
 obtain ⟨h1, h2⟩ : 0 < r.d /\ r.d <= 4000000 := h
 rw [EO (by omega) (by omega)]
 unfold SZ
 refine ⟨λ h3 => by simp [h3], λ h3 => ⟨λ h4 => ?_, λ h4 => ?_⟩⟩
 ·rw [if_neg h3, if_pos (by omega)]; exact ⟨rfl, rfl⟩
 ·rw [if_neg h3, if_neg (by omega)]; exact ⟨rfl, rfl⟩)
def BI (x : Ln) (s : Int) : Rt := SZ (QD x s)
def BRZ (a : LnI) : Prop := AY Try.prog (ann 9 [(BBC, BKO), (Pz, D6)]) BGW (AF BGW) (xLI a) (AC []) (.d (eRt (BI a.x a.s))) [] [] []
theorem BVU (a : LnI) : (BRZ a) = (((0 <= a.x.a0 /\ a.x.a0 < a.x.b0 /\ a.x.b0 <= 2000 /\ 0 <= a.x.a1 /\ a.x.a1 <= a.x.b1 /\ a.x.b1 <= 200000) /\ (0 <= a.s /\ a.s <= 2000) /\ 0 < (QD a.x a.s).d /\ (QD a.x a.s).d <= 4000000) /\
 (BI a.x a.s).n = (SZ (QD a.x a.s)).n /\ (BI a.x a.s).d = (SZ (QD a.x a.s)).d) := by kernel_rfl
def BCQ := pD dLI (λ a => .d (eRt (BI a.x a.s))) (λ a => [DS a.x, 0 <= a.s /\ a.s <= 2000])
theorem BZN : AG Try.prog AHA BCQ := HF xLI hLI λ a h => RD (A := ann 9 [(BBC, BKO), (Pz, D6)]) (ren := []) (fz := []) BVJ (by kernel_rfl) (AB CCM (AB BMJ AE)) (by
 show BRZ a; rw [BVU]; try simp only [CC, eq_self, implies_true, forall_const]
 have := BNC (t := a.s) h.1
 exact ⟨⟨h.1, h.2, this.1, by omega⟩, rfl, rfl⟩)
def AL (p : Pt) : Ln := if p.st = 2000 then ⟨p.st - 1, p.fl, p.st, p.fl⟩ else ⟨p.st, p.fl, p.st + 1, p.fl⟩
def BQX (p : Pt) : Prop := AY Try.prog (ann 22 []) BEG (AF BEG) (xP1 p) (AC []) (.d (eLn (AL p))) [] [] []
theorem CCH (p : Pt) : (BQX p) = (bif p.st == 2000 then (AL p).a0 = IntKind.i64.wrap (p.st - 1) /\ (AL p).a1 = p.fl /\ (AL p).b0 = p.st /\ (AL p).b1 = p.fl else (AL p).a0 = p.st /\ (AL p).a1 = p.fl /\
 (AL p).b0 = IntKind.i64.wrap (p.st + 1) /\ (AL p).b1 = p.fl) := by kernel_rfl
def Sy := pD dP1 (λ p => .d (eLn (AL p))) (λ p => [0 <= p.st /\ p.st <= 2000])
theorem RW : AG Try.prog Fp Sy := HF xP1 hP1 λ p h => RD (A := ann 22 []) (ren := []) (fz := []) BVP (by kernel_rfl) AE (by
 show BQX p; rw [CCH]
 obtain ⟨h1, h2⟩ : 0 <= p.st /\ p.st <= 2000 := h
 rw [EO (by omega) (by omega), EO (by omega) (by omega), BLA]
 unfold AL
 by_cases h : p.st = 2000 <;> simp [h])
def BR (x : Ln) (g : Gau) : Bool := decide (g.lo * (QD x g.st).d <= (QD x g.st).n) && decide ((QD x g.st).n <= g.hi * (QD x g.st).d)
def GY (g : Gau) : Prop := 0 <= g.st /\ g.st <= 2000 /\ 0 <= g.lo /\ g.lo <= g.hi /\ g.hi <= 200000
def BLZ (a : LnG) : Prop := AY Try.prog (ann 30 [(BBC, BKO)]) ANC (AF ANC) (xLG a) (AC []) (.bool (BR a.x a.g)) [] [] []
theorem BUT (a : LnG) : (BLZ a) = (((0 <= a.x.a0 /\ a.x.a0 < a.x.b0 /\ a.x.b0 <= 2000 /\ 0 <= a.x.a1 /\ a.x.a1 <= a.x.b1 /\ a.x.b1 <= 200000) /\ 0 <= a.g.st /\ a.g.st <= 2000) /\ BR a.x a.g = bif decide ((QD a.x
 a.g.st).n >= IntKind.i64.wrap (a.g.lo * (QD a.x a.g.st).d)) then decide ((QD a.x a.g.st).n <= IntKind.i64.wrap (a.g.hi * (QD a.x a.g.st).d)) else false) := by kernel_rfl
def BJZ := pD dLG (λ a => .bool (BR a.x a.g)) (λ a => [DS a.x, GY a.g])
theorem BUK : AG Try.prog rF BJZ := HF xLG hLG λ a h => RD (A := ann 30 [(BBC, BKO)]) (ren := []) (fz := []) BUL (by kernel_rfl) (AB CCM AE) (by
 show BLZ a; rw [BUT]; try simp only [CC, eq_self, implies_true, forall_const]
 obtain ⟨h1, h2, h3, h4, h5, h6⟩ : DS a.x /\ GY a.g := h
 have hd := BNC (t := a.g.st) h1
 have b1 := mulb (A := 200000) (B := 2000) h4 (by omega) (show 0 <= (QD a.x a.g.st).d by omega) hd.2
 have b2 := mulb (A := 200000) (B := 2000) (show 0 <= a.g.hi by omega) (by omega) (show 0 <= (QD a.x a.g.st).d by omega) hd.2
 rw [EO (by omega) (by omega), EO (by omega) (by omega)]
 refine ⟨⟨h1, h2, h3⟩, ?_⟩
 unfold BR
 cases decide (a.g.lo * (QD a.x a.g.st).d <= (QD a.x a.g.st).n) <;> simp_all)
end Go.Bal
