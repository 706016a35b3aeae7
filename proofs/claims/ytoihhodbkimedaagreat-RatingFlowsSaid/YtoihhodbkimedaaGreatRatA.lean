/- Package rating: numbers, lines, fractions. -/
import Derived.Test.YtoihhodbkimedaaGreatRat0
set_option linter.unusedVariables false
set_option linter.unusedSimpArgs false
namespace Go.Bal
open Go Go.Sym Go.Proofs
def wr (n : Int) : Int := IntKind.i64.wrap n
def BY (a b c : Int) : Bool := decide (b <= a) && decide (a <= c)
def Ck (g : Gau) : Bool := BY g.st 0 2000 && BY g.lo 0 g.hi && BY g.hi 0 200000
def riP (p : Pt) : Bool := BY p.st 0 2000 && BY p.fl 0 200000
def SK (x : Ln) : Bool := riP ⟨x.a0, x.a1⟩ && riP ⟨x.b0, x.b1⟩ && decide (x.a0 < x.b0) && decide (x.a1 <= x.b1)
def V_in (x : I3) : Prop := AN Try.prog (ann 15 []) F_in (AF F_in) (xI3 x) (AC []) (.bool (BY x.a x.b x.c)) [] [] []
theorem CXD (x : I3) : (V_in x) = (BY x.a x.b x.c = bif decide (x.a >= x.b) then decide (x.a <= x.c) else false) := by kernel_rfl
def Q7 := pD dI3 λ x => .bool (BY x.a x.b x.c)
theorem Bv : AG Try.prog sE Q7 := EL xI3 hI3 λ x _ => KZ (A := ann 15 []) (ren := []) (fz := []) CXF (by kernel_rfl) AD (by
 show V_in x; rw [CXD]; unfold BY; by_cases h : x.b <= x.a <;> simp [h])
def CPN (g : Gau) : Prop := AN Try.prog (ann 21 [(sE, Q7)]) CBC (AF CBC) (xG1 g) (AC []) (.bool (Ck g)) [] [] []
theorem CRV (g : Gau) : (CPN g) = (Ck g = bif bif BY g.st 0 2000 then BY g.lo 0 g.hi else false then BY g.hi 0 200000 else false) := by kernel_rfl
def CPB := pD dG1 λ g => .bool (Ck g)
theorem CRB : AG Try.prog BUU CPB := EL xG1 hG1 λ g _ => KZ (A := ann 21 [(sE, Q7)]) (ren := []) (fz := []) CTG (by kernel_rfl) (AB Bv AD) (by
 show CPN g; rw [CRV]; unfold Ck; cases BY g.st 0 2000 <;> cases BY g.lo 0 g.hi <;> simp)
def CON (g : Pt) : Prop := AN Try.prog (ann 11 [(sE, Q7)]) CIS (AF CIS) (xP1 g) (AC []) (.bool (riP g)) [] [] []
theorem CUM (g : Pt) : (CON g) = (riP g = bif BY g.st 0 2000 then BY g.fl 0 200000 else false) := by kernel_rfl
def CIA := pD dP1 λ g => .bool (riP g)
theorem CRQ : AG Try.prog BTD CIA := EL xP1 hP1 λ g _ => KZ (A := ann 11 [(sE, Q7)]) (ren := []) (fz := []) CSH (by kernel_rfl) (AB Bv AD) (by
 show CON g; rw [CUM]; unfold riP; cases BY g.st 0 2000 <;> simp)
def CQE (g : Ln) : Prop := AN Try.prog (ann 29 [(BTD, CIA)]) CGV (AF CGV) (xL1 g) (AC []) (.bool (SK g)) [] [] []
theorem CTL (g : Ln) : (CQE g) = (SK g = bif bif bif riP (Pt.mk g.a0 g.a1) then riP (Pt.mk g.b0 g.b1) else false then decide (g.a0 < g.b0) else false then decide (g.a1 <= g.b1) else false) := by kernel_rfl
def BUH := pD dL1 λ g => .bool (SK g)
theorem BAK : AG Try.prog BOF BUH := EL xL1 hL1 λ g _ => KZ (A := ann 29 [(BTD, CIA)]) (ren := []) (fz := []) CUE (by kernel_rfl) (AB CRQ AD) (by
 show CQE g; rw [CTL]; unfold SK; cases riP ⟨g.a0, g.a1⟩ <;> cases riP ⟨g.b0, g.b1⟩ <;> by_cases h : g.a0 < g.b0 <;> simp [h])
def CFD (x : Int) : Prop := AN Try.prog (ann 6 []) BPQ (AF BPQ) (xI1 x) (AC []) (.bool false) [] [] []
theorem CNN (x : Int) : (CFD x) = (false = (x != x)) := by kernel_rfl
def jL := pD dI1 λ _ => .bool false
theorem BWR : AG Try.prog R0 jL := EL xI1 hI1 λ g _ => KZ (A := ann 6 []) (ren := []) (fz := []) CMW (by kernel_rfl) AD (by
 show CFD g; rw [CNN]; simp)
def CJE (x : Int) : Prop := AN Try.prog (ann 6 []) BPY (AF BPY) (xI1 x) (AC []) (.bool false) [] [] []
theorem CNI (x : Int) : (CJE x) = (false = (x != x)) := by kernel_rfl
theorem CJW : AG Try.prog BOJ jL := EL xI1 hI1 λ g _ => KZ (A := ann 6 []) (ren := []) (fz := []) CJV (by kernel_rfl) AD (by
 show CJE g; rw [CNI]; simp)
def BTB (x : I2) : Prop := AN Try.prog (ann 17 [(R0, jL)]) BII (AF BII) (xI2 x) (AC []) (.bool (decide (x.a < x.b))) [] [] []
theorem CDU (x : I2) : (BTB x) = (decide (x.a < x.b) = bif bif false then !false else false then true else decide (x.a < x.b)) := by kernel_rfl
def BXD := pD dI2 λ x => .bool (decide (x.a < x.b))
theorem CAA : AG Try.prog BJG BXD := EL xI2 hI2 λ g _ => KZ (A := ann 17 [(R0, jL)]) (ren := []) (fz := []) CHB (by kernel_rfl) (AB BWR AD) (by
 show BTB g; rw [CDU]; try simp)
def HU (a b : Int) : Int := bif decide (a < b) then -1 else bif decide (a > b) then 1 else 0
def CCI (x : I2) : Prop := AN Try.prog (ann 20 [(R0, jL)]) BPH (AF BPH) (xI2 x) (AC []) (.int (HU x.a x.b)) [] [] []
theorem CLJ (x : I2) : (CCI x) = (bif decide (x.a < x.b) then HU x.a x.b = -1 else bif decide (x.a > x.b) then HU x.a x.b = 1 else HU x.a x.b = 0) := by kernel_rfl
def X4 := pD dI2 λ x => .int (HU x.a x.b)
theorem BKR : AG Try.prog Zu X4 := EL xI2 hI2 λ g _ => KZ (A := ann 20 [(R0, jL)]) (ren := []) (fz := []) CKI (by kernel_rfl) (AB BWR AD) (by
 show CCI g; rw [CLJ]; unfold HU; by_cases h : g.a < g.b <;> by_cases h2 : g.b < g.a <;> simp [h, h2])
structure IL where
 a : Int
 l : List Int
def grM (x : IL) : Int := x.l.foldl EY x.a
structure NI where
 k : Nat
 m : Int
 deriving Inhabited
def C_gr : Ctr := { α := IL, xs := λ x => [.int x.a, .d (BC x.l)], L := λ _ => [], val := λ x => .int (grM x), keep := λ _ => [], pre := λ x => [decide (x.l.length < 4611686018427387904) = true] }
def d_gr : List AVal -> Heap -> Option (IL × List (Nat × Nat) × List Nat)
 | [.d a, y], H => match XT y H with
  | some (l, f) => some (⟨DH a, l⟩, [], f)
  | none => none
 | _, _ => none
def A_gr (x : IL) : Ann := { ann 18 [] with loops := λ id => if id = 2 then some [{ α := NI, dflt := default, T := λ s => ⟨[(0, .int s.m), (7, .d (BC x.l)), (8, .int x.l.length), (9, .int s.k)], []⟩, inv := λ s => s.k <= x.l.length /\ s.m = (x.l.take s.k).foldl EY x.a, meas := λ s => x.l.length - s.k }] else none }
def V_gr (x : IL) : Prop := AN Try.prog (A_gr x) dP (AF dP) (C_gr.xs x) (AC []) (C_gr.val x) [] [] []
theorem CVO (x : IL) : (V_gr x) = ((∃ (a : NI), (a.m = x.a /\ x.l.length = x.l.length /\ (∀ (i : Nat), i < x.l.length -> gD x.l i = gD x.l i) /\ (↑x.l.length : Int) = (↑x.l.length : Int) /\ (↑a.k : Int) = 0) /\ a.k <=
 x.l.length /\ a.m = List.foldl EY x.a (List.take a.k x.l)) /\ ∀ (a : NI), a.k <= x.l.length /\ a.m = List.foldl EY x.a (List.take a.k x.l) -> bif decide ((↑a.k : Int) < (↑x.l.length : Int)) then (0 <= (↑a.k : Int) /\ (↑a.k
 : Int) < (↑x.l.length : Int)) /\ ∃ (a_2 : NI), (a_2.m = EY a.m (gD x.l a.k) /\ x.l.length = x.l.length /\ (∀ (i : Nat), i < x.l.length -> gD x.l i = gD x.l i) /\ (↑x.l.length : Int) = (↑x.l.length : Int) /\ (↑a_2.k : Int) =
 IntKind.i64.wrap ((↑a.k : Int) + 1)) /\ (a_2.k <= x.l.length /\ a_2.m = List.foldl EY x.a (List.take a_2.k x.l)) /\ x.l.length - a_2.k < x.l.length - a.k else grM x = a.m) := by kernel_rfl
theorem DF {α : Type} [Inhabited α] {l : List α} {k : Nat} (h : k < l.length) : l.take (k + 1) = l.take k ++ [gD l k] := by
 rw [List.take_add_one, List.getElem?_eq_getElem h]; simp [gD, List.getD_eq_getElem?_getD, h]
theorem p_gr (x : IL) (h : x.l.length < 4611686018427387904) : V_gr x := by
 rw [CVO]; try simp only [CC, eq_self, implies_true, forall_const]
 refine ⟨⟨⟨0, x.a⟩, ⟨rfl, rfl⟩, Nat.zero_le _, rfl⟩, λ s hs => ⟨λ hlt => ⟨by omega, ⟨s.k + 1, EY s.m (gD x.l s.k)⟩, ⟨rfl, (BF (by omega)).symm⟩, ⟨⟨by show s.k + 1 <= _; omega, ?_⟩, ?_⟩⟩, λ hge => ?_⟩⟩
 ·show EY s.m (gD x.l s.k) = _
  rw [DF (by omega), List.foldl_append, hs.2]; rfl
 ·show x.l.length - (s.k + 1) < _; omega
 ·rw [hs.2]; unfold grM; rw [List.take_of_length_le (by omega)]
theorem CVH : AG Try.prog iG (C_gr.spec d_gr) := HR C_gr A_gr [] [] BOH (λ _ => by kernel_rfl) (λ _ => AD) (λ x h => p_gr x (of_decide_eq_true h)) (λ _ => IN rfl rfl) _
def FD (n d : Int) : Rt := ⟨n.tdiv (Nat.gcd n.natAbs d.natAbs : Nat), d.tdiv (Nat.gcd n.natAbs d.natAbs : Nat)⟩
structure NN where
 a : Nat
 b : Nat
 deriving Inhabited
def BWG (x : I2) : Ann := { ann 26 [(iG, C_gr.spec d_gr)] with loops := λ id => if id = 2 then some [{ α := NN, dflt := default, T := λ s => ⟨[(0, .int x.a), (1, .int x.b), (4, .bptr 201 0), (5, .int s.a), (6, .int s.b)], [(201, .live (.box [.int 0, .int 0]))]⟩, inv := λ s => Nat.gcd s.a s.b = Nat.gcd x.a.natAbs x.b.natAbs /\ s.a <= 2305843009213693952 /\ s.b <= 2305843009213693952, meas := λ s => s.b, first := [(201, 1000)] }] else none }
def BUX (x : I2) : Prop := AN Try.prog (BWG x) BDX (AF BDX) (xI2 x) (AC []) (.d (xQ (FD x.a x.b))) [] [] []
theorem CET (x : I2) : (BUX x) = ((x.a = x.a /\ (AE (1 : Nat) λ (i : Nat) => IntKind.i64.wrap ((0 : Int) - x.a)).length = (1 : Nat) /\ (1 : Nat) <= (1 : Nat) /\ (∀ (j : Nat), j < (AE (1 : Nat) λ (i : Nat) =>
 IntKind.i64.wrap ((0 : Int) - x.a)).length -> gD (AE (1 : Nat) λ (i : Nat) => IntKind.i64.wrap ((0 : Int) - x.a)) j = IntKind.i64.wrap ((0 : Int) - x.a)) /\ true = true) /\ (∃ (a : NN), (x.a = x.a /\ x.b = x.b /\ (↑a.a :
 Int) = grM (IL.mk x.a (AE (1 : Nat) λ (i : Nat) => IntKind.i64.wrap ((0 : Int) - x.a))) /\ (↑a.b : Int) = x.b /\ Int.ofNat (0 : Nat) = Int.ofNat (0 : Nat) /\ Int.ofNat (0 : Nat) = Int.ofNat (0 : Nat)) /\ a.a.gcd a.b =
 x.a.natAbs.gcd x.b.natAbs /\ a.a <= (2305843009213693952 : Nat) /\ a.b <= (2305843009213693952 : Nat)) /\ ∀ (a : NN), a.a.gcd a.b = x.a.natAbs.gcd x.b.natAbs /\ a.a <= (2305843009213693952 : Nat) /\ a.b <= (2305843009213693952 :
 Nat) -> bif (↑a.b : Int) != (0 : Int) then ((↑a.b : Int) = (0 : Int) -> False) /\ ∃ (a_2 : NN), (x.a = x.a /\ x.b = x.b /\ (↑a_2.a : Int) = (↑a.b : Int) /\ (↑a_2.b : Int) = (↑a.a : Int).tmod (↑a.b : Int) /\ Int.ofNat (0 : Nat)
 = Int.ofNat (0 : Nat) /\ Int.ofNat (0 : Nat) = Int.ofNat (0 : Nat)) /\ (a_2.a.gcd a_2.b = x.a.natAbs.gcd x.b.natAbs /\ a_2.a <= (2305843009213693952 : Nat) /\ a_2.b <= (2305843009213693952 : Nat)) /\ a_2.b < a.b else ((↑a.a :
 Int) ≠ (0 : Int) /\ ((↑a.a : Int) = (0 : Int) -> False)) /\ (FD x.a x.b).n = IntKind.i64.wrap (x.a.tdiv (↑a.a : Int)) /\ (FD x.a x.b).d = IntKind.i64.wrap (x.b.tdiv (↑a.a : Int))) := by kernel_rfl
def OX := pD dI2 (λ x => .d (xQ (FD x.a x.b))) (λ x => [0 < x.b /\ x.b <= 2305843009213693952 /\ -2305843009213693952 <= x.a /\ x.a <= 2305843009213693952])
theorem CNA {n : Int} (h1 : -2305843009213693952 <= n) (h2 : n <= 2305843009213693952) : grM ⟨n, AE 1 λ _ => IntKind.i64.wrap (-n)⟩ = n.natAbs := by
 rw [EV (by omega) (by omega)]
 show EY n (-n) = _
 unfold EY; split <;> omega
theorem ARI : AG Try.prog pZ OX := EL xI2 hI2 λ x h => KZ (A := BWG x) (ren := []) (fz := []) CGE (by kernel_rfl) (AB CVH AD) (by
 show BUX x; rw [CET]; try simp only [CC, eq_self, implies_true, forall_const]
 obtain ⟨h1, h2, h3, h4⟩ : 0 < x.b /\ x.b <= 2305843009213693952 /\ -2305843009213693952 <= x.a /\ x.a <= 2305843009213693952 := h
 refine ⟨⟨by omega, λ j hj => BXM _ _ _ hj⟩, ⟨⟨x.a.natAbs, x.b.natAbs⟩, ⟨(CNA h3 h4).symm, by show (x.b.natAbs : Int) = _; omega⟩, rfl, by show x.a.natAbs <= _; omega, by show x.b.natAbs <= _; omega⟩, λ s hs => ⟨λ hb => ?_, λ hb => ?_⟩⟩
 ·have hb : s.b ≠ 0 := by simpa using hb
  refine ⟨by omega, ⟨s.b, s.a % s.b⟩, ⟨rfl, ?_⟩, ⟨?_, hs.2.2, ?_⟩, Nat.mod_lt _ (by omega)⟩
  ·exact (Int.ofNat_tmod s.a s.b)
  ·show Nat.gcd s.b (s.a % s.b) = _
   rw [<- hs.1, Nat.gcd_comm s.b, <- Nat.gcd_rec, Nat.gcd_comm]
  ·exact Nat.le_trans (Nat.le_of_lt (Nat.mod_lt _ (by omega))) hs.2.2
 ·have hb : s.b = 0 := by simpa using hb
  have hg : s.a = Nat.gcd x.a.natAbs x.b.natAbs := by rw [<- hs.1, hb, Nat.gcd_zero_right]
  have hp : 0 < Nat.gcd x.a.natAbs x.b.natAbs := Nat.gcd_pos_of_pos_right _ (by omega)
  have ha : ∀ z : Int, (z.tdiv (s.a : Int)).natAbs <= z.natAbs := λ z => by rw [Int.natAbs_tdiv]; exact Nat.div_le_self _ _
  have e1 := ha x.a
  have e2 := ha x.b
  refine ⟨by omega, ?_, ?_⟩
  ·rw [EV (by omega) (by omega)]; unfold FD; rw [<- hg]
  ·rw [EV (by omega) (by omega)]; unfold FD; rw [<- hg])
theorem iE {n d : Int} (h : 0 < d) : 0 < (FD n d).d /\ (FD n d).d <= d := by
 have hd : ((Nat.gcd n.natAbs d.natAbs : Nat) : Int) ∣ d := Int.ofNat_dvd_left.2 (Nat.gcd_dvd_right _ _)
 have hp : 0 < Nat.gcd n.natAbs d.natAbs := Nat.gcd_pos_of_pos_right _ (by omega)
 obtain ⟨c, hc⟩ := hd
 have hc0 : 0 < c := by
  rcases Int.lt_or_le 0 c with h1 | h1
  ·exact h1
  ·have := Int.mul_nonneg (show 0 <= ((Nat.gcd n.natAbs d.natAbs : Nat) : Int) by omega) (show 0 <= -c by omega)
   rw [Int.mul_neg, <- hc] at this; omega
 have e : (FD n d).d = c := by
  show d.tdiv _ = c
  generalize Nat.gcd n.natAbs d.natAbs = q at *
  rw [hc, Int.mul_tdiv_cancel_left _ (by omega)]
 rw [e]
 refine ⟨hc0, ?_⟩
 have := Int.mul_le_mul_of_nonneg_right (show (1 : Int) <= ((Nat.gcd n.natAbs d.natAbs : Nat) : Int) by omega) (show 0 <= c by omega)
 rw [<- hc] at this; omega
theorem BQG {n d : Int} : (FD n d).n.natAbs <= n.natAbs := by
 show (n.tdiv _).natAbs <= _
 rw [Int.natAbs_tdiv]; exact Nat.div_le_self _ _
theorem WS {n d : Int} (h : 0 < d) : (FD n d).n * d = n * (FD n d).d := by
 have hd : ((Nat.gcd n.natAbs d.natAbs : Nat) : Int) ∣ d := Int.ofNat_dvd_left.2 (Nat.gcd_dvd_right _ _)
 have hn : ((Nat.gcd n.natAbs d.natAbs : Nat) : Int) ∣ n := Int.ofNat_dvd_left.2 (Nat.gcd_dvd_left _ _)
 have hp : 0 < Nat.gcd n.natAbs d.natAbs := Nat.gcd_pos_of_pos_right _ (by omega)
 show n.tdiv _ * d = n * d.tdiv _
 generalize Nat.gcd n.natAbs d.natAbs = q at *
 obtain ⟨c, rfl⟩ := hd
 obtain ⟨e, rfl⟩ := hn
 rw [Int.mul_tdiv_cancel_left _ (by omega), Int.mul_tdiv_cancel_left _ (by omega)]
 rw [Int.mul_comm (q : Int) e, Int.mul_assoc]
def BCI (x : Bnd) : Prop := AN Try.prog (ann 16 [(Zu, X4)]) AAX (AF AAX) (xR2 x) (AC []) (.int (HU (wr (x.lo.n * x.hi.d)) (wr (x.hi.n * x.lo.d)))) [] [] []
theorem BOZ (x : Bnd) : (BCI x) = (HU (wr (x.lo.n * x.hi.d)) (wr (x.hi.n * x.lo.d)) = HU (IntKind.i64.wrap (x.lo.n * x.hi.d)) (IntKind.i64.wrap (x.hi.n * x.lo.d))) := by kernel_rfl
def P3 := pD dR2 λ x => .int (HU (wr (x.lo.n * x.hi.d)) (wr (x.hi.n * x.lo.d)))
theorem Gs : AG Try.prog Qs P3 := EL xR2 hR2 λ g _ => KZ (A := ann 16 [(Zu, X4)]) (ren := []) (fz := []) BPO (by kernel_rfl) (AB BKR AD) (by
 show BCI g; rw [BOZ]; try rfl)
def ER (x : Ln) (s : Int) : Rt := FD (x.a1 * (x.b0 - x.a0) + (x.b1 - x.a1) * (s - x.a0)) (x.b0 - x.a0)
def DR (x : Ln) : Prop := 0 <= x.a0 /\ x.a0 < x.b0 /\ x.b0 <= 2000 /\ 0 <= x.a1 /\ x.a1 <= x.b1 /\ x.b1 <= 200000
def CPL (a : LnI) : Prop := AN Try.prog (ann 34 [(pZ, OX)]) CDM (AF CDM) (xLI a) (AC []) (.d (xQ (ER a.x a.s))) [] [] []
theorem CUA (a : LnI) : (CPL a) = ((0 < IntKind.i64.wrap (a.x.b0 - a.x.a0) /\ IntKind.i64.wrap (a.x.b0 - a.x.a0) <= 2305843009213693952 /\ -2305843009213693952 <= IntKind.i64.wrap (IntKind.i64.wrap (a.x.a1 *
 IntKind.i64.wrap (a.x.b0 - a.x.a0)) + IntKind.i64.wrap (IntKind.i64.wrap (a.x.b1 - a.x.a1) * IntKind.i64.wrap (a.s - a.x.a0))) /\ IntKind.i64.wrap (IntKind.i64.wrap (a.x.a1 * IntKind.i64.wrap (a.x.b0 - a.x.a0)) +
 IntKind.i64.wrap (IntKind.i64.wrap (a.x.b1 - a.x.a1) * IntKind.i64.wrap (a.s - a.x.a0))) <= 2305843009213693952) /\ (ER a.x a.s).n = (FD (IntKind.i64.wrap (IntKind.i64.wrap (a.x.a1 * IntKind.i64.wrap (a.x.b0 - a.x.a0))
 + IntKind.i64.wrap (IntKind.i64.wrap (a.x.b1 - a.x.a1) * IntKind.i64.wrap (a.s - a.x.a0)))) (IntKind.i64.wrap (a.x.b0 - a.x.a0))).n /\ (ER a.x a.s).d = (FD (IntKind.i64.wrap (IntKind.i64.wrap (a.x.a1 *
 IntKind.i64.wrap (a.x.b0 - a.x.a0)) + IntKind.i64.wrap (IntKind.i64.wrap (a.x.b1 - a.x.a1) * IntKind.i64.wrap (a.s - a.x.a0)))) (IntKind.i64.wrap (a.x.b0 - a.x.a0))).d) := by kernel_rfl
def APN := pD dLI (λ a => .d (xQ (ER a.x a.s))) (λ a => [DR a.x, 0 <= a.s /\ a.s <= 2000])
theorem CKN {x : Ln} {t : Int} (h : DR x) (h2 : 0 <= t /\ t <= 2000) : (0 <= x.a1 * (x.b0 - x.a0) /\ x.a1 * (x.b0 - x.a0) <= 400000000) /\ -400000000 <= (x.b1 - x.a1) * (t - x.a0) /\ (x.b1 - x.a1) * (t - x.a0) <= 400000000 := by
 obtain ⟨h3, h4, h5, h6, h7, h8⟩ := h
 exact ⟨mulb (A := 200000) (B := 2000) (by omega) (by omega) (by omega) (by omega), CUW (A := 200000) (B := 2000) (by omega) (by omega) (by omega) (by omega)⟩
theorem CGA : AG Try.prog BBH APN := EL xLI hLI λ a h => KZ (A := ann 34 [(pZ, OX)]) (ren := []) (fz := []) CSP (by kernel_rfl) (AB ARI AD) (by
 show CPL a; rw [CUA]; try simp only [CC, eq_self, implies_true, forall_const]
 have hb := CKN h.1 h.2
 obtain ⟨⟨h3, h4, h5, h6, h7, h8⟩, h9, h10⟩ := h
 rw [EV (n := a.x.b0 - a.x.a0) (by omega) (by omega), EV (n := a.x.b1 - a.x.a1) (by omega) (by omega), EV (n := a.s - a.x.a0) (by omega) (by omega), EV (n := a.x.a1 * (a.x.b0 - a.x.a0)) (by omega) (by omega), EV (n := (a.x.b1 - a.x.a1) * (a.s - a.x.a0)) (by omega) (by omega), EV (n := a.x.a1 * (a.x.b0 - a.x.a0) + (a.x.b1 - a.x.a1) * (a.s - a.x.a0)) (by omega) (by omega)]
 exact ⟨⟨by omega, by omega, by omega, by omega⟩, rfl, rfl⟩)
theorem ANX {x : Ln} {t : Int} (h : DR x) : 0 < (ER x t).d /\ (ER x t).d <= 2000 := by
 have := iE (n := x.a1 * (x.b0 - x.a0) + (x.b1 - x.a1) * (t - x.a0)) (d := x.b0 - x.a0) (by have := h.2.1; omega)
 refine ⟨this.1, ?_⟩
 have h1 := h.1
 have h3 := h.2.2.1
 have := this.2
 show (FD _ _).d <= _
 omega
def CT (r : Rt) : Rt := if r.n < 0 then ⟨0, 1⟩ else if 200000 * r.d < r.n then ⟨200000, 1⟩ else r
def BBR (r : Rt) : Prop := AN Try.prog (ann 17 []) xU (AF xU) (xR1 r) (AC []) (.d (xQ (CT r))) [] [] []
theorem BQS (r : Rt) : (BBR r) = (bif decide (r.n < 0) then (CT r).n = 0 /\ (CT r).d = 1 else bif decide (r.n > IntKind.i64.wrap (200000 * r.d)) then (CT r).n = 200000 /\ (CT r).d = 1 else (CT
 r).n = r.n /\ (CT r).d = r.d) := by kernel_rfl
def O6 := pD dR1 (λ r => .d (xQ (CT r))) (λ r => [0 < r.d /\ r.d <= 4000000])
theorem BSJ : AG Try.prog Tx O6 := EL xR1 hR1 λ r h => KZ (A := ann 17 []) (ren := []) (fz := []) BRE (by kernel_rfl) AD (by
 show BBR r; rw [BQS]; try simp only [CC, eq_self, implies_true, forall_const]
 obtain ⟨h1, h2⟩ : 0 < r.d /\ r.d <= 4000000 := h
 rw [EV (by omega) (by omega)]
 unfold CT
 refine ⟨λ h3 => by simp [h3], λ h3 => ⟨λ h4 => ?_, λ h4 => ?_⟩⟩
 ·rw [if_neg h3, if_pos (by omega)]; exact ⟨rfl, rfl⟩
 ·rw [if_neg h3, if_neg (by omega)]; exact ⟨rfl, rfl⟩)
def BT (x : Ln) (s : Int) : Rt := CT (ER x s)
def BTR (a : LnI) : Prop := AN Try.prog (ann 9 [(BBH, APN), (Tx, O6)]) BDT (AF BDT) (xLI a) (AC []) (.d (xQ (BT a.x a.s))) [] [] []
theorem CHC (a : LnI) : (BTR a) = (((0 <= a.x.a0 /\ a.x.a0 < a.x.b0 /\ a.x.b0 <= 2000 /\ 0 <= a.x.a1 /\ a.x.a1 <= a.x.b1 /\ a.x.b1 <= 200000) /\ (0 <= a.s /\ a.s <= 2000) /\ 0 < (ER a.x a.s).d /\ (ER a.x a.s).d <= 4000000) /\
 (BT a.x a.s).n = (CT (ER a.x a.s)).n /\ (BT a.x a.s).d = (CT (ER a.x a.s)).d) := by kernel_rfl
def BKN := pD dLI (λ a => .d (xQ (BT a.x a.s))) (λ a => [DR a.x, 0 <= a.s /\ a.s <= 2000])
theorem CDP : AG Try.prog AHV BKN := EL xLI hLI λ a h => KZ (A := ann 9 [(BBH, APN), (Tx, O6)]) (ren := []) (fz := []) CBJ (by kernel_rfl) (AB CGA (AB BSJ AD)) (by
 show BTR a; rw [CHC]; try simp only [CC, eq_self, implies_true, forall_const]
 have := ANX (t := a.s) h.1
 exact ⟨⟨h.1, h.2, this.1, by omega⟩, rfl, rfl⟩)
def AL (p : Pt) : Ln := if p.st = 2000 then ⟨p.st - 1, p.fl, p.st, p.fl⟩ else ⟨p.st, p.fl, p.st + 1, p.fl⟩
def BTU (p : Pt) : Prop := AN Try.prog (ann 22 []) BEE (AF BEE) (xP1 p) (AC []) (.d (eLn (AL p))) [] [] []
theorem CAY (p : Pt) : (BTU p) = (bif p.st == 2000 then (AL p).a0 = IntKind.i64.wrap (p.st - 1) /\ (AL p).a1 = p.fl /\ (AL p).b0 = p.st /\ (AL p).b1 = p.fl else (AL p).a0 = p.st /\ (AL p).a1 = p.fl /\
 (AL p).b0 = IntKind.i64.wrap (p.st + 1) /\ (AL p).b1 = p.fl) := by kernel_rfl
def Ve := pD dP1 (λ p => .d (eLn (AL p))) (λ p => [0 <= p.st /\ p.st <= 2000])
theorem TU : AG Try.prog Fc Ve := EL xP1 hP1 λ p h => KZ (A := ann 22 []) (ren := []) (fz := []) CFF (by kernel_rfl) AD (by
 show BTU p; rw [CAY]
 obtain ⟨h1, h2⟩ : 0 <= p.st /\ p.st <= 2000 := h
 rw [EV (by omega) (by omega), EV (by omega) (by omega), BVS]
 unfold AL
 by_cases h : p.st = 2000 <;> simp [h])
def BJ (x : Ln) (g : Gau) : Bool := decide (g.lo * (ER x g.st).d <= (ER x g.st).n) && decide ((ER x g.st).n <= g.hi * (ER x g.st).d)
def DJ (g : Gau) : Prop := 0 <= g.st /\ g.st <= 2000 /\ 0 <= g.lo /\ g.lo <= g.hi /\ g.hi <= 200000
def BND (a : LnG) : Prop := AN Try.prog (ann 30 [(BBH, APN)]) AVM (AF AVM) (xLG a) (AC []) (.bool (BJ a.x a.g)) [] [] []
theorem BYI (a : LnG) : (BND a) = (((0 <= a.x.a0 /\ a.x.a0 < a.x.b0 /\ a.x.b0 <= 2000 /\ 0 <= a.x.a1 /\ a.x.a1 <= a.x.b1 /\ a.x.b1 <= 200000) /\ 0 <= a.g.st /\ a.g.st <= 2000) /\ BJ a.x a.g = bif decide ((ER a.x
 a.g.st).n >= IntKind.i64.wrap (a.g.lo * (ER a.x a.g.st).d)) then decide ((ER a.x a.g.st).n <= IntKind.i64.wrap (a.g.hi * (ER a.x a.g.st).d)) else false) := by kernel_rfl
def BNK := pD dLG (λ a => .bool (BJ a.x a.g)) (λ a => [DR a.x, DJ a.g])
theorem BXT : AG Try.prog xB BNK := EL xLG hLG λ a h => KZ (A := ann 30 [(BBH, APN)]) (ren := []) (fz := []) BYL (by kernel_rfl) (AB CGA AD) (by
 show BND a; rw [BYI]; try simp only [CC, eq_self, implies_true, forall_const]
 obtain ⟨h1, h2, h3, h4, h5, h6⟩ : DR a.x /\ DJ a.g := h
 have hd := ANX (t := a.g.st) h1
 have b1 := mulb (A := 200000) (B := 2000) h4 (by omega) (show 0 <= (ER a.x a.g.st).d by omega) hd.2
 have b2 := mulb (A := 200000) (B := 2000) (show 0 <= a.g.hi by omega) (by omega) (show 0 <= (ER a.x a.g.st).d by omega) hd.2
 rw [EV (by omega) (by omega), EV (by omega) (by omega)]
 refine ⟨⟨h1, h2, h3⟩, ?_⟩
 unfold BJ
 cases decide (a.g.lo * (ER a.x a.g.st).d <= (ER a.x a.g.st).n) <;> simp_all)
end Go.Bal
