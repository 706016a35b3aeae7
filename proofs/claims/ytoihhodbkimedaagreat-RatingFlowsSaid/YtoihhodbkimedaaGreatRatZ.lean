/- Package rating: Passes, Through, At. -/
import Derived.Test.YtoihhodbkimedaaGreatRatU
import Derived.Test.YtoihhodbkimedaaGreatRLn2
set_option linter.unusedVariables false
set_option linter.unusedSimpArgs false

namespace Go.Bal
open Go Go.Sym Go.Proofs
def C_cdG : Ctr := { α := List Gau, xs := λ l => [.d (AS l)], val := λ l => .d (AS l), pre := λ l => [l.length < 1073741824 /\ True] }
def CQV (l : List Gau) : Prop := AN Try.prog (ann 7 []) BJX (AF BJX) (C_cdG.xs l) (AC []) (C_cdG.val l) [] [] []
theorem CRO (l : List Gau) : (CQV l) = (((True /\ (0 < 0 -> 0 = 3)) /\ (True /\ (0 < l.length -> 3 = 3)) /\ (false = true -> 0 < l.length) /\ 0 + l.length <= 9223372036854775807 /\ (0 + l.length) * 24 <= 140737488355328) /\
 l.length = 0 + l.length /\ ∀ (i : Nat), i < l.length -> (gD l i).st = (gD l (i - 0)).st /\ (gD l i).lo = (gD l (i - 0)).lo /\ (gD l i).hi = (gD l (i - 0)).hi) := by kernel_rfl
def C_cdI : Ctr := { α := List Int, xs := λ l => [.d (BC l)], val := λ l => .d (BC l), pre := λ l => [l.length < 1073741824 /\ True] }
def CQH (l : List Int) : Prop := AN Try.prog (ann 7 []) BDO (AF BDO) (C_cdI.xs l) (AC []) (C_cdI.val l) [] [] []
theorem CUI (l : List Int) : (CQH l) = (((True /\ (0 < 0 -> 0 = 1)) /\ (True /\ (0 < l.length -> 1 = 1)) /\ (false = true -> 0 < l.length) /\ 0 + l.length <= 9223372036854775807 /\ (0 + l.length) * 8 <= 140737488355328) /\
 l.length = 0 + l.length /\ ∀ (i : Nat), i < l.length -> gD l i = gD l (i - 0)) := by kernel_rfl
def dGs2 : List AVal -> Heap -> Option (List Gau × List (Nat × Nat) × List Nat)
 | [y, _], H => match Bc y H with
  | some (l, f) => some (l, [], f)
  | none => none
 | _, _ => none
def dIs2 : List AVal -> Heap -> Option (List Int × List (Nat × Nat) × List Nat)
 | [y, _], H => match XT y H with
  | some (l, f) => some (l, [], f)
  | none => none
 | _, _ => none
def smS (v : AVal) (n : Nat) : Shape := { α := Nat, dflt := 0, T := λ i => ⟨[(0, v), (1, v), (5, .int i)], []⟩, inv := λ i => i <= n, meas := λ i => n - i }
def A_sm (v : AVal) (n : Nat) : Ann := { ann 26 [] with loops := λ id => if id = 4 then some [smS v n] else none }
def C_smG : Ctr := { α := List Gau, xs := λ l => [.d (AS l), .d (AS l)], val := λ _ => .bool true, pre := λ l => [l.length < 1073741824 /\ True] }
def COI (l : List Gau) : Prop := AN Try.prog (A_sm (.d (AS l)) l.length) BKB (AF BKB) (C_smG.xs l) (AC []) (.bool true) [] [] []
theorem CTF (l : List Gau) : (COI l) = (bif (↑l.length : Int) != (↑l.length : Int) then true = false else (∃ (a : Nat), (l.length = l.length /\ (∀ (i : Nat), i < l.length -> (gD l i).st = (gD l i).st /\ (gD l i).lo =
 (gD l i).lo /\ (gD l i).hi = (gD l i).hi) /\ l.length = l.length /\ (∀ (i : Nat), i < l.length -> (gD l i).st = (gD l i).st /\ (gD l i).lo = (gD l i).lo /\ (gD l i).hi = (gD l i).hi) /\ (↑a : Int) = 0) /\ a.le l.length) /\ ∀ (a :
 Nat), a.le l.length -> bif decide ((↑a : Int) < (↑l.length : Int)) then ((0 <= (↑a : Int) /\ (↑a : Int) < (↑l.length : Int)) /\ 0 <= (↑a : Int) /\ (↑a : Int) < (↑l.length : Int)) /\ bif !((gD l a).st == (gD l a).st && ((gD l
 a).lo == (gD l a).lo && ((gD l a).hi == (gD l a).hi && true) && true)) then true = false else ∃ (a_2 : Nat), (l.length = l.length /\ (∀ (i : Nat), i < l.length -> (gD l i).st = (gD l i).st /\ (gD l i).lo = (gD l i).lo /\ (gD
 l i).hi = (gD l i).hi) /\ l.length = l.length /\ (∀ (i : Nat), i < l.length -> (gD l i).st = (gD l i).st /\ (gD l i).lo = (gD l i).lo /\ (gD l i).hi = (gD l i).hi) /\ (↑a_2 : Int) = IntKind.i64.wrap ((↑a : Int) + 1)) /\ a_2.le
 l.length /\ l.length - a_2 < l.length - a else true = true) := by kernel_rfl
def C_smI : Ctr := { α := List Int, xs := λ l => [.d (BC l), .d (BC l)], val := λ _ => .bool true, pre := λ l => [l.length < 1073741824 /\ True] }
def COS (l : List Int) : Prop := AN Try.prog (A_sm (.d (BC l)) l.length) BGC (AF BGC) (C_smI.xs l) (AC []) (.bool true) [] [] []
theorem CRX (l : List Int) : (COS l) = (bif (↑l.length : Int) != (↑l.length : Int) then true = false else (∃ (a : Nat), (l.length = l.length /\ (∀ (i : Nat), i < l.length -> gD l i = gD l i) /\ l.length = l.length /\ (∀
 (i : Nat), i < l.length -> gD l i = gD l i) /\ (↑a : Int) = 0) /\ a.le l.length) /\ ∀ (a : Nat), a.le l.length -> bif decide ((↑a : Int) < (↑l.length : Int)) then ((0 <= (↑a : Int) /\ (↑a : Int) < (↑l.length : Int)) /\ 0 <= (↑a :
 Int) /\ (↑a : Int) < (↑l.length : Int)) /\ bif gD l a != gD l a then true = false else ∃ (a_2 : Nat), (l.length = l.length /\ (∀ (i : Nat), i < l.length -> gD l i = gD l i) /\ l.length = l.length /\ (∀ (i : Nat), i < l.length
 -> gD l i = gD l i) /\ (↑a_2 : Int) = IntKind.i64.wrap ((↑a : Int) + 1)) /\ a_2.le l.length /\ l.length - a_2 < l.length - a else true = true) := by kernel_rfl
theorem CPP {x : Ln} {t : Int} (h : DR x) (ht : 0 <= t /\ t <= 2000) : -2305843009213693952 <= (ER x t).n /\ (ER x t).n <= 2305843009213693952 := by
 obtain ⟨h1, h2, h3, h4, h5, h6⟩ := h
 have hn := BQG (n := x.a1 * (x.b0 - x.a0) + (x.b1 - x.a1) * (t - x.a0)) (d := x.b0 - x.a0)
 have b1 : 0 <= x.a1 * (x.b0 - x.a0) := Int.mul_nonneg h4 (by omega)
 have b2 : x.a1 * (x.b0 - x.a0) <= 200000 * 2000 := Int.le_trans (Int.mul_le_mul_of_nonneg_left (show x.b0 - x.a0 <= 2000 by omega) h4) (Int.mul_le_mul_of_nonneg_right (by omega) (by omega))
 have b3 : (x.b1 - x.a1) * (t - x.a0) <= 200000 * 2000 := Int.le_trans (Int.mul_le_mul_of_nonneg_left (show t - x.a0 <= 2000 by omega) (by omega)) (Int.mul_le_mul_of_nonneg_right (by omega) (by omega))
 have b4 : -(200000 * 2000) <= (x.b1 - x.a1) * (t - x.a0) := by
  have e1 := Int.mul_le_mul_of_nonneg_left (show -2000 <= t - x.a0 by omega) (show 0 <= x.b1 - x.a1 by omega)
  have e2 := Int.mul_le_mul_of_nonneg_right (show x.b1 - x.a1 <= 200000 by omega) (show (0 : Int) <= 2000 by omega)
  rw [Int.mul_neg] at e1; omega
 unfold ER
 omega
theorem CUB : AG Try.prog BHR (C_cdG.spec JM) := HR C_cdG (λ _ => ann 7 []) [] [] CCD (λ _ => by kernel_rfl) (λ _ => AD) (λ (l : List Gau) h => by
 show CQV l; rw [CRO]; simp only [CC, eq_self, implies_true, forall_const, Nat.sub_zero]
 have h : l.length < 1073741824 := (show l.length < 1073741824 /\ True from h).1
 refine ⟨?_, ?_, ?_, ?_⟩ <;> first | omega | (intro h; cases h)) (λ _ => IN rfl rfl) _
theorem CSE : AG Try.prog BEN (C_cdI.spec dIs1) := HR C_cdI (λ _ => ann 7 []) [] [] CCR (λ _ => by kernel_rfl) (λ _ => AD) (λ (l : List Int) h => by
 show CQH l; rw [CUI]; simp only [CC, eq_self, implies_true, forall_const, Nat.sub_zero]
 have h : l.length < 1073741824 := (show l.length < 1073741824 /\ True from h).1
 refine ⟨?_, ?_, ?_, ?_⟩ <;> first | omega | (intro h; cases h)) (λ _ => IN rfl rfl) _
theorem CSD : AG Try.prog BLB (C_smG.spec dGs2) := HR C_smG (λ l => A_sm (.d (AS l)) l.length) [] [] CEM (λ _ => by kernel_rfl) (λ _ => AD) (λ (l : List Gau) h => by
 show COI l; rw [CTF]; simp only [CC, eq_self, implies_true, forall_const, beq_self_eq_true, Bool.and_self]
 have h : l.length < 1073741824 := (show l.length < 1073741824 /\ True from h).1
 exact ⟨λ h => by simp at h, λ _ => ⟨⟨0, rfl, Nat.zero_le _⟩, λ i hi hlt => ⟨⟨by omega, by omega⟩, λ h => (by cases h), i + 1, (BF (by omega)).symm, by omega, by omega⟩⟩⟩) (λ _ => IN rfl rfl) _
theorem CTQ : AG Try.prog BHJ (C_smI.spec dIs2) := HR C_smI (λ l => A_sm (.d (BC l)) l.length) [] [] CBH (λ _ => by kernel_rfl) (λ _ => AD) (λ (l : List Int) h => by
 show COS l; rw [CRX]; simp only [CC, eq_self, implies_true, forall_const]
 have h : l.length < 1073741824 := (show l.length < 1073741824 /\ True from h).1
 exact ⟨λ h => by simp at h, λ _ => ⟨⟨0, rfl, Nat.zero_le _⟩, λ i hi hlt => ⟨⟨by omega, by omega⟩, λ h => by simp at h, λ _ => ⟨i + 1, (BF (by omega)).symm, by omega, by omega⟩⟩⟩⟩) (λ _ => IN rfl rfl) _
end Go.Bal

namespace Go.Bal
open Go Go.Sym Go.Proofs
def C_Gaus : Ctr := { α := List Gau, xs := λ l => [.d (AS l)], val := λ l => .d (AS l), pre := λ l => [l.length < 1073741824 /\ True] }
def ga3n (l : List Gau) : Shape := { α := One, dflt := default, T := λ _ => ⟨[(0, .d (AS l)), (3, .d Hr), (4, .int 0)], []⟩, inv := λ _ => True, meas := λ _ => l.length + 1 }
def ga3o (l : List Gau) : Shape := { α := Nat, dflt := 0, T := λ i => ⟨[(0, .d (AS l)), (3, .own 301 3 0 i), (4, .int i)], [(301, .live (.row 3 i λ j => WG (gD l j)))]⟩, inv := λ i => 1 <= i /\ i <= l.length, meas := λ i => l.length - i, again := [(301, 6096)] }
def CBE (l : List Gau) : Ann := { ann 19 [] with mt := λ id => id == 5, loops := λ id => if id = 3 then some [ga3n l, ga3o l] else none }
def CCH (l : List Gau) : Prop := AN Try.prog (CBE l) BQX (AF BQX) (C_Gaus.xs l) (AC []) (C_Gaus.val l) [] [] [301]
theorem CNB (l : List Gau) : (CCH l) = ((∃ (a : One), (l.length = l.length /\ (∀ (i : Nat), i < l.length -> (gD l i).st = (gD l i).st /\ (gD l i).lo = (gD l i).lo /\ (gD l i).hi = (gD l i).hi) /\ (0 : Nat) = (0 : Nat)
 /\ (∀ (i : Nat), i < (0 : Nat) -> false = false) /\ Int.ofNat (0 : Nat) = Int.ofNat (0 : Nat)) /\ True) /\ (∀ (a : One), True -> bif decide ((0 : Int) < (↑l.length : Int)) then (((0 : Int) <= (0 : Int) /\ (0 : Int) < (↑l.length
 : Int)) /\ (True /\ ((0 : Nat) < (0 : Nat) -> (0 : Nat) = (3 : Nat))) /\ ((1 : Nat) <= (1 : Nat) /\ ((0 : Nat) < (1 : Nat) -> (3 : Nat) = (3 : Nat))) /\ (true = true -> (0 : Nat) < (1 : Nat)) /\ (1 : Nat) <= (9223372036854775807 :
 Nat) /\ (24 : Nat) <= (140737488355328 : Nat)) /\ ∃ (a : Nat), (l.length = l.length /\ (∀ (i : Nat), i < l.length -> (gD l i).st = (gD l i).st /\ (gD l i).lo = (gD l i).lo /\ (gD l i).hi = (gD l i).hi) /\ (0 : Nat) = (0 : Nat) /\
 a = (1 : Nat) /\ (↑a : Int) = IntKind.i64.wrap ((0 : Int) + (1 : Int)) /\ a = (1 : Nat) /\ ∀ (i : Nat), i < a -> (gD l i).st = (gD l (Int.toNat (0 : Int))).st /\ (gD l i).lo = (gD l (Int.toNat (0 : Int))).lo /\ (gD l i).hi =
 (gD l (Int.toNat (0 : Int))).hi) /\ ((1 : Nat) <= a /\ a <= l.length) /\ l.length - a < l.length + (1 : Nat) else l.length = (0 : Nat) /\ l.length = (0 : Nat)) /\ ∀ (a : Nat), (1 : Nat) <= a /\ a <= l.length -> bif decide ((↑a :
 Int) < (↑l.length : Int)) then (((0 : Int) <= (↑a : Int) /\ (↑a : Int) < (↑l.length : Int)) /\ (a = a /\ ((0 : Nat) < a -> (3 : Nat) = (3 : Nat))) /\ ((1 : Nat) <= (1 : Nat) /\ ((0 : Nat) < (1 : Nat) -> (3 : Nat) = (3 : Nat))) /\
 (false = true -> (0 : Nat) < (1 : Nat)) /\ a + (1 : Nat) <= (9223372036854775807 : Nat) /\ (a + (1 : Nat)) * (24 : Nat) <= (140737488355328 : Nat)) /\ ∃ (a_2 : Nat), (l.length = l.length /\ (∀ (i : Nat), i < l.length -> (gD l
 i).st = (gD l i).st /\ (gD l i).lo = (gD l i).lo /\ (gD l i).hi = (gD l i).hi) /\ (0 : Nat) = (0 : Nat) /\ a_2 = a + (1 : Nat) /\ (↑a_2 : Int) = IntKind.i64.wrap ((↑a : Int) + (1 : Int)) /\ a_2 = a + (1 : Nat) /\ ∀ (i : Nat), i
 < a_2 -> ((gD l i).st = bif decide (i < a) then (gD l i).st else (gD l a).st) /\ ((gD l i).lo = bif decide (i < a) then (gD l i).lo else (gD l a).lo) /\ (gD l i).hi = bif decide (i < a) then (gD l i).hi else (gD l a).hi) /\
 ((1 : Nat) <= a_2 /\ a_2 <= l.length) /\ l.length - a_2 < l.length - a else l.length = a /\ (0 : Nat) + a <= a /\ ∀ (j : Nat), j < l.length -> (gD l j).st = (gD l ((0 : Nat) + j)).st /\ (gD l j).lo = (gD l ((0 : Nat) + j)).lo /\
 (gD l j).hi = (gD l ((0 : Nat) + j)).hi) := by kernel_rfl
def BTH := pD dL1 λ x => .d (eLn x)
def BTL (x : Ln) : Prop := AN Try.prog (ann 8 []) BEG (AF BEG) (xL1 x) (AC []) (.d (eLn x)) [] [] []
theorem CIK (x : Ln) : (BTL x) = (x.a0 = x.a0 /\ x.a1 = x.a1 /\ x.b0 = x.b0 /\ x.b1 = x.b1) := by kernel_rfl
theorem CRD (l : List Gau) (h : l.length < 1073741824) : CCH l := by
 rw [CNB]; simp only [CC, eq_self, implies_true, forall_const, Int.toNat_zero]
 refine ⟨⟨default, trivial⟩, ⟨λ hlt => ⟨⟨⟨by omega, by omega⟩, by omega, by omega, by omega, by omega, by omega⟩, 1, ⟨rfl, (BF (a := 0) (by omega)).symm, rfl, λ i hi => by rw [show i = 0 by omega]; exact ⟨rfl, rfl, rfl⟩⟩, ⟨by omega, by omega⟩, by omega⟩, λ hge => by omega⟩, λ k ⟨k1, k2⟩ => ⟨λ hlt => ⟨⟨⟨by omega, by omega⟩, by omega, λ h => (by cases h), by omega, by omega⟩, k + 1, ⟨rfl, (BF (by omega)).symm, rfl, λ i hi => ?_⟩, ⟨by omega, by omega⟩, by omega⟩, λ hge => ⟨by omega, Nat.le_refl _⟩⟩⟩
 by_cases e : i < k
 ·rw [decide_eq_true e]; exact ⟨rfl, rfl, rfl⟩
 ·rw [decide_eq_false e, show i = k by omega]; exact ⟨rfl, rfl, rfl⟩
theorem CKA : AG Try.prog BRR (C_Gaus.spec JM) := HR C_Gaus CBE [] [301] CNF (λ _ => by kernel_rfl) (λ _ => AD) (λ (l : List Gau) h => CRD l (show l.length < 1073741824 /\ True from h).1) (λ _ => IN rfl rfl) _
theorem CCJ : AG Try.prog BKW BTH := EL xL1 hL1 λ x _ => KZ (A := ann 8 []) (ren := []) (fz := []) CHH (by kernel_rfl) AD (by
 show BTL x; rw [CIK]; simp)
theorem CMA {x : Ln} {g : Gau} (hx : DR x) (hg : DJ g) : (bif UX (ER x g.st) (Rt.mk g.lo 1) then true else UX (Rt.mk g.hi 1) (ER x g.st)) = !BJ x g := by
 obtain ⟨g1, g2, g3, g4, g5⟩ := hg
 have hd := ANX (t := g.st) hx
 have hn := CPP hx ⟨g1, g2⟩
 have m1 := Int.mul_le_mul_of_nonneg_right (show g.lo <= 200000 by omega) (Int.le_of_lt hd.1)
 have m2 := Int.mul_le_mul_of_nonneg_right g5 (Int.le_of_lt hd.1)
 have m3 := Int.mul_nonneg g3 (Int.le_of_lt hd.1)
 have m4 := Int.mul_nonneg (show 0 <= g.hi by omega) (Int.le_of_lt hd.1)
 unfold UX BJ
 generalize ER x g.st = r at *
 show (bif decide (wr (r.n * 1) < wr (g.lo * r.d)) then true else decide (wr (g.hi * r.d) < wr (r.n * 1))) = _
 rw [Int.mul_one, show wr r.n = r.n from EV (by omega) (by omega), show wr (g.lo * r.d) = g.lo * r.d from EV (by omega) (by omega), show wr (g.hi * r.d) = g.hi * r.d from EV (by omega) (by omega)]
 by_cases c1 : r.n < g.lo * r.d
 ·rw [decide_eq_true c1, decide_eq_false (show ¬g.lo * r.d <= r.n by omega)]; rfl
 ·rw [decide_eq_false c1, decide_eq_true (show g.lo * r.d <= r.n by omega)]
  by_cases c2 : g.hi * r.d < r.n
  ·rw [decide_eq_true c2, decide_eq_false (show ¬r.n <= g.hi * r.d by omega)]; rfl
  ·rw [decide_eq_false c2, decide_eq_true (show r.n <= g.hi * r.d by omega)]; rfl
end Go.Bal
