/- Package rating: the reference: what a rating has at a stage; copies, and lists that are the same. -/
import Derived.Test.YtoihhodbkimedaaGreatRLn2
import Derived.Test.YtoihhodbkimedaaGreatRatZ
set_option linter.unusedVariables false
set_option linter.unusedSimpArgs false
namespace Go.Bal
open Go Go.Sym Go.Proofs
def BSY : Ann := ann 27 [(kY, C_rChkR.spec dRt1), (Dl, Hr), (L7, C_rPart.spec dIX), (nY, Dx), (AQP, BBG)]
def BSC (a : RtI) : Prop := AO Try.prog BSY BHC (AF BHC) (C_At.xs a) (AC []) (C_At.val a) [] [] []
theorem BVR (a : RtI) : (BSC a) = (((AD a.r.b.length λ (i : Nat) => gD a.r.b i).length = a.r.b.length /\ (∀ (i : Nat), i < (AD a.r.b.length λ (i : Nat) => gD a.r.b i).length -> gD (AD a.r.b.length λ (i : Nat)
 => gD a.r.b i) i = gD a.r.b i) /\ (AD a.r.l.length λ (i : Nat) => gD a.r.l i).length = a.r.l.length /\ (∀ (i : Nat), i < (AD a.r.l.length λ (i : Nat) => gD a.r.l i).length -> (gD (AD a.r.l.length λ (i : Nat) => gD
 a.r.l i) i).a0 = (gD a.r.l i).a0 /\ (gD (AD a.r.l.length λ (i : Nat) => gD a.r.l i) i).a1 = (gD a.r.l i).a1 /\ (gD (AD a.r.l.length λ (i : Nat) => gD a.r.l i) i).b0 = (gD a.r.l i).b0 /\ (gD (AD a.r.l.length λ (i :
 Nat) => gD a.r.l i) i).b1 = (gD a.r.l i).b1) /\ (AD a.r.b.length λ (i : Nat) => gD a.r.b i).length < 1073741824 /\ (AD a.r.l.length λ (i : Nat) => gD a.r.l i).length < 1073741824) /\ bif AZ (Rtg.mk (AD
 a.r.b.length λ (i : Nat) => gD a.r.b i) (AD a.r.l.length λ (i : Nat) => gD a.r.l i)) != 0 then (D8 a).n = 0 /\ (D8 a).d = 0 /\ atE a = AZ (Rtg.mk (AD a.r.b.length λ (i : Nat) => gD a.r.b i) (AD a.r.l.length
 λ (i : Nat) => gD a.r.l i)) else bif !CJ a.t 0 2000 then (D8 a).n = 0 /\ (D8 a).d = 0 /\ atE a = 4 else ((AD a.r.b.length λ (i : Nat) => gD a.r.b i).length = a.r.b.length /\ (∀ (i : Nat), i < (AD a.r.b.length fun
 (i : Nat) => gD a.r.b i).length -> gD (AD a.r.b.length λ (i : Nat) => gD a.r.b i) i = gD a.r.b i) /\ a.t = a.t /\ ((AD a.r.b.length λ (i : Nat) => gD a.r.b i).length < 1073741824 /\ True) /\ (0 <= (↑(FA (AD
 a.r.b.length λ (i : Nat) => gD a.r.b i) a.t) : Int) /\ (↑(FA (AD a.r.b.length λ (i : Nat) => gD a.r.b i) a.t) : Int) < (↑a.r.l.length : Int)) /\ (0 <= (gD a.r.l (FA (AD a.r.b.length λ (i : Nat) => gD a.r.b i)
 a.t)).a0 /\ (gD a.r.l (FA (AD a.r.b.length λ (i : Nat) => gD a.r.b i) a.t)).a0 < (gD a.r.l (FA (AD a.r.b.length λ (i : Nat) => gD a.r.b i) a.t)).b0 /\ (gD a.r.l (FA (AD a.r.b.length λ (i : Nat) => gD a.r.b i)
 a.t)).b0 <= 2000 /\ 0 <= (gD a.r.l (FA (AD a.r.b.length λ (i : Nat) => gD a.r.b i) a.t)).a1 /\ (gD a.r.l (FA (AD a.r.b.length λ (i : Nat) => gD a.r.b i) a.t)).a1 <= (gD a.r.l (FA (AD a.r.b.length λ (i : Nat) => gD
 a.r.b i) a.t)).b1 /\ (gD a.r.l (FA (AD a.r.b.length λ (i : Nat) => gD a.r.b i) a.t)).b1 <= 200000) /\ (0 <= a.t /\ a.t <= 2000) /\ (0 < (DP (gD a.r.l (FA (AD a.r.b.length λ (i : Nat) => gD a.r.b i) a.t)) a.t).d /\
 (DP (gD a.r.l (FA (AD a.r.b.length λ (i : Nat) => gD a.r.b i) a.t)) a.t).d <= 4000000) /\ -2305843009213693952 <= (DP (gD a.r.l (FA (AD a.r.b.length λ (i : Nat) => gD a.r.b i) a.t)) a.t).n /\ (DP (gD a.r.l (FA
 (AD a.r.b.length λ (i : Nat) => gD a.r.b i) a.t)) a.t).n <= 2305843009213693952) /\ (D8 a).n = (GN (DP (gD a.r.l (FA (AD a.r.b.length λ (i : Nat) => gD a.r.b i) a.t)) a.t)).n /\ (D8 a).d = (GN (DP (gD
 a.r.l (FA (AD a.r.b.length λ (i : Nat) => gD a.r.b i) a.t)) a.t)).d /\ atE a = 0) := by kernel_rfl
def C_cdG : Ctr := { α := List Gau, xs := λ l => [.d (BE l)], val := λ l => .d (BE l), pre := λ l => [l.length < 1073741824 /\ True] }
def BSI (l : List Gau) : Prop := AO Try.prog (ann 7 []) ARM (AF ARM) (C_cdG.xs l) (AC []) (C_cdG.val l) [] [] []
theorem BVP (l : List Gau) : (BSI l) = (((True /\ (0 < 0 -> 0 = 3)) /\ (True /\ (0 < l.length -> 3 = 3)) /\ (false = true -> 0 < l.length) /\ 0 + l.length <= 9223372036854775807 /\ (0 + l.length) * 24 <= 140737488355328) /\
 l.length = 0 + l.length /\ ∀ (i : Nat), i < l.length -> (gD l i).st = (gD l (i - 0)).st /\ (gD l i).lo = (gD l (i - 0)).lo /\ (gD l i).hi = (gD l (i - 0)).hi) := by kernel_rfl
def C_cdI : Ctr := { α := List Int, xs := λ l => [.d (BD l)], val := λ l => .d (BD l), pre := λ l => [l.length < 1073741824 /\ True] }
def BSZ (l : List Int) : Prop := AO Try.prog (ann 7 []) ANH (AF ANH) (C_cdI.xs l) (AC []) (C_cdI.val l) [] [] []
theorem BTO (l : List Int) : (BSZ l) = (((True /\ (0 < 0 -> 0 = 1)) /\ (True /\ (0 < l.length -> 1 = 1)) /\ (false = true -> 0 < l.length) /\ 0 + l.length <= 9223372036854775807 /\ (0 + l.length) * 8 <= 140737488355328) /\
 l.length = 0 + l.length /\ ∀ (i : Nat), i < l.length -> gD l i = gD l (i - 0)) := by kernel_rfl
def C_cdL : Ctr := { α := List Ln, xs := λ l => [.d (XW l)], val := λ l => .d (XW l), pre := λ l => [l.length < 1073741824 /\ True] }
def BRA (l : List Ln) : Prop := AO Try.prog (ann 7 []) ALZ (AF ALZ) (C_cdL.xs l) (AC []) (C_cdL.val l) [] [] []
theorem BTS (l : List Ln) : (BRA l) = (((True /\ (0 < 0 -> 0 = 4)) /\ (True /\ (0 < l.length -> 4 = 4)) /\ (false = true -> 0 < l.length) /\ 0 + l.length <= 9223372036854775807 /\ (0 + l.length) * 32 <= 140737488355328) /\
 l.length = 0 + l.length /\ ∀ (i : Nat), i < l.length -> (gD l i).a0 = (gD l (i - 0)).a0 /\ (gD l i).a1 = (gD l (i - 0)).a1 /\ (gD l i).b0 = (gD l (i - 0)).b0 /\ (gD l i).b1 = (gD l (i - 0)).b1) := by kernel_rfl
def dGs2 : List AVal -> Heap -> Option (List Gau × List (Nat × Nat) × List Nat)
 | [y, _], H => match kX y H with
  | some (l, f) => some (l, [], f)
  | none => none
 | _, _ => none
def dIs2 : List AVal -> Heap -> Option (List Int × List (Nat × Nat) × List Nat)
 | [y, _], H => match Re y H with
  | some (l, f) => some (l, [], f)
  | none => none
 | _, _ => none
def dLs2 : List AVal -> Heap -> Option (List Ln × List (Nat × Nat) × List Nat)
 | [y, _], H => match dLns y H with
  | some (l, f) => some (l, [], f)
  | none => none
 | _, _ => none
def smS (v : AVal) (n : Nat) : Shape := { α := Nat, dflt := 0, T := λ i => ⟨[(0, v), (1, v), (5, .int i)], []⟩, inv := λ i => i <= n, meas := λ i => n - i }
def A_sm (v : AVal) (n : Nat) : Ann := { ann 26 [] with loops := λ id => if id = 4 then some [smS v n] else none }
def C_smG : Ctr := { α := List Gau, xs := λ l => [.d (BE l), .d (BE l)], val := λ _ => .bool true, pre := λ l => [l.length < 1073741824 /\ True] }
def BRP (l : List Gau) : Prop := AO Try.prog (A_sm (.d (BE l)) l.length) APW (AF APW) (C_smG.xs l) (AC []) (.bool true) [] [] []
theorem BVE (l : List Gau) : (BRP l) = (bif (↑l.length : Int) != (↑l.length : Int) then true = false else (∃ (a : Nat), (l.length = l.length /\ (∀ (i : Nat), i < l.length -> (gD l i).st = (gD l i).st /\ (gD l i).lo =
 (gD l i).lo /\ (gD l i).hi = (gD l i).hi) /\ l.length = l.length /\ (∀ (i : Nat), i < l.length -> (gD l i).st = (gD l i).st /\ (gD l i).lo = (gD l i).lo /\ (gD l i).hi = (gD l i).hi) /\ (↑a : Int) = 0) /\ a.le l.length) /\ ∀ (a :
 Nat), a.le l.length -> bif decide ((↑a : Int) < (↑l.length : Int)) then ((0 <= (↑a : Int) /\ (↑a : Int) < (↑l.length : Int)) /\ 0 <= (↑a : Int) /\ (↑a : Int) < (↑l.length : Int)) /\ bif !((gD l a).st == (gD l a).st && ((gD l
 a).lo == (gD l a).lo && ((gD l a).hi == (gD l a).hi && true) && true)) then true = false else ∃ (a_2 : Nat), (l.length = l.length /\ (∀ (i : Nat), i < l.length -> (gD l i).st = (gD l i).st /\ (gD l i).lo = (gD l i).lo /\ (gD
 l i).hi = (gD l i).hi) /\ l.length = l.length /\ (∀ (i : Nat), i < l.length -> (gD l i).st = (gD l i).st /\ (gD l i).lo = (gD l i).lo /\ (gD l i).hi = (gD l i).hi) /\ (↑a_2 : Int) = IntKind.i64.wrap ((↑a : Int) + 1)) /\ a_2.le
 l.length /\ l.length - a_2 < l.length - a else true = true) := by kernel_rfl
def C_smI : Ctr := { α := List Int, xs := λ l => [.d (BD l), .d (BD l)], val := λ _ => .bool true, pre := λ l => [l.length < 1073741824 /\ True] }
def BSG (l : List Int) : Prop := AO Try.prog (A_sm (.d (BD l)) l.length) ARQ (AF ARQ) (C_smI.xs l) (AC []) (.bool true) [] [] []
theorem BUS (l : List Int) : (BSG l) = (bif (↑l.length : Int) != (↑l.length : Int) then true = false else (∃ (a : Nat), (l.length = l.length /\ (∀ (i : Nat), i < l.length -> gD l i = gD l i) /\ l.length = l.length /\ (∀
 (i : Nat), i < l.length -> gD l i = gD l i) /\ (↑a : Int) = 0) /\ a.le l.length) /\ ∀ (a : Nat), a.le l.length -> bif decide ((↑a : Int) < (↑l.length : Int)) then ((0 <= (↑a : Int) /\ (↑a : Int) < (↑l.length : Int)) /\ 0 <= (↑a :
 Int) /\ (↑a : Int) < (↑l.length : Int)) /\ bif gD l a != gD l a then true = false else ∃ (a_2 : Nat), (l.length = l.length /\ (∀ (i : Nat), i < l.length -> gD l i = gD l i) /\ l.length = l.length /\ (∀ (i : Nat), i < l.length
 -> gD l i = gD l i) /\ (↑a_2 : Int) = IntKind.i64.wrap ((↑a : Int) + 1)) /\ a_2.le l.length /\ l.length - a_2 < l.length - a else true = true) := by kernel_rfl
def C_smL : Ctr := { α := List Ln, xs := λ l => [.d (XW l), .d (XW l)], val := λ _ => .bool true, pre := λ l => [l.length < 1073741824 /\ True] }
def BSQ (l : List Ln) : Prop := AO Try.prog (A_sm (.d (XW l)) l.length) API (AF API) (C_smL.xs l) (AC []) (.bool true) [] [] []
theorem BTF (l : List Ln) : (BSQ l) = (bif (↑l.length : Int) != (↑l.length : Int) then true = false else (∃ (a : Nat), (l.length = l.length /\ (∀ (i : Nat), i < l.length -> (gD l i).a0 = (gD l i).a0 /\ (gD l i).a1 =
 (gD l i).a1 /\ (gD l i).b0 = (gD l i).b0 /\ (gD l i).b1 = (gD l i).b1) /\ l.length = l.length /\ (∀ (i : Nat), i < l.length -> (gD l i).a0 = (gD l i).a0 /\ (gD l i).a1 = (gD l i).a1 /\ (gD l i).b0 = (gD l i).b0 /\ (gD l i).b1 =
 (gD l i).b1) /\ (↑a : Int) = 0) /\ a.le l.length) /\ ∀ (a : Nat), a.le l.length -> bif decide ((↑a : Int) < (↑l.length : Int)) then ((0 <= (↑a : Int) /\ (↑a : Int) < (↑l.length : Int)) /\ 0 <= (↑a : Int) /\ (↑a : Int) <
 (↑l.length : Int)) /\ bif !((gD l a).a0 == (gD l a).a0 && ((gD l a).a1 == (gD l a).a1 && true) && ((gD l a).b0 == (gD l a).b0 && ((gD l a).b1 == (gD l a).b1 && true) && true)) then true = false else ∃ (a_2 : Nat),
 (l.length = l.length /\ (∀ (i : Nat), i < l.length -> (gD l i).a0 = (gD l i).a0 /\ (gD l i).a1 = (gD l i).a1 /\ (gD l i).b0 = (gD l i).b0 /\ (gD l i).b1 = (gD l i).b1) /\ l.length = l.length /\ (∀ (i : Nat), i < l.length -> (gD
 l i).a0 = (gD l i).a0 /\ (gD l i).a1 = (gD l i).a1 /\ (gD l i).b0 = (gD l i).b0 /\ (gD l i).b1 = (gD l i).b1) /\ (↑a_2 : Int) = IntKind.i64.wrap ((↑a : Int) + 1)) /\ a_2.le l.length /\ l.length - a_2 < l.length - a else true =
 true) := by kernel_rfl
theorem BQZ {x : Ln} {t : Int} (h : HY x) (ht : 0 <= t /\ t <= 2000) : -2305843009213693952 <= (DP x t).n /\ (DP x t).n <= 2305843009213693952 := by
 obtain ⟨h1, h2, h3, h4, h5, h6⟩ := h
 have hn := BVA (n := x.a1 * (x.b0 - x.a0) + (x.b1 - x.a1) * (t - x.a0)) (d := x.b0 - x.a0)
 have b1 : 0 <= x.a1 * (x.b0 - x.a0) := Int.mul_nonneg h4 (by omega)
 have b2 : x.a1 * (x.b0 - x.a0) <= 200000 * 2000 := Int.le_trans (Int.mul_le_mul_of_nonneg_left (show x.b0 - x.a0 <= 2000 by omega) h4) (Int.mul_le_mul_of_nonneg_right (by omega) (by omega))
 have b3 : (x.b1 - x.a1) * (t - x.a0) <= 200000 * 2000 := Int.le_trans (Int.mul_le_mul_of_nonneg_left (show t - x.a0 <= 2000 by omega) (by omega)) (Int.mul_le_mul_of_nonneg_right (by omega) (by omega))
 have b4 : -(200000 * 2000) <= (x.b1 - x.a1) * (t - x.a0) := by
  have e1 := Int.mul_le_mul_of_nonneg_left (show -2000 <= t - x.a0 by omega) (show 0 <= x.b1 - x.a1 by omega)
  have e2 := Int.mul_le_mul_of_nonneg_right (show x.b1 - x.a1 <= 200000 by omega) (show (0 : Int) <= 2000 by omega)
  rw [Int.mul_neg] at e1; omega
 unfold DP
 omega
theorem BWC : AG Try.prog BHL (C_At.spec dRtI) := GD C_At (λ _ => BSY) [] [] BVF (λ _ => by kernel_rfl) (λ _ => AB AIS (AB fN (AB AVB (AB ANV (AB BFI AE))))) (λ (a : RtI) h => by
 show BSC a; rw [BVR]; simp only [CC, eq_self, implies_true, forall_const]
 obtain ⟨h1, h2⟩ : a.r.b.length < 1073741824 /\ a.r.l.length < 1073741824 := h
 have er : Rtg.mk a.r.b a.r.l = a.r := rfl
 rw [er]
 refine ⟨⟨h1, h2⟩, λ hc => ?_, λ hc => ⟨λ hi => ?_, λ hi => ?_⟩⟩
 ·have e0 : (AZ a.r == 0) = false := by simpa using hc
  have e : atE a = AZ a.r := by unfold atE; rw [e0]; rfl
  have e2 : D8 a = ⟨0, 0⟩ := by unfold D8; rw [e, e0]; rfl
  rw [e2]; exact ⟨rfl, rfl, e⟩
 ·have e0 : (AZ a.r == 0) = true := by simpa using hc
  have e : atE a = 4 := by unfold atE; rw [e0, hi]; rfl
  have e2 : D8 a = ⟨0, 0⟩ := by unfold D8; rw [e]; rfl
  rw [e2]; exact ⟨rfl, rfl, e⟩
 ·have e1 : AZ a.r = 0 := by simpa using hc
  have e0 : (AZ a.r == 0) = true := by simpa using hc
  have e : atE a = 0 := by unfold atE; rw [e0, hi]; rfl
  have e2 : D8 a = atF a := by unfold D8; rw [e]; rfl
  obtain ⟨f2, f3, f4, f5⟩ := (Lj e1).1
  have hle : FA a.r.b a.t <= a.r.b.length := List.countP_le_length
  have hx := f4 _ (EG (l := a.r.l) (k := FA a.r.b a.t) (by omega))
  have ht : 0 <= a.t /\ a.t <= 2000 := by
   unfold CJ at hi
   simp only [Bool.and_eq_true, decide_eq_true_eq] at hi
   omega
  have hd := ANC (t := a.t) hx
  have hn : -2305843009213693952 <= (DP (gD a.r.l (FA a.r.b a.t)) a.t).n /\ (DP (gD a.r.l (FA a.r.b a.t)) a.t).n <= 2305843009213693952 := by
   have := BQZ hx ht; omega
  rw [e2]
  exact ⟨⟨h1, ⟨by omega, by omega⟩, hx, ht, ⟨hd.1, by omega⟩, hn⟩, rfl, rfl, e⟩) (λ _ => GJ rfl rfl) _
theorem BUQ : AG Try.prog AOD (C_cdG.spec JW) := GD C_cdG (λ _ => ann 7 []) [] [] BKV (λ _ => by kernel_rfl) (λ _ => AE) (λ (l : List Gau) h => by
 show BSI l; rw [BVP]; simp only [CC, eq_self, implies_true, forall_const, Nat.sub_zero]
 have h : l.length < 1073741824 := (show l.length < 1073741824 /\ True from h).1
 refine ⟨?_, ?_, ?_, ?_⟩ <;> first | omega | (intro h; cases h)) (λ _ => GJ rfl rfl) _
theorem BIY : AG Try.prog J8 (C_cdI.spec dIs1) := GD C_cdI (λ _ => ann 7 []) [] [] BJZ (λ _ => by kernel_rfl) (λ _ => AE) (λ (l : List Int) h => by
 show BSZ l; rw [BTO]; simp only [CC, eq_self, implies_true, forall_const, Nat.sub_zero]
 have h : l.length < 1073741824 := (show l.length < 1073741824 /\ True from h).1
 refine ⟨?_, ?_, ?_, ?_⟩ <;> first | omega | (intro h; cases h)) (λ _ => GJ rfl rfl) _
theorem BUU : AG Try.prog AKZ (C_cdL.spec dLs1) := GD C_cdL (λ _ => ann 7 []) [] [] BHG (λ _ => by kernel_rfl) (λ _ => AE) (λ (l : List Ln) h => by
 show BRA l; rw [BTS]; simp only [CC, eq_self, implies_true, forall_const, Nat.sub_zero]
 have h : l.length < 1073741824 := (show l.length < 1073741824 /\ True from h).1
 refine ⟨?_, ?_, ?_, ?_⟩ <;> first | omega | (intro h; cases h)) (λ _ => GJ rfl rfl) _
theorem BTE : AG Try.prog APG (C_smG.spec dGs2) := GD C_smG (λ l => A_sm (.d (BE l)) l.length) [] [] BGJ (λ _ => by kernel_rfl) (λ _ => AE) (λ (l : List Gau) h => by
 show BRP l; rw [BVE]; simp only [CC, eq_self, implies_true, forall_const, beq_self_eq_true, Bool.and_self]
 have h : l.length < 1073741824 := (show l.length < 1073741824 /\ True from h).1
 exact ⟨λ h => by simp at h, λ _ => ⟨⟨0, rfl, Nat.zero_le _⟩, λ i hi hlt => ⟨⟨by omega, by omega⟩, λ h => (by cases h), i + 1, (BH (by omega)).symm, by omega, by omega⟩⟩⟩) (λ _ => GJ rfl rfl) _
theorem BTD : AG Try.prog ARS (C_smI.spec dIs2) := GD C_smI (λ l => A_sm (.d (BD l)) l.length) [] [] BKH (λ _ => by kernel_rfl) (λ _ => AE) (λ (l : List Int) h => by
 show BSG l; rw [BUS]; simp only [CC, eq_self, implies_true, forall_const]
 have h : l.length < 1073741824 := (show l.length < 1073741824 /\ True from h).1
 exact ⟨λ h => by simp at h, λ _ => ⟨⟨0, rfl, Nat.zero_le _⟩, λ i hi hlt => ⟨⟨by omega, by omega⟩, λ h => by simp at h, λ _ => ⟨i + 1, (BH (by omega)).symm, by omega, by omega⟩⟩⟩⟩) (λ _ => GJ rfl rfl) _
theorem BUV : AG Try.prog AMA (C_smL.spec dLs2) := GD C_smL (λ l => A_sm (.d (XW l)) l.length) [] [] BKM (λ _ => by kernel_rfl) (λ _ => AE) (λ (l : List Ln) h => by
 show BSQ l; rw [BTF]; simp only [CC, eq_self, implies_true, forall_const, beq_self_eq_true, Bool.and_self]
 have h : l.length < 1073741824 := (show l.length < 1073741824 /\ True from h).1
 exact ⟨λ h => by simp at h, λ _ => ⟨⟨0, rfl, Nat.zero_le _⟩, λ i hi hlt => ⟨⟨by omega, by omega⟩, λ h => (by cases h), i + 1, (BH (by omega)).symm, by omega, by omega⟩⟩⟩) (λ _ => GJ rfl rfl) _
end Go.Bal
