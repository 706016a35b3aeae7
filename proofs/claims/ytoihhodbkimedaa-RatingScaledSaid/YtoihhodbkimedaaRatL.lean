/- Package rating: stages of a flow. -/
import Derived.Test.YtoihhodbkimedaaRatK
set_option linter.unusedVariables false
set_option linter.unusedSimpArgs false
namespace Go.Bal
open Go Go.Sym Go.Proofs
structure BnF where
 b : Bnd
 f : Rt
def dBnd : DVal -> Bnd
 | .agg [a, b, c, d] => ⟨⟨DK a, DK b⟩, ⟨DK c, DK d⟩⟩
 | _ => default
def dBnF : List AVal -> Heap -> Option (BnF × List (Nat × Nat) × List Nat)
 | [.d x, .bptr id _], H => match H id with
  | .live (.box [.d n, .d m]) => some (⟨dBnd x, ⟨DK n, DK m⟩⟩, [(100, id)], [])
  | _ => none
 | _, _ => none
def bxR (f : Rt) : AObj := .box [.int f.n, .int f.d]
def QA (v : BnF -> Bool) : Ctr := { ro := [100], α := BnF, xs := λ a => [.d (eBnd a.b), .bptr 100 0], L := λ a => [(100, bxR a.f)], val := λ a => .bool (v a), keep := λ a => [(100, .live (bxR a.f))] }
def cB (a : BnF) : Bool := decide (Of a.b.hi a.f < 0)
def wP (a : BnF) : Bool := decide (Of a.b.lo a.f <= 0)
def BRS : Ann := { ann 9 [(Si, Q5)] with E := [100] }
def CJA (a : BnF) : Prop := AY Try.prog BRS T2 (AF T2) ((QA cB).xs a) (AC ((QA cB).L a)) ((QA cB).val a) ((QA cB).keep a) [] []
theorem CKP (a : BnF) : (CJA a) = (cB a = decide (HJ (wr (a.b.hi.n * a.f.d)) (wr (a.f.n * a.b.hi.d)) < 0) /\ a.f.n = a.f.n /\ a.f.d = a.f.d) := by kernel_rfl
def CHJ (a : BnF) : Prop := AY Try.prog BRS AAG (AF AAG) ((QA wP).xs a) (AC ((QA wP).L a)) ((QA wP).val a) ((QA wP).keep a) [] []
theorem CMS (a : BnF) : (CHJ a) = (wP a = decide (HJ (wr (a.b.lo.n * a.f.d)) (wr (a.f.n * a.b.lo.d)) <= 0) /\ a.f.n = a.f.n /\ a.f.d = a.f.d) := by kernel_rfl
theorem CLI : AG Try.prog EP ((QA cB).spec dBnF) := JX (QA cB) (λ _ => BRS) [] [] BON (λ _ => by kernel_rfl) (λ _ => AB Bc AE) (λ (a : BnF) _ => by
 show CJA a; rw [CKP]; simp only [CC, eq_self, implies_true, forall_const]; first | done | trivial | exact rfl | (refine ⟨rfl, ?_⟩; exact ⟨rfl, rfl⟩)) (λ _ => KJ rfl rfl) _
theorem CLJ : AG Try.prog ER ((QA wP).spec dBnF) := JX (QA wP) (λ _ => BRS) [] [] BMD (λ _ => by kernel_rfl) (λ _ => AB Bc AE) (λ (a : BnF) _ => by
 show CHJ a; rw [CMS]; simp only [CC, eq_self, implies_true, forall_const]; first | done | trivial | exact rfl | (refine ⟨rfl, ?_⟩; exact ⟨rfl, rfl⟩)) (λ _ => KJ rfl rfl) _
def yL (pr : Int -> Bool) : Nat -> Int -> Int -> Int
 | 0, lo, _ => lo
 | n + 1, lo, hi => bif decide (lo < hi) then (bif pr (lo + (hi - lo + 1).tdiv 2) then yL pr n (lo + (hi - lo + 1).tdiv 2) hi else yL pr n lo (lo + (hi - lo + 1).tdiv 2 - 1)) else lo
structure UpI where
 w : Bk
 k : Int
 f : Rt
def dUpI (n : FuncId) : List AVal -> Heap -> Option (UpI × List (Nat × Nat) × List Nat)
 | [.bptr id _, .d k, .fn (.func g) [] [.bptr c _]], H => if g = n then match BCA H id, H c with
  | some (w, q), .live (.box [.d x, .d y]) => some (⟨w, DK k, ⟨DK x, DK y⟩⟩, [(100, id), (101, q), (102, c)], [])
  | _, _ => none else none
 | _, _ => none
def upP (v : BnF -> Bool) (a : UpI) (t : Int) : Bool := v ⟨VT (lB ⟨a.w, t⟩) t, a.f⟩
def upM (v : BnF -> Bool) (a : UpI) : Int := yL (upP v a) 3000 ((AR a.w a.k).lo - 1) (AR a.w a.k).hi
structure LH where
 lo : Int
 hi : Int
 deriving Inhabited
def upH (a : UpI) : List (Nat × HCell) := bkK a.w ++ [(102, .live (bxR a.f))]
def up3 (v : BnF -> Bool) (n : FuncId) (a : UpI) : Shape := { α := LH, dflt := default, T := λ x => ⟨[(0, .bptr 100 0), (2, .fn (.func n) [] [.bptr 102 0]), (8, .int x.lo), (9, .int x.hi)], upH a⟩, inv := λ x => (AR a.w a.k).lo - 1 <= x.lo /\ x.lo <= x.hi /\ x.hi <= (AR a.w a.k).hi /\ ∀ m : Nat, (x.hi - x.lo).toNat <= m -> upM v a = yL (upP v a) m x.lo x.hi, meas := λ x => (x.hi - x.lo).toNat }
def tL (v : BnF -> Bool) (n : FuncId) : Ctr := { ro := [100, 101, 102], α := UpI, xs := λ a => [.bptr 100 0, .int a.k, .fn (.func n) [] [.bptr 102 0]], L := λ a => bkL a.w ++ [(102, bxR a.f)], val := λ a => .int (upM v a), keep := λ a => upH a, pre := λ a => [HI a.w.g a.w.b /\ 0 <= a.k /\ a.k <= a.w.b.length /\ a.w.has a.k = true] }
def A_up (v : BnF -> Bool) (n : FuncId) (f : Sym.Spec) (a : UpI) : Ann := { ann 44 [(AZO, C_span.spec dBkI), (TH, C_bnd.spec dBkt), (n, f)] with E := [100, 101, 102], loops := λ id => if id = 3 then some [up3 v n a] else none }
def CJE (a : UpI) : Prop := AY Try.prog (A_up cB EP ((QA cB).spec dBnF) a) Gn (AF Gn) ((tL cB EP).xs a) (AC ((tL cB EP).L a)) ((tL cB EP).val a) ((tL cB EP).keep a) [] []
abbrev wT (a : UpI) : List Gau := AD a.w.g.length λ (i : Nat) => gD a.w.g i
abbrev vT (a : UpI) : Nat := (wT a).length
abbrev BID (a : UpI) : Prop := vT a = a.w.g.length
abbrev AHO (a : UpI) (i : Nat) : Gau := gD (wT a) i
abbrev BHH (a : UpI) (i : Nat) : Int := (AHO a i).st
abbrev BIW (a : UpI) (i : Nat) : Int := (AHO a i).lo
abbrev BER (a : UpI) (i : Nat) : Int := (AHO a i).hi
abbrev BIS (a : UpI) : Prop := ∀ (i : Nat), i < vT a -> BHH a i = (gD a.w.g i).st /\ BIW a i = (gD a.w.g i).lo /\ BER a i = (gD a.w.g i).hi
abbrev Ru (a : UpI) : List Int := AD a.w.b.length λ (i : Nat) => gD a.w.b i
abbrev Ss (a : UpI) : Nat := (Ru a).length
abbrev API (a : UpI) : Prop := Ss a = a.w.b.length
abbrev AJM (a : UpI) (i : Nat) : Int := gD (Ru a) i
abbrev AQB (a : UpI) : Prop := ∀ (i : Nat), i < Ss a -> AJM a i = gD a.w.b i
abbrev ATF : Value := Value.slice none (0 : Nat) (0 : Nat)
abbrev WU : Prop := ATF = ATF
abbrev Jc (a : UpI) : Prop := ∀ (n : Int), a.w.has n = a.w.has n
abbrev Jd (a : UpI) : Prop := ∀ (n : Int), a.w.st n = a.w.st n
abbrev Mq (a : UpI) : Bk := Bk.mk (wT a) (Ru a) a.w.has a.w.st
abbrev AZE (a : UpI) (n : Int) : List Ln := AK (Mq a) n
abbrev uH (a : UpI) (n : Int) : Nat := (AZE a n).length
abbrev Mk (a : UpI) (n : Int) (i : Nat) : Ln := gD (AZE a n) i
abbrev AVG (a : UpI) (n : Int) (i : Nat) : Int := (Mk a n i).a0
abbrev ASM (a : UpI) (n : Int) (i : Nat) : Int := (Mk a n i).a1
abbrev AIP (a : UpI) (n : Int) (i : Nat) : Int := (Mk a n i).b0
abbrev AUL (a : UpI) (n : Int) (i : Nat) : Int := (Mk a n i).b1
abbrev AUV (a : UpI) : Prop := ∀ (n : Int), uH a n = (AK a.w n).length /\ ∀ (i : Nat), i < uH a n -> AVG a n i = (gD (AK a.w n) i).a0 /\ ASM a n i = (gD (AK a.w n) i).a1 /\ AIP a n i = (gD
 (AK a.w n) i).b0 /\ AUL a n i = (gD (AK a.w n) i).b1
abbrev vU (i : Nat) (a : UpI) (n : Int) : Prop := i < (AK a.w n).length
abbrev ARX (a : UpI) : Prop := vT a <= (24 : Nat) /\ (∀ (x : Gau), List.Mem x (wT a) -> (0 : Int) <= x.st /\ x.st <= (2000 : Int) /\ (0 : Int) <= x.lo /\ x.lo <= x.hi /\ x.hi <= (200000 : Int)) /\ Ss a <= (24 :
 Nat) /\ List.Pairwise (λ (x1 x2 : Int) => x1 < x2) (Ru a) /\ ∀ (x : Int), List.Mem x (Ru a) -> (1 : Int) <= x /\ x <= (2000 : Int)
abbrev ARN (a : UpI) : Span := AR (Mq a) a.k
abbrev ATO (a : UpI) : Prop := a.w.g.length = a.w.g.length
abbrev AWZ (a : UpI) : Prop := ∀ (i : Nat), i < a.w.g.length -> (gD a.w.g i).st = (gD a.w.g i).st /\ (gD a.w.g i).lo = (gD a.w.g i).lo /\ (gD a.w.g i).hi = (gD a.w.g i).hi
abbrev ALQ (a : UpI) : Prop := a.w.b.length = a.w.b.length
abbrev ALY (a : UpI) : Prop := ∀ (i : Nat), i < a.w.b.length -> gD a.w.b i = gD a.w.b i
abbrev rB (a : UpI) : Prop := a.f.n = a.f.n /\ a.f.d = a.f.d
abbrev ASD (a : UpI) : Prop := ATO a /\ AWZ a /\ ALQ a /\ ALY a /\ WU /\ Jc a /\ Jd a /\ (∀ (n : Int), (AK a.w n).length = (AK a.w n).length /\ ∀ (i : Nat), vU i a n -> (gD (AK
 a.w n) i).a0 = (gD (AK a.w n) i).a0 /\ (gD (AK a.w n) i).a1 = (gD (AK a.w n) i).a1 /\ (gD (AK a.w n) i).b0 = (gD (AK a.w n) i).b0 /\ (gD (AK a.w n) i).b1 = (gD (AK a.w n) i).b1) /\ rB a
abbrev APT (a : LH) : Int := a.hi - a.lo
abbrev pJ (a : LH) : Nat := (APT a).toNat
abbrev sO (a : UpI) (a1 : LH) : Prop := (AR a.w a.k).lo - (1 : Int) <= a1.lo /\ a1.lo <= a1.hi /\ a1.hi <= (AR a.w a.k).hi /\ ∀ (m : Nat), pJ a1 <= m -> upM cB a = yL (upP cB a) m a1.lo a1.hi
abbrev LA (a : LH) : Int := IntKind.i64.wrap (a.lo + IntKind.i64.wrap ((IntKind.i64.wrap (IntKind.i64.wrap (APT a) + (1 : Int))).tdiv (2 : Int)))
abbrev AQU (a : UpI) (a1 : LH) : BkT := BkT.mk (Mq a) (LA a1)
abbrev Ae (a : UpI) (a1 : LH) : Bk := CK (Mq a) (kB (AQU a a1))
abbrev AUY (a : UpI) (a1 : LH) : List Gau := (Ae a a1).g
abbrev qK (a : UpI) (a1 : LH) (i : Nat) : Gau := gD (AUY a a1) i
abbrev ALU (a : UpI) (a1 : LH) : List Int := (Ae a a1).b
abbrev AJR (a : UpI) (a1 : LH) : Bnd := VT (lB (AQU a a1)) (LA a1)
abbrev AMP (a : UpI) (a1 : LH) : Rt := (AJR a a1).lo
abbrev AVZ (a : UpI) (a1 : LH) : Int := (AMP a a1).n
abbrev APB (a : UpI) (a1 : LH) : Int := (AMP a a1).d
abbrev ASG (a : UpI) (a1 : LH) : Rt := (AJR a a1).hi
abbrev ATK (a : UpI) (a1 : LH) : Int := (ASG a a1).n
abbrev AMI (a : UpI) (a1 : LH) : Int := (ASG a a1).d
abbrev sA (a : UpI) (a1 : LH) : Bnd := dBnd (DVal.agg [CU (AVZ a a1), CU (APB a a1), CU (ATK a a1), CU (AMI a a1)])
abbrev ASJ (a : UpI) (a1 : LH) : Rt := (sA a a1).lo
abbrev AVO (a : UpI) (a1 : LH) : Rt := (sA a a1).hi
abbrev ARD (a : UpI) (a1 : LH) (n : Int) : List Ln := AK (Ae a a1) n
abbrev Jh (a : UpI) (a1 : LH) (n : Int) (i : Nat) : Ln := gD (ARD a a1 n) i
abbrev APU (a : UpI) (a1 : LH) : Prop := ATO a /\ AWZ a /\ ALQ a /\ ALY a /\ WU /\ (∀ (n : Int), a.w.has n = (Ae a a1).has n) /\ (∀ (n : Int), a.w.st n = (Ae a a1).st n) /\ (∀ (n :
 Int), (AK a.w n).length = (ARD a a1 n).length /\ ∀ (i : Nat), vU i a n -> (gD (AK a.w n) i).a0 = (Jh a a1 n i).a0 /\ (gD (AK a.w n) i).a1 = (Jh a a1 n i).a1 /\ (gD (AK a.w n) i).b0 = (Jh a a1
 n i).b0 /\ (gD (AK a.w n) i).b1 = (Jh a a1 n i).b1) /\ rB a
abbrev APR (a : UpI) (a1 : LH) (a2 : LH) : Prop := sO a a1 /\ pJ a1 < pJ a2
theorem CKZ (a : UpI) : (CJE a) = ((a.k = a.k /\ BID a /\ BIS a /\ API a /\ AQB a /\ WU /\ Jc a /\ Jd a /\ AUV a /\ a.w.g.length = vT a /\ (∀ (i : Nat), i < a.w.g.length -> (gD
 a.w.g i).st = BHH a i /\ (gD a.w.g i).lo = BIW a i /\ (gD a.w.g i).hi = BER a i) /\ a.w.b.length = Ss a /\ (∀ (i : Nat), i < a.w.b.length -> gD a.w.b i = AJM a i) /\ WU /\ Jc a /\ Jd a /\
 (∀ (n : Int), (AK a.w n).length = uH a n /\ ∀ (i : Nat), vU i a n -> (gD (AK a.w n) i).a0 = AVG a n i /\ (gD (AK a.w n) i).a1 = ASM a n i /\ (gD (AK a.w n) i).b0 = AIP a n i /\ (gD (AK a.w n)
 i).b1 = AUL a n i) /\ ARX a /\ (0 : Int) <= a.k /\ a.k <= (↑(Ss a) : Int)) /\ (∃ (a_1 : LH), (a_1.lo = IntKind.i64.wrap ((ARN a).lo - (1 : Int)) /\ a_1.hi = (ARN a).hi /\ ASD a) /\ sO a a_1) /\
 ∀ (a_1 : LH), sO a a_1 -> bif decide (a_1.lo < a_1.hi) then (Int.ofNat (2 : Nat) = Int.ofNat (0 : Nat) -> False) /\ (LA a_1 = LA a_1 /\ BID a /\ BIS a /\ API a /\ AQB a /\ WU /\ Jc
 a /\ Jd a /\ AUV a /\ a.w.g.length = (AUY a a_1).length /\ (∀ (i : Nat), i < a.w.g.length -> (gD a.w.g i).st = (qK a a_1 i).st /\ (gD a.w.g i).lo = (qK a a_1 i).lo /\ (gD a.w.g i).hi = (qK a
 a_1 i).hi) /\ a.w.b.length = (ALU a a_1).length /\ (∀ (i : Nat), i < a.w.b.length -> gD a.w.b i = gD (ALU a a_1) i) /\ ARX a /\ (0 : Int) <= LA a_1 /\ LA a_1 <= (2000 : Int)) /\ ((ASJ a a_1).n =
 AVZ a a_1 /\ (ASJ a a_1).d = APB a a_1 /\ (AVO a a_1).n = ATK a a_1 /\ (AVO a a_1).d = AMI a a_1 /\ a.f.n = a.f.n /\ a.f.d = a.f.d /\ rB a) /\ bif cB (BnF.mk (sA a a_1) a.f) then
 ∃ (a_3 : LH), (a_3.lo = LA a_1 /\ a_3.hi = a_1.hi /\ APU a a_1) /\ APR a a_3 a_1 else ∃ (a_3 : LH), (a_3.lo = a_1.lo /\ a_3.hi = IntKind.i64.wrap (LA a_1 - (1 : Int)) /\ APU a a_1) /\ APR a a_3
 a_1 else upM cB a = a_1.lo /\ ASD a) := by kernel_rfl
theorem AIB (a b c d : Int) : dBnd (.agg [CU a, CU b, CU c, CU d]) = ⟨⟨a, b⟩, ⟨c, d⟩⟩ := rfl
theorem BQR {lo hi : Int} (h1 : -1 <= lo) (h2 : lo <= hi) (h3 : hi <= 2000) : IntKind.i64.wrap (lo + IntKind.i64.wrap ((IntKind.i64.wrap (IntKind.i64.wrap (hi - lo) + 1)).tdiv 2)) = lo + (hi - lo + 1).tdiv 2 := by
 have e : (hi - lo + 1).tdiv 2 = (hi - lo + 1) / 2 := Int.tdiv_eq_ediv_of_nonneg (by omega)
 rw [EO (n := hi - lo) (by omega) (by omega), EO (n := hi - lo + 1) (by omega) (by omega), e, EO (n := (hi - lo + 1) / 2) (by omega) (by omega), EO (by omega) (by omega)]
theorem Ha {w : Bk} {k : Int} (h : HI w.g w.b) (h1 : 0 <= k) (h2 : k <= w.b.length) : 0 <= (AR w k).lo /\ (AR w k).lo <= (AR w k).hi /\ (AR w k).hi <= 2000 /\ ∀ m : Int, (AR w k).lo <= m -> m <= (AR w k).hi -> (LI w.b m : Int) = k := by
 obtain ⟨_, _, _, hasc, hbr⟩ := h
 obtain ⟨n, rfl⟩ := Int.eq_ofNat_of_zero_le h1
 have h2 : n <= w.b.length := Int.ofNat_le.1 h2
 have hb : ∀ i, i < w.b.length -> 1 <= gD w.b i /\ gD w.b i <= 2000 := λ i hi => hbr _ (BZ hi)
 have elo : (AR w n).lo = if 0 < n then gD w.b (n - 1) else 0 := by
  show (bif decide ((n : Int) > 0) then gD w.b ((n : Int) - 1).toNat else 0) = _
  by_cases h0 : 0 < n
  ·rw [decide_eq_true (show (n : Int) > 0 by omega), if_pos h0, show ((n : Int) - 1).toNat = n - 1 by omega]; rfl
  ·rw [decide_eq_false (show ¬(n : Int) > 0 by omega), if_neg h0]; rfl
 have ehi : (AR w n).hi = if n < w.b.length then gD w.b n - 1 else 2000 := by
  show (bif decide ((n : Int) < w.b.length) then wr (gD w.b (n : Int).toNat - 1) else 2000) = _
  by_cases h0 : n < w.b.length
  ·have := hb n h0
   rw [decide_eq_true (show (n : Int) < w.b.length by omega), if_pos h0, Int.toNat_natCast]
   unfold wr; rw [EO (by omega) (by omega)]; rfl
  ·rw [decide_eq_false (show ¬(n : Int) < w.b.length by omega), if_neg h0]; rfl
 have h3 : 0 < n -> n < w.b.length -> gD w.b (n - 1) < gD w.b n := λ a b => Ax hasc (by omega) b
 refine ⟨?_, ?_, ?_, λ m hm hm2 => ?_⟩
 ·rw [elo]; split
  ·have := hb (n - 1) (by omega); omega
  ·omega
 ·rw [elo, ehi]; split <;> split
  ·have := h3 (by omega) (by omega); omega
  ·exact (hb (n - 1) (by omega)).2
  ·have := hb n (by omega); omega
  ·omega
 ·rw [ehi]; split
  ·have := hb n (by omega); omega
  ·omega
 ·congr 1
  refine yA h2 (λ j hj => ?_) (λ j hj hj2 => ?_)
  ·rw [elo, if_pos (by omega)] at hm
   have : gD w.b j <= gD w.b (n - 1) := by
    by_cases e : j = n - 1
    ·rw [e]; exact Int.le_refl _
    ·exact Int.le_of_lt (Ax hasc (by omega) (by omega))
   exact decide_eq_true (by omega)
  ·rw [ehi, if_pos (by omega)] at hm2
   have : gD w.b n <= gD w.b j := by
    by_cases e : n = j
    ·rw [e]; exact Int.le_refl _
    ·exact Int.le_of_lt (Ax hasc (by omega) hj2)
   exact decide_eq_false (by omega)
theorem gR {lo hi : Int} (h : lo < hi) : lo < lo + (hi - lo + 1).tdiv 2 /\ lo + (hi - lo + 1).tdiv 2 <= hi := by
 rw [Int.tdiv_eq_ediv_of_nonneg (by omega)]; omega
theorem FC {pr : Int -> Bool} : ∀ (m n : Nat) (lo hi : Int), lo <= hi -> (hi - lo).toNat <= m -> (hi - lo).toNat <= n -> yL pr m lo hi = yL pr n lo hi
 | 0, 0, _, _, _, _, _ => rfl
 | 0, n + 1, lo, hi, h, h1, _ => by unfold yL; rw [decide_eq_false (show ¬lo < hi by omega)]; rfl
 | m + 1, 0, lo, hi, h, _, h1 => by unfold yL; rw [decide_eq_false (show ¬lo < hi by omega)]; rfl
 | m + 1, n + 1, lo, hi, h, h1, h2 => by
  unfold yL
  by_cases hl : lo < hi
  ·obtain ⟨h3, h4⟩ := gR hl
   rw [decide_eq_true hl]
   cases pr (lo + (hi - lo + 1).tdiv 2)
   ·exact FC m n _ _ (by omega) (by omega) (by omega)
   ·exact FC m n _ _ h4 (by omega) (by omega)
  ·rw [decide_eq_false hl]; rfl
theorem CNN (a : UpI) (h : HI a.w.g a.w.b) (hk : 0 <= a.k /\ a.k <= a.w.b.length) (hh : a.w.has a.k = true) : CJE a := by
 rw [CKZ]; delta wT vT BID AHO BHH BIW BER BIS Ru Ss API AJM AQB ATF WU Jc Jd Mq AZE uH Mk AVG ASM AIP AUL AUV vU ARX ARN ATO AWZ ALQ ALY rB ASD APT pJ sO LA AQU Ae AUY qK ALU AJR AMP AVZ APB ASG ATK AMI sA ASJ AVO ARD Jh APU APR; simp only [CC, eq_self, implies_true, forall_const, LB, OO, Vi, Vs, OR, AIB, if_true]
 obtain ⟨s1, s2, s3, s4⟩ := Ha h hk.1 hk.2
 refine ⟨⟨h, hk⟩, ⟨⟨(AR a.w a.k).lo - 1, (AR a.w a.k).hi⟩, ⟨(EO (n := (AR a.w a.k).lo - 1) (by omega) (by omega)).symm, rfl⟩, Int.le_refl _, (by omega : (AR a.w a.k).lo - 1 <= (AR a.w a.k).hi), Int.le_refl _, λ m hm => FC 3000 m ((AR a.w a.k).lo - 1) (AR a.w a.k).hi (by omega) (by omega) hm⟩, λ x ⟨i1, i2, i3, i4⟩ => ⟨λ hl => ?_, λ hl => ?_⟩⟩
 ·obtain ⟨m1, m2⟩ := gR hl
  simp only [BQR (lo := x.lo) (hi := x.hi) (by omega) (by omega) (by omega), show ∀ t, kB ⟨a.w, t⟩ = (LI a.w.b t : Int) from λ _ => rfl, s4 _ (show (AR a.w a.k).lo <= x.lo + (x.hi - x.lo + 1).tdiv 2 by omega) (by omega), TC hh, implies_true, and_true]
  obtain ⟨n, hn⟩ : ∃ n, (x.hi - x.lo).toNat = n + 1 := ⟨(x.hi - x.lo).toNat - 1, by omega⟩
  have key := i4 (n + 1) (by omega)
  unfold yL at key
  rw [decide_eq_true hl] at key
  generalize hM : x.lo + (x.hi - x.lo + 1).tdiv 2 = M at *
  refine ⟨by simp, ⟨h, by omega, by omega⟩, λ hp => ⟨⟨M, x.hi⟩, ⟨rfl, rfl⟩, ⟨(by omega : (AR a.w a.k).lo - 1 <= M), m2, i3, λ m hm => ?_⟩, (by omega : (x.hi - M).toNat < (x.hi - x.lo).toNat)⟩, λ hp => ⟨⟨x.lo, M - 1⟩, ⟨rfl, (EO (n := M - 1) (by omega) (by omega)).symm⟩, ⟨i1, (by omega : x.lo <= M - 1), (by omega : M - 1 <= (AR a.w a.k).hi), λ m hm => ?_⟩, (by omega : (M - 1 - x.lo).toNat < (x.hi - x.lo).toNat)⟩⟩
  ·rw [key, show upP cB a M = true from hp]
   exact FC n m M x.hi m2 (by omega) hm
  ·rw [key, show upP cB a M = false from hp]
   exact FC n m x.lo (M - 1) (by omega) (by omega) hm
 ·rw [i4 0 (by omega)]; rfl
end Go.Bal
