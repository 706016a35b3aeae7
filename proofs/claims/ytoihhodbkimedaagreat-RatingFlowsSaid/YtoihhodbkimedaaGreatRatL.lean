/- Package rating: stages of a flow. -/
import Derived.Test.YtoihhodbkimedaaGreatRatK
set_option linter.unusedVariables false
set_option linter.unusedSimpArgs false
namespace Go.Bal
open Go Go.Sym Go.Proofs
structure BnF where
 b : Bnd
 f : Rt
def dBnd : DVal -> Bnd
 | .agg [a, b, c, d] => ⟨⟨DH a, DH b⟩, ⟨DH c, DH d⟩⟩
 | _ => default
def dBnF : List AVal -> Heap -> Option (BnF × List (Nat × Nat) × List Nat)
 | [.d x, .bptr id _], H => match H id with
  | .live (.box [.d n, .d m]) => some (⟨dBnd x, ⟨DH n, DH m⟩⟩, [(100, id)], [])
  | _ => none
 | _, _ => none
def bxR (f : Rt) : AObj := .box [.int f.n, .int f.d]
def QK (v : BnF -> Bool) : Ctr := { ro := [100], α := BnF, xs := λ a => [.d (eBnd a.b), .bptr 100 0], L := λ a => [(100, bxR a.f)], val := λ a => .bool (v a), keep := λ a => [(100, .live (bxR a.f))] }
def eT (a : BnF) : Bool := decide (YB a.b.hi a.f < 0)
def Ym (a : BnF) : Bool := decide (YB a.b.lo a.f <= 0)
def BTT : Ann := { ann 9 [(Qs, P3)] with E := [100] }
def CPY (a : BnF) : Prop := AN Try.prog BTT ACV (AF ACV) ((QK eT).xs a) (AC ((QK eT).L a)) ((QK eT).val a) ((QK eT).keep a) [] []
theorem CSM (a : BnF) : (CPY a) = (eT a = decide (HU (wr (a.b.hi.n * a.f.d)) (wr (a.f.n * a.b.hi.d)) < 0) /\ a.f.n = a.f.n /\ a.f.d = a.f.d) := by kernel_rfl
def CQS (a : BnF) : Prop := AN Try.prog BTT ADD (AF ADD) ((QK Ym).xs a) (AC ((QK Ym).L a)) ((QK Ym).val a) ((QK Ym).keep a) [] []
theorem CRS (a : BnF) : (CQS a) = (Ym a = decide (HU (wr (a.b.lo.n * a.f.d)) (wr (a.f.n * a.b.lo.d)) <= 0) /\ a.f.n = a.f.n /\ a.f.d = a.f.d) := by kernel_rfl
theorem CQZ : AG Try.prog EO ((QK eT).spec dBnF) := HR (QK eT) (λ _ => BTT) [] [] BPU (λ _ => by kernel_rfl) (λ _ => AB Gs AD) (λ (a : BnF) _ => by
 show CPY a; rw [CSM]; simp only [CC, eq_self, implies_true, forall_const]; first | done | trivial | exact rfl | (refine ⟨rfl, ?_⟩; exact ⟨rfl, rfl⟩)) (λ _ => IN rfl rfl) _
theorem CTJ : AG Try.prog EW ((QK Ym).spec dBnF) := HR (QK Ym) (λ _ => BTT) [] [] BSI (λ _ => by kernel_rfl) (λ _ => AB Gs AD) (λ (a : BnF) _ => by
 show CQS a; rw [CRS]; simp only [CC, eq_self, implies_true, forall_const]; first | done | trivial | exact rfl | (refine ⟨rfl, ?_⟩; exact ⟨rfl, rfl⟩)) (λ _ => IN rfl rfl) _
def wB (pr : Int -> Bool) : Nat -> Int -> Int -> Int
 | 0, lo, _ => lo
 | n + 1, lo, hi => bif decide (lo < hi) then (bif pr (lo + (hi - lo + 1).tdiv 2) then wB pr n (lo + (hi - lo + 1).tdiv 2) hi else wB pr n lo (lo + (hi - lo + 1).tdiv 2 - 1)) else lo
structure UpI where
 w : Bk
 k : Int
 f : Rt
def dUpI (n : FuncId) : List AVal -> Heap -> Option (UpI × List (Nat × Nat) × List Nat)
 | [.bptr id _, .d k, .fn (.func g) [] [.bptr c _]], H => if g = n then match BBF H id, H c with
  | some (w, q), .live (.box [.d x, .d y]) => some (⟨w, DH k, ⟨DH x, DH y⟩⟩, [(100, id), (101, q), (102, c)], [])
  | _, _ => none else none
 | _, _ => none
def upP (v : BnF -> Bool) (a : UpI) (t : Int) : Bool := v ⟨SI (lB ⟨a.w, t⟩) t, a.f⟩
def upM (v : BnF -> Bool) (a : UpI) : Int := wB (upP v a) 3000 ((AR a.w a.k).lo - 1) (AR a.w a.k).hi
structure LH where
 lo : Int
 hi : Int
 deriving Inhabited
def upH (a : UpI) : List (Nat × HCell) := bkK a.w ++ [(102, .live (bxR a.f))]
def up3 (v : BnF -> Bool) (n : FuncId) (a : UpI) : Shape := { α := LH, dflt := default, T := λ x => ⟨[(0, .bptr 100 0), (2, .fn (.func n) [] [.bptr 102 0]), (8, .int x.lo), (9, .int x.hi)], upH a⟩, inv := λ x => (AR a.w a.k).lo - 1 <= x.lo /\ x.lo <= x.hi /\ x.hi <= (AR a.w a.k).hi /\ ∀ m : Nat, (x.hi - x.lo).toNat <= m -> upM v a = wB (upP v a) m x.lo x.hi, meas := λ x => (x.hi - x.lo).toNat }
def pQ (v : BnF -> Bool) (n : FuncId) : Ctr := { ro := [100, 101, 102], α := UpI, xs := λ a => [.bptr 100 0, .int a.k, .fn (.func n) [] [.bptr 102 0]], L := λ a => bkL a.w ++ [(102, bxR a.f)], val := λ a => .int (upM v a), keep := λ a => upH a, pre := λ a => [GZ a.w.g a.w.b /\ 0 <= a.k /\ a.k <= a.w.b.length /\ a.w.has a.k = true] }
def A_up (v : BnF -> Bool) (n : FuncId) (f : Sym.Spec) (a : UpI) : Ann := { ann 44 [(ALE, C_span.spec dBkI), (PL, C_bnd.spec dBkt), (n, f)] with E := [100, 101, 102], loops := λ id => if id = 3 then some [up3 v n a] else none }
def CQK (a : UpI) : Prop := AN Try.prog (A_up eT EO ((QK eT).spec dBnF) a) Gl (AF Gl) ((pQ eT EO).xs a) (AC ((pQ eT EO).L a)) ((pQ eT EO).val a) ((pQ eT EO).keep a) [] []
abbrev wQ (a : UpI) : List Gau := AE a.w.g.length λ (i : Nat) => gD a.w.g i
abbrev uE (a : UpI) : Nat := (wQ a).length
abbrev BGE (a : UpI) : Prop := uE a = a.w.g.length
abbrev AHU (a : UpI) (i : Nat) : Gau := gD (wQ a) i
abbrev BHS (a : UpI) (i : Nat) : Int := (AHU a i).st
abbrev BGG (a : UpI) (i : Nat) : Int := (AHU a i).lo
abbrev BES (a : UpI) (i : Nat) : Int := (AHU a i).hi
abbrev BGD (a : UpI) : Prop := ∀ (i : Nat), i < uE a -> BHS a i = (gD a.w.g i).st /\ BGG a i = (gD a.w.g i).lo /\ BES a i = (gD a.w.g i).hi
abbrev Sv (a : UpI) : List Int := AE a.w.b.length λ (i : Nat) => gD a.w.b i
abbrev Qk (a : UpI) : Nat := (Sv a).length
abbrev ARA (a : UpI) : Prop := Qk a = a.w.b.length
abbrev ALI (a : UpI) (i : Nat) : Int := gD (Sv a) i
abbrev AOA (a : UpI) : Prop := ∀ (i : Nat), i < Qk a -> ALI a i = gD a.w.b i
abbrev ANJ : Value := Value.slice none (0 : Nat) (0 : Nat)
abbrev Bl : Prop := ANJ = ANJ
abbrev Qf (a : UpI) : Prop := ∀ (n : Int), a.w.has n = a.w.has n
abbrev Ni (a : UpI) : Prop := ∀ (n : Int), a.w.st n = a.w.st n
abbrev Ky (a : UpI) : Bk := Bk.mk (wQ a) (Sv a) a.w.has a.w.st
abbrev AZP (a : UpI) (n : Int) : List Ln := AK (Ky a) n
abbrev rE (a : UpI) (n : Int) : Nat := (AZP a n).length
abbrev Jr (a : UpI) (n : Int) (i : Nat) : Ln := gD (AZP a n) i
abbrev AMF (a : UpI) (n : Int) (i : Nat) : Int := (Jr a n i).a0
abbrev AMG (a : UpI) (n : Int) (i : Nat) : Int := (Jr a n i).a1
abbrev AYB (a : UpI) (n : Int) (i : Nat) : Int := (Jr a n i).b0
abbrev ATJ (a : UpI) (n : Int) (i : Nat) : Int := (Jr a n i).b1
abbrev APL (a : UpI) : Prop := ∀ (n : Int), rE a n = (AK a.w n).length /\ ∀ (i : Nat), i < rE a n -> AMF a n i = (gD (AK a.w n) i).a0 /\ AMG a n i = (gD (AK a.w n) i).a1 /\ AYB a n i = (gD
 (AK a.w n) i).b0 /\ ATJ a n i = (gD (AK a.w n) i).b1
abbrev xF (i : Nat) (a : UpI) (n : Int) : Prop := i < (AK a.w n).length
abbrev AQX (a : UpI) : Prop := uE a <= (24 : Nat) /\ (∀ (x : Gau), List.Mem x (wQ a) -> (0 : Int) <= x.st /\ x.st <= (2000 : Int) /\ (0 : Int) <= x.lo /\ x.lo <= x.hi /\ x.hi <= (200000 : Int)) /\ Qk a <= (24 :
 Nat) /\ List.Pairwise (λ (x1 x2 : Int) => x1 < x2) (Sv a) /\ ∀ (x : Int), List.Mem x (Sv a) -> (1 : Int) <= x /\ x <= (2000 : Int)
abbrev AVE (a : UpI) : Span := AR (Ky a) a.k
abbrev AUI (a : UpI) : Prop := a.w.g.length = a.w.g.length
abbrev ASY (a : UpI) : Prop := ∀ (i : Nat), i < a.w.g.length -> (gD a.w.g i).st = (gD a.w.g i).st /\ (gD a.w.g i).lo = (gD a.w.g i).lo /\ (gD a.w.g i).hi = (gD a.w.g i).hi
abbrev AYM (a : UpI) : Prop := a.w.b.length = a.w.b.length
abbrev AYZ (a : UpI) : Prop := ∀ (i : Nat), i < a.w.b.length -> gD a.w.b i = gD a.w.b i
abbrev oP (a : UpI) : Prop := a.f.n = a.f.n /\ a.f.d = a.f.d
abbrev AVO (a : UpI) : Prop := AUI a /\ ASY a /\ AYM a /\ AYZ a /\ Bl /\ Qf a /\ Ni a /\ (∀ (n : Int), (AK a.w n).length = (AK a.w n).length /\ ∀ (i : Nat), xF i a n -> (gD (AK
 a.w n) i).a0 = (gD (AK a.w n) i).a0 /\ (gD (AK a.w n) i).a1 = (gD (AK a.w n) i).a1 /\ (gD (AK a.w n) i).b0 = (gD (AK a.w n) i).b0 /\ (gD (AK a.w n) i).b1 = (gD (AK a.w n) i).b1) /\ oP a
abbrev AUN (a : LH) : Int := a.hi - a.lo
abbrev pF (a : LH) : Nat := (AUN a).toNat
abbrev wY (a : UpI) (a1 : LH) : Prop := (AR a.w a.k).lo - (1 : Int) <= a1.lo /\ a1.lo <= a1.hi /\ a1.hi <= (AR a.w a.k).hi /\ ∀ (m : Nat), pF a1 <= m -> upM eT a = wB (upP eT a) m a1.lo a1.hi
abbrev LA (a : LH) : Int := IntKind.i64.wrap (a.lo + IntKind.i64.wrap ((IntKind.i64.wrap (IntKind.i64.wrap (AUN a) + (1 : Int))).tdiv (2 : Int)))
abbrev AQU (a : UpI) (a1 : LH) : BkT := BkT.mk (Ky a) (LA a1)
abbrev YJ (a : UpI) (a1 : LH) : Bk := CF (Ky a) (kB (AQU a a1))
abbrev AMZ (a : UpI) (a1 : LH) : List Gau := (YJ a a1).g
abbrev uT (a : UpI) (a1 : LH) (i : Nat) : Gau := gD (AMZ a a1) i
abbrev AYY (a : UpI) (a1 : LH) : List Int := (YJ a a1).b
abbrev ANI (a : UpI) (a1 : LH) : Bnd := SI (lB (AQU a a1)) (LA a1)
abbrev AVJ (a : UpI) (a1 : LH) : Rt := (ANI a a1).lo
abbrev AZV (a : UpI) (a1 : LH) : Int := (AVJ a a1).n
abbrev BAE (a : UpI) (a1 : LH) : Int := (AVJ a a1).d
abbrev AZM (a : UpI) (a1 : LH) : Rt := (ANI a a1).hi
abbrev AOF (a : UpI) (a1 : LH) : Int := (AZM a a1).n
abbrev AQO (a : UpI) (a1 : LH) : Int := (AZM a a1).d
abbrev sT (a : UpI) (a1 : LH) : Bnd := dBnd (DVal.agg [CU (AZV a a1), CU (BAE a a1), CU (AOF a a1), CU (AQO a a1)])
abbrev ASN (a : UpI) (a1 : LH) : Rt := (sT a a1).lo
abbrev ANN (a : UpI) (a1 : LH) : Rt := (sT a a1).hi
abbrev AXI (a : UpI) (a1 : LH) (n : Int) : List Ln := AK (YJ a a1) n
abbrev Lb (a : UpI) (a1 : LH) (n : Int) (i : Nat) : Ln := gD (AXI a a1 n) i
abbrev AYX (a : UpI) (a1 : LH) : Prop := AUI a /\ ASY a /\ AYM a /\ AYZ a /\ Bl /\ (∀ (n : Int), a.w.has n = (YJ a a1).has n) /\ (∀ (n : Int), a.w.st n = (YJ a a1).st n) /\ (∀ (n :
 Int), (AK a.w n).length = (AXI a a1 n).length /\ ∀ (i : Nat), xF i a n -> (gD (AK a.w n) i).a0 = (Lb a a1 n i).a0 /\ (gD (AK a.w n) i).a1 = (Lb a a1 n i).a1 /\ (gD (AK a.w n) i).b0 = (Lb a a1
 n i).b0 /\ (gD (AK a.w n) i).b1 = (Lb a a1 n i).b1) /\ oP a
abbrev AVW (a : UpI) (a1 : LH) (a2 : LH) : Prop := wY a a1 /\ pF a1 < pF a2
theorem CTE (a : UpI) : (CQK a) = ((a.k = a.k /\ BGE a /\ BGD a /\ ARA a /\ AOA a /\ Bl /\ Qf a /\ Ni a /\ APL a /\ a.w.g.length = uE a /\ (∀ (i : Nat), i < a.w.g.length -> (gD
 a.w.g i).st = BHS a i /\ (gD a.w.g i).lo = BGG a i /\ (gD a.w.g i).hi = BES a i) /\ a.w.b.length = Qk a /\ (∀ (i : Nat), i < a.w.b.length -> gD a.w.b i = ALI a i) /\ Bl /\ Qf a /\ Ni a /\
 (∀ (n : Int), (AK a.w n).length = rE a n /\ ∀ (i : Nat), xF i a n -> (gD (AK a.w n) i).a0 = AMF a n i /\ (gD (AK a.w n) i).a1 = AMG a n i /\ (gD (AK a.w n) i).b0 = AYB a n i /\ (gD (AK a.w n)
 i).b1 = ATJ a n i) /\ AQX a /\ (0 : Int) <= a.k /\ a.k <= (↑(Qk a) : Int)) /\ (∃ (a_1 : LH), (a_1.lo = IntKind.i64.wrap ((AVE a).lo - (1 : Int)) /\ a_1.hi = (AVE a).hi /\ AVO a) /\ wY a a_1) /\
 ∀ (a_1 : LH), wY a a_1 -> bif decide (a_1.lo < a_1.hi) then (Int.ofNat (2 : Nat) = Int.ofNat (0 : Nat) -> False) /\ (LA a_1 = LA a_1 /\ BGE a /\ BGD a /\ ARA a /\ AOA a /\ Bl /\ Qf
 a /\ Ni a /\ APL a /\ a.w.g.length = (AMZ a a_1).length /\ (∀ (i : Nat), i < a.w.g.length -> (gD a.w.g i).st = (uT a a_1 i).st /\ (gD a.w.g i).lo = (uT a a_1 i).lo /\ (gD a.w.g i).hi = (uT a
 a_1 i).hi) /\ a.w.b.length = (AYY a a_1).length /\ (∀ (i : Nat), i < a.w.b.length -> gD a.w.b i = gD (AYY a a_1) i) /\ AQX a /\ (0 : Int) <= LA a_1 /\ LA a_1 <= (2000 : Int)) /\ ((ASN a a_1).n =
 AZV a a_1 /\ (ASN a a_1).d = BAE a a_1 /\ (ANN a a_1).n = AOF a a_1 /\ (ANN a a_1).d = AQO a a_1 /\ a.f.n = a.f.n /\ a.f.d = a.f.d /\ oP a) /\ bif eT (BnF.mk (sT a a_1) a.f) then
 ∃ (a_3 : LH), (a_3.lo = LA a_1 /\ a_3.hi = a_1.hi /\ AYX a a_1) /\ AVW a a_3 a_1 else ∃ (a_3 : LH), (a_3.lo = a_1.lo /\ a_3.hi = IntKind.i64.wrap (LA a_1 - (1 : Int)) /\ AYX a a_1) /\ AVW a a_3
 a_1 else upM eT a = a_1.lo /\ AVO a) := by kernel_rfl
theorem AGX (a b c d : Int) : dBnd (.agg [CU a, CU b, CU c, CU d]) = ⟨⟨a, b⟩, ⟨c, d⟩⟩ := rfl
theorem BUR {lo hi : Int} (h1 : -1 <= lo) (h2 : lo <= hi) (h3 : hi <= 2000) : IntKind.i64.wrap (lo + IntKind.i64.wrap ((IntKind.i64.wrap (IntKind.i64.wrap (hi - lo) + 1)).tdiv 2)) = lo + (hi - lo + 1).tdiv 2 := by
 have e : (hi - lo + 1).tdiv 2 = (hi - lo + 1) / 2 := Int.tdiv_eq_ediv_of_nonneg (by omega)
 rw [EV (n := hi - lo) (by omega) (by omega), EV (n := hi - lo + 1) (by omega) (by omega), e, EV (n := (hi - lo + 1) / 2) (by omega) (by omega), EV (by omega) (by omega)]
theorem JA {w : Bk} {k : Int} (h : GZ w.g w.b) (h1 : 0 <= k) (h2 : k <= w.b.length) : 0 <= (AR w k).lo /\ (AR w k).lo <= (AR w k).hi /\ (AR w k).hi <= 2000 /\ ∀ m : Int, (AR w k).lo <= m -> m <= (AR w k).hi -> (ET w.b m : Int) = k := by
 obtain ⟨_, _, _, hasc, hbr⟩ := h
 obtain ⟨n, rfl⟩ := Int.eq_ofNat_of_zero_le h1
 have h2 : n <= w.b.length := Int.ofNat_le.1 h2
 have hb : ∀ i, i < w.b.length -> 1 <= gD w.b i /\ gD w.b i <= 2000 := λ i hi => hbr _ (BM hi)
 have elo : (AR w n).lo = if 0 < n then gD w.b (n - 1) else 0 := by
  show (bif decide ((n : Int) > 0) then gD w.b ((n : Int) - 1).toNat else 0) = _
  by_cases h0 : 0 < n
  ·rw [decide_eq_true (show (n : Int) > 0 by omega), if_pos h0, show ((n : Int) - 1).toNat = n - 1 by omega]; rfl
  ·rw [decide_eq_false (show ¬(n : Int) > 0 by omega), if_neg h0]; rfl
 have ehi : (AR w n).hi = if n < w.b.length then gD w.b n - 1 else 2000 := by
  show (bif decide ((n : Int) < w.b.length) then wr (gD w.b (n : Int).toNat - 1) else 2000) = _
  by_cases h0 : n < w.b.length
  ·have := hb n h0
   rw [decide_eq_true (show (n : Int) < w.b.length by omega), if_pos h0, Int.toNat_natCast]
   unfold wr; rw [EV (by omega) (by omega)]; rfl
  ·rw [decide_eq_false (show ¬(n : Int) < w.b.length by omega), if_neg h0]; rfl
 have h3 : 0 < n -> n < w.b.length -> gD w.b (n - 1) < gD w.b n := λ a b => Gd hasc (by omega) b
 refine ⟨?_, ?_, ?_, λ m hm hm2 => ?_⟩
 ·rw [elo]; split
  ·have := hb (n - 1) (by omega); omega
  ·omega
 ·rw [elo, ehi]; split <;> split
  ·have := h3 (by omega) (by omega); omega
  ·exact (hb (n - 1) (by omega)).2
  ·have := hb n (by omega); omega
  ·omega
 ·rw [ehi]; split
  ·have := hb n (by omega); omega
  ·omega
 ·congr 1
  refine ANP h2 (λ j hj => ?_) (λ j hj hj2 => ?_)
  ·rw [elo, if_pos (by omega)] at hm
   have : gD w.b j <= gD w.b (n - 1) := by
    by_cases e : j = n - 1
    ·rw [e]; exact Int.le_refl _
    ·exact Int.le_of_lt (Gd hasc (by omega) (by omega))
   exact decide_eq_true (by omega)
  ·rw [ehi, if_pos (by omega)] at hm2
   have : gD w.b n <= gD w.b j := by
    by_cases e : n = j
    ·rw [e]; exact Int.le_refl _
    ·exact Int.le_of_lt (Gd hasc (by omega) hj2)
   exact decide_eq_false (by omega)
theorem aB {lo hi : Int} (h : lo < hi) : lo < lo + (hi - lo + 1).tdiv 2 /\ lo + (hi - lo + 1).tdiv 2 <= hi := by
 rw [Int.tdiv_eq_ediv_of_nonneg (by omega)]; omega
theorem FF {pr : Int -> Bool} : ∀ (m n : Nat) (lo hi : Int), lo <= hi -> (hi - lo).toNat <= m -> (hi - lo).toNat <= n -> wB pr m lo hi = wB pr n lo hi
 | 0, 0, _, _, _, _, _ => rfl
 | 0, n + 1, lo, hi, h, h1, _ => by unfold wB; rw [decide_eq_false (show ¬lo < hi by omega)]; rfl
 | m + 1, 0, lo, hi, h, _, h1 => by unfold wB; rw [decide_eq_false (show ¬lo < hi by omega)]; rfl
 | m + 1, n + 1, lo, hi, h, h1, h2 => by
  unfold wB
  by_cases hl : lo < hi
  ·obtain ⟨h3, h4⟩ := aB hl
   rw [decide_eq_true hl]
   cases pr (lo + (hi - lo + 1).tdiv 2)
   ·exact FF m n _ _ (by omega) (by omega) (by omega)
   ·exact FF m n _ _ h4 (by omega) (by omega)
  ·rw [decide_eq_false hl]; rfl
theorem CWP (a : UpI) (h : GZ a.w.g a.w.b) (hk : 0 <= a.k /\ a.k <= a.w.b.length) (hh : a.w.has a.k = true) : CQK a := by
 rw [CTE]; delta wQ uE BGE AHU BHS BGG BES BGD Sv Qk ARA ALI AOA ANJ Bl Qf Ni Ky AZP rE Jr AMF AMG AYB ATJ APL xF AQX AVE AUI ASY AYM AYZ oP AVO AUN pF wY LA AQU YJ AMZ uT AYY ANI AVJ AZV BAE AZM AOF AQO sT ASN ANN AXI Lb AYX AVW; simp only [CC, eq_self, implies_true, forall_const, JG, JP, Iz, Iy, JT, AGX, if_true]
 obtain ⟨s1, s2, s3, s4⟩ := JA h hk.1 hk.2
 refine ⟨⟨h, hk⟩, ⟨⟨(AR a.w a.k).lo - 1, (AR a.w a.k).hi⟩, ⟨(EV (n := (AR a.w a.k).lo - 1) (by omega) (by omega)).symm, rfl⟩, Int.le_refl _, (by omega : (AR a.w a.k).lo - 1 <= (AR a.w a.k).hi), Int.le_refl _, λ m hm => FF 3000 m ((AR a.w a.k).lo - 1) (AR a.w a.k).hi (by omega) (by omega) hm⟩, λ x ⟨i1, i2, i3, i4⟩ => ⟨λ hl => ?_, λ hl => ?_⟩⟩
 ·obtain ⟨m1, m2⟩ := aB hl
  simp only [BUR (lo := x.lo) (hi := x.hi) (by omega) (by omega) (by omega), show ∀ t, kB ⟨a.w, t⟩ = (ET a.w.b t : Int) from λ _ => rfl, s4 _ (show (AR a.w a.k).lo <= x.lo + (x.hi - x.lo + 1).tdiv 2 by omega) (by omega), TS hh, implies_true, and_true]
  obtain ⟨n, hn⟩ : ∃ n, (x.hi - x.lo).toNat = n + 1 := ⟨(x.hi - x.lo).toNat - 1, by omega⟩
  have key := i4 (n + 1) (by omega)
  unfold wB at key
  rw [decide_eq_true hl] at key
  generalize hM : x.lo + (x.hi - x.lo + 1).tdiv 2 = M at *
  refine ⟨by simp, ⟨h, by omega, by omega⟩, λ hp => ⟨⟨M, x.hi⟩, ⟨rfl, rfl⟩, ⟨(by omega : (AR a.w a.k).lo - 1 <= M), m2, i3, λ m hm => ?_⟩, (by omega : (x.hi - M).toNat < (x.hi - x.lo).toNat)⟩, λ hp => ⟨⟨x.lo, M - 1⟩, ⟨rfl, (EV (n := M - 1) (by omega) (by omega)).symm⟩, ⟨i1, (by omega : x.lo <= M - 1), (by omega : M - 1 <= (AR a.w a.k).hi), λ m hm => ?_⟩, (by omega : (M - 1 - x.lo).toNat < (x.hi - x.lo).toNat)⟩⟩
  ·rw [key, show upP eT a M = true from hp]
   exact FF n m M x.hi m2 (by omega) hm
  ·rw [key, show upP eT a M = false from hp]
   exact FF n m x.lo (M - 1) (by omega) (by omega) hm
 ·rw [i4 0 (by omega)]; rfl
end Go.Bal
