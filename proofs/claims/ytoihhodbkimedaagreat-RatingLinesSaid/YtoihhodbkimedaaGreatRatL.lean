/- Package rating: stages of a flow. -/
import Derived.Test.YtoihhodbkimedaaGreatRatK
set_option linter.unusedVariables false
set_option linter.unusedSimpArgs false
namespace Go.Bal
open Go Go.Sym Go.Proofs
structure BnF where
 b : Bnd
 f : Rt
def dBnd : DVal -> Bnd
 | .agg [a, b, c, d] => ⟨⟨CT a, CT b⟩, ⟨CT c, CT d⟩⟩
 | _ => default
def dBnF : List AVal -> Heap -> Option (BnF × List (Nat × Nat) × List Nat)
 | [.d x, .bptr id _], H => match H id with
  | .live (.box [.d n, .d m]) => some (⟨dBnd x, ⟨CT n, CT m⟩⟩, [(100, id)], [])
  | _ => none
 | _, _ => none
def bxR (f : Rt) : AObj := .box [.int f.n, .int f.d]
def OJ (v : BnF -> Bool) : Ctr := { ro := [100], α := BnF, xs := λ a => [.d (eBnd a.b), .bptr 100 0], L := λ a => [(100, bxR a.f)], val := λ a => .bool (v a), keep := λ a => [(100, .live (bxR a.f))] }
def mH (a : BnF) : Bool := decide (F4 a.b.hi a.f < 0)
def sQ (a : BnF) : Bool := decide (F4 a.b.lo a.f <= 0)
def AZX : Ann := { ann 9 [(Me, zN)] with E := [100] }
def BQX (a : BnF) : Prop := AO Try.prog AZX vA (AF vA) ((OJ mH).xs a) (AC ((OJ mH).L a)) ((OJ mH).val a) ((OJ mH).keep a) [] []
theorem BVO (a : BnF) : (BQX a) = (mH a = decide (JH (wr (a.b.hi.n * a.f.d)) (wr (a.f.n * a.b.hi.d)) < 0) /\ a.f.n = a.f.n /\ a.f.d = a.f.d) := by kernel_rfl
def BQU (a : BnF) : Prop := AO Try.prog AZX wG (AF wG) ((OJ sQ).xs a) (AC ((OJ sQ).L a)) ((OJ sQ).val a) ((OJ sQ).keep a) [] []
theorem BTG (a : BnF) : (BQU a) = (sQ a = decide (JH (wr (a.b.lo.n * a.f.d)) (wr (a.f.n * a.b.lo.d)) <= 0) /\ a.f.n = a.f.n /\ a.f.d = a.f.d) := by kernel_rfl
theorem BUH : AG Try.prog DX ((OJ mH).spec dBnF) := GD (OJ mH) (λ _ => AZX) [] [] AXC (λ _ => by kernel_rfl) (λ _ => AB Cc AE) (λ (a : BnF) _ => by
 show BQX a; rw [BVO]; simp only [CC, eq_self, implies_true, forall_const]; first | done | trivial | exact rfl | (refine ⟨rfl, ?_⟩; exact ⟨rfl, rfl⟩)) (λ _ => GJ rfl rfl) _
theorem BVW : AG Try.prog DY ((OJ sQ).spec dBnF) := GD (OJ sQ) (λ _ => AZX) [] [] AYW (λ _ => by kernel_rfl) (λ _ => AB Cc AE) (λ (a : BnF) _ => by
 show BQU a; rw [BTG]; simp only [CC, eq_self, implies_true, forall_const]; first | done | trivial | exact rfl | (refine ⟨rfl, ?_⟩; exact ⟨rfl, rfl⟩)) (λ _ => GJ rfl rfl) _
def J5 (pr : Int -> Bool) : Nat -> Int -> Int -> Int
 | 0, lo, _ => lo
 | n + 1, lo, hi => bif decide (lo < hi) then (bif pr (lo + (hi - lo + 1).tdiv 2) then J5 pr n (lo + (hi - lo + 1).tdiv 2) hi else J5 pr n lo (lo + (hi - lo + 1).tdiv 2 - 1)) else lo
structure UpI where
 w : Bk
 k : Int
 f : Rt
def dUpI (n : FuncId) : List AVal -> Heap -> Option (UpI × List (Nat × Nat) × List Nat)
 | [.bptr id _, .d k, .fn (.func g) [] [.bptr c _]], H => if g = n then match AKG H id, H c with
  | some (w, q), .live (.box [.d x, .d y]) => some (⟨w, CT k, ⟨CT x, CT y⟩⟩, [(100, id), (101, q), (102, c)], [])
  | _, _ => none else none
 | _, _ => none
def upP (v : BnF -> Bool) (a : UpI) (t : Int) : Bool := v ⟨ZN (lB ⟨a.w, t⟩) t, a.f⟩
def upM (v : BnF -> Bool) (a : UpI) : Int := J5 (upP v a) 3000 ((AP a.w a.k).lo - 1) (AP a.w a.k).hi
structure LH where
 lo : Int
 hi : Int
 deriving Inhabited
def upH (a : UpI) : List (Nat × HCell) := bkK a.w ++ [(102, .live (bxR a.f))]
def up3 (v : BnF -> Bool) (n : FuncId) (a : UpI) : Shape := { α := LH, dflt := default, T := λ x => ⟨[(0, .bptr 100 0), (2, .fn (.func n) [] [.bptr 102 0]), (8, .int x.lo), (9, .int x.hi)], upH a⟩, inv := λ x => (AP a.w a.k).lo - 1 <= x.lo /\ x.lo <= x.hi /\ x.hi <= (AP a.w a.k).hi /\ ∀ m : Nat, (x.hi - x.lo).toNat <= m -> upM v a = J5 (upP v a) m x.lo x.hi, meas := λ x => (x.hi - x.lo).toNat }
def jS (v : BnF -> Bool) (n : FuncId) : Ctr := { ro := [100, 101, 102], α := UpI, xs := λ a => [.bptr 100 0, .int a.k, .fn (.func n) [] [.bptr 102 0]], L := λ a => bkL a.w ++ [(102, bxR a.f)], val := λ a => .int (upM v a), keep := λ a => upH a, pre := λ a => [GP a.w.g a.w.b /\ 0 <= a.k /\ a.k <= a.w.b.length /\ a.w.has a.k = true] }
def A_up (v : BnF -> Bool) (n : FuncId) (f : Sym.Spec) (a : UpI) : Ann := { ann 44 [(AAP, C_span.spec dBkI), (RY, C_bnd.spec dBkt), (n, f)] with E := [100, 101, 102], loops := λ id => if id = 3 then some [up3 v n a] else none }
def BSU (a : UpI) : Prop := AO Try.prog (A_up mH DX ((OJ mH).spec dBnF) a) Dn (AF Dn) ((jS mH DX).xs a) (AC ((jS mH DX).L a)) ((jS mH DX).val a) ((jS mH DX).keep a) [] []
abbrev jP (a : UpI) : List Gau := AD a.w.g.length λ (i : Nat) => gD a.w.g i
abbrev fJ (a : UpI) : Nat := (jP a).length
abbrev AKX (a : UpI) : Prop := fJ a = a.w.g.length
abbrev K1 (a : UpI) (i : Nat) : Gau := gD (jP a) i
abbrev AOL (a : UpI) (i : Nat) : Int := (K1 a i).st
abbrev AQO (a : UpI) (i : Nat) : Int := (K1 a i).lo
abbrev AND (a : UpI) (i : Nat) : Int := (K1 a i).hi
abbrev AMH (a : UpI) : Prop := ∀ (i : Nat), i < fJ a -> AOL a i = (gD a.w.g i).st /\ AQO a i = (gD a.w.g i).lo /\ AND a i = (gD a.w.g i).hi
abbrev On (a : UpI) : List Int := AD a.w.b.length λ (i : Nat) => gD a.w.b i
abbrev Nd (a : UpI) : Nat := (On a).length
abbrev N7 (a : UpI) : Prop := Nd a = a.w.b.length
abbrev AFY (a : UpI) (i : Nat) : Int := gD (On a) i
abbrev P1 (a : UpI) : Prop := ∀ (i : Nat), i < Nd a -> AFY a i = gD a.w.b i
abbrev U4 : Value := Value.slice none (0 : Nat) (0 : Nat)
abbrev XU : Prop := U4 = U4
abbrev Hy (a : UpI) : Prop := ∀ (n : Int), a.w.has n = a.w.has n
abbrev Jx (a : UpI) : Prop := ∀ (n : Int), a.w.st n = a.w.st n
abbrev Fq (a : UpI) : Bk := Bk.mk (jP a) (On a) a.w.has a.w.st
abbrev ABJ (a : UpI) (n : Int) : List Ln := AI (Fq a) n
abbrev jY (a : UpI) (n : Int) : Nat := (ABJ a n).length
abbrev Jw (a : UpI) (n : Int) (i : Nat) : Ln := gD (ABJ a n) i
abbrev ABK (a : UpI) (n : Int) (i : Nat) : Int := (Jw a n i).a0
abbrev Z6 (a : UpI) (n : Int) (i : Nat) : Int := (Jw a n i).a1
abbrev ACE (a : UpI) (n : Int) (i : Nat) : Int := (Jw a n i).b0
abbrev AIR (a : UpI) (n : Int) (i : Nat) : Int := (Jw a n i).b1
abbrev ADN (a : UpI) : Prop := ∀ (n : Int), jY a n = (AI a.w n).length /\ ∀ (i : Nat), i < jY a n -> ABK a n i = (gD (AI a.w n) i).a0 /\ Z6 a n i = (gD (AI a.w n) i).a1 /\ ACE a n i = (gD
 (AI a.w n) i).b0 /\ AIR a n i = (gD (AI a.w n) i).b1
abbrev jN (i : Nat) (a : UpI) (n : Int) : Prop := i < (AI a.w n).length
abbrev ADK (a : UpI) : Prop := fJ a <= (24 : Nat) /\ (∀ (x : Gau), List.Mem x (jP a) -> (0 : Int) <= x.st /\ x.st <= (2000 : Int) /\ (0 : Int) <= x.lo /\ x.lo <= x.hi /\ x.hi <= (200000 : Int)) /\ Nd a <= (24 :
 Nat) /\ List.Pairwise (λ (x1 x2 : Int) => x1 < x2) (On a) /\ ∀ (x : Int), List.Mem x (On a) -> (1 : Int) <= x /\ x <= (2000 : Int)
abbrev V0 (a : UpI) : Span := AP (Fq a) a.k
abbrev O4 (a : UpI) : Prop := a.w.g.length = a.w.g.length
abbrev Z5 (a : UpI) : Prop := ∀ (i : Nat), i < a.w.g.length -> (gD a.w.g i).st = (gD a.w.g i).st /\ (gD a.w.g i).lo = (gD a.w.g i).lo /\ (gD a.w.g i).hi = (gD a.w.g i).hi
abbrev AFB (a : UpI) : Prop := a.w.b.length = a.w.b.length
abbrev AFW (a : UpI) : Prop := ∀ (i : Nat), i < a.w.b.length -> gD a.w.b i = gD a.w.b i
abbrev gK (a : UpI) : Prop := a.f.n = a.f.n /\ a.f.d = a.f.d
abbrev S8 (a : UpI) : Prop := O4 a /\ Z5 a /\ AFB a /\ AFW a /\ XU /\ Hy a /\ Jx a /\ (∀ (n : Int), (AI a.w n).length = (AI a.w n).length /\ ∀ (i : Nat), jN i a n -> (gD (AI
 a.w n) i).a0 = (gD (AI a.w n) i).a0 /\ (gD (AI a.w n) i).a1 = (gD (AI a.w n) i).a1 /\ (gD (AI a.w n) i).b0 = (gD (AI a.w n) i).b0 /\ (gD (AI a.w n) i).b1 = (gD (AI a.w n) i).b1) /\ gK a
abbrev AHE (a : LH) : Int := a.hi - a.lo
abbrev jR (a : LH) : Nat := (AHE a).toNat
abbrev gT (a : UpI) (a1 : LH) : Prop := (AP a.w a.k).lo - (1 : Int) <= a1.lo /\ a1.lo <= a1.hi /\ a1.hi <= (AP a.w a.k).hi /\ ∀ (m : Nat), jR a1 <= m -> upM mH a = J5 (upP mH a) m a1.lo a1.hi
abbrev JM (a : LH) : Int := IntKind.i64.wrap (a.lo + IntKind.i64.wrap ((IntKind.i64.wrap (IntKind.i64.wrap (AHE a) + (1 : Int))).tdiv (2 : Int)))
abbrev ACY (a : UpI) (a1 : LH) : BkT := BkT.mk (Fq a) (JM a1)
abbrev TU (a : UpI) (a1 : LH) : Bk := BY (Fq a) (kB (ACY a a1))
abbrev P4 (a : UpI) (a1 : LH) : List Gau := (TU a a1).g
abbrev kE (a : UpI) (a1 : LH) (i : Nat) : Gau := gD (P4 a a1) i
abbrev AFS (a : UpI) (a1 : LH) : List Int := (TU a a1).b
abbrev O6 (a : UpI) (a1 : LH) : Bnd := ZN (lB (ACY a a1)) (JM a1)
abbrev O1 (a : UpI) (a1 : LH) : Rt := (O6 a a1).lo
abbrev AHK (a : UpI) (a1 : LH) : Int := (O1 a a1).n
abbrev AFR (a : UpI) (a1 : LH) : Int := (O1 a a1).d
abbrev AIJ (a : UpI) (a1 : LH) : Rt := (O6 a a1).hi
abbrev O5 (a : UpI) (a1 : LH) : Int := (AIJ a a1).n
abbrev Q6 (a : UpI) (a1 : LH) : Int := (AIJ a a1).d
abbrev kP (a : UpI) (a1 : LH) : Bnd := dBnd (DVal.agg [CH (AHK a a1), CH (AFR a a1), CH (O5 a a1), CH (Q6 a a1)])
abbrev W9 (a : UpI) (a1 : LH) : Rt := (kP a a1).lo
abbrev AFJ (a : UpI) (a1 : LH) : Rt := (kP a a1).hi
abbrev AEY (a : UpI) (a1 : LH) (n : Int) : List Ln := AI (TU a a1) n
abbrev Iq (a : UpI) (a1 : LH) (n : Int) (i : Nat) : Ln := gD (AEY a a1 n) i
abbrev V9 (a : UpI) (a1 : LH) : Prop := O4 a /\ Z5 a /\ AFB a /\ AFW a /\ XU /\ (∀ (n : Int), a.w.has n = (TU a a1).has n) /\ (∀ (n : Int), a.w.st n = (TU a a1).st n) /\ (∀ (n :
 Int), (AI a.w n).length = (AEY a a1 n).length /\ ∀ (i : Nat), jN i a n -> (gD (AI a.w n) i).a0 = (Iq a a1 n i).a0 /\ (gD (AI a.w n) i).a1 = (Iq a a1 n i).a1 /\ (gD (AI a.w n) i).b0 = (Iq a a1
 n i).b0 /\ (gD (AI a.w n) i).b1 = (Iq a a1 n i).b1) /\ gK a
abbrev AGM (a : UpI) (a1 : LH) (a2 : LH) : Prop := gT a a1 /\ jR a1 < jR a2
theorem BVT (a : UpI) : (BSU a) = ((a.k = a.k /\ AKX a /\ AMH a /\ N7 a /\ P1 a /\ XU /\ Hy a /\ Jx a /\ ADN a /\ a.w.g.length = fJ a /\ (∀ (i : Nat), i < a.w.g.length -> (gD
 a.w.g i).st = AOL a i /\ (gD a.w.g i).lo = AQO a i /\ (gD a.w.g i).hi = AND a i) /\ a.w.b.length = Nd a /\ (∀ (i : Nat), i < a.w.b.length -> gD a.w.b i = AFY a i) /\ XU /\ Hy a /\ Jx a /\
 (∀ (n : Int), (AI a.w n).length = jY a n /\ ∀ (i : Nat), jN i a n -> (gD (AI a.w n) i).a0 = ABK a n i /\ (gD (AI a.w n) i).a1 = Z6 a n i /\ (gD (AI a.w n) i).b0 = ACE a n i /\ (gD (AI a.w n)
 i).b1 = AIR a n i) /\ ADK a /\ (0 : Int) <= a.k /\ a.k <= (↑(Nd a) : Int)) /\ (∃ (a_1 : LH), (a_1.lo = IntKind.i64.wrap ((V0 a).lo - (1 : Int)) /\ a_1.hi = (V0 a).hi /\ S8 a) /\ gT a a_1) /\
 ∀ (a_1 : LH), gT a a_1 -> bif decide (a_1.lo < a_1.hi) then (Int.ofNat (2 : Nat) = Int.ofNat (0 : Nat) -> False) /\ (JM a_1 = JM a_1 /\ AKX a /\ AMH a /\ N7 a /\ P1 a /\ XU /\ Hy
 a /\ Jx a /\ ADN a /\ a.w.g.length = (P4 a a_1).length /\ (∀ (i : Nat), i < a.w.g.length -> (gD a.w.g i).st = (kE a a_1 i).st /\ (gD a.w.g i).lo = (kE a a_1 i).lo /\ (gD a.w.g i).hi = (kE a
 a_1 i).hi) /\ a.w.b.length = (AFS a a_1).length /\ (∀ (i : Nat), i < a.w.b.length -> gD a.w.b i = gD (AFS a a_1) i) /\ ADK a /\ (0 : Int) <= JM a_1 /\ JM a_1 <= (2000 : Int)) /\ ((W9 a a_1).n =
 AHK a a_1 /\ (W9 a a_1).d = AFR a a_1 /\ (AFJ a a_1).n = O5 a a_1 /\ (AFJ a a_1).d = Q6 a a_1 /\ a.f.n = a.f.n /\ a.f.d = a.f.d /\ gK a) /\ bif mH (BnF.mk (kP a a_1) a.f) then
 ∃ (a_3 : LH), (a_3.lo = JM a_1 /\ a_3.hi = a_1.hi /\ V9 a a_1) /\ AGM a a_3 a_1 else ∃ (a_3 : LH), (a_3.lo = a_1.lo /\ a_3.hi = IntKind.i64.wrap (JM a_1 - (1 : Int)) /\ V9 a a_1) /\ AGM a a_3
 a_1 else upM mH a = a_1.lo /\ S8 a) := by kernel_rfl
theorem L3 (a b c d : Int) : dBnd (.agg [CH a, CH b, CH c, CH d]) = ⟨⟨a, b⟩, ⟨c, d⟩⟩ := rfl
theorem BBO {lo hi : Int} (h1 : -1 <= lo) (h2 : lo <= hi) (h3 : hi <= 2000) : IntKind.i64.wrap (lo + IntKind.i64.wrap ((IntKind.i64.wrap (IntKind.i64.wrap (hi - lo) + 1)).tdiv 2)) = lo + (hi - lo + 1).tdiv 2 := by
 have e : (hi - lo + 1).tdiv 2 = (hi - lo + 1) / 2 := Int.tdiv_eq_ediv_of_nonneg (by omega)
 rw [HM (n := hi - lo) (by omega) (by omega), HM (n := hi - lo + 1) (by omega) (by omega), e, HM (n := (hi - lo + 1) / 2) (by omega) (by omega), HM (by omega) (by omega)]
theorem Pe {w : Bk} {k : Int} (h : GP w.g w.b) (h1 : 0 <= k) (h2 : k <= w.b.length) : 0 <= (AP w k).lo /\ (AP w k).lo <= (AP w k).hi /\ (AP w k).hi <= 2000 /\ ∀ m : Int, (AP w k).lo <= m -> m <= (AP w k).hi -> (FA w.b m : Int) = k := by
 obtain ⟨_, _, _, hasc, hbr⟩ := h
 obtain ⟨n, rfl⟩ := Int.eq_ofNat_of_zero_le h1
 have h2 : n <= w.b.length := Int.ofNat_le.1 h2
 have hb : ∀ i, i < w.b.length -> 1 <= gD w.b i /\ gD w.b i <= 2000 := λ i hi => hbr _ (EG hi)
 have elo : (AP w n).lo = if 0 < n then gD w.b (n - 1) else 0 := by
  show (bif decide ((n : Int) > 0) then gD w.b ((n : Int) - 1).toNat else 0) = _
  by_cases h0 : 0 < n
  ·rw [decide_eq_true (show (n : Int) > 0 by omega), if_pos h0, show ((n : Int) - 1).toNat = n - 1 by omega]; rfl
  ·rw [decide_eq_false (show ¬(n : Int) > 0 by omega), if_neg h0]; rfl
 have ehi : (AP w n).hi = if n < w.b.length then gD w.b n - 1 else 2000 := by
  show (bif decide ((n : Int) < w.b.length) then wr (gD w.b (n : Int).toNat - 1) else 2000) = _
  by_cases h0 : n < w.b.length
  ·have := hb n h0
   rw [decide_eq_true (show (n : Int) < w.b.length by omega), if_pos h0, Int.toNat_natCast]
   unfold wr; rw [HM (by omega) (by omega)]; rfl
  ·rw [decide_eq_false (show ¬(n : Int) < w.b.length by omega), if_neg h0]; rfl
 have h3 : 0 < n -> n < w.b.length -> gD w.b (n - 1) < gD w.b n := λ a b => yN hasc (by omega) b
 refine ⟨?_, ?_, ?_, λ m hm hm2 => ?_⟩
 ·rw [elo]; split
  ·have := hb (n - 1) (by omega); omega
  ·omega
 ·rw [elo, ehi]; split <;> split
  ·have := h3 (by omega) (by omega); omega
  ·exact (hb (n - 1) (by omega)).2
  ·have := hb n (by omega); omega
  ·omega
 ·rw [ehi]; split
  ·have := hb n (by omega); omega
  ·omega
 ·congr 1
  refine ATI h2 (λ j hj => ?_) (λ j hj hj2 => ?_)
  ·rw [elo, if_pos (by omega)] at hm
   have : gD w.b j <= gD w.b (n - 1) := by
    by_cases e : j = n - 1
    ·rw [e]; exact Int.le_refl _
    ·exact Int.le_of_lt (yN hasc (by omega) (by omega))
   exact decide_eq_true (by omega)
  ·rw [ehi, if_pos (by omega)] at hm2
   have : gD w.b n <= gD w.b j := by
    by_cases e : n = j
    ·rw [e]; exact Int.le_refl _
    ·exact Int.le_of_lt (yN hasc (by omega) hj2)
   exact decide_eq_false (by omega)
theorem sU {lo hi : Int} (h : lo < hi) : lo < lo + (hi - lo + 1).tdiv 2 /\ lo + (hi - lo + 1).tdiv 2 <= hi := by
 rw [Int.tdiv_eq_ediv_of_nonneg (by omega)]; omega
theorem EO {pr : Int -> Bool} : ∀ (m n : Nat) (lo hi : Int), lo <= hi -> (hi - lo).toNat <= m -> (hi - lo).toNat <= n -> J5 pr m lo hi = J5 pr n lo hi
 | 0, 0, _, _, _, _, _ => rfl
 | 0, n + 1, lo, hi, h, h1, _ => by unfold J5; rw [decide_eq_false (show ¬lo < hi by omega)]; rfl
 | m + 1, 0, lo, hi, h, _, h1 => by unfold J5; rw [decide_eq_false (show ¬lo < hi by omega)]; rfl
 | m + 1, n + 1, lo, hi, h, h1, h2 => by
  unfold J5
  by_cases hl : lo < hi
  ·obtain ⟨h3, h4⟩ := sU hl
   rw [decide_eq_true hl]
   cases pr (lo + (hi - lo + 1).tdiv 2)
   ·exact EO m n _ _ (by omega) (by omega) (by omega)
   ·exact EO m n _ _ h4 (by omega) (by omega)
  ·rw [decide_eq_false hl]; rfl
theorem BWL (a : UpI) (h : GP a.w.g a.w.b) (hk : 0 <= a.k /\ a.k <= a.w.b.length) (hh : a.w.has a.k = true) : BSU a := by
 rw [BVT]; delta jP fJ AKX K1 AOL AQO AND AMH On Nd N7 AFY P1 U4 XU Hy Jx Fq ABJ jY Jw ABK Z6 ACE AIR ADN jN ADK V0 O4 Z5 AFB AFW gK S8 AHE jR gT JM ACY TU P4 kE AFS O6 O1 AHK AFR AIJ O5 Q6 kP W9 AFJ AEY Iq V9 AGM; simp only [CC, eq_self, implies_true, forall_const, JI, NB, Rm, Rf, MZ, L3, if_true]
 obtain ⟨s1, s2, s3, s4⟩ := Pe h hk.1 hk.2
 refine ⟨⟨h, hk⟩, ⟨⟨(AP a.w a.k).lo - 1, (AP a.w a.k).hi⟩, ⟨(HM (n := (AP a.w a.k).lo - 1) (by omega) (by omega)).symm, rfl⟩, Int.le_refl _, (by omega : (AP a.w a.k).lo - 1 <= (AP a.w a.k).hi), Int.le_refl _, λ m hm => EO 3000 m ((AP a.w a.k).lo - 1) (AP a.w a.k).hi (by omega) (by omega) hm⟩, λ x ⟨i1, i2, i3, i4⟩ => ⟨λ hl => ?_, λ hl => ?_⟩⟩
 ·obtain ⟨m1, m2⟩ := sU hl
  simp only [BBO (lo := x.lo) (hi := x.hi) (by omega) (by omega) (by omega), show ∀ t, kB ⟨a.w, t⟩ = (FA a.w.b t : Int) from λ _ => rfl, s4 _ (show (AP a.w a.k).lo <= x.lo + (x.hi - x.lo + 1).tdiv 2 by omega) (by omega), QR hh, implies_true, and_true]
  obtain ⟨n, hn⟩ : ∃ n, (x.hi - x.lo).toNat = n + 1 := ⟨(x.hi - x.lo).toNat - 1, by omega⟩
  have key := i4 (n + 1) (by omega)
  unfold J5 at key
  rw [decide_eq_true hl] at key
  generalize hM : x.lo + (x.hi - x.lo + 1).tdiv 2 = M at *
  refine ⟨by simp, ⟨h, by omega, by omega⟩, λ hp => ⟨⟨M, x.hi⟩, ⟨rfl, rfl⟩, ⟨(by omega : (AP a.w a.k).lo - 1 <= M), m2, i3, λ m hm => ?_⟩, (by omega : (x.hi - M).toNat < (x.hi - x.lo).toNat)⟩, λ hp => ⟨⟨x.lo, M - 1⟩, ⟨rfl, (HM (n := M - 1) (by omega) (by omega)).symm⟩, ⟨i1, (by omega : x.lo <= M - 1), (by omega : M - 1 <= (AP a.w a.k).hi), λ m hm => ?_⟩, (by omega : (M - 1 - x.lo).toNat < (x.hi - x.lo).toNat)⟩⟩
  ·rw [key, show upP mH a M = true from hp]
   exact EO n m M x.hi m2 (by omega) hm
  ·rw [key, show upP mH a M = false from hp]
   exact EO n m x.lo (M - 1) (by omega) (by omega) hm
 ·rw [i4 0 (by omega)]; rfl
end Go.Bal
