/- Package rating: Rate, Knots. -/
import Derived.Test.YtoihhodbkimedaaGreatRatT
import Derived.Test.YtoihhodbkimedaaGreatRT2
set_option linter.unusedVariables false
set_option linter.unusedSimpArgs false
namespace Go.Bal
open Go Go.Sym Go.Proofs
def C_Rate : Ctr := { C_few with val := λ (g : List Gau) => .tup [.d (eRtg (BZ g).r), .int (BZ g).e] }
def CAP (g : List Gau) : Prop := AN Try.prog (ann 15 [(WQ, C_few.spec JM)]) BRO (AF BRO) (C_Rate.xs g) (AC []) (C_Rate.val g) [] [] []
theorem CMI (g : List Gau) : (CAP g) = (((AE g.length λ (i : Nat) => gD g i).length = g.length /\ (∀ (i : Nat), i < (AE g.length λ (i : Nat) => gD g i).length -> (gD (AE g.length λ (i : Nat) => gD g i)
 i).st = (gD g i).st /\ (gD (AE g.length λ (i : Nat) => gD g i) i).lo = (gD g i).lo /\ (gD (AE g.length λ (i : Nat) => gD g i) i).hi = (gD g i).hi) /\ (AE g.length λ (i : Nat) => gD g i).length < 20 /\ True) /\ (BZ
 g).r.b.length = (BZ (AE g.length λ (i : Nat) => gD g i)).r.b.length /\ (∀ (i : Nat), i < (BZ g).r.b.length -> gD (BZ g).r.b i = gD (BZ (AE g.length λ (i : Nat) => gD g i)).r.b i) /\ (BZ g).r.l.length = (BZ
 (AE g.length λ (i : Nat) => gD g i)).r.l.length /\ (∀ (i : Nat), i < (BZ g).r.l.length -> (gD (BZ g).r.l i).a0 = (gD (BZ (AE g.length λ (i : Nat) => gD g i)).r.l i).a0 /\ (gD (BZ g).r.l i).a1 = (gD (BZ (AE
 g.length λ (i : Nat) => gD g i)).r.l i).a1 /\ (gD (BZ g).r.l i).b0 = (gD (BZ (AE g.length λ (i : Nat) => gD g i)).r.l i).b0 /\ (gD (BZ g).r.l i).b1 = (gD (BZ (AE g.length λ (i : Nat) => gD g i)).r.l i).b1)
 /\ (BZ g).e = (BZ (AE g.length λ (i : Nat) => gD g i)).e) := by kernel_rfl
def C_Knots : Ctr := { C_few with val := λ (g : List Gau) => .tup [.d (eLL (BZ g).k), .int (BZ g).e] }
def BVD (g : List Gau) : Prop := AN Try.prog (ann 15 [(WQ, C_few.spec JM)]) BJR (AF BJR) (C_Knots.xs g) (AC []) (C_Knots.val g) [] [] []
theorem CIZ (g : List Gau) : (BVD g) = (((AE g.length λ (i : Nat) => gD g i).length = g.length /\ (∀ (i : Nat), i < (AE g.length λ (i : Nat) => gD g i).length -> (gD (AE g.length λ (i : Nat) => gD g i)
 i).st = (gD g i).st /\ (gD (AE g.length λ (i : Nat) => gD g i) i).lo = (gD g i).lo /\ (gD (AE g.length λ (i : Nat) => gD g i) i).hi = (gD g i).hi) /\ (AE g.length λ (i : Nat) => gD g i).length < 20 /\ True) /\ (BZ
 g).k.length = (BZ (AE g.length λ (i : Nat) => gD g i)).k.length /\ (∀ (i : Nat), i < (BZ g).k.length -> (gD (BZ g).k i).length = (gD (BZ (AE g.length λ (i : Nat) => gD g i)).k i).length /\ ∀ (i_1 : Nat), i_1 <
 (gD (BZ g).k i).length -> gD (gD (BZ g).k i) i_1 = gD (gD (BZ (AE g.length λ (i : Nat) => gD g i)).k i) i_1) /\ (BZ g).e = (BZ (AE g.length λ (i : Nat) => gD g i)).e) := by kernel_rfl
theorem CKO : AG Try.prog BQA (C_Rate.spec JM) := HR C_Rate (λ _ => ann 15 [(WQ, C_few.spec JM)]) [] [] CNM (λ _ => by kernel_rfl) (λ _ => AB CBW AD) (λ (g : List Gau) h => by
 show CAP g; rw [CMI]; simp only [CC, eq_self, implies_true, forall_const]
 exact (show g.length < 20 /\ True from h).1) (λ _ => IN rfl rfl) _
theorem CIU : AG Try.prog BIO (C_Knots.spec JM) := HR C_Knots (λ _ => ann 15 [(WQ, C_few.spec JM)]) [] [] CHW (λ _ => by kernel_rfl) (λ _ => AB CBW AD) (λ (g : List Gau) h => by
 show BVD g; rw [CIZ]; simp only [CC, eq_self, implies_true, forall_const]
 exact (show g.length < 20 /\ True from h).1) (λ _ => IN rfl rfl) _
end Go.Bal

namespace Go.Bal
open Go Go.Sym Go.Proofs
def Is (a b : Int) : List Gau := [⟨100, 10, 12⟩, ⟨200, 30, 32⟩, ⟨300, a, b⟩]
def BWJ := pD dI2 λ x => .d (AS (Is x.a x.b))
def BVK : Ann := { ann 14 [] with md := λ id => if id = 1 then some (λ k => if k = 8 then 4 else 0) else none }
def BWC (x : I2) : Prop := AN Try.prog BVK BHL (AF BHL) (xI2 x) (AC []) (.d (AS (Is x.a x.b))) [] [] []
theorem CAV (x : I2) : (BWC x) = ((Is x.a x.b).length = 3 /\ ∀ (i : Nat), i < (Is x.a x.b).length -> ((gD (Is x.a x.b) i).st = bif decide (i = 0) then 100 else bif decide (i - 1 = 0) then 200 else 300)
 /\ ((gD (Is x.a x.b) i).lo = bif decide (i = 0) then 10 else bif decide (i - 1 = 0) then 30 else x.a) /\ (gD (Is x.a x.b) i).hi = bif decide (i = 0) then 12 else bif decide (i - 1 = 0) then 32 else x.b) := by
 kernel_rfl
def CEV := pD dI2 λ x => .d (xQ ⟨x.a, x.b⟩)
def CEQ (x : I2) : Prop := AN Try.prog (ann 8 []) gL (AF gL) (xI2 x) (AC []) (.d (xQ ⟨x.a, x.b⟩)) [] [] []
theorem CJQ (x : I2) : (CEQ x) = (x.a = x.a /\ x.b = x.b) := by kernel_rfl
theorem CEA : AG Try.prog BIA BWJ := EL xI2 hI2 λ x _ => KZ (A := BVK) (ren := []) (fz := []) CJA (by kernel_rfl) AD (by
 show BWC x; rw [CAV]
 refine ⟨rfl, λ i hi => ?_⟩
 match i, hi with
 | 0, _ => exact ⟨rfl, rfl, rfl⟩
 | 1, _ => exact ⟨rfl, rfl, rfl⟩
 | 2, _ => exact ⟨rfl, rfl, rfl⟩)
theorem CKU : AG Try.prog cF CEV := EL xI2 hI2 λ x _ => KZ (A := ann 8 []) (ren := []) (fz := []) BNS (by kernel_rfl) AD (by
 show CEQ x; rw [CJQ]; exact ⟨rfl, rfl⟩)
end Go.Bal

namespace Go.Bal
open Go Go.Sym Go.Proofs
def BVQ : Ann := { ann 178 [(BIA, BWJ), (BQA, C_Rate.spec JM), (BIO, C_Knots.spec JM), (BQI, C_Knot.spec dGK), (BHX, C_Flow.spec Yi), (qE, C_Stages.spec dGBf), (BVX, C_Dry.spec dGB), (cF, CEV)] with md := λ id => if id = 4 then some (λ k => if k = 1 then 4 else 0) else if id = 5 then some (λ k => if k = 4 then 4 else if k = 5 then 4 else 0) else none }
def BXO (n : Nat) : Prop := AN Try.prog BVQ BHO (AF BHO) [] (AC []) (.bool true) [] [] []
abbrev HG : Prop := (3 : Nat) = (3 : Nat)
abbrev z_awake_1 : List Gau := Is (50 : Int) (52 : Int)
abbrev Ak (i : Nat) : Gau := gD z_awake_1 i
abbrev Tm (i : Nat) : Gau := gD (AE z_awake_1.length λ (i : Nat) => Ak i) i
abbrev MV : Prop := ∀ (i : Nat), i < (3 : Nat) -> (Tm i).st = (Ak i).st /\ (Tm i).lo = (Ak i).lo /\ (Tm i).hi = (Ak i).hi
abbrev H8 : Prop := (3 : Nat) < (20 : Nat) /\ True
abbrev z_awake_6 : List Gau := Is (60 : Int) (62 : Int)
abbrev WU (i : Nat) : Gau := gD z_awake_6 i
abbrev Tn (i : Nat) : Gau := gD (AE z_awake_6.length λ (i : Nat) => WU i) i
abbrev E4 : Prop := ∀ (i : Nat), i < (3 : Nat) -> (Tn i).st = (WU i).st /\ (Tn i).lo = (WU i).lo /\ (Tn i).hi = (WU i).hi
abbrev bI : Prop := HG /\ E4 /\ H8
abbrev ND (i : Nat) : Bool := decide (i = (0 : Nat))
abbrev iB (i : Nat) : Int := bif ND i then (0 : Int) else bif decide (i - (1 : Nat) = (0 : Nat)) then (1 : Int) else (2 : Int)
abbrev bE : Prop := (3 : Nat) < (1073741824 : Nat)
abbrev mG : Prop := (2 : Nat) = (2 : Nat)
abbrev kR (i : Nat) : Int := bif ND i then (100 : Int) else (200 : Int)
abbrev nP (i : Nat) : Int := bif ND i then (10 : Int) else (5 : Int)
abbrev eI (i : Nat) : Int := bif ND i then (12 : Int) else (8 : Int)
abbrev Cw (i : Nat) : Gau := gD (AE (2 : Nat) λ (i : Nat) => Gau.mk (kR i) (nP i) (eI i)) i
abbrev Zb (i : Nat) : Int := bif ND i then (0 : Int) else (1 : Int)
abbrev nO : Prop := (2 : Nat) < (1073741824 : Nat)
abbrev FA : Prop := (0 : Nat) = (0 : Nat)
abbrev OJ : Prop := ((3 : Nat) < (4611686018427387904 : Nat) /\ (0 : Nat) < (4611686018427387904 : Nat)) /\ True
theorem CGD (n : Nat) : (BXO n) = ((HG /\ MV /\ H8) /\ bI /\ (HG /\ E4 /\ HG /\ (∀ (i : Nat), i < (3 : Nat) -> gD (AE (3 : Nat) λ (i : Nat) => iB i) i =
 iB i) /\ bE /\ bE) /\ (mG /\ (∀ (i : Nat), i < (2 : Nat) -> (Cw i).st = kR i /\ (Cw i).lo = nP i /\ (Cw i).hi = eI i) /\ mG /\ (∀ (i : Nat),
 i < (2 : Nat) -> gD (AE (2 : Nat) λ (i : Nat) => Zb i) i = Zb i) /\ nO /\ nO) /\ bI /\ (HG /\ MV /\ FA /\ FA /\ Int.ofNat (400 : Nat) = Int.ofNat (400 :
 Nat) /\ OJ) /\ (HG /\ MV /\ FA /\ FA /\ Int.ofNat (150 : Nat) = Int.ofNat (150 : Nat) /\ OJ) /\ (HG /\ MV /\ FA /\ FA /\ Int.ofNat (50 : Nat) = Int.ofNat
 (50 : Nat) /\ OJ) /\ (HG /\ MV /\ FA /\ FA /\ Int.ofNat (40 : Nat) = Int.ofNat (40 : Nat) /\ OJ) /\ (HG /\ MV /\ FA /\ FA /\ OJ) /\ true = true) :=
 by kernel_rfl
def BVT : List AVal -> Option (AVal × List Prop)
 | [] => some (.bool true, [])
 | _ => none
def BWH : Sym.Spec := rV BVT
theorem CLF : BXO 0 := by
 rw [CGD]; delta HG z_awake_1 Ak Tm MV H8 z_awake_6 WU Tn E4 bI ND iB bE mG kR nP eI Cw Zb nO FA OJ; simp only [CC, eq_self, implies_true, forall_const]
 decide +kernel
theorem CEE : AG Try.prog BKU BWH := AFM λ xs v p h _ => by
 unfold BVT at h; split at h
 ·cases h; exact KZ (A := BVQ) (ren := []) (fz := []) CDD (by kernel_rfl) (AB CEA (AB CKO (AB CIU (AB CKD (AB BUP (AB BBC (AB CGT (AB CKU AD)))))))) CLF
 ·cases h
end Go.Bal

namespace Go.Bal
open Go Go.Sym Go.Proofs
def ptK (b : List Int) (t : Int) : Nat -> Nat -> Nat
 | 0, k => k
 | n + 1, k => bif decide (gD b k <= t) then ptK b t n (k + 1) else k
def ptM (b : List Int) (t : Int) : Nat := ptK b t b.length 0
theorem CBS {b : List Int} {t : Int} : ∀ (n k : Nat), k <= ptK b t n k /\ ptK b t n k <= k + n
 | 0, k => ⟨Nat.le_refl _, Nat.le_refl _⟩
 | n + 1, k => by
  unfold ptK
  cases decide (gD b k <= t)
  ·exact ⟨Nat.le_refl _, by show k <= _; omega⟩
  ·have := CBS (b := b) (t := t) n (k + 1); show k <= ptK b t n (k + 1) /\ ptK b t n (k + 1) <= _; omega
structure Fits (l : List Gau) (r : Rtg) : Prop where
 len : 1 <= l.length
 ok : ∀ g ∈ l, DJ g
 small : ∀ g ∈ l, g.st <= 199 /\ g.hi <= 2000
 asc : asc r.b
 brk : ∀ x ∈ r.b, 1 <= x /\ x <= 120
 two : r.b.length <= 2
 lines : r.l.length = r.b.length + 1
 rise : ∀ x ∈ r.l, DR x
 pass : ∀ g ∈ l, (CH (gD r.l (ET r.b g.st))).pass g
theorem AOI {b : List Int} {t : Int} : ∀ (n k : Nat), (∀ j, k <= j -> j < ptK b t n k -> gD b j <= t) /\ (ptK b t n k < k + n -> ¬gD b (ptK b t n k) <= t)
 | 0, k => ⟨λ j h1 h2 => by have : j < k := h2; omega, λ h => by have : k < k + 0 := h; omega⟩
 | n + 1, k => by
  unfold ptK
  by_cases hc : gD b k <= t
  ·rw [decide_eq_true hc]
   obtain ⟨h1, h2⟩ := AOI (b := b) (t := t) n (k + 1)
   refine ⟨λ j a1 a2 => ?_, λ h => h2 (by show ptK b t n (k + 1) < _; have : ptK b t n (k + 1) < k + (n + 1) := h; omega)⟩
   by_cases hj : j = k
   ·rw [hj]; exact hc
   ·exact h1 j (by omega) a2
  ·rw [decide_eq_false hc]
   exact ⟨λ j a1 a2 => by have : j < k := a2; omega, λ _ => hc⟩
theorem CRU {b : List Int} {t : Int} (hb : asc b) : ptM b t = ET b t := by
 obtain ⟨h1, h2⟩ := AOI (b := b) (t := t) b.length 0
 have hle := CBS (b := b) (t := t) b.length 0
 symm
 unfold ET ptM
 refine ANP (by omega) (λ j hj => decide_eq_true (h1 j (Nat.zero_le _) hj)) (λ j hj hj2 => decide_eq_false ?_)
 have h3 := h2 (by omega)
 intro hc
 by_cases he : ptK b t b.length 0 = j
 ·exact h3 (he ▸ hc)
 ·have := Gd hb (show ptK b t b.length 0 < j by omega) hj2
  omega
end Go.Bal
