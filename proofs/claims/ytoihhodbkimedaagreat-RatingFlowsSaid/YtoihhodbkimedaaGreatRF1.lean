/- Package rating: what the reference finds for stages, dry stages, and the widest bounds (no program in sight). -/
import Derived.Test.YtoihhodbkimedaaGreatRF0
set_option linter.unusedVariables false
set_option linter.unusedSimpArgs false
namespace Go.Bal
open Go Go.Sym Go.Proofs
theorem AWT {x : GBf} : ∀ (n k : Nat) (o : Span) (m : Bool), (∃ j, k <= j /\ j < k + n /\ (lnK x.a j).length = 0) -> LF x n k o m = (default, 6)
 | 0, k, o, m, ⟨j, h1, h2, _⟩ => by omega
 | n + 1, k, o, m, ⟨j, h1, h2, h3⟩ => by
  unfold LF
  by_cases c : (lnK x.a k).length = 0
  ·rw [decide_eq_true c]; rfl
  ·rw [decide_eq_false c]
   have hj : k + 1 <= j := by
    rcases Nat.lt_or_ge k j with q | q
    ·exact q
    ·exact absurd (by rw [show k = j by omega]; exact h3) c
   show (bif decide (Yo x k < Yn x k) then _ else _) = _
   cases decide (Yo x k < Yn x k)
   ·exact AWT n (k + 1) _ _ ⟨j, hj, by omega, h3⟩
   ·exact AWT n (k + 1) _ _ ⟨j, hj, by omega, h3⟩
theorem AMS {x : GBf} : ∀ (n k : Nat) (o : Span) (m : Bool), (LF x n k o m).2 ≠ 0 -> (LF x n k o m).1 = default
 | 0, k, o, m, h => by
  unfold LF at *
  cases m
  ·rfl
  ·exact absurd rfl h
 | n + 1, k, o, m, h => by
  unfold LF at *
  cases c : decide ((lnK x.a k).length = 0)
  ·rw [c] at h
   cases d : decide (Yo x k < Yn x k)
   ·rw [d] at h; exact AMS n _ _ _ h
   ·rw [d] at h; exact AMS n _ _ _ h
  ·rfl
theorem CQO {a : GB} (h : AH a = 0) {p : Nat} (hp : p <= a.b.length) (hc : HV (DP a.g a.b p) = false) : (lnK a p).length = 0 := by
 obtain ⟨s1, s2, s3, _⟩ := JA (w := AP a) (k := p) (HP h) (by omega) (Int.ofNat_le.2 hp)
 have hn : ¬Can (BE a.g a.b p) := λ q => by rw [(RJ (UG h)).2 q] at hc; cases hc
 have : lnK a p = [] := Classical.byContradiction λ q => hn ((rS (s := BE a.g a.b p) (t := (AR (AP a) p).lo) (JS (UG h)) (by omega)).1 q)
 rw [this]; rfl
theorem CUG {a : GB} (h : AH a = 0) {p : Nat} (hp : p <= a.b.length) (hc : HV (DP a.g a.b p) = true) : (lnK a p).length ≠ 0 := λ q => by
 obtain ⟨s1, s2, s3, _⟩ := JA (w := AP a) (k := p) (HP h) (by omega) (Int.ofNat_le.2 hp)
 exact (rS (s := BE a.g a.b p) (t := (AR (AP a) p).lo) (JS (UG h)) (by omega)).2 ((RJ (UG h)).1 hc) (List.eq_nil_of_length_eq_zero q)
theorem CKX {x : GBf} (h : AH x.a = 0) (hf : inF x = true) {p : Nat} (hp : p <= x.a.b.length) (hc : HV (DP x.a.g x.a.b p) = false) : CA x = (default, 6) := by
 unfold CA; rw [h, hf]
 exact AWT _ _ _ _ ⟨p, Nat.zero_le _, by omega, CQO h hp hc⟩
theorem CJI {x : GB} (h : AH x = 0) (hp : ∀ p : Nat, p <= x.b.length -> HV (DP x.g x.b p) = true) : Thru x.g x.b := by
 have hb := HP h
 obtain ⟨b1, b2, b3, b4, b5⟩ := hb
 have hc : AQ x.g = 0 := by
  unfold AH at h
  cases q : AQ x.g == 0 with
  | true => simpa using q
  | false => rw [q] at h; exact h
 exact ⟨(Ci hc).1, b2, b4, b5, b3, λ k hk => (RJ b2).1 (hp k hk)⟩
def stI (l : List Gau) (b : List Int) (q T : Int) (o : Span) (m : Bool) : Prop := (m = false -> o = default /\ ∀ t, 0 <= t -> t < T -> ¬Ol l b q t) /\ (m = true -> (0 <= o.lo /\ o.lo <= o.hi /\ o.hi < T) /\ Ol l b q o.lo /\ Ol l b q o.hi /\ ∀ t, 0 <= t -> t < T -> Ol l b q t -> o.lo <= t /\ t <= o.hi)
theorem CVS (l : List Gau) (b : List Int) (q : Int) : stI l b q 0 default false := ⟨λ _ => ⟨rfl, λ t _ _ => by omega⟩, λ h => by cases h⟩
theorem CIV {l : List Gau} {b : List Int} {q T : Int} {o : Span} {m : Bool} (h : stI l b q T o m) (hc : ¬Ol l b q T) : stI l b q (T + 1) o m := by
 refine ⟨λ hm => ⟨(h.1 hm).1, λ t a c => ?_⟩, λ hm => ?_⟩
 ·by_cases e : t = T
  ·rw [e]; exact hc
  ·exact (h.1 hm).2 t a (by omega)
 ·obtain ⟨h1, h2, h3, h4⟩ := h.2 hm
  refine ⟨by omega, h2, h3, λ t a c d => ?_⟩
  by_cases e : t = T
  ·rw [e] at d; exact absurd d hc
  ·exact h4 t a (by omega) d
theorem CAR {l : List Gau} {b : List Int} {q T : Int} {o : Span} {m : Bool} (hT : 0 <= T) (h : stI l b q T o m) (hc : Ol l b q T) : stI l b q (T + 1) ⟨bif m then o.lo else T, T⟩ true := by
 refine ⟨λ hm => (by cases hm), λ _ => ?_⟩
 cases m with
 | false =>
  obtain ⟨_, h2⟩ := h.1 rfl
  refine ⟨⟨hT, Int.le_refl _, by show T < T + 1; omega⟩, hc, hc, λ t a c d => ?_⟩
  by_cases e : t = T
  ·show T <= t /\ t <= T; omega
  ·exact absurd d (h2 t a (by omega))
 | true =>
  obtain ⟨h1, h2, h3, h4⟩ := h.2 rfl
  refine ⟨⟨h1.1, by show o.lo <= T; omega, by show T < T + 1; omega⟩, h2, hc, λ t a c d => ?_⟩
  by_cases e : t = T
  ·show o.lo <= t /\ t <= T; omega
  ·have := h4 t a (by omega) d; show o.lo <= t /\ t <= T; omega
theorem BXL {l : List Gau} {b : List Int} {q : Int} {o : Span} {m : Bool} (H : Thru l b) (hq : 0 <= q /\ q <= 200000) (h : stI l b q 2001 o m) : CA ⟨⟨l, b⟩, q⟩ = bif m then (o, 0) else (default, 5) := by
 obtain ⟨s1, s2, s3⟩ := H.stages hq
 have e : CA ⟨⟨l, b⟩, q⟩ = LF ⟨⟨l, b⟩, q⟩ (b.length + 1) 0 default false := by
  unfold CA; rw [H.open, show inF ⟨⟨l, b⟩, q⟩ = true by unfold inF BY; simpa using hq]; rfl
 cases m with
 | false =>
  obtain ⟨_, h2⟩ := h.1 rfl
  have h5 : (CA ⟨⟨l, b⟩, q⟩).2 = 5 := by
   rcases s1 with s1 | s1
   ·obtain ⟨⟨a1, a2⟩, _⟩ := s3 s1
    exact absurd a2 (h2 _ a1.1 (by omega))
   ·exact s1
  have hd : (CA ⟨⟨l, b⟩, q⟩).1 = default := by
   rw [e] at h5 ⊢
   exact AMS _ _ _ _ (by rw [h5]; omega)
  exact Prod.ext hd h5
 | true =>
  obtain ⟨h1, h2, h3, h4⟩ := h.2 rfl
  obtain ⟨a1, a2, a3⟩ := s2 o.lo ⟨h1.1, by omega⟩ h2
  obtain ⟨_, b2, b3⟩ := s2 o.hi ⟨by omega, by omega⟩ h3
  obtain ⟨⟨c1, c2⟩, c3, c4⟩ := s3 a1
  have d1 := h4 _ c1.1 (by omega) c2
  have d2 := h4 _ c3.1 (by omega) c4
  refine Prod.ext ?_ a1
  show (CA ⟨⟨l, b⟩, q⟩).1 = o
  have e1 : (CA ⟨⟨l, b⟩, q⟩).1.lo = o.lo := by omega
  have e2 : (CA ⟨⟨l, b⟩, q⟩).1.hi = o.hi := by omega
  generalize (CA ⟨⟨l, b⟩, q⟩).1 = z at *
  cases z; cases o; simp_all
def tP (b : List Int) (p : Nat) : Int := if p = 0 then 0 else if p <= b.length then gD b (p - 1) else 2001
theorem CVI {l : List Gau} {b : List Int} {p : Nat} (hp : p <= b.length) : tP b p = (CX b p).lo := by
 unfold tP; rw [fS]
 by_cases h : p = 0
 ·rw [if_pos h, if_neg (by omega)]
 ·rw [if_neg h, if_pos hp, if_pos (by omega)]
theorem CMU {b : List Int} (hb : ∀ x ∈ b, 1 <= x /\ x <= 2000) {p : Nat} (hp : p <= b.length) : tP b (p + 1) = (CX b p).hi + 1 := by
 unfold tP; rw [E5 hb, if_neg (by omega)]
 by_cases h : p < b.length
 ·rw [if_pos (by omega), if_pos h, show p + 1 - 1 = p by omega]; omega
 ·rw [if_neg (by omega), if_neg h]; omega
theorem BNT {a b : Rt} (ha : Jg a) (hb : Jg b) : PI a b = false ↔ HC b a := CNU ha hb
theorem CUF {l : List Gau} {b : List Int} (H : Thru l b) {p : Nat} (hp : p <= b.length) {t : Int} (ht : 0 <= t /\ t <= 2000) : FU (DP l b p) t = FU (BE l b p) t := BGF (JS H.ok) (λ x => Pr) ht (H.ne hp ht)
theorem BHK {l : List Gau} {b : List Int} (H : Thru l b) {q : Int} (hq : 0 <= q /\ q <= 200000) {p : Nat} (hp : p <= b.length) {t : Int} (h1 : (CX b p).lo <= t) (h2 : t <= (CX b p).hi) : (bif PI (qR q) (FU (DP l b p) t).lo then true else PI (FU (DP l b p) t).hi (qR q)) = false ↔ Ol l b q t := by
 obtain ⟨s1, s2, s3, s4⟩ := H.span hp
 have ht : 0 <= t /\ t <= 2000 := by omega
 obtain ⟨i1, i2, _⟩ := H.in hp ht
 unfold Ol
 rw [(H.flow ht).2, s4 t h1 h2, CUF H hp ht, <- BNT (BUM hq) i1, <- BNT i2 (BUM hq)]
 cases PI (qR q) (FU (BE l b p) t).lo <;> simp
theorem upO0 {l : List Gau} {b : List Int} (hb : GZ l b) (v : BnO -> Bool) (c : Bnd -> Prop) (hv : ∀ t, (CX b 0).lo <= t -> t <= (CX b 0).hi -> (v ⟨FU (BE l b (0 : Nat)) t⟩ = true ↔ c (FU (BE l b (0 : Nat)) t))) (hm : ∀ t u, (CX b 0).lo <= t -> t <= u -> u <= (CX b 0).hi -> c (FU (BE l b (0 : Nat)) u) -> c (FU (BE l b (0 : Nat)) t)) : ((CX b 0).lo - 1 <= TL v ⟨AP ⟨l, b⟩, 0⟩ /\ TL v ⟨AP ⟨l, b⟩, 0⟩ <= (CX b 0).hi) /\ (∀ t, (CX b 0).lo <= t -> t <= TL v ⟨AP ⟨l, b⟩, 0⟩ -> c (FU (BE l b (0 : Nat)) t)) /\ ∀ t, TL v ⟨AP ⟨l, b⟩, 0⟩ < t -> t <= (CX b 0).hi -> ¬c (FU (BE l b (0 : Nat)) t) := by
 obtain ⟨s1, s2, s3, s4⟩ : 0 <= (CX b 0).lo /\ (CX b 0).lo <= (CX b 0).hi /\ (CX b 0).hi <= 2000 /\ ∀ m : Int, (CX b 0).lo <= m -> m <= (CX b 0).hi -> (ET b m : Int) = 0 := JA (w := AP ⟨l, b⟩) (k := 0) hb (Int.le_refl _) (Int.natCast_nonneg _)
 have hp : ∀ t, (CX b 0).lo <= t -> t <= (CX b 0).hi -> (U2 v ⟨AP ⟨l, b⟩, 0⟩ t = true ↔ c (FU (BE l b (0 : Nat)) t)) := λ t a d => by
  have e : U2 v ⟨AP ⟨l, b⟩, 0⟩ t = v ⟨FU (BE l b (ET b t)) t⟩ := rfl
  rw [e, s4 t a d]; exact hv t a d
 have hs := rP (pr := U2 v ⟨AP ⟨l, b⟩, 0⟩) 3000 ((CX b 0).lo - 1) (CX b 0).hi (by omega) (by omega) (λ m m' a d e f => (hp m (by omega) (by omega)).2 (hm m m' (by omega) d e ((hp m' (by omega) e).1 f)))
 have hi := BGY (pr := U2 v ⟨AP ⟨l, b⟩, 0⟩) 3000 ((CX b 0).lo - 1) (CX b 0).hi (by omega)
 have ho : TL v ⟨AP ⟨l, b⟩, 0⟩ = wB (U2 v ⟨AP ⟨l, b⟩, 0⟩) 3000 ((CX b 0).lo - 1) (CX b 0).hi := rfl
 rw [<- ho] at hs hi
 refine ⟨hi, λ t a d => (hp t a (by omega)).1 (hs.1 t (by omega) d), λ t a d hc => ?_⟩
 have := hs.2 t a d
 rw [(hp t (by omega) d).2 hc] at this; cases this
theorem dry0 {x : GB} (hE : AH x = 0) (hc : HV (DP x.g x.b 0) = true) : (EN x).2 = 0 /\ (-1 <= (EN x).1.lo /\ (EN x).1.lo <= (EN x).1.hi /\ (EN x).1.hi <= (CX x.b 0).hi) /\ ∀ t, 0 <= t /\ t <= (CX x.b 0).hi -> (t <= (EN x).1.lo ↔ (FU (DP x.g x.b 0) t).hi.n = 0) /\ (t <= (EN x).1.hi ↔ (FU (DP x.g x.b 0) t).lo.n = 0) := by
 obtain ⟨l, b⟩ := x
 have hb : GZ l b := HP hE
 have ho := JS (b := b) (k := 0) hb.2.1
 obtain ⟨s1, s2, s3, s4⟩ : 0 <= (CX b 0).lo /\ (CX b 0).lo <= (CX b 0).hi /\ (CX b 0).hi <= 2000 /\ ∀ m : Int, (CX b 0).lo <= m -> m <= (CX b 0).hi -> (ET b m : Int) = 0 := JA (w := AP ⟨l, b⟩) (k := 0) hb (Int.le_refl _) (Int.natCast_nonneg _)
 have hcan : Can (BE l b (0 : Nat)) := (RJ hb.2.1).1 hc
 have hne : ∀ t, (CX b 0).lo <= t -> t <= (CX b 0).hi -> CR (BE l b (0 : Nat)) t ≠ [] := λ t a c => (rS ho (by omega)).2 hcan
 have e : EN ⟨l, b⟩ = (⟨TL Yv ⟨AP ⟨l, b⟩, 0⟩, TL nZ ⟨AP ⟨l, b⟩, 0⟩⟩, 0) := by
  unfold EN
  rw [hE, decide_eq_false (show ¬(lnK ⟨l, b⟩ 0).length = 0 from CUG hE (Nat.zero_le _) hc)]; rfl
 have hin : ∀ t, (CX b 0).lo <= t -> t <= (CX b 0).hi -> Jg (FU (BE l b (0 : Nat)) t).lo /\ Jg (FU (BE l b (0 : Nat)) t).hi /\ HC (FU (BE l b (0 : Nat)) t).lo (FU (BE l b (0 : Nat)) t).hi := λ t a c => cR ho (by omega) (hne t a c)
 obtain ⟨⟨a1, a2⟩, a3, a4⟩ := upO0 hb Yv (λ B => B.hi.n = 0) (λ t a c => (CIY ho (hne t a c)).2) (λ t u a c d f => BJF (hin t a (by omega)).2.1 (hin u (by omega) d).2.1 (rQ ho (by omega) c (by omega) (hne t a (by omega))).2 f)
 obtain ⟨⟨b1, b2⟩, b3, b4⟩ := upO0 hb nZ (λ B => B.lo.n = 0) (λ t a c => (CIY ho (hne t a c)).1) (λ t u a c d f => BJF (hin t a (by omega)).1 (hin u (by omega) d).1 (rQ ho (by omega) c (by omega) (hne t a (by omega))).1 f)
 have z0 : (CX b 0).lo = 0 := by rw [fS]; rfl
 rw [e]
 refine ⟨rfl, ⟨by show -1 <= TL Yv _; omega, ?_, b2⟩, λ t ht => ?_⟩
 ·show TL Yv ⟨AP ⟨l, b⟩, 0⟩ <= TL nZ ⟨AP ⟨l, b⟩, 0⟩
  refine Classical.byContradiction λ hc => ?_
  have c1 : (CX b 0).lo <= TL Yv ⟨AP ⟨l, b⟩, 0⟩ := by omega
  have c2 := a3 _ c1 (Int.le_refl _)
  exact b4 _ (by omega) a2 (BJF (hin _ c1 a2).1 (hin _ c1 a2).2.1 (hin _ c1 a2).2.2 c2)
 ·have t2 : t <= (CX b 0).hi := ht.2
  have t1 : (CX b 0).lo <= t := by omega
  have em : FU (DP l b 0) t = FU (BE l b (0 : Nat)) t := BGF ho (λ x => Pr) (by omega) (hne t t1 t2)
  show (_ ↔ (FU (DP l b 0) t).hi.n = 0) /\ (_ ↔ (FU (DP l b 0) t).lo.n = 0)
  rw [em]
  exact ⟨⟨λ hl => a3 t t1 hl, λ hz => Classical.byContradiction λ hc => a4 t (Int.not_le.1 hc) t2 hz⟩, λ hl => b3 t t1 hl, λ hz => Classical.byContradiction λ hc => b4 t (Int.not_le.1 hc) t2 hz⟩
def dyI (x : GB) (T : Int) (o : Span) : Prop := (0 <= T /\ T <= (CX x.b 0).hi + 1) /\ o = ⟨min (T - 1) (EN x).1.lo, min (T - 1) (EN x).1.hi⟩
def UO (b : Bnd) : Rt := FD (b.hi.n * b.lo.d - b.lo.n * b.hi.d) (b.hi.d * b.lo.d)
def wdB (a : GB) (t : Int) : Bnd := FU (BE a.g a.b (ET a.b t)) t
def wdN (a : GB) (t : Int) : Bool := decide ((CR (BE a.g a.b (ET a.b t)) t).length = 0)
def wdS (a : GB) : Nat -> Int -> Int -> Rt -> Int × Int
 | 0, _, o, _ => (o, 0)
 | n + 1, t, o, r => bif wdN a t then (0, 6) else bif PI r (UO (wdB a t)) then wdS a n (t + 1) t (UO (wdB a t)) else wdS a n (t + 1) o r
structure GBw where
 a : GB
 f : Int
 t : Int
def I7 (x : GBw) : Bool := BY x.f 0 2000 && BY x.t x.f 2000 && decide (x.t - x.f < 200)
def Jh (x : GBw) : Int × Int := bif AH x.a == 0 then (bif I7 x then wdS x.a (x.t - x.f + 1).toNat x.f x.f ⟨-1, 1⟩ else (0, 4)) else (0, AH x.a)
end Go.Bal
