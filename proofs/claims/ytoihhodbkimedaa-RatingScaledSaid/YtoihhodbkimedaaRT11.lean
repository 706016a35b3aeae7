/- Package rating: flows that are so many times as great (no program in sight). -/
import Derived.Test.YtoihhodbkimedaaRT10
import Derived.Test.YtoihhodbkimedaaRatZ
set_option linter.unusedVariables false
set_option linter.unusedSimpArgs false
namespace Go.Bal
open Go Go.Sym Go.Proofs
def Vd (k : Int) (g : Gau) : Gau := ⟨g.st, k * g.lo, k * g.hi⟩
def scF (k : Int) (f : Rl) : Rl := ⟨k * f.p, k * f.q, f.w⟩
def unF (k : Int) (f : Rl) : Rl := ⟨f.p, f.q, k * f.w⟩
def kR (k : Int) (r : Rt) : Rt := ⟨k * r.n, r.d⟩
theorem BFW (k : Int) (f : Rl) (u : Int) : (scF k f).num u = k * f.num u := by unfold scF Rl.num; grind
theorem BSZ (k : Int) (f : Rl) (u : Int) : (unF k f).num u = f.num u := rfl
theorem BNK {k : Int} (hk : 0 < k) {f : Rl} (h : f.ok) : (scF k f).ok := ⟨h.1, Int.mul_nonneg (Int.le_of_lt hk) h.2⟩
theorem CBW {k : Int} (hk : 0 < k) {f : Rl} (h : f.ok) : (unF k f).ok := ⟨Int.mul_pos hk h.1, h.2⟩
theorem CCR {k : Int} (hk : 0 < k) {f : Rl} {g : Gau} (h : f.pass g) : (scF k f).pass (Vd k g) := by
 unfold Rl.pass at *
 show k * g.lo * f.w <= (scF k f).num g.st /\ (scF k f).num g.st <= k * g.hi * f.w
 rw [BFW, Int.mul_assoc, Int.mul_assoc]
 exact ⟨Int.mul_le_mul_of_nonneg_left h.1 (Int.le_of_lt hk), Int.mul_le_mul_of_nonneg_left h.2 (Int.le_of_lt hk)⟩
theorem BVW {k : Int} {f : Rl} {g : Gau} (h : f.pass (Vd k g)) : (unF k f).pass g := by
 unfold Rl.pass at *
 obtain ⟨h1, h2⟩ := h
 have h1 : k * g.lo * f.w <= f.num g.st := h1
 have h2 : f.num g.st <= k * g.hi * f.w := h2
 show g.lo * (k * f.w) <= f.num g.st /\ f.num g.st <= g.hi * (k * f.w)
 rw [show g.lo * (k * f.w) = k * g.lo * f.w by grind, show g.hi * (k * f.w) = k * g.hi * f.w by grind]
 exact ⟨h1, h2⟩
theorem CPG {k : Int} (hk : 0 < k) {a b : Rt} (h : FQ a b) : FQ (kR k a) (kR k b) := by
 unfold FQ kR at *
 show k * a.n * b.d <= k * b.n * a.d
 rw [Int.mul_assoc, Int.mul_assoc]; exact Int.mul_le_mul_of_nonneg_left h (Int.le_of_lt hk)
theorem CNV {k : Int} (hk : 1 <= k) {f : Rl} (hf : 0 < f.w) (t : Int) : FQ (BS (scF k f) t) (kR k (BS f t)) := by
 unfold BS
 rw [BFW, show (scF k f).w = f.w from rfl]
 generalize f.num t = N
 generalize f.w = w at *
 unfold FQ kR
 by_cases h1 : N < 0
 ·have : k * N < 0 := Int.mul_neg_of_pos_of_neg (by omega) h1
  rw [if_pos this, if_pos h1]
  show (0 : Int) * 1 <= k * 0 * 1
  omega
 ·have h2 : ¬k * N < 0 := by have := Int.mul_nonneg (show (0 : Int) <= k by omega) (show 0 <= N by omega); omega
  rw [if_neg h1, if_neg h2]
  have hkN : N <= k * N := by have := Int.mul_le_mul_of_nonneg_right hk (show 0 <= N by omega); omega
  by_cases h3 : 200000 * w < k * N
  ·rw [if_pos h3]
   split
   ·show (200000 : Int) * 1 <= k * 200000 * 1; omega
   ·show (200000 : Int) * w <= k * N * 1; omega
  ·rw [if_neg h3, if_neg (by omega)]
   exact Int.le_refl _
theorem CME {k : Int} (hk : 1 <= k) {f : Rl} (hf : 0 < f.w) (t : Int) (h : FQ (kR k (BS f t)) ⟨200000, 1⟩) : FQ (kR k (BS f t)) (BS (scF k f) t) := by
 revert h
 unfold BS
 rw [BFW, show (scF k f).w = f.w from rfl]
 generalize f.num t = N
 generalize f.w = w at *
 unfold FQ kR
 intro h
 by_cases h1 : N < 0
 ·have : k * N < 0 := Int.mul_neg_of_pos_of_neg (by omega) h1
  rw [if_pos this, if_pos h1]
  show k * 0 * 1 <= (0 : Int) * 1
  omega
 ·have h2 : ¬k * N < 0 := by have := Int.mul_nonneg (show (0 : Int) <= k by omega) (show 0 <= N by omega); omega
  rw [if_neg h1] at h ⊢
  rw [if_neg h2]
  by_cases h3 : 200000 * w < k * N
  ·rw [if_pos h3]
   exact h
  ·rw [if_neg h3]
   have hkN : N <= k * N := by have := Int.mul_le_mul_of_nonneg_right hk (show 0 <= N by omega); omega
   rw [if_neg (by omega)]
   exact Int.le_refl _
theorem COF {k : Int} (hk : 1 <= k) {f : Rl} (hf : 0 < f.w) {t : Int} {r : Rt} (hr : 0 < r.d) (h : FQ (kR k r) ⟨200000, 1⟩) (h2 : FQ r (BS (unF k f) t)) : FQ (kR k r) (BS f t) := by
 revert h h2
 unfold BS
 rw [BSZ, show (unF k f).w = k * f.w from rfl]
 generalize f.num t = N
 generalize f.w = w at *
 unfold FQ kR
 intro h h2
 by_cases h1 : N < 0
 ·rw [if_pos h1] at h2 ⊢
  have h2 : r.n * 1 <= 0 * r.d := h2
  have := Int.mul_le_mul_of_nonneg_left (show r.n <= 0 by omega) (show (0 : Int) <= k by omega)
  show k * r.n * 1 <= 0 * r.d
  omega
 ·rw [if_neg h1] at h2 ⊢
  by_cases h3 : 200000 * w < N
  ·rw [if_pos h3]; exact h
  ·rw [if_neg h3]
   have hkw : w <= k * w := by have := Int.mul_le_mul_of_nonneg_right hk (show 0 <= w by omega); omega
   rw [if_neg (by omega)] at h2
   have h2 : r.n * (k * w) <= N * r.d := h2
   show k * r.n * w <= N * r.d
   rw [show k * r.n * w = r.n * (k * w) by grind]; exact h2
theorem CEJ {k : Int} (hk : 1 <= k) {f : Rl} (hf : 0 < f.w) {t : Int} {r : Rt} (hr : 0 < r.d) (h : k * r.n < 200000 * r.d) (h2 : FQ (BS (unF k f) t) r) : FQ (BS f t) (kR k r) := by
 revert h h2
 unfold BS
 rw [BSZ, show (unF k f).w = k * f.w from rfl]
 generalize f.num t = N
 generalize f.w = w at *
 unfold FQ kR
 intro h h2
 by_cases h1 : N < 0
 ·rw [if_pos h1] at h2 ⊢
  have h2 : 0 * r.d <= r.n * 1 := h2
  have := Int.mul_nonneg (show (0 : Int) <= k by omega) (show 0 <= r.n by omega)
  show 0 * r.d <= k * r.n * 1
  omega
 ·rw [if_neg h1] at h2 ⊢
  by_cases h4 : 200000 * (k * w) < N
  ·rw [if_pos h4] at h2
   have h2 : 200000 * r.d <= r.n * 1 := h2
   have : r.n <= k * r.n := by have := Int.mul_le_mul_of_nonneg_right hk (show 0 <= r.n by omega); omega
   omega
  ·rw [if_neg h4] at h2
   have h2 : N * r.d <= r.n * (k * w) := h2
   have h5 : N * r.d <= k * r.n * w := by rw [show k * r.n * w = r.n * (k * w) by grind]; exact h2
   by_cases h3 : 200000 * w < N
   ·have a1 := Int.mul_lt_mul_of_pos_right h3 hr
    have a2 := Int.mul_lt_mul_of_pos_right h hf
    have : 200000 * w * r.d = 200000 * r.d * w := by grind
    omega
   ·rw [if_neg h3]; exact h5
theorem BSW {x : Ln} {t : Int} (h : DS x) (k : Int) {r : Rt} : (FQ r (kR k (BS (DD x) t)) -> 0 < r.d -> FQ r (kR k (BI x t))) /\ (FQ (kR k (BS (DD x) t)) r -> 0 < r.d -> FQ (kR k (BI x t)) r) := by
 have hv := qX (t := t) h
 have d1 : 0 < (BI x t).d := (CB h).1.1
 have d2 : 0 < (BS (DD x) t).d := EB (AX h).1
 revert hv d1 d2
 generalize BI x t = a
 generalize BS (DD x) t = b
 intro hv d1 d2
 unfold FQ kR
 refine ⟨λ h1 hr => ?_, λ h1 hr => ?_⟩
 ·have h1 : r.n * b.d <= k * b.n * r.d := h1
  show r.n * a.d <= k * a.n * r.d
  have := Int.mul_le_mul_of_nonneg_right h1 (Int.le_of_lt d1)
  refine Int.le_of_mul_le_mul_right ?_ d2
  have e1 : r.n * a.d * b.d = r.n * b.d * a.d := by grind
  have e2 : k * a.n * r.d * b.d = k * b.n * r.d * a.d := by grind
  omega
 ·have h1 : k * b.n * r.d <= r.n * b.d := h1
  show k * a.n * r.d <= r.n * a.d
  have := Int.mul_le_mul_of_nonneg_right h1 (Int.le_of_lt d1)
  refine Int.le_of_mul_le_mul_right ?_ d2
  have e1 : r.n * a.d * b.d = r.n * b.d * a.d := by grind
  have e2 : k * a.n * r.d * b.d = k * b.n * r.d * a.d := by grind
  omega
theorem AIQ {a b c : Rt} (ha : 0 < a.d) (hb : 0 < b.d) (hc : 0 < c.d) (h1 : FQ a b) (h2 : FQ b c) : FQ a c := DP (Int.le_of_lt ha) hb (Int.le_of_lt hc) h1 h2
theorem BUU {s u : List Gau} {t k : Int} (hk : 1 <= k) (hs : ∀ g ∈ s, GY g) (hu : ∀ g ∈ u, GY g) (ht : 0 <= t /\ t <= 2000) (f1 : ∀ f : Rl, f.ok -> f.passes s -> (scF k f).passes u) (f2 : ∀ f : Rl, f.ok -> f.passes u -> (unF k f).passes s) (hne : DW s t ≠ []) (hne2 : DW u t ≠ []) (hc : (IP s t).hi.n * k < 200000 * (IP s t).hi.d) : (IP u t).lo.n * (IP s t).lo.d = k * (IP s t).lo.n * (IP u t).lo.d /\ (IP u t).hi.n * (IP s t).hi.d = k * (IP s t).hi.n * (IP u t).hi.d := by
 obtain ⟨⟨z, oz, pz, ez⟩, y, oy, py, ey⟩ := KM hs hne
 obtain ⟨⟨z', oz', pz', ez'⟩, y', oy', py', ey'⟩ := KM hu hne2
 have hk0 : (0 : Int) < k := by omega
 obtain ⟨i1, i2, i3⟩ := AMS hs ht hne
 obtain ⟨j1, j2, j3⟩ := AMS hu ht hne2
 have hc' : k * (IP s t).hi.n < 200000 * (IP s t).hi.d := by rw [Int.mul_comm k]; exact hc
 have hcl : FQ (kR k (IP s t).hi) ⟨200000, 1⟩ := by
  show k * (IP s t).hi.n * 1 <= 200000 * (IP s t).hi.d
  omega
 have hcl2 : FQ (kR k (IP s t).lo) ⟨200000, 1⟩ := AIQ (a := kR k (IP s t).lo) (b := kR k (IP s t).hi) i1.1.1 i2.1.1 Int.one_pos (CPG hk0 i3) hcl
 -- upwards
 have a1 : FQ (IP u t).lo (kR k (IP s t).lo) := by
  have h1 := fS hu ht (BNK hk0 (AX oz)) (f1 _ (AX oz) pz)
  have h2 := CNV hk (AX oz).1 t
  have h3 := AIQ j1.1.1 (EB (f := scF k (DD z)) (AX oz).1) (c := kR k (BS (DD z) t)) (EB (f := DD z) (AX oz).1) h1 h2
  rw [ez]; exact (BSW oz k).1 h3 j1.1.1
 have a2 : FQ (kR k (IP s t).lo) (IP u t).lo := by
  have h1 := fS hs ht (CBW hk0 (AX oz')) (f2 _ (AX oz') pz')
  have h2 := COF hk (AX oz').1 i1.1.1 hcl2 h1
  rw [ez']; exact (Du oz' (r := kR k (IP s t).lo) i1.1.1).2 h2
 have b1 : FQ (IP u t).hi (kR k (IP s t).hi) := by
  have h1 := ACA hs ht (CBW hk0 (AX oy')) (f2 _ (AX oy') py')
  have h2 := CEJ hk (AX oy').1 i2.1.1 hc' h1
  rw [ey']; exact (Uy oy' (r := kR k (IP s t).hi) i2.1.1).2 h2
 have b2 : FQ (kR k (IP s t).hi) (IP u t).hi := by
  have h1 := ACA hu ht (BNK hk0 (AX oy)) (f1 _ (AX oy) py)
  have hq : FQ (kR k (BS (DD y) t)) ⟨200000, 1⟩ := by
   have hv := qX (t := t) oy
   have d1 : 0 < (BI y t).d := (CB oy).1.1
   have d2 : 0 < (BS (DD y) t).d := EB (AX oy).1
   rw [ey] at hcl
   have hcl : k * (BI y t).n * 1 <= 200000 * (BI y t).d := hcl
   show k * (BS (DD y) t).n * 1 <= 200000 * (BS (DD y) t).d
   have := Int.mul_le_mul_of_nonneg_right hcl (Int.le_of_lt d2)
   refine Int.le_of_mul_le_mul_right ?_ d1
   have e1 : k * (BI y t).n * 1 * (BS (DD y) t).d = k * (BS (DD y) t).n * 1 * (BI y t).d := by grind
   have e2 : 200000 * (BI y t).d * (BS (DD y) t).d = 200000 * (BS (DD y) t).d * (BI y t).d := by grind
   omega
  have h2 := CME hk (AX oy).1 t hq
  have h3 := AIQ (a := kR k (BS (DD y) t)) (EB (f := DD y) (AX oy).1) (EB (f := scF k (DD y)) (AX oy).1) j2.1.1 h2 h1
  rw [ey]; exact (BSW oy k).2 h3 j2.1.1
 unfold FQ kR at a1 a2 b1 b2
 exact ⟨Int.le_antisymm a1 a2, Int.le_antisymm b1 b2⟩
theorem BRH {g : List Gau} {b : List Int} {k : Int} {i : Int} : ∀ x, x ∈ CH (g.map (Vd k)) b i ↔ ∃ y ∈ CH g b i, x = Vd k y := λ x => by
 rw [DU]
 constructor
 ·rintro ⟨h1, h2⟩
  obtain ⟨y, hy, rfl⟩ := List.mem_map.1 h1
  exact ⟨y, DU.2 ⟨hy, h2⟩, rfl⟩
 ·rintro ⟨y, hy, rfl⟩
  obtain ⟨h1, h2⟩ := DU.1 hy
  exact ⟨List.mem_map.2 ⟨y, h1, rfl⟩, h2⟩
theorem BSX {g : List Gau} {b : List Int} {k i : Int} (hk : 0 < k) {f : Rl} (h : f.passes (CH g b i)) : (scF k f).passes (CH (g.map (Vd k)) b i) := λ x hx => by
 obtain ⟨y, hy, rfl⟩ := (BRH x).1 hx
 exact CCR hk (h y hy)
theorem CGH {g : List Gau} {b : List Int} {k i : Int} {f : Rl} (h : f.passes (CH (g.map (Vd k)) b i)) : (unF k f).passes (CH g b i) := λ y hy => BVW (h (Vd k y) ((BRH _).2 ⟨y, hy, rfl⟩))
theorem Thru.sc {g : List Gau} {b : List Int} (h : Thru g b) {k : Int} (hk : 1 <= k /\ k <= 5) (hg : ∀ x ∈ g, x.hi <= 2000) : Thru (g.map (Vd k)) b := by
 have ho : ∀ x ∈ g.map (Vd k), GY x := λ x hx => by
  obtain ⟨y, hy, rfl⟩ := List.mem_map.1 hx
  obtain ⟨a1, a2, a3, a4, a5⟩ := h.ok y hy
  have := hg y hy
  have b1 := Int.mul_nonneg (show (0 : Int) <= k by omega) a3
  have b2 := Int.mul_le_mul_of_nonneg_left a4 (show (0 : Int) <= k by omega)
  have b3 := Int.mul_le_mul_of_nonneg_right hk.2 (show 0 <= y.hi by omega)
  exact ⟨a1, a2, b1, b2, by show k * y.hi <= 200000; omega⟩
 refine ⟨by rw [List.length_map]; exact h.len, ho, h.asc, h.brk, h.few, λ i hi => ?_⟩
 obtain ⟨x, h1, h2⟩ := h.thru i hi
 exact BDB (FV ho) (BNK (by omega) (AX h1)) (BSX (by omega) h2)
theorem CER {g : List Gau} {b : List Int} (h : Thru g b) {k : Int} (hk : 1 <= k /\ k <= 5) (hg : ∀ x ∈ g, x.hi <= 2000) {t : Int} (ht : 0 <= t /\ t <= 2000) (hc : (AS ⟨g, b, t⟩).hi.n * k < 200000 * (AS ⟨g, b, t⟩).hi.d) : (AS ⟨g.map (Vd k), b, t⟩).lo.n * (AS ⟨g, b, t⟩).lo.d = k * (AS ⟨g, b, t⟩).lo.n * (AS ⟨g.map (Vd k), b, t⟩).lo.d /\ (AS ⟨g.map (Vd k), b, t⟩).hi.n * (AS ⟨g, b, t⟩).hi.d = k * (AS ⟨g, b, t⟩).hi.n * (AS ⟨g.map (Vd k), b, t⟩).hi.d := by
 have h2 := h.sc hk hg
 rw [(h2.flow ht).2]
 rw [(h.flow ht).2] at hc ⊢
 exact BUU hk.1 (FV h.ok) (FV h2.ok) ht (λ f hf hp => BSX (by omega) hp) (λ f hf hp => CGH hp) (h.ne (RS _ _) ht) (h2.ne (RS _ _) ht) hc
end Go.Bal

namespace Go.Bal
open Go Go.Sym Go.Proofs
def C_cpG : Ctr := { α := List Gau, xs := λ l => [.d (BO l)], L := λ _ => [], val := λ l => .own 0 3 0 l.length, keep := λ l => [(0, .live (rowG l))], pre := λ l => [0 < l.length /\ l.length < 1073741824] }
def BQB : Ann := { ann 7 [] with mt := λ id => id == 2 }
def CIZ (l : List Gau) : Prop := AY Try.prog BQB BCI (AF BCI) (C_cpG.xs l) (AC []) (C_cpG.val l) (C_cpG.keep l) [(0, 3032)] []
theorem CMZ (l : List Gau) : (CIZ l) = (((True /\ (0 < 0 -> 0 = 3)) /\ (True /\ (0 < l.length -> 3 = 3)) /\ (true = true -> 0 < l.length) /\ 0 + l.length <= 9223372036854775807 /\ (0 + l.length) * 24 <= 140737488355328) /\ 0 =
 0 /\ l.length = 0 + l.length /\ l.length = 0 + l.length /\ ∀ (i : Nat), i < l.length -> (gD l i).st = (gD l (i - 0)).st /\ (gD l i).lo = (gD l (i - 0)).lo /\ (gD l i).hi = (gD l (i - 0)).hi) := by kernel_rfl
def C_cpI : Ctr := { α := List Int, xs := λ l => [.d (BL l)], L := λ _ => [], val := λ l => .own 0 1 0 l.length, keep := λ l => [(0, .live (rowI l))], pre := λ l => [0 < l.length /\ l.length < 1073741824] }
def CHO (l : List Int) : Prop := AY Try.prog BQB rR (AF rR) (C_cpI.xs l) (AC []) (C_cpI.val l) (C_cpI.keep l) [(0, 3032)] []
theorem CKI (l : List Int) : (CHO l) = (((True /\ (0 < 0 -> 0 = 1)) /\ (True /\ (0 < l.length -> 1 = 1)) /\ (true = true -> 0 < l.length) /\ 0 + l.length <= 9223372036854775807 /\ (0 + l.length) * 8 <= 140737488355328) /\ 0 = 0
 /\ l.length = 0 + l.length /\ l.length = 0 + l.length /\ ∀ (i : Nat), i < l.length -> gD l i = gD l (i - 0)) := by kernel_rfl
theorem CCE : AG Try.prog BDY (C_cpG.spec UV) := JX C_cpG (λ _ => BQB) [(0, 3032)] [] BXC (λ _ => by kernel_rfl) (λ _ => AE) (λ (l : List Gau) h => by
 show CIZ l; rw [CMZ]; simp only [CC, eq_self, implies_true, forall_const]
 obtain ⟨h1, h2⟩ : 0 < l.length /\ l.length < 1073741824 := h
 exact ⟨⟨by omega, h1, by omega, by omega⟩, λ _ _ => ⟨rfl, rfl, rfl⟩⟩) (λ _ => KJ rfl rfl) _
theorem CLY : AG Try.prog AGY (C_cpI.spec dIs1) := JX C_cpI (λ _ => BQB) [(0, 3032)] [] BKF (λ _ => by kernel_rfl) (λ _ => AE) (λ (l : List Int) h => by
 show CHO l; rw [CKI]; simp only [CC, eq_self, implies_true, forall_const]
 obtain ⟨h1, h2⟩ : 0 < l.length /\ l.length < 1073741824 := h
 exact ⟨⟨by omega, h1, by omega, by omega⟩, λ _ _ => rfl⟩) (λ _ => KJ rfl rfl) _
end Go.Bal
