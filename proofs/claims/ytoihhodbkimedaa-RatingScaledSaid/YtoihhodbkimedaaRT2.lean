/- Package rating: the least and the greatest flow (no program in sight). -/
import Derived.Test.YtoihhodbkimedaaRT1
set_option linter.unusedVariables false
set_option linter.unusedSimpArgs false
namespace Go.Bal
open Go Go.Sym Go.Proofs
def FQ (a b : Rt) : Prop := a.n * b.d <= b.n * a.d
def As (r : Rt) : Prop := (0 < r.d /\ r.d <= 2000) /\ 0 <= r.n /\ r.n <= 200000 * r.d
def BS (f : Rl) (t : Int) : Rt := if f.num t < 0 then ⟨0, 1⟩ else if 200000 * f.w < f.num t then ⟨200000, 1⟩ else ⟨f.num t, f.w⟩
theorem EB {f : Rl} {t : Int} (h : 0 < f.w) : 0 < (BS f t).d := by
 unfold BS; split
 ·exact Int.one_pos
 ·split
  ·exact Int.one_pos
  ·exact h
theorem DP {a b c : Rt} (ha : 0 <= a.d) (hb : 0 < b.d) (hc : 0 <= c.d) (h1 : FQ a b) (h2 : FQ b c) : FQ a c := rS hb h1 h2 ha hc
theorem BKC (a : Rt) : FQ a a := Int.le_refl _
theorem M3 {f g : Rl} {t u : Int} (hf : 0 < f.w) (hg : 0 < g.w) (h : f.num t * g.w <= g.num u * f.w) : FQ (BS f t) (BS g u) := by
 unfold BS FQ
 generalize f.num t = a at *
 generalize g.num u = b at *
 generalize f.w = c at *
 generalize g.w = d at *
 by_cases h1 : a < 0
 ·rw [if_pos h1]
  split
  ·simp
  ·split
   ·simp
   ·simp; omega
 ·rw [if_neg h1]
  have ha := Int.mul_nonneg (show 0 <= a by omega) (Int.le_of_lt hg)
  have hb : 0 <= b := VW hf (by rw [Int.zero_mul]; omega)
  rw [if_neg (show ¬b < 0 by omega)]
  by_cases h2 : 200000 * c < a
  ·rw [if_pos h2]
   have h3 := Int.mul_lt_mul_of_pos_right h2 hg
   have h4 : 200000 * d < b := Int.lt_of_mul_lt_mul_right (a := c) (by grind) (Int.le_of_lt hf)
   rw [if_pos h4]; simp
  ·rw [if_neg h2]
   split
   ·simp; omega
   ·exact h
theorem CBH {N W : Int} (hW : 0 < W) : ((UT N W).n < 0 ↔ N < 0) /\ (200000 * (UT N W).d < (UT N W).n ↔ 200000 * W < N) := by
 have hv := ANB (n := N) hW
 have hd := (BDO (n := N) hW).1
 generalize UT N W = r at *
 refine ⟨⟨λ h => ?_, λ h => ?_⟩, λ h => ?_, λ h => ?_⟩
 ·have := Int.mul_neg_of_neg_of_pos h hW
  rcases Int.lt_or_le N 0 with h1 | h1
  ·exact h1
  ·have := Int.mul_nonneg h1 (Int.le_of_lt hd); omega
 ·have := Int.mul_neg_of_neg_of_pos h hd
  rcases Int.lt_or_le r.n 0 with h1 | h1
  ·exact h1
  ·have := Int.mul_nonneg h1 (Int.le_of_lt hW); omega
 ·have := Int.mul_lt_mul_of_pos_right h hW
  exact Int.lt_of_mul_lt_mul_right (a := r.d) (by grind) (Int.le_of_lt hd)
 ·have := Int.mul_lt_mul_of_pos_right h hd
  exact Int.lt_of_mul_lt_mul_right (a := W) (by grind) (Int.le_of_lt hW)
theorem qX {x : Ln} {t : Int} (h : DS x) : (BI x t).n * (BS (DD x) t).d = (BS (DD x) t).n * (BI x t).d := by
 have hW := (AX h).1
 obtain ⟨h1, h2⟩ := CBH (N := (DD x).num t) hW
 have hv := ANB (n := (DD x).num t) hW
 unfold BI SZ BS
 rw [BES]
 by_cases c1 : (DD x).num t < 0
 ·rw [if_pos c1, if_pos (h1.2 c1)]
 ·rw [if_neg c1, if_neg (λ h => c1 (h1.1 h))]
  by_cases c2 : 200000 * (DD x).w < (DD x).num t
  ·rw [if_pos c2, if_pos (h2.2 c2)]
  ·rw [if_neg c2, if_neg (λ h => c2 (h2.1 h))]
   exact hv
theorem CB {x : Ln} {t : Int} (h : DS x) : As (BI x t) := by
 have hd := BNC (t := t) h
 unfold BI SZ
 split
 ·exact ⟨⟨Int.one_pos, by show (1 : Int) <= 2000; omega⟩, Int.le_refl _, by show (0 : Int) <= 200000 * 1; omega⟩
 ·split
  ·exact ⟨⟨Int.one_pos, by show (1 : Int) <= 2000; omega⟩, by show (0 : Int) <= 200000; omega, by show (200000 : Int) <= 200000 * 1; omega⟩
  ·exact ⟨hd, by omega, by omega⟩
theorem Uy {x : Ln} {t : Int} {r : Rt} (h : DS x) (hr : 0 < r.d) : FQ (BI x t) r ↔ FQ (BS (DD x) t) r := by
 have hv := qX (t := t) h
 have h1 := (CB (t := t) h).1.1
 have h2 := EB (t := t) (AX h).1
 exact ⟨λ a => DP (Int.le_of_lt h2) h1 (Int.le_of_lt hr) (by unfold FQ; omega) a, λ a => DP (Int.le_of_lt h1) h2 (Int.le_of_lt hr) (by unfold FQ; omega) a⟩
theorem Du {x : Ln} {t : Int} {r : Rt} (h : DS x) (hr : 0 < r.d) : FQ r (BI x t) ↔ FQ r (BS (DD x) t) := by
 have hv := qX (t := t) h
 have h1 := (CB (t := t) h).1.1
 have h2 := EB (t := t) (AX h).1
 exact ⟨λ a => DP (Int.le_of_lt hr) h1 (Int.le_of_lt h2) a (by unfold FQ; omega), λ a => DP (Int.le_of_lt hr) h2 (Int.le_of_lt h1) a (by unfold FQ; omega)⟩
theorem Ou {a b : Rt} (ha : As a) (hb : As b) : wr (a.n * b.d) = a.n * b.d := by
 obtain ⟨⟨a1, a2⟩, a3, a4⟩ := ha
 obtain ⟨⟨b1, b2⟩, b3, b4⟩ := hb
 have h1 := mulb (A := 400000000) (B := 2000) a3 (by omega) (Int.le_of_lt b1) b2
 exact EO (by omega) (by omega)
theorem CMN {a b : Int} : HJ a b > 0 ↔ b < a := by
 unfold HJ
 by_cases h : a < b
 ·simp [h]; omega
 ·by_cases h2 : b < a
  ·simp [h, h2]
  ·simp [h, h2]
theorem CDP {a b : Int} : HJ a b < 0 ↔ a < b := by
 unfold HJ
 by_cases h : a < b
 ·simp [h]
 ·by_cases h2 : b < a
  ·simp [h, h2]
  ·simp [h, h2]
theorem BIE {a b : Rt} (ha : As a) (hb : As b) : Of a b < 0 ↔ a.n * b.d < b.n * a.d := by
 unfold Of; rw [Ou ha hb, Ou hb ha, CDP]
theorem BHX {a b : Rt} (ha : As a) (hb : As b) : Of a b > 0 ↔ b.n * a.d < a.n * b.d := by
 unfold Of; rw [Ou ha hb, Ou hb ha, CMN]
theorem CES {a b : Rt} (ha : As a) (hb : As b) : PW a b = false ↔ FQ b a := by
 unfold PW FQ; rw [decide_eq_false_iff_not, BIE ha hb]; omega
theorem CGW {a b : Rt} (ha : As a) (hb : As b) : PV a b = false ↔ FQ a b := by
 unfold PV FQ; rw [decide_eq_false_iff_not, BHX ha hb]; omega
theorem zF {lt : Rt -> Rt -> Bool} {le : Rt -> Rt -> Prop} {t : Int} (hle : ∀ a b, As a -> As b -> (lt a b = false ↔ le b a)) (hlt : ∀ a b, As a -> As b -> lt a b = true -> le a b) (htr : ∀ a b c, As a -> As b -> As c -> le a b -> le b c -> le a c) (hrf : ∀ a, le a a) : ∀ (l : List Ln) (b : Ln), DS b -> (∀ x ∈ l, DS x) -> (l.foldl (IZ lt t) b = b ∨ l.foldl (IZ lt t) b ∈ l) /\ DS (l.foldl (IZ lt t) b) /\ le (BI (l.foldl (IZ lt t) b) t) (BI b t) /\ ∀ x ∈ l, le (BI (l.foldl (IZ lt t) b) t) (BI x t)
 | [], b, hb, _ => ⟨.inl rfl, hb, hrf _, λ x hx => by cases hx⟩
 | z :: l, b, hb, h => by
  rw [List.foldl_cons]
  have hz := h z (List.mem_cons_self ..)
  have hp : DS (IZ lt t b z) /\ (IZ lt t b z = b ∨ IZ lt t b z = z) /\ le (BI (IZ lt t b z) t) (BI b t) /\ le (BI (IZ lt t b z) t) (BI z t) := by
   unfold IZ
   cases hc : lt (BI z t) (BI b t) with
   | true => exact ⟨hz, .inr rfl, hlt _ _ (CB hz) (CB hb) hc, hrf _⟩
   | false => exact ⟨hb, .inl rfl, hrf _, (hle _ _ (CB hz) (CB hb)).1 hc⟩
  obtain ⟨p1, p2, p3, p4⟩ := hp
  obtain ⟨r1, r2, r3, r4⟩ := zF hle hlt htr hrf l (IZ lt t b z) p1 (λ x hx => h x (List.mem_cons_of_mem _ hx))
  refine ⟨?_, r2, htr _ _ _ (CB r2) (CB p1) (CB hb) r3 p3, λ x hx => ?_⟩
  ·rcases r1 with r1 | r1
   ·rw [r1]
    rcases p2 with p2 | p2
    ·exact .inl p2
    ·exact .inr (by rw [p2]; exact List.mem_cons_self ..)
   ·exact .inr (List.mem_cons_of_mem _ r1)
  ·rcases List.mem_cons.1 hx with rfl | hx
   ·exact htr _ _ _ (CB r2) (CB p1) (CB hz) r3 p4
   ·exact r4 x hx
theorem BQA {l : List Ln} {t : Int} (h : ∀ x ∈ l, DS x) (hne : l ≠ []) : LM PW t l ∈ l /\ ∀ x ∈ l, FQ (BI (LM PW t l) t) (BI x t) := by
 have h0 : 0 < l.length := List.length_pos_iff.2 hne
 obtain ⟨r1, r2, r3, r4⟩ := zF (lt := PW) (le := FQ) (t := t) (λ a b ha hb => CES ha hb) (λ a b ha hb hc => by
  unfold PW at hc; have := (BIE ha hb).1 (of_decide_eq_true hc); unfold FQ; omega) (λ a b c ha hb hc h1 h2 => DP (Int.le_of_lt ha.1.1) hb.1.1 (Int.le_of_lt hc.1.1) h1 h2) (λ a => BKC a) l (gD l 0) (h _ (BZ h0)) h
 refine ⟨?_, r4⟩
 rcases r1 with r1 | r1
 ·unfold LM; rw [r1]; exact BZ h0
 ·exact r1
theorem BSS {l : List Ln} {t : Int} (h : ∀ x ∈ l, DS x) (hne : l ≠ []) : LM PV t l ∈ l /\ ∀ x ∈ l, FQ (BI x t) (BI (LM PV t l) t) := by
 have h0 : 0 < l.length := List.length_pos_iff.2 hne
 obtain ⟨r1, r2, r3, r4⟩ := zF (lt := PV) (le := λ a b => FQ b a) (t := t) (λ a b ha hb => CGW ha hb) (λ a b ha hb hc => by
  unfold PV at hc; have := (BHX ha hb).1 (of_decide_eq_true hc); unfold FQ; omega) (λ a b c ha hb hc h1 h2 => DP (Int.le_of_lt hc.1.1) hb.1.1 (Int.le_of_lt ha.1.1) h2 h1) (λ a => BKC a) l (gD l 0) (h _ (BZ h0)) h
 refine ⟨?_, r4⟩
 rcases r1 with r1 | r1
 ·unfold LM; rw [r1]; exact BZ h0
 ·exact r1
theorem AXL {f : Rl} {s : List Gau} {t : Int} (hs : ∀ g ∈ s, GY g) (ht : 0 <= t /\ t <= 2000) (hf : f.ok) (hp : f.passes s) : DW s t ≠ [] := by
 obtain ⟨y, hy, _⟩ := BJI hs ht hf hp
 intro he; rw [he] at hy; cases hy
def IP (s : List Gau) (t : Int) : Bnd := VT (DW s t) t
theorem BNS {s : List Gau} {t : Int} (h : DW s t ≠ []) : IP s t = ⟨BI (LM PW t (DW s t)) t, BI (LM PV t (DW s t)) t⟩ := by
 unfold IP VT; rw [decide_eq_false (λ he => h (List.eq_nil_of_length_eq_zero he))]; rfl
theorem fS {f : Rl} {s : List Gau} {t : Int} (hs : ∀ g ∈ s, GY g) (ht : 0 <= t /\ t <= 2000) (hf : f.ok) (hp : f.passes s) : FQ (IP s t).lo (BS f t) := by
 have hne := AXL hs ht hf hp
 rw [BNS hne]
 obtain ⟨b1, b2⟩ := BQA (t := t) (λ x hx => (IR hs hx).1) hne
 obtain ⟨y, hy, oy, hc⟩ := BJI hs ht hf hp
 have hw := (AX oy).1
 have key : FQ (BS (DD y) t) (BS f t) := by
  rcases hc with hc | hc
  ·have hz : FQ (BS (DD y) t) ⟨0, 1⟩ := by
    unfold BS FQ; split
    ·exact Int.le_refl _
    ·rw [if_neg (by omega)]; show (DD y).num t * 1 <= 0 * _; omega
   refine DP (b := ⟨0, 1⟩) (Int.le_of_lt (EB hw)) Int.one_pos (Int.le_of_lt (EB hf.1)) hz ?_
   unfold BS FQ; split
   ·exact Int.le_refl _
   ·split
    ·show (0 : Int) * 1 <= 200000 * 1; omega
    ·show 0 * f.w <= f.num t * 1; omega
  ·exact M3 hw hf.1 hc
 have ob := (IR hs b1).1
 exact DP (Int.le_of_lt (CB ob).1.1) (CB oy).1.1 (Int.le_of_lt (EB hf.1)) (b2 y hy) ((Uy oy (EB hf.1)).2 key)
theorem ACA {f : Rl} {s : List Gau} {t : Int} (hs : ∀ g ∈ s, GY g) (ht : 0 <= t /\ t <= 2000) (hf : f.ok) (hp : f.passes s) : FQ (BS f t) (IP s t).hi := by
 have hne := AXL hs ht hf hp
 rw [BNS hne]
 obtain ⟨b1, b2⟩ := BSS (t := t) (λ x hx => (IR hs hx).1) hne
 obtain ⟨y, hy, oy, hc⟩ := BVE hs ht hf hp
 have hw := (AX oy).1
 have key : FQ (BS f t) (BS (DD y) t) := by
  rcases hc with hc | hc
  ·have hz : FQ ⟨200000, 1⟩ (BS (DD y) t) := by
    unfold BS FQ
    rw [if_neg (by omega)]; split
    ·exact Int.le_refl _
    ·show 200000 * (DD y).w <= (DD y).num t * 1; omega
   refine DP (b := ⟨200000, 1⟩) (Int.le_of_lt (EB hf.1)) Int.one_pos (Int.le_of_lt (EB hw)) ?_ hz
   unfold BS FQ; split
   ·show (0 : Int) * 1 <= 200000 * 1; omega
   ·split
    ·exact Int.le_refl _
    ·show f.num t * 1 <= 200000 * f.w; omega
  ·exact M3 hf.1 hw hc
 have ob := (IR hs b1).1
 exact DP (Int.le_of_lt (EB hf.1)) (CB oy).1.1 (Int.le_of_lt (CB ob).1.1) ((Du oy (EB hf.1)).2 key) (b2 y hy)
theorem KM {s : List Gau} {t : Int} (hs : ∀ g ∈ s, GY g) (h : DW s t ≠ []) : (∃ y, DS y /\ (DD y).passes s /\ (IP s t).lo = BI y t) /\ ∃ y, DS y /\ (DD y).passes s /\ (IP s t).hi = BI y t := by
 rw [BNS h]
 obtain ⟨b1, _⟩ := BQA (t := t) (λ x hx => (IR hs hx).1) h
 obtain ⟨c1, _⟩ := BSS (t := t) (λ x hx => (IR hs hx).1) h
 exact ⟨⟨_, (IR hs b1).1, (IR hs b1).2, rfl⟩, _, (IR hs c1).1, (IR hs c1).2, rfl⟩
theorem BBG {f : Rl} {t u : Int} (hf : f.ok) (h : t <= u) : FQ (BS f t) (BS f u) := by
 refine M3 hf.1 hf.1 ?_
 have := Int.mul_le_mul_of_nonneg_left h hf.2
 exact Int.mul_le_mul_of_nonneg_right (by unfold Rl.num; omega) (Int.le_of_lt hf.1)
theorem BLW {s : List Gau} {t u : Int} (hs : ∀ g ∈ s, GY g) (ht : 0 <= t) (htu : t <= u) (hu : u <= 2000) (h : DW s t ≠ []) : FQ (IP s t).lo (IP s u).lo /\ FQ (IP s t).hi (IP s u).hi := by
 obtain ⟨_, y, oy, py, ey⟩ := KM hs h
 have h2 : DW s u ≠ [] := AXL hs ⟨by omega, hu⟩ (AX oy) py
 obtain ⟨⟨z, oz, pz, ez⟩, y', oy', py', ey'⟩ := KM hs h2
 obtain ⟨⟨z', oz', pz', ez'⟩, _⟩ := KM hs h
 have dz := EB (f := DD z) (t := t) (AX oz).1
 have dz2 := EB (f := DD z) (t := u) (AX oz).1
 have dy := EB (f := DD y) (t := t) (AX oy).1
 have dy2 := EB (f := DD y) (t := u) (AX oy).1
 refine ⟨?_, ?_⟩
 ·have a1 := fS hs ⟨ht, by omega⟩ (AX oz) pz
  have a2 := BBG (AX oz) htu
  have d1 : 0 < (IP s t).lo.d := by rw [ez']; exact (CB oz').1.1
  have a3 := DP (Int.le_of_lt d1) dz (Int.le_of_lt dz2) a1 a2
  rw [ez]; exact (Du oz d1).2 a3
 ·have a1 := ACA hs ⟨by omega, hu⟩ (AX oy) py
  have a2 := BBG (AX oy) htu
  have d1 : 0 < (IP s u).hi.d := by rw [ey']; exact (CB oy').1.1
  have a3 := DP (Int.le_of_lt dy) dy2 (Int.le_of_lt d1) a2 a1
  rw [ey]; exact (Uy oy d1).2 a3
theorem AMS {s : List Gau} {t : Int} (hs : ∀ g ∈ s, GY g) (ht : 0 <= t /\ t <= 2000) (h : DW s t ≠ []) : As (IP s t).lo /\ As (IP s t).hi /\ FQ (IP s t).lo (IP s t).hi := by
 obtain ⟨⟨z, oz, pz, ez⟩, y, oy, py, ey⟩ := KM hs h
 have a1 := fS hs ht (AX oy) py
 refine ⟨ez ▸ CB oz, ey ▸ CB oy, ?_⟩
 have d1 : 0 < (IP s t).lo.d := by rw [ez]; exact (CB oz).1.1
 rw [ey]; exact (Du oy d1).2 a1
end Go.Bal
