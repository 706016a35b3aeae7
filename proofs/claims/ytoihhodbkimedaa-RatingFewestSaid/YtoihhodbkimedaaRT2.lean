/- Package rating: the least and the greatest flow (no program in sight). -/
import Derived.Test.YtoihhodbkimedaaRT1
set_option linter.unusedVariables false
set_option linter.unusedSimpArgs false
namespace Go.Bal
open Go Go.Sym Go.Proofs
def Si (a b : Rt) : Prop := a.n * b.d <= b.n * a.d
def yK (r : Rt) : Prop := (0 < r.d /\ r.d <= 2000) /\ 0 <= r.n /\ r.n <= 200000 * r.d
def ZN (f : Rl) (t : Int) : Rt := if f.num t < 0 then ⟨0, 1⟩ else if 200000 * f.w < f.num t then ⟨200000, 1⟩ else ⟨f.num t, f.w⟩
theorem ZG {f : Rl} {t : Int} (h : 0 < f.w) : 0 < (ZN f t).d := by
 unfold ZN; split
 ·exact Int.one_pos
 ·split
  ·exact Int.one_pos
  ·exact h
theorem OI {a b c : Rt} (ha : 0 <= a.d) (hb : 0 < b.d) (hc : 0 <= c.d) (h1 : Si a b) (h2 : Si b c) : Si a c := AAG hb h1 h2 ha hc
theorem BBA (a : Rt) : Si a a := Int.le_refl _
theorem ACM {f g : Rl} {t u : Int} (hf : 0 < f.w) (hg : 0 < g.w) (h : f.num t * g.w <= g.num u * f.w) : Si (ZN f t) (ZN g u) := by
 unfold ZN Si
 generalize f.num t = a at *
 generalize g.num u = b at *
 generalize f.w = c at *
 generalize g.w = d at *
 by_cases h1 : a < 0
 ·rw [if_pos h1]
  split
  ·simp
  ·split
   ·simp
   ·simp; omega
 ·rw [if_neg h1]
  have ha := Int.mul_nonneg (show 0 <= a by omega) (Int.le_of_lt hg)
  have hb : 0 <= b := eC hf (by rw [Int.zero_mul]; omega)
  rw [if_neg (show ¬b < 0 by omega)]
  by_cases h2 : 200000 * c < a
  ·rw [if_pos h2]
   have h3 := Int.mul_lt_mul_of_pos_right h2 hg
   have h4 : 200000 * d < b := Int.lt_of_mul_lt_mul_right (a := c) (by grind) (Int.le_of_lt hf)
   rw [if_pos h4]; simp
  ·rw [if_neg h2]
   split
   ·simp; omega
   ·exact h
theorem BTD {N W : Int} (hW : 0 < W) : ((cS N W).n < 0 ↔ N < 0) /\ (200000 * (cS N W).d < (cS N W).n ↔ 200000 * W < N) := by
 have hv := ARQ (n := N) hW
 have hd := (BFB (n := N) hW).1
 generalize cS N W = r at *
 refine ⟨⟨λ h => ?_, λ h => ?_⟩, λ h => ?_, λ h => ?_⟩
 ·have := Int.mul_neg_of_neg_of_pos h hW
  rcases Int.lt_or_le N 0 with h1 | h1
  ·exact h1
  ·have := Int.mul_nonneg h1 (Int.le_of_lt hd); omega
 ·have := Int.mul_neg_of_neg_of_pos h hd
  rcases Int.lt_or_le r.n 0 with h1 | h1
  ·exact h1
  ·have := Int.mul_nonneg h1 (Int.le_of_lt hW); omega
 ·have := Int.mul_lt_mul_of_pos_right h hW
  exact Int.lt_of_mul_lt_mul_right (a := r.d) (by grind) (Int.le_of_lt hd)
 ·have := Int.mul_lt_mul_of_pos_right h hd
  exact Int.lt_of_mul_lt_mul_right (a := W) (by grind) (Int.le_of_lt hW)
theorem BBS {x : Ln} {t : Int} (h : NJ x) : (JP x t).n * (ZN (OJ x) t).d = (ZN (OJ x) t).n * (JP x t).d := by
 have hW := (LB h).1
 obtain ⟨h1, h2⟩ := BTD (N := (OJ x).num t) hW
 have hv := ARQ (n := (OJ x).num t) hW
 unfold JP APN ZN
 rw [BJB]
 by_cases c1 : (OJ x).num t < 0
 ·rw [if_pos c1, if_pos (h1.2 c1)]
 ·rw [if_neg c1, if_neg (λ h => c1 (h1.1 h))]
  by_cases c2 : 200000 * (OJ x).w < (OJ x).num t
  ·rw [if_pos c2, if_pos (h2.2 c2)]
  ·rw [if_neg c2, if_neg (λ h => c2 (h2.1 h))]
   exact hv
theorem HY {x : Ln} {t : Int} (h : NJ x) : yK (JP x t) := by
 have hd := BFE (t := t) h
 unfold JP APN
 split
 ·exact ⟨⟨Int.one_pos, by show (1 : Int) <= 2000; omega⟩, Int.le_refl _, by show (0 : Int) <= 200000 * 1; omega⟩
 ·split
  ·exact ⟨⟨Int.one_pos, by show (1 : Int) <= 2000; omega⟩, by show (0 : Int) <= 200000; omega, by show (200000 : Int) <= 200000 * 1; omega⟩
  ·exact ⟨hd, by omega, by omega⟩
theorem AUP {x : Ln} {t : Int} {r : Rt} (h : NJ x) (hr : 0 < r.d) : Si (JP x t) r ↔ Si (ZN (OJ x) t) r := by
 have hv := BBS (t := t) h
 have h1 := (HY (t := t) h).1.1
 have h2 := ZG (t := t) (LB h).1
 exact ⟨λ a => OI (Int.le_of_lt h2) h1 (Int.le_of_lt hr) (by unfold Si; omega) a, λ a => OI (Int.le_of_lt h1) h2 (Int.le_of_lt hr) (by unfold Si; omega) a⟩
theorem AKM {x : Ln} {t : Int} {r : Rt} (h : NJ x) (hr : 0 < r.d) : Si r (JP x t) ↔ Si r (ZN (OJ x) t) := by
 have hv := BBS (t := t) h
 have h1 := (HY (t := t) h).1.1
 have h2 := ZG (t := t) (LB h).1
 exact ⟨λ a => OI (Int.le_of_lt hr) h1 (Int.le_of_lt h2) a (by unfold Si; omega), λ a => OI (Int.le_of_lt hr) h2 (Int.le_of_lt h1) a (by unfold Si; omega)⟩
theorem vT {a b : Rt} (ha : yK a) (hb : yK b) : wr (a.n * b.d) = a.n * b.d := by
 obtain ⟨⟨a1, a2⟩, a3, a4⟩ := ha
 obtain ⟨⟨b1, b2⟩, b3, b4⟩ := hb
 have h1 := mulb (A := 400000000) (B := 2000) a3 (by omega) (Int.le_of_lt b1) b2
 exact LS (by omega) (by omega)
theorem CFB {a b : Int} : Lh a b > 0 ↔ b < a := by
 unfold Lh
 by_cases h : a < b
 ·simp [h]; omega
 ·by_cases h2 : b < a
  ·simp [h, h2]
  ·simp [h, h2]
theorem BXN {a b : Int} : Lh a b < 0 ↔ a < b := by
 unfold Lh
 by_cases h : a < b
 ·simp [h]
 ·by_cases h2 : b < a
  ·simp [h, h2]
  ·simp [h, h2]
theorem AVN {a b : Rt} (ha : yK a) (hb : yK b) : rE a b < 0 ↔ a.n * b.d < b.n * a.d := by
 unfold rE; rw [vT ha hb, vT hb ha, BXN]
theorem AVD {a b : Rt} (ha : yK a) (hb : yK b) : rE a b > 0 ↔ b.n * a.d < a.n * b.d := by
 unfold rE; rw [vT ha hb, vT hb ha, CFB]
theorem BYC {a b : Rt} (ha : yK a) (hb : yK b) : xH a b = false ↔ Si b a := by
 unfold xH Si; rw [decide_eq_false_iff_not, AVN ha hb]; omega
theorem BUR {a b : Rt} (ha : yK a) (hb : yK b) : xV a b = false ↔ Si a b := by
 unfold xV Si; rw [decide_eq_false_iff_not, AVD ha hb]; omega
theorem AFU {lt : Rt -> Rt -> Bool} {le : Rt -> Rt -> Prop} {t : Int} (hle : ∀ a b, yK a -> yK b -> (lt a b = false ↔ le b a)) (hlt : ∀ a b, yK a -> yK b -> lt a b = true -> le a b) (htr : ∀ a b c, yK a -> yK b -> yK c -> le a b -> le b c -> le a c) (hrf : ∀ a, le a a) : ∀ (l : List Ln) (b : Ln), NJ b -> (∀ x ∈ l, NJ x) -> (l.foldl (Ey lt t) b = b ∨ l.foldl (Ey lt t) b ∈ l) /\ NJ (l.foldl (Ey lt t) b) /\ le (JP (l.foldl (Ey lt t) b) t) (JP b t) /\ ∀ x ∈ l, le (JP (l.foldl (Ey lt t) b) t) (JP x t)
 | [], b, hb, _ => ⟨.inl rfl, hb, hrf _, λ x hx => by cases hx⟩
 | z :: l, b, hb, h => by
  rw [List.foldl_cons]
  have hz := h z (List.mem_cons_self ..)
  have hp : NJ (Ey lt t b z) /\ (Ey lt t b z = b ∨ Ey lt t b z = z) /\ le (JP (Ey lt t b z) t) (JP b t) /\ le (JP (Ey lt t b z) t) (JP z t) := by
   unfold Ey
   cases hc : lt (JP z t) (JP b t) with
   | true => exact ⟨hz, .inr rfl, hlt _ _ (HY hz) (HY hb) hc, hrf _⟩
   | false => exact ⟨hb, .inl rfl, hrf _, (hle _ _ (HY hz) (HY hb)).1 hc⟩
  obtain ⟨p1, p2, p3, p4⟩ := hp
  obtain ⟨r1, r2, r3, r4⟩ := AFU hle hlt htr hrf l (Ey lt t b z) p1 (λ x hx => h x (List.mem_cons_of_mem _ hx))
  refine ⟨?_, r2, htr _ _ _ (HY r2) (HY p1) (HY hb) r3 p3, λ x hx => ?_⟩
  ·rcases r1 with r1 | r1
   ·rw [r1]
    rcases p2 with p2 | p2
    ·exact .inl p2
    ·exact .inr (by rw [p2]; exact List.mem_cons_self ..)
   ·exact .inr (List.mem_cons_of_mem _ r1)
  ·rcases List.mem_cons.1 hx with rfl | hx
   ·exact htr _ _ _ (HY r2) (HY p1) (HY hz) r3 p4
   ·exact r4 x hx
theorem BIC {l : List Ln} {t : Int} (h : ∀ x ∈ l, NJ x) (hne : l ≠ []) : Yi xH t l ∈ l /\ ∀ x ∈ l, Si (JP (Yi xH t l) t) (JP x t) := by
 have h0 : 0 < l.length := List.length_pos_iff.2 hne
 obtain ⟨r1, r2, r3, r4⟩ := AFU (lt := xH) (le := Si) (t := t) (λ a b ha hb => BYC ha hb) (λ a b ha hb hc => by
  unfold xH at hc; have := (AVN ha hb).1 (of_decide_eq_true hc); unfold Si; omega) (λ a b c ha hb hc h1 h2 => OI (Int.le_of_lt ha.1.1) hb.1.1 (Int.le_of_lt hc.1.1) h1 h2) (λ a => BBA a) l (gD l 0) (h _ (DU h0)) h
 refine ⟨?_, r4⟩
 rcases r1 with r1 | r1
 ·unfold Yi; rw [r1]; exact DU h0
 ·exact r1
theorem BHU {l : List Ln} {t : Int} (h : ∀ x ∈ l, NJ x) (hne : l ≠ []) : Yi xV t l ∈ l /\ ∀ x ∈ l, Si (JP x t) (JP (Yi xV t l) t) := by
 have h0 : 0 < l.length := List.length_pos_iff.2 hne
 obtain ⟨r1, r2, r3, r4⟩ := AFU (lt := xV) (le := λ a b => Si b a) (t := t) (λ a b ha hb => BUR ha hb) (λ a b ha hb hc => by
  unfold xV at hc; have := (AVD ha hb).1 (of_decide_eq_true hc); unfold Si; omega) (λ a b c ha hb hc h1 h2 => OI (Int.le_of_lt hc.1.1) hb.1.1 (Int.le_of_lt ha.1.1) h2 h1) (λ a => BBA a) l (gD l 0) (h _ (DU h0)) h
 refine ⟨?_, r4⟩
 rcases r1 with r1 | r1
 ·unfold Yi; rw [r1]; exact DU h0
 ·exact r1
theorem AXO {f : Rl} {s : List Gau} {t : Int} (hs : ∀ g ∈ s, XH g) (ht : 0 <= t /\ t <= 2000) (hf : f.ok) (hp : f.passes s) : UD s t ≠ [] := by
 obtain ⟨y, hy, _⟩ := BAE hs ht hf hp
 intro he; rw [he] at hy; cases hy
def rF (s : List Gau) (t : Int) : Bnd := bndM (UD s t) t
theorem BDN {s : List Gau} {t : Int} (h : UD s t ≠ []) : rF s t = ⟨JP (Yi xH t (UD s t)) t, JP (Yi xV t (UD s t)) t⟩ := by
 unfold rF bndM; rw [decide_eq_false (λ he => h (List.eq_nil_of_length_eq_zero he))]; rfl
theorem BFP {f : Rl} {s : List Gau} {t : Int} (hs : ∀ g ∈ s, XH g) (ht : 0 <= t /\ t <= 2000) (hf : f.ok) (hp : f.passes s) : Si (rF s t).lo (ZN f t) := by
 have hne := AXO hs ht hf hp
 rw [BDN hne]
 obtain ⟨b1, b2⟩ := BIC (t := t) (λ x hx => (Er hs hx).1) hne
 obtain ⟨y, hy, oy, hc⟩ := BAE hs ht hf hp
 have hw := (LB oy).1
 have key : Si (ZN (OJ y) t) (ZN f t) := by
  rcases hc with hc | hc
  ·have hz : Si (ZN (OJ y) t) ⟨0, 1⟩ := by
    unfold ZN Si; split
    ·exact Int.le_refl _
    ·rw [if_neg (by omega)]; show (OJ y).num t * 1 <= 0 * _; omega
   refine OI (b := ⟨0, 1⟩) (Int.le_of_lt (ZG hw)) Int.one_pos (Int.le_of_lt (ZG hf.1)) hz ?_
   unfold ZN Si; split
   ·exact Int.le_refl _
   ·split
    ·show (0 : Int) * 1 <= 200000 * 1; omega
    ·show 0 * f.w <= f.num t * 1; omega
  ·exact ACM hw hf.1 hc
 have ob := (Er hs b1).1
 exact OI (Int.le_of_lt (HY ob).1.1) (HY oy).1.1 (Int.le_of_lt (ZG hf.1)) (b2 y hy) ((AUP oy (ZG hf.1)).2 key)
theorem BRZ {f : Rl} {s : List Gau} {t : Int} (hs : ∀ g ∈ s, XH g) (ht : 0 <= t /\ t <= 2000) (hf : f.ok) (hp : f.passes s) : Si (ZN f t) (rF s t).hi := by
 have hne := AXO hs ht hf hp
 rw [BDN hne]
 obtain ⟨b1, b2⟩ := BHU (t := t) (λ x hx => (Er hs hx).1) hne
 obtain ⟨y, hy, oy, hc⟩ := BKS hs ht hf hp
 have hw := (LB oy).1
 have key : Si (ZN f t) (ZN (OJ y) t) := by
  rcases hc with hc | hc
  ·have hz : Si ⟨200000, 1⟩ (ZN (OJ y) t) := by
    unfold ZN Si
    rw [if_neg (by omega)]; split
    ·exact Int.le_refl _
    ·show 200000 * (OJ y).w <= (OJ y).num t * 1; omega
   refine OI (b := ⟨200000, 1⟩) (Int.le_of_lt (ZG hf.1)) Int.one_pos (Int.le_of_lt (ZG hw)) ?_ hz
   unfold ZN Si; split
   ·show (0 : Int) * 1 <= 200000 * 1; omega
   ·split
    ·exact Int.le_refl _
    ·show f.num t * 1 <= 200000 * f.w; omega
  ·exact ACM hf.1 hw hc
 have ob := (Er hs b1).1
 exact OI (Int.le_of_lt (ZG hf.1)) (HY oy).1.1 (Int.le_of_lt (HY ob).1.1) ((AKM oy (ZG hf.1)).2 key) (b2 y hy)
theorem ABK {s : List Gau} {t : Int} (hs : ∀ g ∈ s, XH g) (h : UD s t ≠ []) : (∃ y, NJ y /\ (OJ y).passes s /\ (rF s t).lo = JP y t) /\ ∃ y, NJ y /\ (OJ y).passes s /\ (rF s t).hi = JP y t := by
 rw [BDN h]
 obtain ⟨b1, _⟩ := BIC (t := t) (λ x hx => (Er hs hx).1) h
 obtain ⟨c1, _⟩ := BHU (t := t) (λ x hx => (Er hs hx).1) h
 exact ⟨⟨_, (Er hs b1).1, (Er hs b1).2, rfl⟩, _, (Er hs c1).1, (Er hs c1).2, rfl⟩
theorem AUC {f : Rl} {t u : Int} (hf : f.ok) (h : t <= u) : Si (ZN f t) (ZN f u) := by
 refine ACM hf.1 hf.1 ?_
 have := Int.mul_le_mul_of_nonneg_left h hf.2
 exact Int.mul_le_mul_of_nonneg_right (by unfold Rl.num; omega) (Int.le_of_lt hf.1)
theorem AYV {s : List Gau} {t u : Int} (hs : ∀ g ∈ s, XH g) (ht : 0 <= t) (htu : t <= u) (hu : u <= 2000) (h : UD s t ≠ []) : Si (rF s t).lo (rF s u).lo /\ Si (rF s t).hi (rF s u).hi := by
 obtain ⟨_, y, oy, py, ey⟩ := ABK hs h
 have h2 : UD s u ≠ [] := AXO hs ⟨by omega, hu⟩ (LB oy) py
 obtain ⟨⟨z, oz, pz, ez⟩, y', oy', py', ey'⟩ := ABK hs h2
 obtain ⟨⟨z', oz', pz', ez'⟩, _⟩ := ABK hs h
 have dz := ZG (f := OJ z) (t := t) (LB oz).1
 have dz2 := ZG (f := OJ z) (t := u) (LB oz).1
 have dy := ZG (f := OJ y) (t := t) (LB oy).1
 have dy2 := ZG (f := OJ y) (t := u) (LB oy).1
 refine ⟨?_, ?_⟩
 ·have a1 := BFP hs ⟨ht, by omega⟩ (LB oz) pz
  have a2 := AUC (LB oz) htu
  have d1 : 0 < (rF s t).lo.d := by rw [ez']; exact (HY oz').1.1
  have a3 := OI (Int.le_of_lt d1) dz (Int.le_of_lt dz2) a1 a2
  rw [ez]; exact (AKM oz d1).2 a3
 ·have a1 := BRZ hs ⟨by omega, hu⟩ (LB oy) py
  have a2 := AUC (LB oy) htu
  have d1 : 0 < (rF s u).hi.d := by rw [ey']; exact (HY oy').1.1
  have a3 := OI (Int.le_of_lt dy) dy2 (Int.le_of_lt d1) a2 a1
  rw [ey]; exact (AUP oy d1).2 a3
theorem CEK {s : List Gau} {t : Int} (hs : ∀ g ∈ s, XH g) (ht : 0 <= t /\ t <= 2000) (h : UD s t ≠ []) : yK (rF s t).lo /\ yK (rF s t).hi /\ Si (rF s t).lo (rF s t).hi := by
 obtain ⟨⟨z, oz, pz, ez⟩, y, oy, py, ey⟩ := ABK hs h
 have a1 := BFP hs ht (LB oy) py
 refine ⟨ez ▸ HY oz, ey ▸ HY oy, ?_⟩
 have d1 : 0 < (rF s t).lo.d := by rw [ez]; exact (HY oz).1.1
 rw [ey]; exact (AKM oy d1).2 a1
end Go.Bal
