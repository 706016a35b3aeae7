/- Package rating: the least and the greatest flow (no program in sight). -/
import Derived.Test.YtoihhodbkimedaaGreatRT1
set_option linter.unusedVariables false
set_option linter.unusedSimpArgs false
namespace Go.Bal
open Go Go.Sym Go.Proofs
def HC (a b : Rt) : Prop := a.n * b.d <= b.n * a.d
def Jg (r : Rt) : Prop := (0 < r.d /\ r.d <= 2000) /\ 0 <= r.n /\ r.n <= 200000 * r.d
def BS (f : Rl) (t : Int) : Rt := if f.num t < 0 then ⟨0, 1⟩ else if 200000 * f.w < f.num t then ⟨200000, 1⟩ else ⟨f.num t, f.w⟩
theorem DX {f : Rl} {t : Int} (h : 0 < f.w) : 0 < (BS f t).d := by
 unfold BS; split
 ·exact Int.one_pos
 ·split
  ·exact Int.one_pos
  ·exact h
theorem CQ {a b c : Rt} (ha : 0 <= a.d) (hb : 0 < b.d) (hc : 0 <= c.d) (h1 : HC a b) (h2 : HC b c) : HC a c := pJ hb h1 h2 ha hc
theorem wD (a : Rt) : HC a a := Int.le_refl _
theorem IS {f g : Rl} {t u : Int} (hf : 0 < f.w) (hg : 0 < g.w) (h : f.num t * g.w <= g.num u * f.w) : HC (BS f t) (BS g u) := by
 unfold BS HC
 generalize f.num t = a at *
 generalize g.num u = b at *
 generalize f.w = c at *
 generalize g.w = d at *
 by_cases h1 : a < 0
 ·rw [if_pos h1]
  split
  ·simp
  ·split
   ·simp
   ·simp; omega
 ·rw [if_neg h1]
  have ha := Int.mul_nonneg (show 0 <= a by omega) (Int.le_of_lt hg)
  have hb : 0 <= b := WD hf (by rw [Int.zero_mul]; omega)
  rw [if_neg (show ¬b < 0 by omega)]
  by_cases h2 : 200000 * c < a
  ·rw [if_pos h2]
   have h3 := Int.mul_lt_mul_of_pos_right h2 hg
   have h4 : 200000 * d < b := Int.lt_of_mul_lt_mul_right (a := c) (by grind) (Int.le_of_lt hf)
   rw [if_pos h4]; simp
  ·rw [if_neg h2]
   split
   ·simp; omega
   ·exact h
theorem CBI {N W : Int} (hW : 0 < W) : ((FD N W).n < 0 ↔ N < 0) /\ (200000 * (FD N W).d < (FD N W).n ↔ 200000 * W < N) := by
 have hv := WS (n := N) hW
 have hd := (iE (n := N) hW).1
 generalize FD N W = r at *
 refine ⟨⟨λ h => ?_, λ h => ?_⟩, λ h => ?_, λ h => ?_⟩
 ·have := Int.mul_neg_of_neg_of_pos h hW
  rcases Int.lt_or_le N 0 with h1 | h1
  ·exact h1
  ·have := Int.mul_nonneg h1 (Int.le_of_lt hd); omega
 ·have := Int.mul_neg_of_neg_of_pos h hd
  rcases Int.lt_or_le r.n 0 with h1 | h1
  ·exact h1
  ·have := Int.mul_nonneg h1 (Int.le_of_lt hW); omega
 ·have := Int.mul_lt_mul_of_pos_right h hW
  exact Int.lt_of_mul_lt_mul_right (a := r.d) (by grind) (Int.le_of_lt hd)
 ·have := Int.mul_lt_mul_of_pos_right h hd
  exact Int.lt_of_mul_lt_mul_right (a := W) (by grind) (Int.le_of_lt hW)
theorem BMO {x : Ln} {t : Int} (h : DR x) : (BT x t).n * (BS (CH x) t).d = (BS (CH x) t).n * (BT x t).d := by
 have hW := (BO h).1
 obtain ⟨h1, h2⟩ := CBI (N := (CH x).num t) hW
 have hv := WS (n := (CH x).num t) hW
 unfold BT CT BS
 rw [AJN]
 by_cases c1 : (CH x).num t < 0
 ·rw [if_pos c1, if_pos (h1.2 c1)]
 ·rw [if_neg c1, if_neg (λ h => c1 (h1.1 h))]
  by_cases c2 : 200000 * (CH x).w < (CH x).num t
  ·rw [if_pos c2, if_pos (h2.2 c2)]
  ·rw [if_neg c2, if_neg (λ h => c2 (h2.1 h))]
   exact hv
theorem CV {x : Ln} {t : Int} (h : DR x) : Jg (BT x t) := by
 have hd := ANX (t := t) h
 unfold BT CT
 split
 ·exact ⟨⟨Int.one_pos, by show (1 : Int) <= 2000; omega⟩, Int.le_refl _, by show (0 : Int) <= 200000 * 1; omega⟩
 ·split
  ·exact ⟨⟨Int.one_pos, by show (1 : Int) <= 2000; omega⟩, by show (0 : Int) <= 200000; omega, by show (200000 : Int) <= 200000 * 1; omega⟩
  ·exact ⟨hd, by omega, by omega⟩
theorem oE {x : Ln} {t : Int} {r : Rt} (h : DR x) (hr : 0 < r.d) : HC (BT x t) r ↔ HC (BS (CH x) t) r := by
 have hv := BMO (t := t) h
 have h1 := (CV (t := t) h).1.1
 have h2 := DX (t := t) (BO h).1
 exact ⟨λ a => CQ (Int.le_of_lt h2) h1 (Int.le_of_lt hr) (by unfold HC; omega) a, λ a => CQ (Int.le_of_lt h1) h2 (Int.le_of_lt hr) (by unfold HC; omega) a⟩
theorem Ud {x : Ln} {t : Int} {r : Rt} (h : DR x) (hr : 0 < r.d) : HC r (BT x t) ↔ HC r (BS (CH x) t) := by
 have hv := BMO (t := t) h
 have h1 := (CV (t := t) h).1.1
 have h2 := DX (t := t) (BO h).1
 exact ⟨λ a => CQ (Int.le_of_lt hr) h1 (Int.le_of_lt h2) a (by unfold HC; omega), λ a => CQ (Int.le_of_lt hr) h2 (Int.le_of_lt h1) a (by unfold HC; omega)⟩
theorem Qv {a b : Rt} (ha : Jg a) (hb : Jg b) : wr (a.n * b.d) = a.n * b.d := by
 obtain ⟨⟨a1, a2⟩, a3, a4⟩ := ha
 obtain ⟨⟨b1, b2⟩, b3, b4⟩ := hb
 have h1 := mulb (A := 400000000) (B := 2000) a3 (by omega) (Int.le_of_lt b1) b2
 exact EV (by omega) (by omega)
theorem CII {a b : Int} : HU a b > 0 ↔ b < a := by
 unfold HU
 by_cases h : a < b
 ·simp [h]; omega
 ·by_cases h2 : b < a
  ·simp [h, h2]
  ·simp [h, h2]
theorem CMM {a b : Int} : HU a b < 0 ↔ a < b := by
 unfold HU
 by_cases h : a < b
 ·simp [h]
 ·by_cases h2 : b < a
  ·simp [h, h2]
  ·simp [h, h2]
theorem BDY {a b : Rt} (ha : Jg a) (hb : Jg b) : YB a b < 0 ↔ a.n * b.d < b.n * a.d := by
 unfold YB; rw [Qv ha hb, Qv hb ha, CMM]
theorem BHP {a b : Rt} (ha : Jg a) (hb : Jg b) : YB a b > 0 ↔ b.n * a.d < a.n * b.d := by
 unfold YB; rw [Qv ha hb, Qv hb ha, CII]
theorem CMG {a b : Rt} (ha : Jg a) (hb : Jg b) : LS a b = false ↔ HC b a := by
 unfold LS HC; rw [decide_eq_false_iff_not, BDY ha hb]; omega
theorem CLY {a b : Rt} (ha : Jg a) (hb : Jg b) : LR a b = false ↔ HC a b := by
 unfold LR HC; rw [decide_eq_false_iff_not, BHP ha hb]; omega
theorem A2 {lt : Rt -> Rt -> Bool} {le : Rt -> Rt -> Prop} {t : Int} (hle : ∀ a b, Jg a -> Jg b -> (lt a b = false ↔ le b a)) (hlt : ∀ a b, Jg a -> Jg b -> lt a b = true -> le a b) (htr : ∀ a b c, Jg a -> Jg b -> Jg c -> le a b -> le b c -> le a c) (hrf : ∀ a, le a a) : ∀ (l : List Ln) (b : Ln), DR b -> (∀ x ∈ l, DR x) -> (l.foldl (JN lt t) b = b ∨ l.foldl (JN lt t) b ∈ l) /\ DR (l.foldl (JN lt t) b) /\ le (BT (l.foldl (JN lt t) b) t) (BT b t) /\ ∀ x ∈ l, le (BT (l.foldl (JN lt t) b) t) (BT x t)
 | [], b, hb, _ => ⟨.inl rfl, hb, hrf _, λ x hx => by cases hx⟩
 | z :: l, b, hb, h => by
  rw [List.foldl_cons]
  have hz := h z (List.mem_cons_self ..)
  have hp : DR (JN lt t b z) /\ (JN lt t b z = b ∨ JN lt t b z = z) /\ le (BT (JN lt t b z) t) (BT b t) /\ le (BT (JN lt t b z) t) (BT z t) := by
   unfold JN
   cases hc : lt (BT z t) (BT b t) with
   | true => exact ⟨hz, .inr rfl, hlt _ _ (CV hz) (CV hb) hc, hrf _⟩
   | false => exact ⟨hb, .inl rfl, hrf _, (hle _ _ (CV hz) (CV hb)).1 hc⟩
  obtain ⟨p1, p2, p3, p4⟩ := hp
  obtain ⟨r1, r2, r3, r4⟩ := A2 hle hlt htr hrf l (JN lt t b z) p1 (λ x hx => h x (List.mem_cons_of_mem _ hx))
  refine ⟨?_, r2, htr _ _ _ (CV r2) (CV p1) (CV hb) r3 p3, λ x hx => ?_⟩
  ·rcases r1 with r1 | r1
   ·rw [r1]
    rcases p2 with p2 | p2
    ·exact .inl p2
    ·exact .inr (by rw [p2]; exact List.mem_cons_self ..)
   ·exact .inr (List.mem_cons_of_mem _ r1)
  ·rcases List.mem_cons.1 hx with rfl | hx
   ·exact htr _ _ _ (CV r2) (CV p1) (CV hz) r3 p4
   ·exact r4 x hx
theorem BHW {l : List Ln} {t : Int} (h : ∀ x ∈ l, DR x) (hne : l ≠ []) : GI LS t l ∈ l /\ ∀ x ∈ l, HC (BT (GI LS t l) t) (BT x t) := by
 have h0 : 0 < l.length := List.length_pos_iff.2 hne
 obtain ⟨r1, r2, r3, r4⟩ := A2 (lt := LS) (le := HC) (t := t) (λ a b ha hb => CMG ha hb) (λ a b ha hb hc => by
  unfold LS at hc; have := (BDY ha hb).1 (of_decide_eq_true hc); unfold HC; omega) (λ a b c ha hb hc h1 h2 => CQ (Int.le_of_lt ha.1.1) hb.1.1 (Int.le_of_lt hc.1.1) h1 h2) (λ a => wD a) l (gD l 0) (h _ (BM h0)) h
 refine ⟨?_, r4⟩
 rcases r1 with r1 | r1
 ·unfold GI; rw [r1]; exact BM h0
 ·exact r1
theorem BLC {l : List Ln} {t : Int} (h : ∀ x ∈ l, DR x) (hne : l ≠ []) : GI LR t l ∈ l /\ ∀ x ∈ l, HC (BT x t) (BT (GI LR t l) t) := by
 have h0 : 0 < l.length := List.length_pos_iff.2 hne
 obtain ⟨r1, r2, r3, r4⟩ := A2 (lt := LR) (le := λ a b => HC b a) (t := t) (λ a b ha hb => CLY ha hb) (λ a b ha hb hc => by
  unfold LR at hc; have := (BHP ha hb).1 (of_decide_eq_true hc); unfold HC; omega) (λ a b c ha hb hc h1 h2 => CQ (Int.le_of_lt hc.1.1) hb.1.1 (Int.le_of_lt ha.1.1) h2 h1) (λ a => wD a) l (gD l 0) (h _ (BM h0)) h
 refine ⟨?_, r4⟩
 rcases r1 with r1 | r1
 ·unfold GI; rw [r1]; exact BM h0
 ·exact r1
theorem Ge {f : Rl} {s : List Gau} {t : Int} (hs : ∀ g ∈ s, DJ g) (ht : 0 <= t /\ t <= 2000) (hf : f.ok) (hp : f.passes s) : CR s t ≠ [] := by
 obtain ⟨y, hy, _⟩ := BMW hs ht hf hp
 intro he; rw [he] at hy; cases hy
def FU (s : List Gau) (t : Int) : Bnd := SI (CR s t) t
theorem BKP {s : List Gau} {t : Int} (h : CR s t ≠ []) : FU s t = ⟨BT (GI LS t (CR s t)) t, BT (GI LR t (CR s t)) t⟩ := by
 unfold FU SI; rw [decide_eq_false (λ he => h (List.eq_nil_of_length_eq_zero he))]; rfl
theorem AQF {f : Rl} {s : List Gau} {t : Int} (hs : ∀ g ∈ s, DJ g) (ht : 0 <= t /\ t <= 2000) (hf : f.ok) (hp : f.passes s) : HC (FU s t).lo (BS f t) := by
 have hne := Ge hs ht hf hp
 rw [BKP hne]
 obtain ⟨b1, b2⟩ := BHW (t := t) (λ x hx => (GH hs hx).1) hne
 obtain ⟨y, hy, oy, hc⟩ := BMW hs ht hf hp
 have hw := (BO oy).1
 have key : HC (BS (CH y) t) (BS f t) := by
  rcases hc with hc | hc
  ·have hz : HC (BS (CH y) t) ⟨0, 1⟩ := by
    unfold BS HC; split
    ·exact Int.le_refl _
    ·rw [if_neg (by omega)]; show (CH y).num t * 1 <= 0 * _; omega
   refine CQ (b := ⟨0, 1⟩) (Int.le_of_lt (DX hw)) Int.one_pos (Int.le_of_lt (DX hf.1)) hz ?_
   unfold BS HC; split
   ·exact Int.le_refl _
   ·split
    ·show (0 : Int) * 1 <= 200000 * 1; omega
    ·show 0 * f.w <= f.num t * 1; omega
  ·exact IS hw hf.1 hc
 have ob := (GH hs b1).1
 exact CQ (Int.le_of_lt (CV ob).1.1) (CV oy).1.1 (Int.le_of_lt (DX hf.1)) (b2 y hy) ((oE oy (DX hf.1)).2 key)
theorem BIZ {f : Rl} {s : List Gau} {t : Int} (hs : ∀ g ∈ s, DJ g) (ht : 0 <= t /\ t <= 2000) (hf : f.ok) (hp : f.passes s) : HC (BS f t) (FU s t).hi := by
 have hne := Ge hs ht hf hp
 rw [BKP hne]
 obtain ⟨b1, b2⟩ := BLC (t := t) (λ x hx => (GH hs hx).1) hne
 obtain ⟨y, hy, oy, hc⟩ := BZH hs ht hf hp
 have hw := (BO oy).1
 have key : HC (BS f t) (BS (CH y) t) := by
  rcases hc with hc | hc
  ·have hz : HC ⟨200000, 1⟩ (BS (CH y) t) := by
    unfold BS HC
    rw [if_neg (by omega)]; split
    ·exact Int.le_refl _
    ·show 200000 * (CH y).w <= (CH y).num t * 1; omega
   refine CQ (b := ⟨200000, 1⟩) (Int.le_of_lt (DX hf.1)) Int.one_pos (Int.le_of_lt (DX hw)) ?_ hz
   unfold BS HC; split
   ·show (0 : Int) * 1 <= 200000 * 1; omega
   ·split
    ·exact Int.le_refl _
    ·show f.num t * 1 <= 200000 * f.w; omega
  ·exact IS hf.1 hw hc
 have ob := (GH hs b1).1
 exact CQ (Int.le_of_lt (DX hf.1)) (CV oy).1.1 (Int.le_of_lt (CV ob).1.1) ((Ud oy (DX hf.1)).2 key) (b2 y hy)
theorem IC {s : List Gau} {t : Int} (hs : ∀ g ∈ s, DJ g) (h : CR s t ≠ []) : (∃ y, DR y /\ (CH y).passes s /\ (FU s t).lo = BT y t) /\ ∃ y, DR y /\ (CH y).passes s /\ (FU s t).hi = BT y t := by
 rw [BKP h]
 obtain ⟨b1, _⟩ := BHW (t := t) (λ x hx => (GH hs hx).1) h
 obtain ⟨c1, _⟩ := BLC (t := t) (λ x hx => (GH hs hx).1) h
 exact ⟨⟨_, (GH hs b1).1, (GH hs b1).2, rfl⟩, _, (GH hs c1).1, (GH hs c1).2, rfl⟩
theorem BBA {f : Rl} {t u : Int} (hf : f.ok) (h : t <= u) : HC (BS f t) (BS f u) := by
 refine IS hf.1 hf.1 ?_
 have := Int.mul_le_mul_of_nonneg_left h hf.2
 exact Int.mul_le_mul_of_nonneg_right (by unfold Rl.num; omega) (Int.le_of_lt hf.1)
theorem rQ {s : List Gau} {t u : Int} (hs : ∀ g ∈ s, DJ g) (ht : 0 <= t) (htu : t <= u) (hu : u <= 2000) (h : CR s t ≠ []) : HC (FU s t).lo (FU s u).lo /\ HC (FU s t).hi (FU s u).hi := by
 obtain ⟨_, y, oy, py, ey⟩ := IC hs h
 have h2 : CR s u ≠ [] := Ge hs ⟨by omega, hu⟩ (BO oy) py
 obtain ⟨⟨z, oz, pz, ez⟩, y', oy', py', ey'⟩ := IC hs h2
 obtain ⟨⟨z', oz', pz', ez'⟩, _⟩ := IC hs h
 have dz := DX (f := CH z) (t := t) (BO oz).1
 have dz2 := DX (f := CH z) (t := u) (BO oz).1
 have dy := DX (f := CH y) (t := t) (BO oy).1
 have dy2 := DX (f := CH y) (t := u) (BO oy).1
 refine ⟨?_, ?_⟩
 ·have a1 := AQF hs ⟨ht, by omega⟩ (BO oz) pz
  have a2 := BBA (BO oz) htu
  have d1 : 0 < (FU s t).lo.d := by rw [ez']; exact (CV oz').1.1
  have a3 := CQ (Int.le_of_lt d1) dz (Int.le_of_lt dz2) a1 a2
  rw [ez]; exact (Ud oz d1).2 a3
 ·have a1 := BIZ hs ⟨by omega, hu⟩ (BO oy) py
  have a2 := BBA (BO oy) htu
  have d1 : 0 < (FU s u).hi.d := by rw [ey']; exact (CV oy').1.1
  have a3 := CQ (Int.le_of_lt dy) dy2 (Int.le_of_lt d1) a2 a1
  rw [ey]; exact (oE oy d1).2 a3
theorem cR {s : List Gau} {t : Int} (hs : ∀ g ∈ s, DJ g) (ht : 0 <= t /\ t <= 2000) (h : CR s t ≠ []) : Jg (FU s t).lo /\ Jg (FU s t).hi /\ HC (FU s t).lo (FU s t).hi := by
 obtain ⟨⟨z, oz, pz, ez⟩, y, oy, py, ey⟩ := IC hs h
 have a1 := AQF hs ht (BO oy) py
 refine ⟨ez ▸ CV oz, ey ▸ CV oy, ?_⟩
 have d1 : 0 < (FU s t).lo.d := by rw [ez]; exact (CV oz).1.1
 rw [ey]; exact (Ud oy d1).2 a1
end Go.Bal
