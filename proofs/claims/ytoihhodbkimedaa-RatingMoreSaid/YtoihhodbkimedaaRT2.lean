/- Package rating: the least and the greatest flow (no program in sight). -/
import Derived.Test.YtoihhodbkimedaaRT1
set_option linter.unusedVariables false
set_option linter.unusedSimpArgs false
namespace Go.Bal
open Go Go.Sym Go.Proofs
def leR (a b : Rt) : Prop := a.n * b.d <= b.n * a.d
def okR (r : Rt) : Prop := (0 < r.d /\ r.d <= 2000) /\ 0 <= r.n /\ r.n <= 200000 * r.d
def clipF (f : Rl) (t : Int) : Rt := if f.num t < 0 then ⟨0, 1⟩ else if 200000 * f.w < f.num t then ⟨200000, 1⟩ else ⟨f.num t, f.w⟩
theorem clipF_d {f : Rl} {t : Int} (h : 0 < f.w) : 0 < (clipF f t).d := by
 unfold clipF; split
 ·exact Int.one_pos
 ·split
  ·exact Int.one_pos
  ·exact h
theorem leR_trans {a b c : Rt} (ha : 0 <= a.d) (hb : 0 < b.d) (hc : 0 <= c.d) (h1 : leR a b) (h2 : leR b c) : leR a c := frac_le hb h1 h2 ha hc
theorem leR_refl (a : Rt) : leR a a := Int.le_refl _
theorem clip_mono {f g : Rl} {t u : Int} (hf : 0 < f.w) (hg : 0 < g.w) (h : f.num t * g.w <= g.num u * f.w) : leR (clipF f t) (clipF g u) := by
 unfold clipF leR
 generalize f.num t = a at *
 generalize g.num u = b at *
 generalize f.w = c at *
 generalize g.w = d at *
 by_cases h1 : a < 0
 ·rw [if_pos h1]
  split
  ·simp
  ·split
   ·simp
   ·simp; omega
 ·rw [if_neg h1]
  have ha := Int.mul_nonneg (show 0 <= a by omega) (Int.le_of_lt hg)
  have hb : 0 <= b := le_div hf (by rw [Int.zero_mul]; omega)
  rw [if_neg (show ¬b < 0 by omega)]
  by_cases h2 : 200000 * c < a
  ·rw [if_pos h2]
   have h3 := Int.mul_lt_mul_of_pos_right h2 hg
   have h4 : 200000 * d < b := Int.lt_of_mul_lt_mul_right (a := c) (by grind) (Int.le_of_lt hf)
   rw [if_pos h4]; simp
  ·rw [if_neg h2]
   split
   ·simp; omega
   ·exact h
theorem has_sign {N W : Int} (hW : 0 < W) : ((ratM N W).n < 0 ↔ N < 0) /\ (200000 * (ratM N W).d < (ratM N W).n ↔ 200000 * W < N) := by
 have hv := ratM_val (n := N) hW
 have hd := (ratM_d (n := N) hW).1
 generalize ratM N W = r at *
 refine ⟨⟨λ h => ?_, λ h => ?_⟩, λ h => ?_, λ h => ?_⟩
 ·have := Int.mul_neg_of_neg_of_pos h hW
  rcases Int.lt_or_le N 0 with h1 | h1
  ·exact h1
  ·have := Int.mul_nonneg h1 (Int.le_of_lt hd); omega
 ·have := Int.mul_neg_of_neg_of_pos h hd
  rcases Int.lt_or_le r.n 0 with h1 | h1
  ·exact h1
  ·have := Int.mul_nonneg h1 (Int.le_of_lt hW); omega
 ·have := Int.mul_lt_mul_of_pos_right h hW
  exact Int.lt_of_mul_lt_mul_right (a := r.d) (by grind) (Int.le_of_lt hd)
 ·have := Int.mul_lt_mul_of_pos_right h hd
  exact Int.lt_of_mul_lt_mul_right (a := W) (by grind) (Int.le_of_lt hW)
theorem flow_val {x : Ln} {t : Int} (h : okL x) : (flowM x t).n * (clipF (rlL x) t).d = (clipF (rlL x) t).n * (flowM x t).d := by
 have hW := (rlL_ok h).1
 obtain ⟨h1, h2⟩ := has_sign (N := (rlL x).num t) hW
 have hv := ratM_val (n := (rlL x).num t) hW
 unfold flowM clipM clipF
 rw [hasM_eq]
 by_cases c1 : (rlL x).num t < 0
 ·rw [if_pos c1, if_pos (h1.2 c1)]
 ·rw [if_neg c1, if_neg (λ h => c1 (h1.1 h))]
  by_cases c2 : 200000 * (rlL x).w < (rlL x).num t
  ·rw [if_pos c2, if_pos (h2.2 c2)]
  ·rw [if_neg c2, if_neg (λ h => c2 (h2.1 h))]
   exact hv
theorem flow_okR {x : Ln} {t : Int} (h : okL x) : okR (flowM x t) := by
 have hd := hasM_d (t := t) h
 unfold flowM clipM
 split
 ·exact ⟨⟨Int.one_pos, by show (1 : Int) <= 2000; omega⟩, Int.le_refl _, by show (0 : Int) <= 200000 * 1; omega⟩
 ·split
  ·exact ⟨⟨Int.one_pos, by show (1 : Int) <= 2000; omega⟩, by show (0 : Int) <= 200000; omega, by show (200000 : Int) <= 200000 * 1; omega⟩
  ·exact ⟨hd, by omega, by omega⟩
theorem flow_le {x : Ln} {t : Int} {r : Rt} (h : okL x) (hr : 0 < r.d) : leR (flowM x t) r ↔ leR (clipF (rlL x) t) r := by
 have hv := flow_val (t := t) h
 have h1 := (flow_okR (t := t) h).1.1
 have h2 := clipF_d (t := t) (rlL_ok h).1
 exact ⟨λ a => leR_trans (Int.le_of_lt h2) h1 (Int.le_of_lt hr) (by unfold leR; omega) a, λ a => leR_trans (Int.le_of_lt h1) h2 (Int.le_of_lt hr) (by unfold leR; omega) a⟩
theorem le_flow {x : Ln} {t : Int} {r : Rt} (h : okL x) (hr : 0 < r.d) : leR r (flowM x t) ↔ leR r (clipF (rlL x) t) := by
 have hv := flow_val (t := t) h
 have h1 := (flow_okR (t := t) h).1.1
 have h2 := clipF_d (t := t) (rlL_ok h).1
 exact ⟨λ a => leR_trans (Int.le_of_lt hr) h1 (Int.le_of_lt h2) a (by unfold leR; omega), λ a => leR_trans (Int.le_of_lt hr) h2 (Int.le_of_lt h1) a (by unfold leR; omega)⟩
theorem mul_okR {a b : Rt} (ha : okR a) (hb : okR b) : wr (a.n * b.d) = a.n * b.d := by
 obtain ⟨⟨a1, a2⟩, a3, a4⟩ := ha
 obtain ⟨⟨b1, b2⟩, b3, b4⟩ := hb
 have h1 := mulb (A := 400000000) (B := 2000) a3 (by omega) (Int.le_of_lt b1) b2
 exact w64 (by omega) (by omega)
theorem cmp_gt {a b : Int} : cmpM a b > 0 ↔ b < a := by
 unfold cmpM
 by_cases h : a < b
 ·simp [h]; omega
 ·by_cases h2 : b < a
  ·simp [h, h2]
  ·simp [h, h2]
theorem cmp_lt' {a b : Int} : cmpM a b < 0 ↔ a < b := by
 unfold cmpM
 by_cases h : a < b
 ·simp [h]
 ·by_cases h2 : b < a
  ·simp [h, h2]
  ·simp [h, h2]
theorem cmpR_lt {a b : Rt} (ha : okR a) (hb : okR b) : cmpR a b < 0 ↔ a.n * b.d < b.n * a.d := by
 unfold cmpR; rw [mul_okR ha hb, mul_okR hb ha, cmp_lt']
theorem cmpR_gt {a b : Rt} (ha : okR a) (hb : okR b) : cmpR a b > 0 ↔ b.n * a.d < a.n * b.d := by
 unfold cmpR; rw [mul_okR ha hb, mul_okR hb ha, cmp_gt]
theorem ltR_iff {a b : Rt} (ha : okR a) (hb : okR b) : ltR a b = false ↔ leR b a := by
 unfold ltR leR; rw [decide_eq_false_iff_not, cmpR_lt ha hb]; omega
theorem gtR_iff {a b : Rt} (ha : okR a) (hb : okR b) : gtR a b = false ↔ leR a b := by
 unfold gtR leR; rw [decide_eq_false_iff_not, cmpR_gt ha hb]; omega
theorem pick_best {lt : Rt -> Rt -> Bool} {le : Rt -> Rt -> Prop} {t : Int} (hle : ∀ a b, okR a -> okR b -> (lt a b = false ↔ le b a)) (hlt : ∀ a b, okR a -> okR b -> lt a b = true -> le a b) (htr : ∀ a b c, okR a -> okR b -> okR c -> le a b -> le b c -> le a c) (hrf : ∀ a, le a a) : ∀ (l : List Ln) (b : Ln), okL b -> (∀ x ∈ l, okL x) -> (l.foldl (pickM lt t) b = b ∨ l.foldl (pickM lt t) b ∈ l) /\ okL (l.foldl (pickM lt t) b) /\ le (flowM (l.foldl (pickM lt t) b) t) (flowM b t) /\ ∀ x ∈ l, le (flowM (l.foldl (pickM lt t) b) t) (flowM x t)
 | [], b, hb, _ => ⟨.inl rfl, hb, hrf _, λ x hx => by cases hx⟩
 | z :: l, b, hb, h => by
  rw [List.foldl_cons]
  have hz := h z (List.mem_cons_self ..)
  have hp : okL (pickM lt t b z) /\ (pickM lt t b z = b ∨ pickM lt t b z = z) /\ le (flowM (pickM lt t b z) t) (flowM b t) /\ le (flowM (pickM lt t b z) t) (flowM z t) := by
   unfold pickM
   cases hc : lt (flowM z t) (flowM b t) with
   | true => exact ⟨hz, .inr rfl, hlt _ _ (flow_okR hz) (flow_okR hb) hc, hrf _⟩
   | false => exact ⟨hb, .inl rfl, hrf _, (hle _ _ (flow_okR hz) (flow_okR hb)).1 hc⟩
  obtain ⟨p1, p2, p3, p4⟩ := hp
  obtain ⟨r1, r2, r3, r4⟩ := pick_best hle hlt htr hrf l (pickM lt t b z) p1 (λ x hx => h x (List.mem_cons_of_mem _ hx))
  refine ⟨?_, r2, htr _ _ _ (flow_okR r2) (flow_okR p1) (flow_okR hb) r3 p3, λ x hx => ?_⟩
  ·rcases r1 with r1 | r1
   ·rw [r1]
    rcases p2 with p2 | p2
    ·exact .inl p2
    ·exact .inr (by rw [p2]; exact List.mem_cons_self ..)
   ·exact .inr (List.mem_cons_of_mem _ r1)
  ·rcases List.mem_cons.1 hx with rfl | hx
   ·exact htr _ _ _ (flow_okR r2) (flow_okR p1) (flow_okR hz) r3 p4
   ·exact r4 x hx
theorem best_lo {l : List Ln} {t : Int} (h : ∀ x ∈ l, okL x) (hne : l ≠ []) : bestM ltR t l ∈ l /\ ∀ x ∈ l, leR (flowM (bestM ltR t l) t) (flowM x t) := by
 have h0 : 0 < l.length := List.length_pos_iff.2 hne
 obtain ⟨r1, r2, r3, r4⟩ := pick_best (lt := ltR) (le := leR) (t := t) (λ a b ha hb => ltR_iff ha hb) (λ a b ha hb hc => by
  unfold ltR at hc; have := (cmpR_lt ha hb).1 (of_decide_eq_true hc); unfold leR; omega) (λ a b c ha hb hc h1 h2 => leR_trans (Int.le_of_lt ha.1.1) hb.1.1 (Int.le_of_lt hc.1.1) h1 h2) (λ a => leR_refl a) l (gD l 0) (h _ (gD_mem h0)) h
 refine ⟨?_, r4⟩
 rcases r1 with r1 | r1
 ·unfold bestM; rw [r1]; exact gD_mem h0
 ·exact r1
theorem best_hi {l : List Ln} {t : Int} (h : ∀ x ∈ l, okL x) (hne : l ≠ []) : bestM gtR t l ∈ l /\ ∀ x ∈ l, leR (flowM x t) (flowM (bestM gtR t l) t) := by
 have h0 : 0 < l.length := List.length_pos_iff.2 hne
 obtain ⟨r1, r2, r3, r4⟩ := pick_best (lt := gtR) (le := λ a b => leR b a) (t := t) (λ a b ha hb => gtR_iff ha hb) (λ a b ha hb hc => by
  unfold gtR at hc; have := (cmpR_gt ha hb).1 (of_decide_eq_true hc); unfold leR; omega) (λ a b c ha hb hc h1 h2 => leR_trans (Int.le_of_lt hc.1.1) hb.1.1 (Int.le_of_lt ha.1.1) h2 h1) (λ a => leR_refl a) l (gD l 0) (h _ (gD_mem h0)) h
 refine ⟨?_, r4⟩
 rcases r1 with r1 | r1
 ·unfold bestM; rw [r1]; exact gD_mem h0
 ·exact r1
theorem lns_ne {f : Rl} {s : List Gau} {t : Int} (hs : ∀ g ∈ s, okG g) (ht : 0 <= t /\ t <= 2000) (hf : f.ok) (hp : f.passes s) : lnsM s t ≠ [] := by
 obtain ⟨y, hy, _⟩ := low_cand hs ht hf hp
 intro he; rw [he] at hy; cases hy
def bdS (s : List Gau) (t : Int) : Bnd := bndM (lnsM s t) t
theorem bdS_eq {s : List Gau} {t : Int} (h : lnsM s t ≠ []) : bdS s t = ⟨flowM (bestM ltR t (lnsM s t)) t, flowM (bestM gtR t (lnsM s t)) t⟩ := by
 unfold bdS bndM; rw [decide_eq_false (λ he => h (List.eq_nil_of_length_eq_zero he))]; rfl
theorem bdS_lo {f : Rl} {s : List Gau} {t : Int} (hs : ∀ g ∈ s, okG g) (ht : 0 <= t /\ t <= 2000) (hf : f.ok) (hp : f.passes s) : leR (bdS s t).lo (clipF f t) := by
 have hne := lns_ne hs ht hf hp
 rw [bdS_eq hne]
 obtain ⟨b1, b2⟩ := best_lo (t := t) (λ x hx => (lns_pass hs hx).1) hne
 obtain ⟨y, hy, oy, hc⟩ := low_cand hs ht hf hp
 have hw := (rlL_ok oy).1
 have key : leR (clipF (rlL y) t) (clipF f t) := by
  rcases hc with hc | hc
  ·have hz : leR (clipF (rlL y) t) ⟨0, 1⟩ := by
    unfold clipF leR; split
    ·exact Int.le_refl _
    ·rw [if_neg (by omega)]; show (rlL y).num t * 1 <= 0 * _; omega
   refine leR_trans (b := ⟨0, 1⟩) (Int.le_of_lt (clipF_d hw)) Int.one_pos (Int.le_of_lt (clipF_d hf.1)) hz ?_
   unfold clipF leR; split
   ·exact Int.le_refl _
   ·split
    ·show (0 : Int) * 1 <= 200000 * 1; omega
    ·show 0 * f.w <= f.num t * 1; omega
  ·exact clip_mono hw hf.1 hc
 have ob := (lns_pass hs b1).1
 exact leR_trans (Int.le_of_lt (flow_okR ob).1.1) (flow_okR oy).1.1 (Int.le_of_lt (clipF_d hf.1)) (b2 y hy) ((flow_le oy (clipF_d hf.1)).2 key)
theorem bdS_hi {f : Rl} {s : List Gau} {t : Int} (hs : ∀ g ∈ s, okG g) (ht : 0 <= t /\ t <= 2000) (hf : f.ok) (hp : f.passes s) : leR (clipF f t) (bdS s t).hi := by
 have hne := lns_ne hs ht hf hp
 rw [bdS_eq hne]
 obtain ⟨b1, b2⟩ := best_hi (t := t) (λ x hx => (lns_pass hs hx).1) hne
 obtain ⟨y, hy, oy, hc⟩ := high_cand hs ht hf hp
 have hw := (rlL_ok oy).1
 have key : leR (clipF f t) (clipF (rlL y) t) := by
  rcases hc with hc | hc
  ·have hz : leR ⟨200000, 1⟩ (clipF (rlL y) t) := by
    unfold clipF leR
    rw [if_neg (by omega)]; split
    ·exact Int.le_refl _
    ·show 200000 * (rlL y).w <= (rlL y).num t * 1; omega
   refine leR_trans (b := ⟨200000, 1⟩) (Int.le_of_lt (clipF_d hf.1)) Int.one_pos (Int.le_of_lt (clipF_d hw)) ?_ hz
   unfold clipF leR; split
   ·show (0 : Int) * 1 <= 200000 * 1; omega
   ·split
    ·exact Int.le_refl _
    ·show f.num t * 1 <= 200000 * f.w; omega
  ·exact clip_mono hf.1 hw hc
 have ob := (lns_pass hs b1).1
 exact leR_trans (Int.le_of_lt (clipF_d hf.1)) (flow_okR oy).1.1 (Int.le_of_lt (flow_okR ob).1.1) ((le_flow oy (clipF_d hf.1)).2 key) (b2 y hy)
theorem bdS_ends {s : List Gau} {t : Int} (hs : ∀ g ∈ s, okG g) (h : lnsM s t ≠ []) : (∃ y, okL y /\ (rlL y).passes s /\ (bdS s t).lo = flowM y t) /\ ∃ y, okL y /\ (rlL y).passes s /\ (bdS s t).hi = flowM y t := by
 rw [bdS_eq h]
 obtain ⟨b1, _⟩ := best_lo (t := t) (λ x hx => (lns_pass hs hx).1) h
 obtain ⟨c1, _⟩ := best_hi (t := t) (λ x hx => (lns_pass hs hx).1) h
 exact ⟨⟨_, (lns_pass hs b1).1, (lns_pass hs b1).2, rfl⟩, _, (lns_pass hs c1).1, (lns_pass hs c1).2, rfl⟩
theorem clip_rise {f : Rl} {t u : Int} (hf : f.ok) (h : t <= u) : leR (clipF f t) (clipF f u) := by
 refine clip_mono hf.1 hf.1 ?_
 have := Int.mul_le_mul_of_nonneg_left h hf.2
 exact Int.mul_le_mul_of_nonneg_right (by unfold Rl.num; omega) (Int.le_of_lt hf.1)
theorem bdS_rise {s : List Gau} {t u : Int} (hs : ∀ g ∈ s, okG g) (ht : 0 <= t) (htu : t <= u) (hu : u <= 2000) (h : lnsM s t ≠ []) : leR (bdS s t).lo (bdS s u).lo /\ leR (bdS s t).hi (bdS s u).hi := by
 obtain ⟨_, y, oy, py, ey⟩ := bdS_ends hs h
 have h2 : lnsM s u ≠ [] := lns_ne hs ⟨by omega, hu⟩ (rlL_ok oy) py
 obtain ⟨⟨z, oz, pz, ez⟩, y', oy', py', ey'⟩ := bdS_ends hs h2
 obtain ⟨⟨z', oz', pz', ez'⟩, _⟩ := bdS_ends hs h
 have dz := clipF_d (f := rlL z) (t := t) (rlL_ok oz).1
 have dz2 := clipF_d (f := rlL z) (t := u) (rlL_ok oz).1
 have dy := clipF_d (f := rlL y) (t := t) (rlL_ok oy).1
 have dy2 := clipF_d (f := rlL y) (t := u) (rlL_ok oy).1
 refine ⟨?_, ?_⟩
 ·have a1 := bdS_lo hs ⟨ht, by omega⟩ (rlL_ok oz) pz
  have a2 := clip_rise (rlL_ok oz) htu
  have d1 : 0 < (bdS s t).lo.d := by rw [ez']; exact (flow_okR oz').1.1
  have a3 := leR_trans (Int.le_of_lt d1) dz (Int.le_of_lt dz2) a1 a2
  rw [ez]; exact (le_flow oz d1).2 a3
 ·have a1 := bdS_hi hs ⟨by omega, hu⟩ (rlL_ok oy) py
  have a2 := clip_rise (rlL_ok oy) htu
  have d1 : 0 < (bdS s u).hi.d := by rw [ey']; exact (flow_okR oy').1.1
  have a3 := leR_trans (Int.le_of_lt dy) dy2 (Int.le_of_lt d1) a2 a1
  rw [ey]; exact (flow_le oy d1).2 a3
theorem bdS_in {s : List Gau} {t : Int} (hs : ∀ g ∈ s, okG g) (ht : 0 <= t /\ t <= 2000) (h : lnsM s t ≠ []) : okR (bdS s t).lo /\ okR (bdS s t).hi /\ leR (bdS s t).lo (bdS s t).hi := by
 obtain ⟨⟨z, oz, pz, ez⟩, y, oy, py, ey⟩ := bdS_ends hs h
 have a1 := bdS_lo hs ht (rlL_ok oy) py
 refine ⟨ez ▸ flow_okR oz, ey ▸ flow_okR oy, ?_⟩
 have d1 : 0 < (bdS s t).lo.d := by rw [ez]; exact (flow_okR oz).1.1
 rw [ey]; exact (le_flow oy d1).2 a1
end Go.Bal
