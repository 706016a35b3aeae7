/- Package rating: rising lines through all gaugings lie between the candidates (no program in sight). -/
import Derived.Test.YtoihhodbkimedaaRatI
set_option linter.unusedVariables false
set_option linter.unusedSimpArgs false
namespace Go.Bal
open Go Go.Sym Go.Proofs
structure Rl where
 p : Int
 q : Int
 w : Int
def Rl.num (f : Rl) (u : Int) : Int := f.p + f.q * u
def Rl.ok (f : Rl) : Prop := 0 < f.w /\ 0 <= f.q
def Rl.pass (f : Rl) (g : Gau) : Prop := g.lo * f.w <= f.num g.st /\ f.num g.st <= g.hi * f.w
def Rl.passes (f : Rl) (s : List Gau) : Prop := ∀ g ∈ s, f.pass g
def rlL (x : Ln) : Rl := ⟨x.a1 * (x.b0 - x.a0) - (x.b1 - x.a1) * x.a0, x.b1 - x.a1, x.b0 - x.a0⟩
theorem rlL_ok {x : Ln} (h : okL x) : (rlL x).ok := by
 obtain ⟨h1, h2, h3, h4, h5, h6⟩ := h
 exact ⟨by show 0 < x.b0 - x.a0; omega, by show 0 <= x.b1 - x.a1; omega⟩
theorem rlL_num (x : Ln) (t : Int) : (rlL x).num t = x.a1 * (x.b0 - x.a0) + (x.b1 - x.a1) * (t - x.a0) := by
 show x.a1 * (x.b0 - x.a0) - (x.b1 - x.a1) * x.a0 + (x.b1 - x.a1) * t = _
 grind
theorem hasM_eq (x : Ln) (t : Int) : hasM x t = ratM ((rlL x).num t) (rlL x).w := by rw [rlL_num]; rfl
theorem le_div {a b c : Int} (hc : 0 < c) (h : a * c <= b * c) : a <= b := Int.le_of_mul_le_mul_right h hc
theorem passM_iff {x : Ln} {g : Gau} (h : okL x) : passM x g = true ↔ (rlL x).pass g := by
 have hw := (rlL_ok h).1
 have hv := ratM_val (n := (rlL x).num g.st) hw
 have hd := (ratM_d (n := (rlL x).num g.st) hw).1
 unfold passM Rl.pass
 rw [hasM_eq]
 generalize ratM ((rlL x).num g.st) (rlL x).w = r at *
 generalize (rlL x).num g.st = N at *
 generalize (rlL x).w = W at *
 rw [Bool.and_eq_true, decide_eq_true_eq, decide_eq_true_eq]
 constructor
 ·rintro ⟨h1, h2⟩
  have a1 := Int.mul_le_mul_of_nonneg_right h1 (Int.le_of_lt hw)
  have a2 := Int.mul_le_mul_of_nonneg_right h2 (Int.le_of_lt hw)
  constructor
  ·refine Int.le_of_mul_le_mul_right (a := r.d) ?_ hd; grind
  ·refine Int.le_of_mul_le_mul_right (a := r.d) ?_ hd; grind
 ·rintro ⟨h1, h2⟩
  have a1 := Int.mul_le_mul_of_nonneg_right h1 (Int.le_of_lt hd)
  have a2 := Int.mul_le_mul_of_nonneg_right h2 (Int.le_of_lt hd)
  constructor
  ·refine Int.le_of_mul_le_mul_right (a := W) ?_ hw; grind
  ·refine Int.le_of_mul_le_mul_right (a := W) ?_ hw; grind
theorem paM_iff {x : Ln} {s : List Gau} (h : okL x) : paM s x = true ↔ (rlL x).passes s := by
 unfold paM Rl.passes
 rw [List.all_eq_true]
 exact ⟨λ a g hg => (passM_iff h).1 (a g hg), λ a g hg => (passM_iff h).2 (a g hg)⟩
def okS (a v m e : Int) (g : Gau) : Prop := g.lo * e <= v * e + m * (g.st - a) /\ v * e + m * (g.st - a) <= g.hi * e
theorem pass_okS {f : Rl} {a v m e : Int} {g : Gau} (he : 0 < e) (h1 : f.num a = v * f.w) (h2 : f.q * e = m * f.w) (hw : 0 < f.w) (h : okS a v m e g) : f.pass g := by
 obtain ⟨h3, h4⟩ := h
 have a1 := Int.mul_le_mul_of_nonneg_right h3 (Int.le_of_lt hw)
 have a2 := Int.mul_le_mul_of_nonneg_right h4 (Int.le_of_lt hw)
 have e1 : f.num g.st = v * f.w + f.q * (g.st - a) := by unfold Rl.num at *; grind
 have e2 : f.q * (g.st - a) * e = m * f.w * (g.st - a) := by grind
 constructor
 ·refine Int.le_of_mul_le_mul_right (a := e) ?_ he; rw [e1]; grind
 ·refine Int.le_of_mul_le_mul_right (a := e) ?_ he; rw [e1]; grind
structure Sl where
 m : Int
 e : Int
theorem sl_max : ∀ (l : List Sl), l ≠ [] -> (∀ x ∈ l, 0 < x.e) -> ∃ x ∈ l, ∀ y ∈ l, y.m * x.e <= x.m * y.e
 | [], h, _ => (h rfl).elim
 | [x], _, _ => ⟨x, List.mem_singleton.2 rfl, λ y hy => by rw [List.mem_singleton.1 hy]; exact Int.le_refl _⟩
 | x :: z :: l, _, h => by
  obtain ⟨b, hb, hm⟩ := sl_max (z :: l) (by simp) (λ y hy => h y (List.mem_cons_of_mem _ hy))
  have hx := h x (List.mem_cons_self ..)
  have hbe := h b (List.mem_cons_of_mem _ hb)
  rcases Int.le_total (x.m * b.e) (b.m * x.e) with hc | hc
  ·refine ⟨b, List.mem_cons_of_mem _ hb, λ y hy => ?_⟩
   rcases List.mem_cons.1 hy with rfl | hy
   ·exact hc
   ·exact hm y hy
  ·refine ⟨x, List.mem_cons_self .., λ y hy => ?_⟩
   rcases List.mem_cons.1 hy with rfl | hy
   ·exact Int.le_refl _
   ·have hye := h y (List.mem_cons_of_mem _ hy)
    have a1 := Int.mul_le_mul_of_nonneg_right (hm y hy) (Int.le_of_lt hx)
    have a2 := Int.mul_le_mul_of_nonneg_right hc (Int.le_of_lt hye)
    refine Int.le_of_mul_le_mul_right (a := b.e) ?_ hbe
    grind
theorem arg_min (δ : Gau -> Int) : ∀ (s : List Gau), s ≠ [] -> ∃ g ∈ s, ∀ h ∈ s, δ g <= δ h
 | [], h => (h rfl).elim
 | [x], _ => ⟨x, List.mem_singleton.2 rfl, λ y hy => by rw [List.mem_singleton.1 hy]; exact Int.le_refl _⟩
 | x :: z :: l, _ => by
  obtain ⟨b, hb, hm⟩ := arg_min δ (z :: l) (by simp)
  rcases Int.le_total (δ x) (δ b) with hc | hc
  ·refine ⟨x, List.mem_cons_self .., λ y hy => ?_⟩
   rcases List.mem_cons.1 hy with rfl | hy
   ·exact Int.le_refl _
   ·exact Int.le_trans hc (hm y hy)
  ·refine ⟨b, List.mem_cons_of_mem _ hb, λ y hy => ?_⟩
   rcases List.mem_cons.1 hy with rfl | hy
   ·exact hc
   ·exact hm y hy
theorem shift_lo {f : Rl} {s : List Gau} (hf : f.ok) (hs : f.passes s) (hne : s ≠ []) : ∃ g ∈ s, (∀ h ∈ s, okS g.st g.lo f.q f.w h) /\ ∀ u, g.lo * f.w + f.q * (u - g.st) <= f.num u := by
 obtain ⟨g, hg, hm⟩ := arg_min (λ g => f.num g.st - g.lo * f.w) s hne
 refine ⟨g, hg, λ h hh => ?_, λ u => ?_⟩
 ·have h1 := hm h hh
  obtain ⟨h2, h3⟩ := hs h hh
  obtain ⟨h4, h5⟩ := hs g hg
  unfold Rl.num at *
  constructor <;> grind
 ·obtain ⟨h4, h5⟩ := hs g hg
  unfold Rl.num at *
  grind
theorem shift_hi {f : Rl} {s : List Gau} (hf : f.ok) (hs : f.passes s) (hne : s ≠ []) : ∃ g ∈ s, (∀ h ∈ s, okS g.st g.hi f.q f.w h) /\ ∀ u, f.num u <= g.hi * f.w + f.q * (u - g.st) := by
 obtain ⟨g, hg, hm⟩ := arg_min (λ g => g.hi * f.w - f.num g.st) s hne
 refine ⟨g, hg, λ h hh => ?_, λ u => ?_⟩
 ·have h1 := hm h hh
  obtain ⟨h2, h3⟩ := hs h hh
  obtain ⟨h4, h5⟩ := hs g hg
  unfold Rl.num at *
  constructor <;> grind
 ·obtain ⟨h4, h5⟩ := hs g hg
  unfold Rl.num at *
  grind
def candS (s : List Gau) (a v m e : Int) : Prop := ∃ y ∈ thruM s, okL y /\ (rlL y).num a = v * (rlL y).w /\ (rlL y).q * e = m * (rlL y).w
theorem thru_lev {s : List Gau} {p : Pt} (h : p ∈ endsM s) : levM p ∈ thruM s := by
 unfold thruM blk; exact List.mem_flatMap.2 ⟨p, h, List.mem_cons_self ..⟩
theorem thru_ln {s : List Gau} {p q : Pt} (h : p ∈ endsM s) (h2 : q ∈ endsM s) (h3 : okL (lnM p q)) : lnM p q ∈ thruM s := by
 unfold thruM blk
 exact List.mem_flatMap.2 ⟨p, h, List.mem_cons_of_mem _ (List.mem_filter.2 ⟨List.mem_map.2 ⟨q, h2, rfl⟩, riL_ok.2 h3⟩)⟩
theorem end_lo {s : List Gau} {g : Gau} (h : g ∈ s) : (⟨g.st, g.lo⟩ : Pt) ∈ endsM s := ends_mem.2 ⟨g, h, .inl rfl⟩
theorem end_hi {s : List Gau} {g : Gau} (h : g ∈ s) : (⟨g.st, g.hi⟩ : Pt) ∈ endsM s := ends_mem.2 ⟨g, h, .inr rfl⟩
theorem lev_num (p : Pt) (u : Int) : (rlL (levM p)).num u = p.fl * (rlL (levM p)).w /\ (rlL (levM p)).q = 0 := by
 rw [rlL_num]
 unfold levM; split <;> (simp only [rlL]; constructor <;> grind)
theorem cand_lev {s : List Gau} (hs : ∀ g ∈ s, okG g) {a v : Int} (h : (⟨a, v⟩ : Pt) ∈ endsM s) : candS s a v 0 1 := by
 refine ⟨_, thru_lev h, lev_ok (ends_ok hs h), (lev_num _ _).1, ?_⟩
 rw [(lev_num ⟨a, v⟩ 0).2]; omega
theorem ln_num (p q : Pt) (u : Int) : (rlL (lnM p q)).num u = p.fl * (q.st - p.st) + (q.fl - p.fl) * (u - p.st) := by rw [rlL_num]; rfl
theorem cand_right {s : List Gau} (hs : ∀ g ∈ s, okG g) {a v b z : Int} (h : (⟨a, v⟩ : Pt) ∈ endsM s) (h2 : (⟨b, z⟩ : Pt) ∈ endsM s) (hab : a < b) (hvz : v <= z) : candS s a v (z - v) (b - a) := by
 have o1 := ends_ok hs h
 have o2 := ends_ok hs h2
 have hl : okL (lnM ⟨a, v⟩ ⟨b, z⟩) := ⟨o1.1, hab, o2.2.1, o1.2.2.1, hvz, o2.2.2.2⟩
 exact ⟨_, thru_ln h h2 hl, hl, by rw [ln_num]; simp [rlL, lnM], by simp [rlL, lnM]⟩
theorem cand_left {s : List Gau} (hs : ∀ g ∈ s, okG g) {a v b z : Int} (h : (⟨a, v⟩ : Pt) ∈ endsM s) (h2 : (⟨b, z⟩ : Pt) ∈ endsM s) (hab : b < a) (hvz : z <= v) : candS s a v (v - z) (a - b) := by
 have o1 := ends_ok hs h
 have o2 := ends_ok hs h2
 have hl : okL (lnM ⟨b, z⟩ ⟨a, v⟩) := ⟨o2.1, hab, o1.2.1, o2.2.2.1, hvz, o1.2.2.2⟩
 exact ⟨_, thru_ln h2 h hl, hl, by rw [ln_num]; simp only [rlL, lnM]; grind, by simp [rlL, lnM]⟩
theorem cand_pass {s : List Gau} {a v m e : Int} (he : 0 < e) (h : candS s a v m e) (hp : ∀ g ∈ s, okS a v m e g) : ∃ y ∈ flM s, okL y /\ (rlL y).passes s /\ (rlL y).num a = v * (rlL y).w /\ (rlL y).q * e = m * (rlL y).w := by
 obtain ⟨y, h1, h2, h3, h4⟩ := h
 have hy : (rlL y).passes s := λ g hg => pass_okS he h3 h4 (rlL_ok h2).1 (hp g hg)
 exact ⟨y, List.mem_filter.2 ⟨h1, (paM_iff h2).2 hy⟩, h2, hy, h3, h4⟩
def loSl (a v : Int) (g : Gau) : List Sl := if a < g.st then [⟨g.lo - v, g.st - a⟩] else if g.st < a then [⟨v - g.hi, a - g.st⟩] else []
def upSl (a v : Int) (g : Gau) : List Sl := if a < g.st then [⟨g.hi - v, g.st - a⟩] else if g.st < a then [⟨v - g.lo, a - g.st⟩] else []
theorem okS_iff {a v m e : Int} {g : Gau} : okS a v m e g ↔ (∀ x ∈ loSl a v g, x.m * e <= m * x.e) /\ (∀ x ∈ upSl a v g, m * x.e <= x.m * e) /\ (g.st = a -> g.lo * e <= v * e /\ v * e <= g.hi * e) := by
 unfold okS loSl upSl
 by_cases h1 : a < g.st
 ·simp only [h1, if_true, List.mem_singleton, forall_eq]
  constructor
  ·intro h; refine ⟨by grind, by grind, by omega⟩
  ·intro h; constructor <;> grind
 ·by_cases h2 : g.st < a
  ·simp only [h1, h2, if_true, if_false, List.mem_singleton, forall_eq]
   constructor
   ·intro h; refine ⟨by grind, by grind, by omega⟩
   ·intro h; constructor <;> grind
  ·have : g.st = a := by omega
   simp only [h1, h2, if_false, List.not_mem_nil, false_imp_iff, implies_true, true_and]
   rw [this, Int.sub_self, Int.mul_zero, Int.add_zero]
   simp
theorem loSl_e {a v : Int} {g : Gau} {x : Sl} (h : x ∈ loSl a v g) : 0 < x.e := by
 unfold loSl at h; split at h
 ·rw [List.mem_singleton.1 h]; show 0 < g.st - a; omega
 ·split at h
  ·rw [List.mem_singleton.1 h]; show 0 < a - g.st; omega
  ·cases h
theorem upSl_e {a v : Int} {g : Gau} {x : Sl} (h : x ∈ upSl a v g) : 0 < x.e := by
 unfold upSl at h; split at h
 ·rw [List.mem_singleton.1 h]; show 0 < g.st - a; omega
 ·split at h
  ·rw [List.mem_singleton.1 h]; show 0 < a - g.st; omega
  ·cases h
theorem frac_le {a b c d e f : Int} (hd : 0 < d) (h1 : a * d <= c * b) (h2 : c * f <= e * d) (hb : 0 <= b) (hf : 0 <= f) : a * f <= e * b := by
 have h3 := Int.mul_le_mul_of_nonneg_right h1 hf
 have h4 := Int.mul_le_mul_of_nonneg_right h2 hb
 refine Int.le_of_mul_le_mul_right (a := d) ?_ hd
 grind
theorem turn_down {s : List Gau} (hs : ∀ g ∈ s, okG g) {a v n d : Int} (hp : (⟨a, v⟩ : Pt) ∈ endsM s) (hd : 0 < d) (hn : 0 <= n) (h : ∀ g ∈ s, okS a v n d g) : ∃ y ∈ flM s, okL y /\ (rlL y).passes s /\ (rlL y).num a = v * (rlL y).w /\ (rlL y).q * d <= n * (rlL y).w := by
 obtain ⟨x, hx, hm⟩ := sl_max (⟨0, 1⟩ :: s.flatMap (loSl a v)) (by simp) (λ y hy => by
  rcases List.mem_cons.1 hy with rfl | hy
  ·exact Int.one_pos
  ·obtain ⟨g, _, hg⟩ := List.mem_flatMap.1 hy; exact loSl_e hg)
 have hxe : 0 < x.e := by
  rcases List.mem_cons.1 hx with rfl | hy
  ·exact Int.one_pos
  ·obtain ⟨g, _, hg⟩ := List.mem_flatMap.1 hy; exact loSl_e hg
 have hxm : 0 <= x.m := by have := hm ⟨0, 1⟩ (List.mem_cons_self ..); simp at this; omega
 have hle : x.m * d <= n * x.e := by
  rcases List.mem_cons.1 hx with rfl | hy
  ·simp; exact hn
  ·obtain ⟨g, hg, hgx⟩ := List.mem_flatMap.1 hy; exact (okS_iff.1 (h g hg)).1 _ hgx
 have hok : ∀ g ∈ s, okS a v x.m x.e g := λ g hg => okS_iff.2 ⟨λ y hy => hm y (List.mem_cons_of_mem _ (List.mem_flatMap.2 ⟨g, hg, hy⟩)), λ y hy => frac_le hd hle ((okS_iff.1 (h g hg)).2.1 y hy) (Int.le_of_lt hxe) (Int.le_of_lt (upSl_e hy)), λ he => by
  obtain ⟨h1, h2⟩ := (okS_iff.1 (h g hg)).2.2 he
  exact ⟨Int.mul_le_mul_of_nonneg_right (le_div hd h1) (Int.le_of_lt hxe), Int.mul_le_mul_of_nonneg_right (le_div hd h2) (Int.le_of_lt hxe)⟩⟩
 have hc : candS s a v x.m x.e := by
  rcases List.mem_cons.1 hx with rfl | hy
  ·exact cand_lev hs hp
  ·obtain ⟨g, hg, hgx⟩ := List.mem_flatMap.1 hy
   unfold loSl at hgx
   split at hgx
   ·rename_i hlt
    have := List.mem_singleton.1 hgx
    subst this
    exact cand_right hs hp (end_lo hg) hlt (by have : 0 <= g.lo - v := hxm; omega)
   ·split at hgx
    ·rename_i hlt
     have := List.mem_singleton.1 hgx
     subst this
     exact cand_left hs hp (end_hi hg) hlt (by have : 0 <= v - g.hi := hxm; omega)
    ·cases hgx
 obtain ⟨y, y1, y2, y3, y4, y5⟩ := cand_pass hxe hc hok
 refine ⟨y, y1, y2, y3, y4, ?_⟩
 have hw := (rlL_ok y2).1
 exact frac_le hxe (by rw [y5]; exact Int.le_refl _) hle (Int.le_of_lt hw) (Int.le_of_lt hd)
theorem turn_up {s : List Gau} (hs : ∀ g ∈ s, okG g) {a v n d : Int} (hp : (⟨a, v⟩ : Pt) ∈ endsM s) (hd : 0 < d) (hn : 0 <= n) (h : ∀ g ∈ s, okS a v n d g) (ho : ∃ g ∈ s, g.st ≠ a) : ∃ y ∈ flM s, okL y /\ (rlL y).passes s /\ (rlL y).num a = v * (rlL y).w /\ n * (rlL y).w <= (rlL y).q * d := by
 obtain ⟨x, hx, hm⟩ := sl_max ((s.flatMap (upSl a v)).map λ z => ⟨-z.m, z.e⟩) (by
  obtain ⟨g, hg, hne⟩ := ho
  intro he
  have he := List.map_eq_nil_iff.1 he
  have : upSl a v g = [] := by
   have := List.flatMap_eq_nil_iff.1 he g hg; exact this
  unfold upSl at this
  by_cases h1 : a < g.st
  ·rw [if_pos h1] at this; cases this
  ·rw [if_neg h1, if_pos (by omega)] at this; cases this) (λ y hy => by
  obtain ⟨z, hz, rfl⟩ := List.mem_map.1 hy
  obtain ⟨g, _, hg⟩ := List.mem_flatMap.1 hz; exact upSl_e (x := z) hg)
 obtain ⟨z, hz, rfl⟩ := List.mem_map.1 hx
 obtain ⟨g0, hg0, hgz⟩ := List.mem_flatMap.1 hz
 have hze : 0 < z.e := upSl_e hgz
 have hmz : ∀ g ∈ s, ∀ y ∈ upSl a v g, z.m * y.e <= y.m * z.e := λ g hg y hy => by
  have := hm ⟨-y.m, y.e⟩ (List.mem_map.2 ⟨y, List.mem_flatMap.2 ⟨g, hg, hy⟩, rfl⟩)
  simp only [Int.neg_mul] at this; omega
 have hle : n * z.e <= z.m * d := (okS_iff.1 (h g0 hg0)).2.1 _ hgz
 have hzm : 0 <= z.m := by
  have h1 := Int.mul_nonneg hn (Int.le_of_lt hze)
  exact le_div hd (by rw [Int.zero_mul]; omega)
 have hok : ∀ g ∈ s, okS a v z.m z.e g := λ g hg => okS_iff.2 ⟨λ y hy => frac_le hd ((okS_iff.1 (h g hg)).1 y hy) hle (Int.le_of_lt (loSl_e hy)) (Int.le_of_lt hze), λ y hy => hmz g hg y hy, λ he => by
  obtain ⟨h1, h2⟩ := (okS_iff.1 (h g hg)).2.2 he
  exact ⟨Int.mul_le_mul_of_nonneg_right (le_div hd h1) (Int.le_of_lt hze), Int.mul_le_mul_of_nonneg_right (le_div hd h2) (Int.le_of_lt hze)⟩⟩
 have hc : candS s a v z.m z.e := by
  unfold upSl at hgz
  split at hgz
  ·rename_i hlt
   have := List.mem_singleton.1 hgz
   subst this
   exact cand_right hs hp (end_hi hg0) hlt (by have : 0 <= g0.hi - v := hzm; omega)
  ·split at hgz
   ·rename_i hlt
    have := List.mem_singleton.1 hgz
    subst this
    exact cand_left hs hp (end_lo hg0) hlt (by have : 0 <= v - g0.lo := hzm; omega)
   ·cases hgz
 obtain ⟨y, y1, y2, y3, y4, y5⟩ := cand_pass hze hc hok
 refine ⟨y, y1, y2, y3, y4, ?_⟩
 have hw := (rlL_ok y2).1
 have := frac_le hze hle (by rw [<- y5]; exact Int.le_refl _) (Int.le_of_lt hd) (Int.le_of_lt hw)
 exact this
theorem fl_ne {f : Rl} {s : List Gau} (hs : ∀ g ∈ s, okG g) (hf : f.ok) (hp : f.passes s) (hne : s ≠ []) : flM s ≠ [] := by
 obtain ⟨g, hg, h1, _⟩ := shift_lo hf hp hne
 obtain ⟨y, hy, _⟩ := turn_down hs (end_lo hg) hf.1 hf.2 h1
 intro he; rw [he] at hy; cases hy
theorem mem_lns {s : List Gau} {t : Int} {x : Ln} (h : s ≠ [] -> flM s ≠ []) : x ∈ lnsM s t ↔ x ∈ flM s ∨ x ∈ (moM s t).filter (okX s) := by
 unfold lnsM
 have : (bif decide (0 < s.length) then decide ((flM s).length = 0) else false) = false := by
  by_cases hn : 0 < s.length
  ·rw [decide_eq_true hn]
   have := h (by intro he; rw [he] at hn; cases hn)
   exact decide_eq_false (by intro he; exact this (List.eq_nil_of_length_eq_zero he))
  ·rw [decide_eq_false hn]; rfl
 rw [this]
 exact List.mem_append
theorem lns_pass {s : List Gau} {t : Int} (hs : ∀ g ∈ s, okG g) {x : Ln} (hx : x ∈ lnsM s t) : okL x /\ (rlL x).passes s := by
 have hok := lns_ok hs x hx
 refine ⟨hok, (paM_iff hok).1 ?_⟩
 rw [lnsM_c] at hx
 revert hx
 cases (bif decide ((s.length : Int) > 0) then ((flM s).length : Int) == 0 else false) with
 | true => intro hx; cases hx
 | false =>
  intro hx
  rcases List.mem_append.1 hx with hx | hx
  ·exact (List.mem_filter.1 hx).2
  ·have := (List.mem_filter.1 hx).2
   unfold okX at this
   cases hr : riL x with
   | true => rw [hr] at this; exact this
   | false => rw [hr] at this; cases this
theorem mo_lev {s : List Gau} {t v : Int} (h : v = 0 ∨ v = 200000) : levM ⟨t, v⟩ ∈ moM s t := by
 unfold moM moB
 rcases h with rfl | rfl <;> simp
theorem mo_low {s : List Gau} {t : Int} {p : Pt} (h : p ∈ endsM s) : lnM ⟨t, 0⟩ p ∈ moM s t /\ lnM p ⟨t, 200000⟩ ∈ moM s t := by
 unfold moM
 constructor <;> (refine List.mem_append.2 (.inr (List.mem_flatMap.2 ⟨p, h, ?_⟩)); simp)
theorem mem_okX {s : List Gau} {x : Ln} (h1 : okL x) (h2 : (rlL x).passes s) : okX s x = true := by
 unfold okX; rw [riL_ok.2 h1]; exact (paM_iff h1).2 h2
theorem low_cand {f : Rl} {s : List Gau} {t : Int} (hs : ∀ g ∈ s, okG g) (ht : 0 <= t /\ t <= 2000) (hf : f.ok) (hp : f.passes s) : ∃ y ∈ lnsM s t, okL y /\ ((rlL y).num t <= 0 ∨ (rlL y).num t * f.w <= f.num t * (rlL y).w) := by
 by_cases hne : s = []
 ·subst hne
  have ho : okL (levM ⟨t, 0⟩) := lev_ok ⟨ht.1, ht.2, by show (0 : Int) <= 0; omega, by show (0 : Int) <= 200000; omega⟩
  refine ⟨levM ⟨t, 0⟩, (mem_lns (λ h => (h rfl).elim)).2 (.inr (List.mem_filter.2 ⟨mo_lev (.inl rfl), mem_okX ho (λ g hg => by cases hg)⟩)), ho, .inl ?_⟩
  rw [(lev_num _ _).1, Int.zero_mul]; exact Int.le_refl _
 ·have hfl := fl_ne hs hf hp hne
  obtain ⟨g, hg, h1, h2⟩ := shift_lo hf hp hne
  have hm : ∀ y ∈ flM s, y ∈ lnsM s t := λ y hy => (mem_lns (λ _ => hfl)).2 (.inl hy)
  by_cases hat : g.st <= t
  ·obtain ⟨y, y1, y2, y3, y4, y5⟩ := turn_down hs (end_lo hg) hf.1 hf.2 h1
   refine ⟨y, hm y y1, y2, .inr ?_⟩
   have hw := (rlL_ok y2).1
   have a1 := Int.mul_le_mul_of_nonneg_right y5 (show 0 <= t - g.st by omega)
   have a2 := Int.mul_le_mul_of_nonneg_right (h2 t) (Int.le_of_lt hw)
   have e1 : (rlL y).num t = g.lo * (rlL y).w + (rlL y).q * (t - g.st) := by unfold Rl.num at *; grind
   rw [e1]; grind
  ·by_cases ho : ∃ h ∈ s, h.st ≠ g.st
   ·obtain ⟨y, y1, y2, y3, y4, y5⟩ := turn_up hs (end_lo hg) hf.1 hf.2 h1 ho
    refine ⟨y, hm y y1, y2, .inr ?_⟩
    have hw := (rlL_ok y2).1
    have a1 := Int.mul_le_mul_of_nonneg_right y5 (show 0 <= g.st - t by omega)
    have a2 := Int.mul_le_mul_of_nonneg_right (h2 t) (Int.le_of_lt hw)
    have e1 : (rlL y).num t = g.lo * (rlL y).w + (rlL y).q * (t - g.st) := by unfold Rl.num at *; grind
    rw [e1]; grind
   ·have hall : ∀ h ∈ s, h.st = g.st := λ h hh => Classical.byContradiction λ hc => ho ⟨h, hh, hc⟩
    have og := hs g hg
    have hk : okL (lnM ⟨t, 0⟩ ⟨g.st, g.lo⟩) := ⟨ht.1, by show t < g.st; omega, og.2.1, Int.le_refl _, og.2.2.1, by show g.lo <= 200000; have := og.2.2.2; omega⟩
    refine ⟨_, (mem_lns (λ _ => hfl)).2 (.inr (List.mem_filter.2 ⟨(mo_low (end_lo hg)).1, mem_okX hk (λ h hh => ?_)⟩)), hk, .inl ?_⟩
    ·obtain ⟨b1, b2⟩ := (okS_iff.1 (h1 h hh)).2.2 (hall h hh)
     have c1 := le_div hf.1 b1
     have c2 := le_div hf.1 b2
     unfold Rl.pass
     rw [ln_num, hall h hh]
     have hw : 0 < g.st - t := by omega
     have e : (rlL (lnM ⟨t, 0⟩ ⟨g.st, g.lo⟩)).w = g.st - t := rfl
     rw [e]
     have d1 := Int.mul_le_mul_of_nonneg_right c1 (Int.le_of_lt hw)
     have d2 := Int.mul_le_mul_of_nonneg_right c2 (Int.le_of_lt hw)
     constructor <;> simp only [Int.zero_mul, Int.zero_add, Int.sub_zero] <;> omega
    ·rw [ln_num]; simp
theorem high_cand {f : Rl} {s : List Gau} {t : Int} (hs : ∀ g ∈ s, okG g) (ht : 0 <= t /\ t <= 2000) (hf : f.ok) (hp : f.passes s) : ∃ y ∈ lnsM s t, okL y /\ (200000 * (rlL y).w <= (rlL y).num t ∨ f.num t * (rlL y).w <= (rlL y).num t * f.w) := by
 by_cases hne : s = []
 ·subst hne
  have ho : okL (levM ⟨t, 200000⟩) := lev_ok ⟨ht.1, ht.2, by show (0 : Int) <= 200000; omega, by show (200000 : Int) <= 200000; omega⟩
  refine ⟨levM ⟨t, 200000⟩, (mem_lns (λ h => (h rfl).elim)).2 (.inr (List.mem_filter.2 ⟨mo_lev (.inr rfl), mem_okX ho (λ g hg => by cases hg)⟩)), ho, .inl ?_⟩
  rw [(lev_num _ _).1]; exact Int.le_refl _
 ·have hfl := fl_ne hs hf hp hne
  obtain ⟨g, hg, h1, h2⟩ := shift_hi hf hp hne
  have hm : ∀ y ∈ flM s, y ∈ lnsM s t := λ y hy => (mem_lns (λ _ => hfl)).2 (.inl hy)
  by_cases hat : t <= g.st
  ·obtain ⟨y, y1, y2, y3, y4, y5⟩ := turn_down hs (end_hi hg) hf.1 hf.2 h1
   refine ⟨y, hm y y1, y2, .inr ?_⟩
   have hw := (rlL_ok y2).1
   have a1 := Int.mul_le_mul_of_nonneg_right y5 (show 0 <= g.st - t by omega)
   have a2 := Int.mul_le_mul_of_nonneg_right (h2 t) (Int.le_of_lt hw)
   have e1 : (rlL y).num t = g.hi * (rlL y).w + (rlL y).q * (t - g.st) := by unfold Rl.num at *; grind
   rw [e1]; grind
  ·by_cases ho : ∃ h ∈ s, h.st ≠ g.st
   ·obtain ⟨y, y1, y2, y3, y4, y5⟩ := turn_up hs (end_hi hg) hf.1 hf.2 h1 ho
    refine ⟨y, hm y y1, y2, .inr ?_⟩
    have hw := (rlL_ok y2).1
    have a1 := Int.mul_le_mul_of_nonneg_right y5 (show 0 <= t - g.st by omega)
    have a2 := Int.mul_le_mul_of_nonneg_right (h2 t) (Int.le_of_lt hw)
    have e1 : (rlL y).num t = g.hi * (rlL y).w + (rlL y).q * (t - g.st) := by unfold Rl.num at *; grind
    rw [e1]; grind
   ·have hall : ∀ h ∈ s, h.st = g.st := λ h hh => Classical.byContradiction λ hc => ho ⟨h, hh, hc⟩
    have og := hs g hg
    have hk : okL (lnM ⟨g.st, g.hi⟩ ⟨t, 200000⟩) := ⟨og.1, by show g.st < t; omega, ht.2, by show 0 <= g.hi; have := og.2.2; omega, og.2.2.2.2, by show (200000 : Int) <= 200000; omega⟩
    refine ⟨_, (mem_lns (λ _ => hfl)).2 (.inr (List.mem_filter.2 ⟨(mo_low (end_hi hg)).2, mem_okX hk (λ h hh => ?_)⟩)), hk, .inl ?_⟩
    ·obtain ⟨b1, b2⟩ := (okS_iff.1 (h1 h hh)).2.2 (hall h hh)
     have c1 := le_div hf.1 b1
     have c2 := le_div hf.1 b2
     unfold Rl.pass
     rw [ln_num, hall h hh]
     have hw : 0 < t - g.st := by omega
     have e : (rlL (lnM ⟨g.st, g.hi⟩ ⟨t, 200000⟩)).w = t - g.st := rfl
     rw [e]
     have d1 := Int.mul_le_mul_of_nonneg_right c1 (Int.le_of_lt hw)
     have d2 := Int.mul_le_mul_of_nonneg_right c2 (Int.le_of_lt hw)
     constructor <;> simp only [Int.sub_self, Int.mul_zero, Int.add_zero] <;> omega
    ·rw [ln_num]
     show 200000 * (t - g.st) <= g.hi * (t - g.st) + (200000 - g.hi) * (t - g.st)
     grind
end Go.Bal
