/- Package rating: rising lines through all gaugings lie between the candidates (no program in sight). -/
import Derived.Test.YtoihhodbkimedaaGreatRatI
set_option linter.unusedVariables false
set_option linter.unusedSimpArgs false
namespace Go.Bal
open Go Go.Sym Go.Proofs
structure Rl where
 p : Int
 q : Int
 w : Int
def Rl.num (f : Rl) (u : Int) : Int := f.p + f.q * u
def Rl.ok (f : Rl) : Prop := 0 < f.w /\ 0 <= f.q
def Rl.pass (f : Rl) (g : Gau) : Prop := g.lo * f.w <= f.num g.st /\ f.num g.st <= g.hi * f.w
def Rl.passes (f : Rl) (s : List Gau) : Prop := ∀ g ∈ s, f.pass g
def CH (x : Ln) : Rl := ⟨x.a1 * (x.b0 - x.a0) - (x.b1 - x.a1) * x.a0, x.b1 - x.a1, x.b0 - x.a0⟩
theorem BO {x : Ln} (h : DR x) : (CH x).ok := by
 obtain ⟨h1, h2, h3, h4, h5, h6⟩ := h
 exact ⟨by show 0 < x.b0 - x.a0; omega, by show 0 <= x.b1 - x.a1; omega⟩
theorem BGA (x : Ln) (t : Int) : (CH x).num t = x.a1 * (x.b0 - x.a0) + (x.b1 - x.a1) * (t - x.a0) := by
 show x.a1 * (x.b0 - x.a0) - (x.b1 - x.a1) * x.a0 + (x.b1 - x.a1) * t = _
 grind
theorem AJN (x : Ln) (t : Int) : ER x t = FD ((CH x).num t) (CH x).w := by rw [BGA]; rfl
theorem WD {a b c : Int} (hc : 0 < c) (h : a * c <= b * c) : a <= b := Int.le_of_mul_le_mul_right h hc
theorem AFF {x : Ln} {g : Gau} (h : DR x) : BJ x g = true ↔ (CH x).pass g := by
 have hw := (BO h).1
 have hv := WS (n := (CH x).num g.st) hw
 have hd := (iE (n := (CH x).num g.st) hw).1
 unfold BJ Rl.pass
 rw [AJN]
 generalize FD ((CH x).num g.st) (CH x).w = r at *
 generalize (CH x).num g.st = N at *
 generalize (CH x).w = W at *
 rw [Bool.and_eq_true, decide_eq_true_eq, decide_eq_true_eq]
 constructor
 ·rintro ⟨h1, h2⟩
  have a1 := Int.mul_le_mul_of_nonneg_right h1 (Int.le_of_lt hw)
  have a2 := Int.mul_le_mul_of_nonneg_right h2 (Int.le_of_lt hw)
  constructor
  ·refine Int.le_of_mul_le_mul_right (a := r.d) ?_ hd; grind
  ·refine Int.le_of_mul_le_mul_right (a := r.d) ?_ hd; grind
 ·rintro ⟨h1, h2⟩
  have a1 := Int.mul_le_mul_of_nonneg_right h1 (Int.le_of_lt hd)
  have a2 := Int.mul_le_mul_of_nonneg_right h2 (Int.le_of_lt hd)
  constructor
  ·refine Int.le_of_mul_le_mul_right (a := W) ?_ hw; grind
  ·refine Int.le_of_mul_le_mul_right (a := W) ?_ hw; grind
theorem AHA {x : Ln} {s : List Gau} (h : DR x) : JO s x = true ↔ (CH x).passes s := by
 unfold JO Rl.passes
 rw [List.all_eq_true]
 exact ⟨λ a g hg => (AFF h).1 (a g hg), λ a g hg => (AFF h).2 (a g hg)⟩
def okS (a v m e : Int) (g : Gau) : Prop := g.lo * e <= v * e + m * (g.st - a) /\ v * e + m * (g.st - a) <= g.hi * e
theorem CAO {f : Rl} {a v m e : Int} {g : Gau} (he : 0 < e) (h1 : f.num a = v * f.w) (h2 : f.q * e = m * f.w) (hw : 0 < f.w) (h : okS a v m e g) : f.pass g := by
 obtain ⟨h3, h4⟩ := h
 have a1 := Int.mul_le_mul_of_nonneg_right h3 (Int.le_of_lt hw)
 have a2 := Int.mul_le_mul_of_nonneg_right h4 (Int.le_of_lt hw)
 have e1 : f.num g.st = v * f.w + f.q * (g.st - a) := by unfold Rl.num at *; grind
 have e2 : f.q * (g.st - a) * e = m * f.w * (g.st - a) := by grind
 constructor
 ·refine Int.le_of_mul_le_mul_right (a := e) ?_ he; rw [e1]; grind
 ·refine Int.le_of_mul_le_mul_right (a := e) ?_ he; rw [e1]; grind
structure Sl where
 m : Int
 e : Int
theorem BRV : ∀ (l : List Sl), l ≠ [] -> (∀ x ∈ l, 0 < x.e) -> ∃ x ∈ l, ∀ y ∈ l, y.m * x.e <= x.m * y.e
 | [], h, _ => (h rfl).elim
 | [x], _, _ => ⟨x, List.mem_singleton.2 rfl, λ y hy => by rw [List.mem_singleton.1 hy]; exact Int.le_refl _⟩
 | x :: z :: l, _, h => by
  obtain ⟨b, hb, hm⟩ := BRV (z :: l) (by simp) (λ y hy => h y (List.mem_cons_of_mem _ hy))
  have hx := h x (List.mem_cons_self ..)
  have hbe := h b (List.mem_cons_of_mem _ hb)
  rcases Int.le_total (x.m * b.e) (b.m * x.e) with hc | hc
  ·refine ⟨b, List.mem_cons_of_mem _ hb, λ y hy => ?_⟩
   rcases List.mem_cons.1 hy with rfl | hy
   ·exact hc
   ·exact hm y hy
  ·refine ⟨x, List.mem_cons_self .., λ y hy => ?_⟩
   rcases List.mem_cons.1 hy with rfl | hy
   ·exact Int.le_refl _
   ·have hye := h y (List.mem_cons_of_mem _ hy)
    have a1 := Int.mul_le_mul_of_nonneg_right (hm y hy) (Int.le_of_lt hx)
    have a2 := Int.mul_le_mul_of_nonneg_right hc (Int.le_of_lt hye)
    refine Int.le_of_mul_le_mul_right (a := b.e) ?_ hbe
    grind
theorem BIB (δ : Gau -> Int) : ∀ (s : List Gau), s ≠ [] -> ∃ g ∈ s, ∀ h ∈ s, δ g <= δ h
 | [], h => (h rfl).elim
 | [x], _ => ⟨x, List.mem_singleton.2 rfl, λ y hy => by rw [List.mem_singleton.1 hy]; exact Int.le_refl _⟩
 | x :: z :: l, _ => by
  obtain ⟨b, hb, hm⟩ := BIB δ (z :: l) (by simp)
  rcases Int.le_total (δ x) (δ b) with hc | hc
  ·refine ⟨x, List.mem_cons_self .., λ y hy => ?_⟩
   rcases List.mem_cons.1 hy with rfl | hy
   ·exact Int.le_refl _
   ·exact Int.le_trans hc (hm y hy)
  ·refine ⟨b, List.mem_cons_of_mem _ hb, λ y hy => ?_⟩
   rcases List.mem_cons.1 hy with rfl | hy
   ·exact hc
   ·exact hm y hy
theorem ARG {f : Rl} {s : List Gau} (hf : f.ok) (hs : f.passes s) (hne : s ≠ []) : ∃ g ∈ s, (∀ h ∈ s, okS g.st g.lo f.q f.w h) /\ ∀ u, g.lo * f.w + f.q * (u - g.st) <= f.num u := by
 obtain ⟨g, hg, hm⟩ := BIB (λ g => f.num g.st - g.lo * f.w) s hne
 refine ⟨g, hg, λ h hh => ?_, λ u => ?_⟩
 ·have h1 := hm h hh
  obtain ⟨h2, h3⟩ := hs h hh
  obtain ⟨h4, h5⟩ := hs g hg
  unfold Rl.num at *
  constructor <;> grind
 ·obtain ⟨h4, h5⟩ := hs g hg
  unfold Rl.num at *
  grind
theorem CGZ {f : Rl} {s : List Gau} (hf : f.ok) (hs : f.passes s) (hne : s ≠ []) : ∃ g ∈ s, (∀ h ∈ s, okS g.st g.hi f.q f.w h) /\ ∀ u, f.num u <= g.hi * f.w + f.q * (u - g.st) := by
 obtain ⟨g, hg, hm⟩ := BIB (λ g => g.hi * f.w - f.num g.st) s hne
 refine ⟨g, hg, λ h hh => ?_, λ u => ?_⟩
 ·have h1 := hm h hh
  obtain ⟨h2, h3⟩ := hs h hh
  obtain ⟨h4, h5⟩ := hs g hg
  unfold Rl.num at *
  constructor <;> grind
 ·obtain ⟨h4, h5⟩ := hs g hg
  unfold Rl.num at *
  grind
def BBJ (s : List Gau) (a v m e : Int) : Prop := ∃ y ∈ LQ s, DR y /\ (CH y).num a = v * (CH y).w /\ (CH y).q * e = m * (CH y).w
theorem CHE {s : List Gau} {p : Pt} (h : p ∈ AA s) : AL p ∈ LQ s := by
 unfold LQ blk; exact List.mem_flatMap.2 ⟨p, h, List.mem_cons_self ..⟩
theorem BUD {s : List Gau} {p q : Pt} (h : p ∈ AA s) (h2 : q ∈ AA s) (h3 : DR (Iq p q)) : Iq p q ∈ LQ s := by
 unfold LQ blk
 exact List.mem_flatMap.2 ⟨p, h, List.mem_cons_of_mem _ (List.mem_filter.2 ⟨List.mem_map.2 ⟨q, h2, rfl⟩, Fu.2 h3⟩)⟩
theorem aI {s : List Gau} {g : Gau} (h : g ∈ s) : (⟨g.st, g.lo⟩ : Pt) ∈ AA s := AWH.2 ⟨g, h, .inl rfl⟩
theorem AOH {s : List Gau} {g : Gau} (h : g ∈ s) : (⟨g.st, g.hi⟩ : Pt) ∈ AA s := AWH.2 ⟨g, h, .inr rfl⟩
theorem AGP (p : Pt) (u : Int) : (CH (AL p)).num u = p.fl * (CH (AL p)).w /\ (CH (AL p)).q = 0 := by
 rw [BGA]
 unfold AL; split <;> (simp only [CH]; constructor <;> grind)
theorem CDS {s : List Gau} (hs : ∀ g ∈ s, DJ g) {a v : Int} (h : (⟨a, v⟩ : Pt) ∈ AA s) : BBJ s a v 0 1 := by
 refine ⟨_, CHE h, Da (VZ hs h), (AGP _ _).1, ?_⟩
 rw [(AGP ⟨a, v⟩ 0).2]; omega
theorem yW (p q : Pt) (u : Int) : (CH (Iq p q)).num u = p.fl * (q.st - p.st) + (q.fl - p.fl) * (u - p.st) := by rw [BGA]; rfl
theorem AKW {s : List Gau} (hs : ∀ g ∈ s, DJ g) {a v b z : Int} (h : (⟨a, v⟩ : Pt) ∈ AA s) (h2 : (⟨b, z⟩ : Pt) ∈ AA s) (hab : a < b) (hvz : v <= z) : BBJ s a v (z - v) (b - a) := by
 have o1 := VZ hs h
 have o2 := VZ hs h2
 have hl : DR (Iq ⟨a, v⟩ ⟨b, z⟩) := ⟨o1.1, hab, o2.2.1, o1.2.2.1, hvz, o2.2.2.2⟩
 exact ⟨_, BUD h h2 hl, hl, by rw [yW]; simp [CH, Iq], by simp [CH, Iq]⟩
theorem BCF {s : List Gau} (hs : ∀ g ∈ s, DJ g) {a v b z : Int} (h : (⟨a, v⟩ : Pt) ∈ AA s) (h2 : (⟨b, z⟩ : Pt) ∈ AA s) (hab : b < a) (hvz : z <= v) : BBJ s a v (v - z) (a - b) := by
 have o1 := VZ hs h
 have o2 := VZ hs h2
 have hl : DR (Iq ⟨b, z⟩ ⟨a, v⟩) := ⟨o2.1, hab, o1.2.1, o2.2.2.1, hvz, o1.2.2.2⟩
 exact ⟨_, BUD h2 h hl, hl, by rw [yW]; simp only [CH, Iq]; grind, by simp [CH, Iq]⟩
theorem BCB {s : List Gau} {a v m e : Int} (he : 0 < e) (h : BBJ s a v m e) (hp : ∀ g ∈ s, okS a v m e g) : ∃ y ∈ EP s, DR y /\ (CH y).passes s /\ (CH y).num a = v * (CH y).w /\ (CH y).q * e = m * (CH y).w := by
 obtain ⟨y, h1, h2, h3, h4⟩ := h
 have hy : (CH y).passes s := λ g hg => CAO he h3 h4 (BO h2).1 (hp g hg)
 exact ⟨y, List.mem_filter.2 ⟨h1, (AHA h2).2 hy⟩, h2, hy, h3, h4⟩
def loSl (a v : Int) (g : Gau) : List Sl := if a < g.st then [⟨g.lo - v, g.st - a⟩] else if g.st < a then [⟨v - g.hi, a - g.st⟩] else []
def upSl (a v : Int) (g : Gau) : List Sl := if a < g.st then [⟨g.hi - v, g.st - a⟩] else if g.st < a then [⟨v - g.lo, a - g.st⟩] else []
theorem OV {a v m e : Int} {g : Gau} : okS a v m e g ↔ (∀ x ∈ loSl a v g, x.m * e <= m * x.e) /\ (∀ x ∈ upSl a v g, m * x.e <= x.m * e) /\ (g.st = a -> g.lo * e <= v * e /\ v * e <= g.hi * e) := by
 unfold okS loSl upSl
 by_cases h1 : a < g.st
 ·simp only [h1, if_true, List.mem_singleton, forall_eq]
  constructor
  ·intro h; refine ⟨by grind, by grind, by omega⟩
  ·intro h; constructor <;> grind
 ·by_cases h2 : g.st < a
  ·simp only [h1, h2, if_true, if_false, List.mem_singleton, forall_eq]
   constructor
   ·intro h; refine ⟨by grind, by grind, by omega⟩
   ·intro h; constructor <;> grind
  ·have : g.st = a := by omega
   simp only [h1, h2, if_false, List.not_mem_nil, false_imp_iff, implies_true, true_and]
   rw [this, Int.sub_self, Int.mul_zero, Int.add_zero]
   simp
theorem BSC {a v : Int} {g : Gau} {x : Sl} (h : x ∈ loSl a v g) : 0 < x.e := by
 unfold loSl at h; split at h
 ·rw [List.mem_singleton.1 h]; show 0 < g.st - a; omega
 ·split at h
  ·rw [List.mem_singleton.1 h]; show 0 < a - g.st; omega
  ·cases h
theorem BRX {a v : Int} {g : Gau} {x : Sl} (h : x ∈ upSl a v g) : 0 < x.e := by
 unfold upSl at h; split at h
 ·rw [List.mem_singleton.1 h]; show 0 < g.st - a; omega
 ·split at h
  ·rw [List.mem_singleton.1 h]; show 0 < a - g.st; omega
  ·cases h
theorem pJ {a b c d e f : Int} (hd : 0 < d) (h1 : a * d <= c * b) (h2 : c * f <= e * d) (hb : 0 <= b) (hf : 0 <= f) : a * f <= e * b := by
 have h3 := Int.mul_le_mul_of_nonneg_right h1 hf
 have h4 := Int.mul_le_mul_of_nonneg_right h2 hb
 refine Int.le_of_mul_le_mul_right (a := d) ?_ hd
 grind
theorem Rh {s : List Gau} (hs : ∀ g ∈ s, DJ g) {a v n d : Int} (hp : (⟨a, v⟩ : Pt) ∈ AA s) (hd : 0 < d) (hn : 0 <= n) (h : ∀ g ∈ s, okS a v n d g) : ∃ y ∈ EP s, DR y /\ (CH y).passes s /\ (CH y).num a = v * (CH y).w /\ (CH y).q * d <= n * (CH y).w := by
 obtain ⟨x, hx, hm⟩ := BRV (⟨0, 1⟩ :: s.flatMap (loSl a v)) (by simp) (λ y hy => by
  rcases List.mem_cons.1 hy with rfl | hy
  ·exact Int.one_pos
  ·obtain ⟨g, _, hg⟩ := List.mem_flatMap.1 hy; exact BSC hg)
 have hxe : 0 < x.e := by
  rcases List.mem_cons.1 hx with rfl | hy
  ·exact Int.one_pos
  ·obtain ⟨g, _, hg⟩ := List.mem_flatMap.1 hy; exact BSC hg
 have hxm : 0 <= x.m := by have := hm ⟨0, 1⟩ (List.mem_cons_self ..); simp at this; omega
 have hle : x.m * d <= n * x.e := by
  rcases List.mem_cons.1 hx with rfl | hy
  ·simp; exact hn
  ·obtain ⟨g, hg, hgx⟩ := List.mem_flatMap.1 hy; exact (OV.1 (h g hg)).1 _ hgx
 have hok : ∀ g ∈ s, okS a v x.m x.e g := λ g hg => OV.2 ⟨λ y hy => hm y (List.mem_cons_of_mem _ (List.mem_flatMap.2 ⟨g, hg, hy⟩)), λ y hy => pJ hd hle ((OV.1 (h g hg)).2.1 y hy) (Int.le_of_lt hxe) (Int.le_of_lt (BRX hy)), λ he => by
  obtain ⟨h1, h2⟩ := (OV.1 (h g hg)).2.2 he
  exact ⟨Int.mul_le_mul_of_nonneg_right (WD hd h1) (Int.le_of_lt hxe), Int.mul_le_mul_of_nonneg_right (WD hd h2) (Int.le_of_lt hxe)⟩⟩
 have hc : BBJ s a v x.m x.e := by
  rcases List.mem_cons.1 hx with rfl | hy
  ·exact CDS hs hp
  ·obtain ⟨g, hg, hgx⟩ := List.mem_flatMap.1 hy
   unfold loSl at hgx
   split at hgx
   ·rename_i hlt
    have := List.mem_singleton.1 hgx
    subst this
    exact AKW hs hp (aI hg) hlt (by have : 0 <= g.lo - v := hxm; omega)
   ·split at hgx
    ·rename_i hlt
     have := List.mem_singleton.1 hgx
     subst this
     exact BCF hs hp (AOH hg) hlt (by have : 0 <= v - g.hi := hxm; omega)
    ·cases hgx
 obtain ⟨y, y1, y2, y3, y4, y5⟩ := BCB hxe hc hok
 refine ⟨y, y1, y2, y3, y4, ?_⟩
 have hw := (BO y2).1
 exact pJ hxe (by rw [y5]; exact Int.le_refl _) hle (Int.le_of_lt hw) (Int.le_of_lt hd)
theorem BVH {s : List Gau} (hs : ∀ g ∈ s, DJ g) {a v n d : Int} (hp : (⟨a, v⟩ : Pt) ∈ AA s) (hd : 0 < d) (hn : 0 <= n) (h : ∀ g ∈ s, okS a v n d g) (ho : ∃ g ∈ s, g.st ≠ a) : ∃ y ∈ EP s, DR y /\ (CH y).passes s /\ (CH y).num a = v * (CH y).w /\ n * (CH y).w <= (CH y).q * d := by
 obtain ⟨x, hx, hm⟩ := BRV ((s.flatMap (upSl a v)).map λ z => ⟨-z.m, z.e⟩) (by
  obtain ⟨g, hg, hne⟩ := ho
  intro he
  have he := List.map_eq_nil_iff.1 he
  have : upSl a v g = [] := by
   have := List.flatMap_eq_nil_iff.1 he g hg; exact this
  unfold upSl at this
  by_cases h1 : a < g.st
  ·rw [if_pos h1] at this; cases this
  ·rw [if_neg h1, if_pos (by omega)] at this; cases this) (λ y hy => by
  obtain ⟨z, hz, rfl⟩ := List.mem_map.1 hy
  obtain ⟨g, _, hg⟩ := List.mem_flatMap.1 hz; exact BRX (x := z) hg)
 obtain ⟨z, hz, rfl⟩ := List.mem_map.1 hx
 obtain ⟨g0, hg0, hgz⟩ := List.mem_flatMap.1 hz
 have hze : 0 < z.e := BRX hgz
 have hmz : ∀ g ∈ s, ∀ y ∈ upSl a v g, z.m * y.e <= y.m * z.e := λ g hg y hy => by
  have := hm ⟨-y.m, y.e⟩ (List.mem_map.2 ⟨y, List.mem_flatMap.2 ⟨g, hg, hy⟩, rfl⟩)
  simp only [Int.neg_mul] at this; omega
 have hle : n * z.e <= z.m * d := (OV.1 (h g0 hg0)).2.1 _ hgz
 have hzm : 0 <= z.m := by
  have h1 := Int.mul_nonneg hn (Int.le_of_lt hze)
  exact WD hd (by rw [Int.zero_mul]; omega)
 have hok : ∀ g ∈ s, okS a v z.m z.e g := λ g hg => OV.2 ⟨λ y hy => pJ hd ((OV.1 (h g hg)).1 y hy) hle (Int.le_of_lt (BSC hy)) (Int.le_of_lt hze), λ y hy => hmz g hg y hy, λ he => by
  obtain ⟨h1, h2⟩ := (OV.1 (h g hg)).2.2 he
  exact ⟨Int.mul_le_mul_of_nonneg_right (WD hd h1) (Int.le_of_lt hze), Int.mul_le_mul_of_nonneg_right (WD hd h2) (Int.le_of_lt hze)⟩⟩
 have hc : BBJ s a v z.m z.e := by
  unfold upSl at hgz
  split at hgz
  ·rename_i hlt
   have := List.mem_singleton.1 hgz
   subst this
   exact AKW hs hp (AOH hg0) hlt (by have : 0 <= g0.hi - v := hzm; omega)
  ·split at hgz
   ·rename_i hlt
    have := List.mem_singleton.1 hgz
    subst this
    exact BCF hs hp (aI hg0) hlt (by have : 0 <= v - g0.lo := hzm; omega)
   ·cases hgz
 obtain ⟨y, y1, y2, y3, y4, y5⟩ := BCB hze hc hok
 refine ⟨y, y1, y2, y3, y4, ?_⟩
 have hw := (BO y2).1
 have := pJ hze hle (by rw [<- y5]; exact Int.le_refl _) (Int.le_of_lt hd) (Int.le_of_lt hw)
 exact this
theorem CCQ {f : Rl} {s : List Gau} (hs : ∀ g ∈ s, DJ g) (hf : f.ok) (hp : f.passes s) (hne : s ≠ []) : EP s ≠ [] := by
 obtain ⟨g, hg, h1, _⟩ := ARG hf hp hne
 obtain ⟨y, hy, _⟩ := Rh hs (aI hg) hf.1 hf.2 h1
 intro he; rw [he] at hy; cases hy
theorem Sk {s : List Gau} {t : Int} {x : Ln} (h : s ≠ [] -> EP s ≠ []) : x ∈ CR s t ↔ x ∈ EP s ∨ x ∈ (DC s t).filter (Yw s) := by
 unfold CR
 have : (bif decide (0 < s.length) then decide ((EP s).length = 0) else false) = false := by
  by_cases hn : 0 < s.length
  ·rw [decide_eq_true hn]
   have := h (by intro he; rw [he] at hn; cases hn)
   exact decide_eq_false (by intro he; exact this (List.eq_nil_of_length_eq_zero he))
  ·rw [decide_eq_false hn]; rfl
 rw [this]
 exact List.mem_append
theorem GH {s : List Gau} {t : Int} (hs : ∀ g ∈ s, DJ g) {x : Ln} (hx : x ∈ CR s t) : DR x /\ (CH x).passes s := by
 have hok := CFJ hs x hx
 refine ⟨hok, (AHA hok).1 ?_⟩
 rw [aJ] at hx
 revert hx
 cases (bif decide ((s.length : Int) > 0) then ((EP s).length : Int) == 0 else false) with
 | true => intro hx; cases hx
 | false =>
  intro hx
  rcases List.mem_append.1 hx with hx | hx
  ·exact (List.mem_filter.1 hx).2
  ·have := (List.mem_filter.1 hx).2
   unfold Yw at this
   cases hr : SK x with
   | true => rw [hr] at this; exact this
   | false => rw [hr] at this; cases this
theorem CAW {s : List Gau} {t v : Int} (h : v = 0 ∨ v = 200000) : AL ⟨t, v⟩ ∈ DC s t := by
 unfold DC moB
 rcases h with rfl | rfl <;> simp
theorem CIT {s : List Gau} {t : Int} {p : Pt} (h : p ∈ AA s) : Iq ⟨t, 0⟩ p ∈ DC s t /\ Iq p ⟨t, 200000⟩ ∈ DC s t := by
 unfold DC
 constructor <;> (refine List.mem_append.2 (.inr (List.mem_flatMap.2 ⟨p, h, ?_⟩)); simp)
theorem AGS {s : List Gau} {x : Ln} (h1 : DR x) (h2 : (CH x).passes s) : Yw s x = true := by
 unfold Yw; rw [Fu.2 h1]; exact (AHA h1).2 h2
theorem BMW {f : Rl} {s : List Gau} {t : Int} (hs : ∀ g ∈ s, DJ g) (ht : 0 <= t /\ t <= 2000) (hf : f.ok) (hp : f.passes s) : ∃ y ∈ CR s t, DR y /\ ((CH y).num t <= 0 ∨ (CH y).num t * f.w <= f.num t * (CH y).w) := by
 by_cases hne : s = []
 ·subst hne
  have ho : DR (AL ⟨t, 0⟩) := Da ⟨ht.1, ht.2, by show (0 : Int) <= 0; omega, by show (0 : Int) <= 200000; omega⟩
  refine ⟨AL ⟨t, 0⟩, (Sk (λ h => (h rfl).elim)).2 (.inr (List.mem_filter.2 ⟨CAW (.inl rfl), AGS ho (λ g hg => by cases hg)⟩)), ho, .inl ?_⟩
  rw [(AGP _ _).1, Int.zero_mul]; exact Int.le_refl _
 ·have hfl := CCQ hs hf hp hne
  obtain ⟨g, hg, h1, h2⟩ := ARG hf hp hne
  have hm : ∀ y ∈ EP s, y ∈ CR s t := λ y hy => (Sk (λ _ => hfl)).2 (.inl hy)
  by_cases hat : g.st <= t
  ·obtain ⟨y, y1, y2, y3, y4, y5⟩ := Rh hs (aI hg) hf.1 hf.2 h1
   refine ⟨y, hm y y1, y2, .inr ?_⟩
   have hw := (BO y2).1
   have a1 := Int.mul_le_mul_of_nonneg_right y5 (show 0 <= t - g.st by omega)
   have a2 := Int.mul_le_mul_of_nonneg_right (h2 t) (Int.le_of_lt hw)
   have e1 : (CH y).num t = g.lo * (CH y).w + (CH y).q * (t - g.st) := by unfold Rl.num at *; grind
   rw [e1]; grind
  ·by_cases ho : ∃ h ∈ s, h.st ≠ g.st
   ·obtain ⟨y, y1, y2, y3, y4, y5⟩ := BVH hs (aI hg) hf.1 hf.2 h1 ho
    refine ⟨y, hm y y1, y2, .inr ?_⟩
    have hw := (BO y2).1
    have a1 := Int.mul_le_mul_of_nonneg_right y5 (show 0 <= g.st - t by omega)
    have a2 := Int.mul_le_mul_of_nonneg_right (h2 t) (Int.le_of_lt hw)
    have e1 : (CH y).num t = g.lo * (CH y).w + (CH y).q * (t - g.st) := by unfold Rl.num at *; grind
    rw [e1]; grind
   ·have hall : ∀ h ∈ s, h.st = g.st := λ h hh => Classical.byContradiction λ hc => ho ⟨h, hh, hc⟩
    have og := hs g hg
    have hk : DR (Iq ⟨t, 0⟩ ⟨g.st, g.lo⟩) := ⟨ht.1, by show t < g.st; omega, og.2.1, Int.le_refl _, og.2.2.1, by show g.lo <= 200000; have := og.2.2.2; omega⟩
    refine ⟨_, (Sk (λ _ => hfl)).2 (.inr (List.mem_filter.2 ⟨(CIT (aI hg)).1, AGS hk (λ h hh => ?_)⟩)), hk, .inl ?_⟩
    ·obtain ⟨b1, b2⟩ := (OV.1 (h1 h hh)).2.2 (hall h hh)
     have c1 := WD hf.1 b1
     have c2 := WD hf.1 b2
     unfold Rl.pass
     rw [yW, hall h hh]
     have hw : 0 < g.st - t := by omega
     have e : (CH (Iq ⟨t, 0⟩ ⟨g.st, g.lo⟩)).w = g.st - t := rfl
     rw [e]
     have d1 := Int.mul_le_mul_of_nonneg_right c1 (Int.le_of_lt hw)
     have d2 := Int.mul_le_mul_of_nonneg_right c2 (Int.le_of_lt hw)
     constructor <;> simp only [Int.zero_mul, Int.zero_add, Int.sub_zero] <;> omega
    ·rw [yW]; simp
theorem BZH {f : Rl} {s : List Gau} {t : Int} (hs : ∀ g ∈ s, DJ g) (ht : 0 <= t /\ t <= 2000) (hf : f.ok) (hp : f.passes s) : ∃ y ∈ CR s t, DR y /\ (200000 * (CH y).w <= (CH y).num t ∨ f.num t * (CH y).w <= (CH y).num t * f.w) := by
 by_cases hne : s = []
 ·subst hne
  have ho : DR (AL ⟨t, 200000⟩) := Da ⟨ht.1, ht.2, by show (0 : Int) <= 200000; omega, by show (200000 : Int) <= 200000; omega⟩
  refine ⟨AL ⟨t, 200000⟩, (Sk (λ h => (h rfl).elim)).2 (.inr (List.mem_filter.2 ⟨CAW (.inr rfl), AGS ho (λ g hg => by cases hg)⟩)), ho, .inl ?_⟩
  rw [(AGP _ _).1]; exact Int.le_refl _
 ·have hfl := CCQ hs hf hp hne
  obtain ⟨g, hg, h1, h2⟩ := CGZ hf hp hne
  have hm : ∀ y ∈ EP s, y ∈ CR s t := λ y hy => (Sk (λ _ => hfl)).2 (.inl hy)
  by_cases hat : t <= g.st
  ·obtain ⟨y, y1, y2, y3, y4, y5⟩ := Rh hs (AOH hg) hf.1 hf.2 h1
   refine ⟨y, hm y y1, y2, .inr ?_⟩
   have hw := (BO y2).1
   have a1 := Int.mul_le_mul_of_nonneg_right y5 (show 0 <= g.st - t by omega)
   have a2 := Int.mul_le_mul_of_nonneg_right (h2 t) (Int.le_of_lt hw)
   have e1 : (CH y).num t = g.hi * (CH y).w + (CH y).q * (t - g.st) := by unfold Rl.num at *; grind
   rw [e1]; grind
  ·by_cases ho : ∃ h ∈ s, h.st ≠ g.st
   ·obtain ⟨y, y1, y2, y3, y4, y5⟩ := BVH hs (AOH hg) hf.1 hf.2 h1 ho
    refine ⟨y, hm y y1, y2, .inr ?_⟩
    have hw := (BO y2).1
    have a1 := Int.mul_le_mul_of_nonneg_right y5 (show 0 <= t - g.st by omega)
    have a2 := Int.mul_le_mul_of_nonneg_right (h2 t) (Int.le_of_lt hw)
    have e1 : (CH y).num t = g.hi * (CH y).w + (CH y).q * (t - g.st) := by unfold Rl.num at *; grind
    rw [e1]; grind
   ·have hall : ∀ h ∈ s, h.st = g.st := λ h hh => Classical.byContradiction λ hc => ho ⟨h, hh, hc⟩
    have og := hs g hg
    have hk : DR (Iq ⟨g.st, g.hi⟩ ⟨t, 200000⟩) := ⟨og.1, by show g.st < t; omega, ht.2, by show 0 <= g.hi; have := og.2.2; omega, og.2.2.2.2, by show (200000 : Int) <= 200000; omega⟩
    refine ⟨_, (Sk (λ _ => hfl)).2 (.inr (List.mem_filter.2 ⟨(CIT (AOH hg)).2, AGS hk (λ h hh => ?_)⟩)), hk, .inl ?_⟩
    ·obtain ⟨b1, b2⟩ := (OV.1 (h1 h hh)).2.2 (hall h hh)
     have c1 := WD hf.1 b1
     have c2 := WD hf.1 b2
     unfold Rl.pass
     rw [yW, hall h hh]
     have hw : 0 < t - g.st := by omega
     have e : (CH (Iq ⟨g.st, g.hi⟩ ⟨t, 200000⟩)).w = t - g.st := rfl
     rw [e]
     have d1 := Int.mul_le_mul_of_nonneg_right c1 (Int.le_of_lt hw)
     have d2 := Int.mul_le_mul_of_nonneg_right c2 (Int.le_of_lt hw)
     constructor <;> simp only [Int.sub_self, Int.mul_zero, Int.add_zero] <;> omega
    ·rw [yW]
     show 200000 * (t - g.st) <= g.hi * (t - g.st) + (200000 - g.hi) * (t - g.st)
     grind
end Go.Bal
