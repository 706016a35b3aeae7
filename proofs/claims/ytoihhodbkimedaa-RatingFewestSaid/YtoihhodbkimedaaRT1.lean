/- Package rating: rising lines through all gaugings lie between the candidates (no program in sight). -/
import Derived.Test.YtoihhodbkimedaaRatI
set_option linter.unusedVariables false
set_option linter.unusedSimpArgs false
namespace Go.Bal
open Go Go.Sym Go.Proofs
structure Rl where
 p : Int
 q : Int
 w : Int
def Rl.num (f : Rl) (u : Int) : Int := f.p + f.q * u
def Rl.ok (f : Rl) : Prop := 0 < f.w /\ 0 <= f.q
def Rl.pass (f : Rl) (g : Gau) : Prop := g.lo * f.w <= f.num g.st /\ f.num g.st <= g.hi * f.w
def Rl.passes (f : Rl) (s : List Gau) : Prop := ∀ g ∈ s, f.pass g
def OJ (x : Ln) : Rl := ⟨x.a1 * (x.b0 - x.a0) - (x.b1 - x.a1) * x.a0, x.b1 - x.a1, x.b0 - x.a0⟩
theorem LB {x : Ln} (h : NJ x) : (OJ x).ok := by
 obtain ⟨h1, h2, h3, h4, h5, h6⟩ := h
 exact ⟨by show 0 < x.b0 - x.a0; omega, by show 0 <= x.b1 - x.a1; omega⟩
theorem ALD (x : Ln) (t : Int) : (OJ x).num t = x.a1 * (x.b0 - x.a0) + (x.b1 - x.a1) * (t - x.a0) := by
 show x.a1 * (x.b0 - x.a0) - (x.b1 - x.a1) * x.a0 + (x.b1 - x.a1) * t = _
 grind
theorem BJB (x : Ln) (t : Int) : yV x t = cS ((OJ x).num t) (OJ x).w := by rw [ALD]; rfl
theorem eC {a b c : Int} (hc : 0 < c) (h : a * c <= b * c) : a <= b := Int.le_of_mul_le_mul_right h hc
theorem ADR {x : Ln} {g : Gau} (h : NJ x) : KI x g = true ↔ (OJ x).pass g := by
 have hw := (LB h).1
 have hv := ARQ (n := (OJ x).num g.st) hw
 have hd := (BFB (n := (OJ x).num g.st) hw).1
 unfold KI Rl.pass
 rw [BJB]
 generalize cS ((OJ x).num g.st) (OJ x).w = r at *
 generalize (OJ x).num g.st = N at *
 generalize (OJ x).w = W at *
 rw [Bool.and_eq_true, decide_eq_true_eq, decide_eq_true_eq]
 constructor
 ·rintro ⟨h1, h2⟩
  have a1 := Int.mul_le_mul_of_nonneg_right h1 (Int.le_of_lt hw)
  have a2 := Int.mul_le_mul_of_nonneg_right h2 (Int.le_of_lt hw)
  constructor
  ·refine Int.le_of_mul_le_mul_right (a := r.d) ?_ hd; grind
  ·refine Int.le_of_mul_le_mul_right (a := r.d) ?_ hd; grind
 ·rintro ⟨h1, h2⟩
  have a1 := Int.mul_le_mul_of_nonneg_right h1 (Int.le_of_lt hd)
  have a2 := Int.mul_le_mul_of_nonneg_right h2 (Int.le_of_lt hd)
  constructor
  ·refine Int.le_of_mul_le_mul_right (a := W) ?_ hw; grind
  ·refine Int.le_of_mul_le_mul_right (a := W) ?_ hw; grind
theorem ALF {x : Ln} {s : List Gau} (h : NJ x) : Fd s x = true ↔ (OJ x).passes s := by
 unfold Fd Rl.passes
 rw [List.all_eq_true]
 exact ⟨λ a g hg => (ADR h).1 (a g hg), λ a g hg => (ADR h).2 (a g hg)⟩
def okS (a v m e : Int) (g : Gau) : Prop := g.lo * e <= v * e + m * (g.st - a) /\ v * e + m * (g.st - a) <= g.hi * e
theorem BTT {f : Rl} {a v m e : Int} {g : Gau} (he : 0 < e) (h1 : f.num a = v * f.w) (h2 : f.q * e = m * f.w) (hw : 0 < f.w) (h : okS a v m e g) : f.pass g := by
 obtain ⟨h3, h4⟩ := h
 have a1 := Int.mul_le_mul_of_nonneg_right h3 (Int.le_of_lt hw)
 have a2 := Int.mul_le_mul_of_nonneg_right h4 (Int.le_of_lt hw)
 have e1 : f.num g.st = v * f.w + f.q * (g.st - a) := by unfold Rl.num at *; grind
 have e2 : f.q * (g.st - a) * e = m * f.w * (g.st - a) := by grind
 constructor
 ·refine Int.le_of_mul_le_mul_right (a := e) ?_ he; rw [e1]; grind
 ·refine Int.le_of_mul_le_mul_right (a := e) ?_ he; rw [e1]; grind
structure Sl where
 m : Int
 e : Int
theorem BFK : ∀ (l : List Sl), l ≠ [] -> (∀ x ∈ l, 0 < x.e) -> ∃ x ∈ l, ∀ y ∈ l, y.m * x.e <= x.m * y.e
 | [], h, _ => (h rfl).elim
 | [x], _, _ => ⟨x, List.mem_singleton.2 rfl, λ y hy => by rw [List.mem_singleton.1 hy]; exact Int.le_refl _⟩
 | x :: z :: l, _, h => by
  obtain ⟨b, hb, hm⟩ := BFK (z :: l) (by simp) (λ y hy => h y (List.mem_cons_of_mem _ hy))
  have hx := h x (List.mem_cons_self ..)
  have hbe := h b (List.mem_cons_of_mem _ hb)
  rcases Int.le_total (x.m * b.e) (b.m * x.e) with hc | hc
  ·refine ⟨b, List.mem_cons_of_mem _ hb, λ y hy => ?_⟩
   rcases List.mem_cons.1 hy with rfl | hy
   ·exact hc
   ·exact hm y hy
  ·refine ⟨x, List.mem_cons_self .., λ y hy => ?_⟩
   rcases List.mem_cons.1 hy with rfl | hy
   ·exact Int.le_refl _
   ·have hye := h y (List.mem_cons_of_mem _ hy)
    have a1 := Int.mul_le_mul_of_nonneg_right (hm y hy) (Int.le_of_lt hx)
    have a2 := Int.mul_le_mul_of_nonneg_right hc (Int.le_of_lt hye)
    refine Int.le_of_mul_le_mul_right (a := b.e) ?_ hbe
    grind
theorem AUX (δ : Gau -> Int) : ∀ (s : List Gau), s ≠ [] -> ∃ g ∈ s, ∀ h ∈ s, δ g <= δ h
 | [], h => (h rfl).elim
 | [x], _ => ⟨x, List.mem_singleton.2 rfl, λ y hy => by rw [List.mem_singleton.1 hy]; exact Int.le_refl _⟩
 | x :: z :: l, _ => by
  obtain ⟨b, hb, hm⟩ := AUX δ (z :: l) (by simp)
  rcases Int.le_total (δ x) (δ b) with hc | hc
  ·refine ⟨x, List.mem_cons_self .., λ y hy => ?_⟩
   rcases List.mem_cons.1 hy with rfl | hy
   ·exact Int.le_refl _
   ·exact Int.le_trans hc (hm y hy)
  ·refine ⟨b, List.mem_cons_of_mem _ hb, λ y hy => ?_⟩
   rcases List.mem_cons.1 hy with rfl | hy
   ·exact hc
   ·exact hm y hy
theorem ARF {f : Rl} {s : List Gau} (hf : f.ok) (hs : f.passes s) (hne : s ≠ []) : ∃ g ∈ s, (∀ h ∈ s, okS g.st g.lo f.q f.w h) /\ ∀ u, g.lo * f.w + f.q * (u - g.st) <= f.num u := by
 obtain ⟨g, hg, hm⟩ := AUX (λ g => f.num g.st - g.lo * f.w) s hne
 refine ⟨g, hg, λ h hh => ?_, λ u => ?_⟩
 ·have h1 := hm h hh
  obtain ⟨h2, h3⟩ := hs h hh
  obtain ⟨h4, h5⟩ := hs g hg
  unfold Rl.num at *
  constructor <;> grind
 ·obtain ⟨h4, h5⟩ := hs g hg
  unfold Rl.num at *
  grind
theorem BRV {f : Rl} {s : List Gau} (hf : f.ok) (hs : f.passes s) (hne : s ≠ []) : ∃ g ∈ s, (∀ h ∈ s, okS g.st g.hi f.q f.w h) /\ ∀ u, f.num u <= g.hi * f.w + f.q * (u - g.st) := by
 obtain ⟨g, hg, hm⟩ := AUX (λ g => g.hi * f.w - f.num g.st) s hne
 refine ⟨g, hg, λ h hh => ?_, λ u => ?_⟩
 ·have h1 := hm h hh
  obtain ⟨h2, h3⟩ := hs h hh
  obtain ⟨h4, h5⟩ := hs g hg
  unfold Rl.num at *
  constructor <;> grind
 ·obtain ⟨h4, h5⟩ := hs g hg
  unfold Rl.num at *
  grind
def ATC (s : List Gau) (a v m e : Int) : Prop := ∃ y ∈ Lu s, NJ y /\ (OJ y).num a = v * (OJ y).w /\ (OJ y).q * e = m * (OJ y).w
theorem BSD {s : List Gau} {p : Pt} (h : p ∈ AA s) : BP p ∈ Lu s := by
 unfold Lu blk; exact List.mem_flatMap.2 ⟨p, h, List.mem_cons_self ..⟩
theorem BIU {s : List Gau} {p q : Pt} (h : p ∈ AA s) (h2 : q ∈ AA s) (h3 : NJ (nZ p q)) : nZ p q ∈ Lu s := by
 unfold Lu blk
 exact List.mem_flatMap.2 ⟨p, h, List.mem_cons_of_mem _ (List.mem_filter.2 ⟨List.mem_map.2 ⟨q, h2, rfl⟩, cP.2 h3⟩)⟩
theorem M6 {s : List Gau} {g : Gau} (h : g ∈ s) : (⟨g.st, g.lo⟩ : Pt) ∈ AA s := AOM.2 ⟨g, h, .inl rfl⟩
theorem AMI {s : List Gau} {g : Gau} (h : g ∈ s) : (⟨g.st, g.hi⟩ : Pt) ∈ AA s := AOM.2 ⟨g, h, .inr rfl⟩
theorem ALI (p : Pt) (u : Int) : (OJ (BP p)).num u = p.fl * (OJ (BP p)).w /\ (OJ (BP p)).q = 0 := by
 rw [ALD]
 unfold BP; split <;> (simp only [OJ]; constructor <;> grind)
theorem BRL {s : List Gau} (hs : ∀ g ∈ s, XH g) {a v : Int} (h : (⟨a, v⟩ : Pt) ∈ AA s) : ATC s a v 0 1 := by
 refine ⟨_, BSD h, dJ (cK hs h), (ALI _ _).1, ?_⟩
 rw [(ALI ⟨a, v⟩ 0).2]; omega
theorem AIC (p q : Pt) (u : Int) : (OJ (nZ p q)).num u = p.fl * (q.st - p.st) + (q.fl - p.fl) * (u - p.st) := by rw [ALD]; rfl
theorem APU {s : List Gau} (hs : ∀ g ∈ s, XH g) {a v b z : Int} (h : (⟨a, v⟩ : Pt) ∈ AA s) (h2 : (⟨b, z⟩ : Pt) ∈ AA s) (hab : a < b) (hvz : v <= z) : ATC s a v (z - v) (b - a) := by
 have o1 := cK hs h
 have o2 := cK hs h2
 have hl : NJ (nZ ⟨a, v⟩ ⟨b, z⟩) := ⟨o1.1, hab, o2.2.1, o1.2.2.1, hvz, o2.2.2.2⟩
 exact ⟨_, BIU h h2 hl, hl, by rw [AIC]; simp [OJ, nZ], by simp [OJ, nZ]⟩
theorem ASH {s : List Gau} (hs : ∀ g ∈ s, XH g) {a v b z : Int} (h : (⟨a, v⟩ : Pt) ∈ AA s) (h2 : (⟨b, z⟩ : Pt) ∈ AA s) (hab : b < a) (hvz : z <= v) : ATC s a v (v - z) (a - b) := by
 have o1 := cK hs h
 have o2 := cK hs h2
 have hl : NJ (nZ ⟨b, z⟩ ⟨a, v⟩) := ⟨o2.1, hab, o1.2.1, o2.2.2.1, hvz, o1.2.2.2⟩
 exact ⟨_, BIU h2 h hl, hl, by rw [AIC]; simp only [OJ, nZ]; grind, by simp [OJ, nZ]⟩
theorem ATY {s : List Gau} {a v m e : Int} (he : 0 < e) (h : ATC s a v m e) (hp : ∀ g ∈ s, okS a v m e g) : ∃ y ∈ QO s, NJ y /\ (OJ y).passes s /\ (OJ y).num a = v * (OJ y).w /\ (OJ y).q * e = m * (OJ y).w := by
 obtain ⟨y, h1, h2, h3, h4⟩ := h
 have hy : (OJ y).passes s := λ g hg => BTT he h3 h4 (LB h2).1 (hp g hg)
 exact ⟨y, List.mem_filter.2 ⟨h1, (ALF h2).2 hy⟩, h2, hy, h3, h4⟩
def loSl (a v : Int) (g : Gau) : List Sl := if a < g.st then [⟨g.lo - v, g.st - a⟩] else if g.st < a then [⟨v - g.hi, a - g.st⟩] else []
def upSl (a v : Int) (g : Gau) : List Sl := if a < g.st then [⟨g.hi - v, g.st - a⟩] else if g.st < a then [⟨v - g.lo, a - g.st⟩] else []
theorem Ro {a v m e : Int} {g : Gau} : okS a v m e g ↔ (∀ x ∈ loSl a v g, x.m * e <= m * x.e) /\ (∀ x ∈ upSl a v g, m * x.e <= x.m * e) /\ (g.st = a -> g.lo * e <= v * e /\ v * e <= g.hi * e) := by
 unfold okS loSl upSl
 by_cases h1 : a < g.st
 ·simp only [h1, if_true, List.mem_singleton, forall_eq]
  constructor
  ·intro h; refine ⟨by grind, by grind, by omega⟩
  ·intro h; constructor <;> grind
 ·by_cases h2 : g.st < a
  ·simp only [h1, h2, if_true, if_false, List.mem_singleton, forall_eq]
   constructor
   ·intro h; refine ⟨by grind, by grind, by omega⟩
   ·intro h; constructor <;> grind
  ·have : g.st = a := by omega
   simp only [h1, h2, if_false, List.not_mem_nil, false_imp_iff, implies_true, true_and]
   rw [this, Int.sub_self, Int.mul_zero, Int.add_zero]
   simp
theorem BDO {a v : Int} {g : Gau} {x : Sl} (h : x ∈ loSl a v g) : 0 < x.e := by
 unfold loSl at h; split at h
 ·rw [List.mem_singleton.1 h]; show 0 < g.st - a; omega
 ·split at h
  ·rw [List.mem_singleton.1 h]; show 0 < a - g.st; omega
  ·cases h
theorem BGA {a v : Int} {g : Gau} {x : Sl} (h : x ∈ upSl a v g) : 0 < x.e := by
 unfold upSl at h; split at h
 ·rw [List.mem_singleton.1 h]; show 0 < g.st - a; omega
 ·split at h
  ·rw [List.mem_singleton.1 h]; show 0 < a - g.st; omega
  ·cases h
theorem AAG {a b c d e f : Int} (hd : 0 < d) (h1 : a * d <= c * b) (h2 : c * f <= e * d) (hb : 0 <= b) (hf : 0 <= f) : a * f <= e * b := by
 have h3 := Int.mul_le_mul_of_nonneg_right h1 hf
 have h4 := Int.mul_le_mul_of_nonneg_right h2 hb
 refine Int.le_of_mul_le_mul_right (a := d) ?_ hd
 grind
theorem vN {s : List Gau} (hs : ∀ g ∈ s, XH g) {a v n d : Int} (hp : (⟨a, v⟩ : Pt) ∈ AA s) (hd : 0 < d) (hn : 0 <= n) (h : ∀ g ∈ s, okS a v n d g) : ∃ y ∈ QO s, NJ y /\ (OJ y).passes s /\ (OJ y).num a = v * (OJ y).w /\ (OJ y).q * d <= n * (OJ y).w := by
 obtain ⟨x, hx, hm⟩ := BFK (⟨0, 1⟩ :: s.flatMap (loSl a v)) (by simp) (λ y hy => by
  rcases List.mem_cons.1 hy with rfl | hy
  ·exact Int.one_pos
  ·obtain ⟨g, _, hg⟩ := List.mem_flatMap.1 hy; exact BDO hg)
 have hxe : 0 < x.e := by
  rcases List.mem_cons.1 hx with rfl | hy
  ·exact Int.one_pos
  ·obtain ⟨g, _, hg⟩ := List.mem_flatMap.1 hy; exact BDO hg
 have hxm : 0 <= x.m := by have := hm ⟨0, 1⟩ (List.mem_cons_self ..); simp at this; omega
 have hle : x.m * d <= n * x.e := by
  rcases List.mem_cons.1 hx with rfl | hy
  ·simp; exact hn
  ·obtain ⟨g, hg, hgx⟩ := List.mem_flatMap.1 hy; exact (Ro.1 (h g hg)).1 _ hgx
 have hok : ∀ g ∈ s, okS a v x.m x.e g := λ g hg => Ro.2 ⟨λ y hy => hm y (List.mem_cons_of_mem _ (List.mem_flatMap.2 ⟨g, hg, hy⟩)), λ y hy => AAG hd hle ((Ro.1 (h g hg)).2.1 y hy) (Int.le_of_lt hxe) (Int.le_of_lt (BGA hy)), λ he => by
  obtain ⟨h1, h2⟩ := (Ro.1 (h g hg)).2.2 he
  exact ⟨Int.mul_le_mul_of_nonneg_right (eC hd h1) (Int.le_of_lt hxe), Int.mul_le_mul_of_nonneg_right (eC hd h2) (Int.le_of_lt hxe)⟩⟩
 have hc : ATC s a v x.m x.e := by
  rcases List.mem_cons.1 hx with rfl | hy
  ·exact BRL hs hp
  ·obtain ⟨g, hg, hgx⟩ := List.mem_flatMap.1 hy
   unfold loSl at hgx
   split at hgx
   ·rename_i hlt
    have := List.mem_singleton.1 hgx
    subst this
    exact APU hs hp (M6 hg) hlt (by have : 0 <= g.lo - v := hxm; omega)
   ·split at hgx
    ·rename_i hlt
     have := List.mem_singleton.1 hgx
     subst this
     exact ASH hs hp (AMI hg) hlt (by have : 0 <= v - g.hi := hxm; omega)
    ·cases hgx
 obtain ⟨y, y1, y2, y3, y4, y5⟩ := ATY hxe hc hok
 refine ⟨y, y1, y2, y3, y4, ?_⟩
 have hw := (LB y2).1
 exact AAG hxe (by rw [y5]; exact Int.le_refl _) hle (Int.le_of_lt hw) (Int.le_of_lt hd)
theorem BHY {s : List Gau} (hs : ∀ g ∈ s, XH g) {a v n d : Int} (hp : (⟨a, v⟩ : Pt) ∈ AA s) (hd : 0 < d) (hn : 0 <= n) (h : ∀ g ∈ s, okS a v n d g) (ho : ∃ g ∈ s, g.st ≠ a) : ∃ y ∈ QO s, NJ y /\ (OJ y).passes s /\ (OJ y).num a = v * (OJ y).w /\ n * (OJ y).w <= (OJ y).q * d := by
 obtain ⟨x, hx, hm⟩ := BFK ((s.flatMap (upSl a v)).map λ z => ⟨-z.m, z.e⟩) (by
  obtain ⟨g, hg, hne⟩ := ho
  intro he
  have he := List.map_eq_nil_iff.1 he
  have : upSl a v g = [] := by
   have := List.flatMap_eq_nil_iff.1 he g hg; exact this
  unfold upSl at this
  by_cases h1 : a < g.st
  ·rw [if_pos h1] at this; cases this
  ·rw [if_neg h1, if_pos (by omega)] at this; cases this) (λ y hy => by
  obtain ⟨z, hz, rfl⟩ := List.mem_map.1 hy
  obtain ⟨g, _, hg⟩ := List.mem_flatMap.1 hz; exact BGA (x := z) hg)
 obtain ⟨z, hz, rfl⟩ := List.mem_map.1 hx
 obtain ⟨g0, hg0, hgz⟩ := List.mem_flatMap.1 hz
 have hze : 0 < z.e := BGA hgz
 have hmz : ∀ g ∈ s, ∀ y ∈ upSl a v g, z.m * y.e <= y.m * z.e := λ g hg y hy => by
  have := hm ⟨-y.m, y.e⟩ (List.mem_map.2 ⟨y, List.mem_flatMap.2 ⟨g, hg, hy⟩, rfl⟩)
  simp only [Int.neg_mul] at this; omega
 have hle : n * z.e <= z.m * d := (Ro.1 (h g0 hg0)).2.1 _ hgz
 have hzm : 0 <= z.m := by
  have h1 := Int.mul_nonneg hn (Int.le_of_lt hze)
  exact eC hd (by rw [Int.zero_mul]; omega)
 have hok : ∀ g ∈ s, okS a v z.m z.e g := λ g hg => Ro.2 ⟨λ y hy => AAG hd ((Ro.1 (h g hg)).1 y hy) hle (Int.le_of_lt (BDO hy)) (Int.le_of_lt hze), λ y hy => hmz g hg y hy, λ he => by
  obtain ⟨h1, h2⟩ := (Ro.1 (h g hg)).2.2 he
  exact ⟨Int.mul_le_mul_of_nonneg_right (eC hd h1) (Int.le_of_lt hze), Int.mul_le_mul_of_nonneg_right (eC hd h2) (Int.le_of_lt hze)⟩⟩
 have hc : ATC s a v z.m z.e := by
  unfold upSl at hgz
  split at hgz
  ·rename_i hlt
   have := List.mem_singleton.1 hgz
   subst this
   exact APU hs hp (AMI hg0) hlt (by have : 0 <= g0.hi - v := hzm; omega)
  ·split at hgz
   ·rename_i hlt
    have := List.mem_singleton.1 hgz
    subst this
    exact ASH hs hp (M6 hg0) hlt (by have : 0 <= v - g0.lo := hzm; omega)
   ·cases hgz
 obtain ⟨y, y1, y2, y3, y4, y5⟩ := ATY hze hc hok
 refine ⟨y, y1, y2, y3, y4, ?_⟩
 have hw := (LB y2).1
 have := AAG hze hle (by rw [<- y5]; exact Int.le_refl _) (Int.le_of_lt hd) (Int.le_of_lt hw)
 exact this
theorem BOE {f : Rl} {s : List Gau} (hs : ∀ g ∈ s, XH g) (hf : f.ok) (hp : f.passes s) (hne : s ≠ []) : QO s ≠ [] := by
 obtain ⟨g, hg, h1, _⟩ := ARF hf hp hne
 obtain ⟨y, hy, _⟩ := vN hs (M6 hg) hf.1 hf.2 h1
 intro he; rw [he] at hy; cases hy
theorem vX {s : List Gau} {t : Int} {x : Ln} (h : s ≠ [] -> QO s ≠ []) : x ∈ UD s t ↔ x ∈ QO s ∨ x ∈ (KS s t).filter (xG s) := by
 unfold UD
 have : (bif decide (0 < s.length) then decide ((QO s).length = 0) else false) = false := by
  by_cases hn : 0 < s.length
  ·rw [decide_eq_true hn]
   have := h (by intro he; rw [he] at hn; cases hn)
   exact decide_eq_false (by intro he; exact this (List.eq_nil_of_length_eq_zero he))
  ·rw [decide_eq_false hn]; rfl
 rw [this]
 exact List.mem_append
theorem Er {s : List Gau} {t : Int} (hs : ∀ g ∈ s, XH g) {x : Ln} (hx : x ∈ UD s t) : NJ x /\ (OJ x).passes s := by
 have hok := BNR hs x hx
 refine ⟨hok, (ALF hok).1 ?_⟩
 rw [H7] at hx
 revert hx
 cases (bif decide ((s.length : Int) > 0) then ((QO s).length : Int) == 0 else false) with
 | true => intro hx; cases hx
 | false =>
  intro hx
  rcases List.mem_append.1 hx with hx | hx
  ·exact (List.mem_filter.1 hx).2
  ·have := (List.mem_filter.1 hx).2
   unfold xG at this
   cases hr : jT x with
   | true => rw [hr] at this; exact this
   | false => rw [hr] at this; cases this
theorem BRK {s : List Gau} {t v : Int} (h : v = 0 ∨ v = 200000) : BP ⟨t, v⟩ ∈ KS s t := by
 unfold KS moB
 rcases h with rfl | rfl <;> simp
theorem BQZ {s : List Gau} {t : Int} {p : Pt} (h : p ∈ AA s) : nZ ⟨t, 0⟩ p ∈ KS s t /\ nZ p ⟨t, 200000⟩ ∈ KS s t := by
 unfold KS
 constructor <;> (refine List.mem_append.2 (.inr (List.mem_flatMap.2 ⟨p, h, ?_⟩)); simp)
theorem ALM {s : List Gau} {x : Ln} (h1 : NJ x) (h2 : (OJ x).passes s) : xG s x = true := by
 unfold xG; rw [cP.2 h1]; exact (ALF h1).2 h2
theorem BAE {f : Rl} {s : List Gau} {t : Int} (hs : ∀ g ∈ s, XH g) (ht : 0 <= t /\ t <= 2000) (hf : f.ok) (hp : f.passes s) : ∃ y ∈ UD s t, NJ y /\ ((OJ y).num t <= 0 ∨ (OJ y).num t * f.w <= f.num t * (OJ y).w) := by
 by_cases hne : s = []
 ·subst hne
  have ho : NJ (BP ⟨t, 0⟩) := dJ ⟨ht.1, ht.2, by show (0 : Int) <= 0; omega, by show (0 : Int) <= 200000; omega⟩
  refine ⟨BP ⟨t, 0⟩, (vX (λ h => (h rfl).elim)).2 (.inr (List.mem_filter.2 ⟨BRK (.inl rfl), ALM ho (λ g hg => by cases hg)⟩)), ho, .inl ?_⟩
  rw [(ALI _ _).1, Int.zero_mul]; exact Int.le_refl _
 ·have hfl := BOE hs hf hp hne
  obtain ⟨g, hg, h1, h2⟩ := ARF hf hp hne
  have hm : ∀ y ∈ QO s, y ∈ UD s t := λ y hy => (vX (λ _ => hfl)).2 (.inl hy)
  by_cases hat : g.st <= t
  ·obtain ⟨y, y1, y2, y3, y4, y5⟩ := vN hs (M6 hg) hf.1 hf.2 h1
   refine ⟨y, hm y y1, y2, .inr ?_⟩
   have hw := (LB y2).1
   have a1 := Int.mul_le_mul_of_nonneg_right y5 (show 0 <= t - g.st by omega)
   have a2 := Int.mul_le_mul_of_nonneg_right (h2 t) (Int.le_of_lt hw)
   have e1 : (OJ y).num t = g.lo * (OJ y).w + (OJ y).q * (t - g.st) := by unfold Rl.num at *; grind
   rw [e1]; grind
  ·by_cases ho : ∃ h ∈ s, h.st ≠ g.st
   ·obtain ⟨y, y1, y2, y3, y4, y5⟩ := BHY hs (M6 hg) hf.1 hf.2 h1 ho
    refine ⟨y, hm y y1, y2, .inr ?_⟩
    have hw := (LB y2).1
    have a1 := Int.mul_le_mul_of_nonneg_right y5 (show 0 <= g.st - t by omega)
    have a2 := Int.mul_le_mul_of_nonneg_right (h2 t) (Int.le_of_lt hw)
    have e1 : (OJ y).num t = g.lo * (OJ y).w + (OJ y).q * (t - g.st) := by unfold Rl.num at *; grind
    rw [e1]; grind
   ·have hall : ∀ h ∈ s, h.st = g.st := λ h hh => Classical.byContradiction λ hc => ho ⟨h, hh, hc⟩
    have og := hs g hg
    have hk : NJ (nZ ⟨t, 0⟩ ⟨g.st, g.lo⟩) := ⟨ht.1, by show t < g.st; omega, og.2.1, Int.le_refl _, og.2.2.1, by show g.lo <= 200000; have := og.2.2.2; omega⟩
    refine ⟨_, (vX (λ _ => hfl)).2 (.inr (List.mem_filter.2 ⟨(BQZ (M6 hg)).1, ALM hk (λ h hh => ?_)⟩)), hk, .inl ?_⟩
    ·obtain ⟨b1, b2⟩ := (Ro.1 (h1 h hh)).2.2 (hall h hh)
     have c1 := eC hf.1 b1
     have c2 := eC hf.1 b2
     unfold Rl.pass
     rw [AIC, hall h hh]
     have hw : 0 < g.st - t := by omega
     have e : (OJ (nZ ⟨t, 0⟩ ⟨g.st, g.lo⟩)).w = g.st - t := rfl
     rw [e]
     have d1 := Int.mul_le_mul_of_nonneg_right c1 (Int.le_of_lt hw)
     have d2 := Int.mul_le_mul_of_nonneg_right c2 (Int.le_of_lt hw)
     constructor <;> simp only [Int.zero_mul, Int.zero_add, Int.sub_zero] <;> omega
    ·rw [AIC]; simp
theorem BKS {f : Rl} {s : List Gau} {t : Int} (hs : ∀ g ∈ s, XH g) (ht : 0 <= t /\ t <= 2000) (hf : f.ok) (hp : f.passes s) : ∃ y ∈ UD s t, NJ y /\ (200000 * (OJ y).w <= (OJ y).num t ∨ f.num t * (OJ y).w <= (OJ y).num t * f.w) := by
 by_cases hne : s = []
 ·subst hne
  have ho : NJ (BP ⟨t, 200000⟩) := dJ ⟨ht.1, ht.2, by show (0 : Int) <= 200000; omega, by show (200000 : Int) <= 200000; omega⟩
  refine ⟨BP ⟨t, 200000⟩, (vX (λ h => (h rfl).elim)).2 (.inr (List.mem_filter.2 ⟨BRK (.inr rfl), ALM ho (λ g hg => by cases hg)⟩)), ho, .inl ?_⟩
  rw [(ALI _ _).1]; exact Int.le_refl _
 ·have hfl := BOE hs hf hp hne
  obtain ⟨g, hg, h1, h2⟩ := BRV hf hp hne
  have hm : ∀ y ∈ QO s, y ∈ UD s t := λ y hy => (vX (λ _ => hfl)).2 (.inl hy)
  by_cases hat : t <= g.st
  ·obtain ⟨y, y1, y2, y3, y4, y5⟩ := vN hs (AMI hg) hf.1 hf.2 h1
   refine ⟨y, hm y y1, y2, .inr ?_⟩
   have hw := (LB y2).1
   have a1 := Int.mul_le_mul_of_nonneg_right y5 (show 0 <= g.st - t by omega)
   have a2 := Int.mul_le_mul_of_nonneg_right (h2 t) (Int.le_of_lt hw)
   have e1 : (OJ y).num t = g.hi * (OJ y).w + (OJ y).q * (t - g.st) := by unfold Rl.num at *; grind
   rw [e1]; grind
  ·by_cases ho : ∃ h ∈ s, h.st ≠ g.st
   ·obtain ⟨y, y1, y2, y3, y4, y5⟩ := BHY hs (AMI hg) hf.1 hf.2 h1 ho
    refine ⟨y, hm y y1, y2, .inr ?_⟩
    have hw := (LB y2).1
    have a1 := Int.mul_le_mul_of_nonneg_right y5 (show 0 <= t - g.st by omega)
    have a2 := Int.mul_le_mul_of_nonneg_right (h2 t) (Int.le_of_lt hw)
    have e1 : (OJ y).num t = g.hi * (OJ y).w + (OJ y).q * (t - g.st) := by unfold Rl.num at *; grind
    rw [e1]; grind
   ·have hall : ∀ h ∈ s, h.st = g.st := λ h hh => Classical.byContradiction λ hc => ho ⟨h, hh, hc⟩
    have og := hs g hg
    have hk : NJ (nZ ⟨g.st, g.hi⟩ ⟨t, 200000⟩) := ⟨og.1, by show g.st < t; omega, ht.2, by show 0 <= g.hi; have := og.2.2; omega, og.2.2.2.2, by show (200000 : Int) <= 200000; omega⟩
    refine ⟨_, (vX (λ _ => hfl)).2 (.inr (List.mem_filter.2 ⟨(BQZ (AMI hg)).2, ALM hk (λ h hh => ?_)⟩)), hk, .inl ?_⟩
    ·obtain ⟨b1, b2⟩ := (Ro.1 (h1 h hh)).2.2 (hall h hh)
     have c1 := eC hf.1 b1
     have c2 := eC hf.1 b2
     unfold Rl.pass
     rw [AIC, hall h hh]
     have hw : 0 < t - g.st := by omega
     have e : (OJ (nZ ⟨g.st, g.hi⟩ ⟨t, 200000⟩)).w = t - g.st := rfl
     rw [e]
     have d1 := Int.mul_le_mul_of_nonneg_right c1 (Int.le_of_lt hw)
     have d2 := Int.mul_le_mul_of_nonneg_right c2 (Int.le_of_lt hw)
     constructor <;> simp only [Int.sub_self, Int.mul_zero, Int.add_zero] <;> omega
    ·rw [AIC]
     show 200000 * (t - g.st) <= g.hi * (t - g.st) + (200000 - g.hi) * (t - g.st)
     grind
end Go.Bal
