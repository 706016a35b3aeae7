/- Package rating: rising lines through all gaugings lie between the candidates (no program in sight). -/
import Derived.Test.YtoihhodbkimedaaRatI
set_option linter.unusedVariables false
set_option linter.unusedSimpArgs false
namespace Go.Bal
open Go Go.Sym Go.Proofs
structure Rl where
 p : Int
 q : Int
 w : Int
def Rl.num (f : Rl) (u : Int) : Int := f.p + f.q * u
def Rl.ok (f : Rl) : Prop := 0 < f.w /\ 0 <= f.q
def Rl.pass (f : Rl) (g : Gau) : Prop := g.lo * f.w <= f.num g.st /\ f.num g.st <= g.hi * f.w
def Rl.passes (f : Rl) (s : List Gau) : Prop := ∀ g ∈ s, f.pass g
def DD (x : Ln) : Rl := ⟨x.a1 * (x.b0 - x.a0) - (x.b1 - x.a1) * x.a0, x.b1 - x.a1, x.b0 - x.a0⟩
theorem AX {x : Ln} (h : DS x) : (DD x).ok := by
 obtain ⟨h1, h2, h3, h4, h5, h6⟩ := h
 exact ⟨by show 0 < x.b0 - x.a0; omega, by show 0 <= x.b1 - x.a1; omega⟩
theorem AFL (x : Ln) (t : Int) : (DD x).num t = x.a1 * (x.b0 - x.a0) + (x.b1 - x.a1) * (t - x.a0) := by
 show x.a1 * (x.b0 - x.a0) - (x.b1 - x.a1) * x.a0 + (x.b1 - x.a1) * t = _
 grind
theorem BES (x : Ln) (t : Int) : QD x t = UT ((DD x).num t) (DD x).w := by rw [AFL]; rfl
theorem VW {a b c : Int} (hc : 0 < c) (h : a * c <= b * c) : a <= b := Int.le_of_mul_le_mul_right h hc
theorem ABJ {x : Ln} {g : Gau} (h : DS x) : BR x g = true ↔ (DD x).pass g := by
 have hw := (AX h).1
 have hv := ANB (n := (DD x).num g.st) hw
 have hd := (BDO (n := (DD x).num g.st) hw).1
 unfold BR Rl.pass
 rw [BES]
 generalize UT ((DD x).num g.st) (DD x).w = r at *
 generalize (DD x).num g.st = N at *
 generalize (DD x).w = W at *
 rw [Bool.and_eq_true, decide_eq_true_eq, decide_eq_true_eq]
 constructor
 ·rintro ⟨h1, h2⟩
  have a1 := Int.mul_le_mul_of_nonneg_right h1 (Int.le_of_lt hw)
  have a2 := Int.mul_le_mul_of_nonneg_right h2 (Int.le_of_lt hw)
  constructor
  ·refine Int.le_of_mul_le_mul_right (a := r.d) ?_ hd; grind
  ·refine Int.le_of_mul_le_mul_right (a := r.d) ?_ hd; grind
 ·rintro ⟨h1, h2⟩
  have a1 := Int.mul_le_mul_of_nonneg_right h1 (Int.le_of_lt hd)
  have a2 := Int.mul_le_mul_of_nonneg_right h2 (Int.le_of_lt hd)
  constructor
  ·refine Int.le_of_mul_le_mul_right (a := W) ?_ hw; grind
  ·refine Int.le_of_mul_le_mul_right (a := W) ?_ hw; grind
theorem AHK {x : Ln} {s : List Gau} (h : DS x) : JC s x = true ↔ (DD x).passes s := by
 unfold JC Rl.passes
 rw [List.all_eq_true]
 exact ⟨λ a g hg => (ABJ h).1 (a g hg), λ a g hg => (ABJ h).2 (a g hg)⟩
def okS (a v m e : Int) (g : Gau) : Prop := g.lo * e <= v * e + m * (g.st - a) /\ v * e + m * (g.st - a) <= g.hi * e
theorem BZL {f : Rl} {a v m e : Int} {g : Gau} (he : 0 < e) (h1 : f.num a = v * f.w) (h2 : f.q * e = m * f.w) (hw : 0 < f.w) (h : okS a v m e g) : f.pass g := by
 obtain ⟨h3, h4⟩ := h
 have a1 := Int.mul_le_mul_of_nonneg_right h3 (Int.le_of_lt hw)
 have a2 := Int.mul_le_mul_of_nonneg_right h4 (Int.le_of_lt hw)
 have e1 : f.num g.st = v * f.w + f.q * (g.st - a) := by unfold Rl.num at *; grind
 have e2 : f.q * (g.st - a) * e = m * f.w * (g.st - a) := by grind
 constructor
 ·refine Int.le_of_mul_le_mul_right (a := e) ?_ he; rw [e1]; grind
 ·refine Int.le_of_mul_le_mul_right (a := e) ?_ he; rw [e1]; grind
structure Sl where
 m : Int
 e : Int
theorem BMO : ∀ (l : List Sl), l ≠ [] -> (∀ x ∈ l, 0 < x.e) -> ∃ x ∈ l, ∀ y ∈ l, y.m * x.e <= x.m * y.e
 | [], h, _ => (h rfl).elim
 | [x], _, _ => ⟨x, List.mem_singleton.2 rfl, λ y hy => by rw [List.mem_singleton.1 hy]; exact Int.le_refl _⟩
 | x :: z :: l, _, h => by
  obtain ⟨b, hb, hm⟩ := BMO (z :: l) (by simp) (λ y hy => h y (List.mem_cons_of_mem _ hy))
  have hx := h x (List.mem_cons_self ..)
  have hbe := h b (List.mem_cons_of_mem _ hb)
  rcases Int.le_total (x.m * b.e) (b.m * x.e) with hc | hc
  ·refine ⟨b, List.mem_cons_of_mem _ hb, λ y hy => ?_⟩
   rcases List.mem_cons.1 hy with rfl | hy
   ·exact hc
   ·exact hm y hy
  ·refine ⟨x, List.mem_cons_self .., λ y hy => ?_⟩
   rcases List.mem_cons.1 hy with rfl | hy
   ·exact Int.le_refl _
   ·have hye := h y (List.mem_cons_of_mem _ hy)
    have a1 := Int.mul_le_mul_of_nonneg_right (hm y hy) (Int.le_of_lt hx)
    have a2 := Int.mul_le_mul_of_nonneg_right hc (Int.le_of_lt hye)
    refine Int.le_of_mul_le_mul_right (a := b.e) ?_ hbe
    grind
theorem BIR (δ : Gau -> Int) : ∀ (s : List Gau), s ≠ [] -> ∃ g ∈ s, ∀ h ∈ s, δ g <= δ h
 | [], h => (h rfl).elim
 | [x], _ => ⟨x, List.mem_singleton.2 rfl, λ y hy => by rw [List.mem_singleton.1 hy]; exact Int.le_refl _⟩
 | x :: z :: l, _ => by
  obtain ⟨b, hb, hm⟩ := BIR δ (z :: l) (by simp)
  rcases Int.le_total (δ x) (δ b) with hc | hc
  ·refine ⟨x, List.mem_cons_self .., λ y hy => ?_⟩
   rcases List.mem_cons.1 hy with rfl | hy
   ·exact Int.le_refl _
   ·exact Int.le_trans hc (hm y hy)
  ·refine ⟨b, List.mem_cons_of_mem _ hb, λ y hy => ?_⟩
   rcases List.mem_cons.1 hy with rfl | hy
   ·exact hc
   ·exact hm y hy
theorem AMD {f : Rl} {s : List Gau} (hf : f.ok) (hs : f.passes s) (hne : s ≠ []) : ∃ g ∈ s, (∀ h ∈ s, okS g.st g.lo f.q f.w h) /\ ∀ u, g.lo * f.w + f.q * (u - g.st) <= f.num u := by
 obtain ⟨g, hg, hm⟩ := BIR (λ g => f.num g.st - g.lo * f.w) s hne
 refine ⟨g, hg, λ h hh => ?_, λ u => ?_⟩
 ·have h1 := hm h hh
  obtain ⟨h2, h3⟩ := hs h hh
  obtain ⟨h4, h5⟩ := hs g hg
  unfold Rl.num at *
  constructor <;> grind
 ·obtain ⟨h4, h5⟩ := hs g hg
  unfold Rl.num at *
  grind
theorem BZE {f : Rl} {s : List Gau} (hf : f.ok) (hs : f.passes s) (hne : s ≠ []) : ∃ g ∈ s, (∀ h ∈ s, okS g.st g.hi f.q f.w h) /\ ∀ u, f.num u <= g.hi * f.w + f.q * (u - g.st) := by
 obtain ⟨g, hg, hm⟩ := BIR (λ g => g.hi * f.w - f.num g.st) s hne
 refine ⟨g, hg, λ h hh => ?_, λ u => ?_⟩
 ·have h1 := hm h hh
  obtain ⟨h2, h3⟩ := hs h hh
  obtain ⟨h4, h5⟩ := hs g hg
  unfold Rl.num at *
  constructor <;> grind
 ·obtain ⟨h4, h5⟩ := hs g hg
  unfold Rl.num at *
  grind
def BBX (s : List Gau) (a v m e : Int) : Prop := ∃ y ∈ LN s, DS y /\ (DD y).num a = v * (DD y).w /\ (DD y).q * e = m * (DD y).w
theorem CDB {s : List Gau} {p : Pt} (h : p ∈ AA s) : AL p ∈ LN s := by
 unfold LN blk; exact List.mem_flatMap.2 ⟨p, h, List.mem_cons_self ..⟩
theorem BQL {s : List Gau} {p q : Pt} (h : p ∈ AA s) (h2 : q ∈ AA s) (h3 : DS (Gu p q)) : Gu p q ∈ LN s := by
 unfold LN blk
 exact List.mem_flatMap.2 ⟨p, h, List.mem_cons_of_mem _ (List.mem_filter.2 ⟨List.mem_map.2 ⟨q, h2, rfl⟩, WA.2 h3⟩)⟩
theorem Zy {s : List Gau} {g : Gau} (h : g ∈ s) : (⟨g.st, g.lo⟩ : Pt) ∈ AA s := ALC.2 ⟨g, h, .inl rfl⟩
theorem AJF {s : List Gau} {g : Gau} (h : g ∈ s) : (⟨g.st, g.hi⟩ : Pt) ∈ AA s := ALC.2 ⟨g, h, .inr rfl⟩
theorem AHW (p : Pt) (u : Int) : (DD (AL p)).num u = p.fl * (DD (AL p)).w /\ (DD (AL p)).q = 0 := by
 rw [AFL]
 unfold AL; split <;> (simp only [DD]; constructor <;> grind)
theorem BYD {s : List Gau} (hs : ∀ g ∈ s, GY g) {a v : Int} (h : (⟨a, v⟩ : Pt) ∈ AA s) : BBX s a v 0 1 := by
 refine ⟨_, CDB h, VS (UX hs h), (AHW _ _).1, ?_⟩
 rw [(AHW ⟨a, v⟩ 0).2]; omega
theorem G5 (p q : Pt) (u : Int) : (DD (Gu p q)).num u = p.fl * (q.st - p.st) + (q.fl - p.fl) * (u - p.st) := by rw [AFL]; rfl
theorem APA {s : List Gau} (hs : ∀ g ∈ s, GY g) {a v b z : Int} (h : (⟨a, v⟩ : Pt) ∈ AA s) (h2 : (⟨b, z⟩ : Pt) ∈ AA s) (hab : a < b) (hvz : v <= z) : BBX s a v (z - v) (b - a) := by
 have o1 := UX hs h
 have o2 := UX hs h2
 have hl : DS (Gu ⟨a, v⟩ ⟨b, z⟩) := ⟨o1.1, hab, o2.2.1, o1.2.2.1, hvz, o2.2.2.2⟩
 exact ⟨_, BQL h h2 hl, hl, by rw [G5]; simp [DD, Gu], by simp [DD, Gu]⟩
theorem BBO {s : List Gau} (hs : ∀ g ∈ s, GY g) {a v b z : Int} (h : (⟨a, v⟩ : Pt) ∈ AA s) (h2 : (⟨b, z⟩ : Pt) ∈ AA s) (hab : b < a) (hvz : z <= v) : BBX s a v (v - z) (a - b) := by
 have o1 := UX hs h
 have o2 := UX hs h2
 have hl : DS (Gu ⟨b, z⟩ ⟨a, v⟩) := ⟨o2.1, hab, o1.2.1, o2.2.2.1, hvz, o1.2.2.2⟩
 exact ⟨_, BQL h2 h hl, hl, by rw [G5]; simp only [DD, Gu]; grind, by simp [DD, Gu]⟩
theorem BBB {s : List Gau} {a v m e : Int} (he : 0 < e) (h : BBX s a v m e) (hp : ∀ g ∈ s, okS a v m e g) : ∃ y ∈ EQ s, DS y /\ (DD y).passes s /\ (DD y).num a = v * (DD y).w /\ (DD y).q * e = m * (DD y).w := by
 obtain ⟨y, h1, h2, h3, h4⟩ := h
 have hy : (DD y).passes s := λ g hg => BZL he h3 h4 (AX h2).1 (hp g hg)
 exact ⟨y, List.mem_filter.2 ⟨h1, (AHK h2).2 hy⟩, h2, hy, h3, h4⟩
def loSl (a v : Int) (g : Gau) : List Sl := if a < g.st then [⟨g.lo - v, g.st - a⟩] else if g.st < a then [⟨v - g.hi, a - g.st⟩] else []
def upSl (a v : Int) (g : Gau) : List Sl := if a < g.st then [⟨g.hi - v, g.st - a⟩] else if g.st < a then [⟨v - g.lo, a - g.st⟩] else []
theorem OV {a v m e : Int} {g : Gau} : okS a v m e g ↔ (∀ x ∈ loSl a v g, x.m * e <= m * x.e) /\ (∀ x ∈ upSl a v g, m * x.e <= x.m * e) /\ (g.st = a -> g.lo * e <= v * e /\ v * e <= g.hi * e) := by
 unfold okS loSl upSl
 by_cases h1 : a < g.st
 ·simp only [h1, if_true, List.mem_singleton, forall_eq]
  constructor
  ·intro h; refine ⟨by grind, by grind, by omega⟩
  ·intro h; constructor <;> grind
 ·by_cases h2 : g.st < a
  ·simp only [h1, h2, if_true, if_false, List.mem_singleton, forall_eq]
   constructor
   ·intro h; refine ⟨by grind, by grind, by omega⟩
   ·intro h; constructor <;> grind
  ·have : g.st = a := by omega
   simp only [h1, h2, if_false, List.not_mem_nil, false_imp_iff, implies_true, true_and]
   rw [this, Int.sub_self, Int.mul_zero, Int.add_zero]
   simp
theorem BOL {a v : Int} {g : Gau} {x : Sl} (h : x ∈ loSl a v g) : 0 < x.e := by
 unfold loSl at h; split at h
 ·rw [List.mem_singleton.1 h]; show 0 < g.st - a; omega
 ·split at h
  ·rw [List.mem_singleton.1 h]; show 0 < a - g.st; omega
  ·cases h
theorem BMX {a v : Int} {g : Gau} {x : Sl} (h : x ∈ upSl a v g) : 0 < x.e := by
 unfold upSl at h; split at h
 ·rw [List.mem_singleton.1 h]; show 0 < g.st - a; omega
 ·split at h
  ·rw [List.mem_singleton.1 h]; show 0 < a - g.st; omega
  ·cases h
theorem rS {a b c d e f : Int} (hd : 0 < d) (h1 : a * d <= c * b) (h2 : c * f <= e * d) (hb : 0 <= b) (hf : 0 <= f) : a * f <= e * b := by
 have h3 := Int.mul_le_mul_of_nonneg_right h1 hf
 have h4 := Int.mul_le_mul_of_nonneg_right h2 hb
 refine Int.le_of_mul_le_mul_right (a := d) ?_ hd
 grind
theorem Py {s : List Gau} (hs : ∀ g ∈ s, GY g) {a v n d : Int} (hp : (⟨a, v⟩ : Pt) ∈ AA s) (hd : 0 < d) (hn : 0 <= n) (h : ∀ g ∈ s, okS a v n d g) : ∃ y ∈ EQ s, DS y /\ (DD y).passes s /\ (DD y).num a = v * (DD y).w /\ (DD y).q * d <= n * (DD y).w := by
 obtain ⟨x, hx, hm⟩ := BMO (⟨0, 1⟩ :: s.flatMap (loSl a v)) (by simp) (λ y hy => by
  rcases List.mem_cons.1 hy with rfl | hy
  ·exact Int.one_pos
  ·obtain ⟨g, _, hg⟩ := List.mem_flatMap.1 hy; exact BOL hg)
 have hxe : 0 < x.e := by
  rcases List.mem_cons.1 hx with rfl | hy
  ·exact Int.one_pos
  ·obtain ⟨g, _, hg⟩ := List.mem_flatMap.1 hy; exact BOL hg
 have hxm : 0 <= x.m := by have := hm ⟨0, 1⟩ (List.mem_cons_self ..); simp at this; omega
 have hle : x.m * d <= n * x.e := by
  rcases List.mem_cons.1 hx with rfl | hy
  ·simp; exact hn
  ·obtain ⟨g, hg, hgx⟩ := List.mem_flatMap.1 hy; exact (OV.1 (h g hg)).1 _ hgx
 have hok : ∀ g ∈ s, okS a v x.m x.e g := λ g hg => OV.2 ⟨λ y hy => hm y (List.mem_cons_of_mem _ (List.mem_flatMap.2 ⟨g, hg, hy⟩)), λ y hy => rS hd hle ((OV.1 (h g hg)).2.1 y hy) (Int.le_of_lt hxe) (Int.le_of_lt (BMX hy)), λ he => by
  obtain ⟨h1, h2⟩ := (OV.1 (h g hg)).2.2 he
  exact ⟨Int.mul_le_mul_of_nonneg_right (VW hd h1) (Int.le_of_lt hxe), Int.mul_le_mul_of_nonneg_right (VW hd h2) (Int.le_of_lt hxe)⟩⟩
 have hc : BBX s a v x.m x.e := by
  rcases List.mem_cons.1 hx with rfl | hy
  ·exact BYD hs hp
  ·obtain ⟨g, hg, hgx⟩ := List.mem_flatMap.1 hy
   unfold loSl at hgx
   split at hgx
   ·rename_i hlt
    have := List.mem_singleton.1 hgx
    subst this
    exact APA hs hp (Zy hg) hlt (by have : 0 <= g.lo - v := hxm; omega)
   ·split at hgx
    ·rename_i hlt
     have := List.mem_singleton.1 hgx
     subst this
     exact BBO hs hp (AJF hg) hlt (by have : 0 <= v - g.hi := hxm; omega)
    ·cases hgx
 obtain ⟨y, y1, y2, y3, y4, y5⟩ := BBB hxe hc hok
 refine ⟨y, y1, y2, y3, y4, ?_⟩
 have hw := (AX y2).1
 exact rS hxe (by rw [y5]; exact Int.le_refl _) hle (Int.le_of_lt hw) (Int.le_of_lt hd)
theorem BRI {s : List Gau} (hs : ∀ g ∈ s, GY g) {a v n d : Int} (hp : (⟨a, v⟩ : Pt) ∈ AA s) (hd : 0 < d) (hn : 0 <= n) (h : ∀ g ∈ s, okS a v n d g) (ho : ∃ g ∈ s, g.st ≠ a) : ∃ y ∈ EQ s, DS y /\ (DD y).passes s /\ (DD y).num a = v * (DD y).w /\ n * (DD y).w <= (DD y).q * d := by
 obtain ⟨x, hx, hm⟩ := BMO ((s.flatMap (upSl a v)).map λ z => ⟨-z.m, z.e⟩) (by
  obtain ⟨g, hg, hne⟩ := ho
  intro he
  have he := List.map_eq_nil_iff.1 he
  have : upSl a v g = [] := by
   have := List.flatMap_eq_nil_iff.1 he g hg; exact this
  unfold upSl at this
  by_cases h1 : a < g.st
  ·rw [if_pos h1] at this; cases this
  ·rw [if_neg h1, if_pos (by omega)] at this; cases this) (λ y hy => by
  obtain ⟨z, hz, rfl⟩ := List.mem_map.1 hy
  obtain ⟨g, _, hg⟩ := List.mem_flatMap.1 hz; exact BMX (x := z) hg)
 obtain ⟨z, hz, rfl⟩ := List.mem_map.1 hx
 obtain ⟨g0, hg0, hgz⟩ := List.mem_flatMap.1 hz
 have hze : 0 < z.e := BMX hgz
 have hmz : ∀ g ∈ s, ∀ y ∈ upSl a v g, z.m * y.e <= y.m * z.e := λ g hg y hy => by
  have := hm ⟨-y.m, y.e⟩ (List.mem_map.2 ⟨y, List.mem_flatMap.2 ⟨g, hg, hy⟩, rfl⟩)
  simp only [Int.neg_mul] at this; omega
 have hle : n * z.e <= z.m * d := (OV.1 (h g0 hg0)).2.1 _ hgz
 have hzm : 0 <= z.m := by
  have h1 := Int.mul_nonneg hn (Int.le_of_lt hze)
  exact VW hd (by rw [Int.zero_mul]; omega)
 have hok : ∀ g ∈ s, okS a v z.m z.e g := λ g hg => OV.2 ⟨λ y hy => rS hd ((OV.1 (h g hg)).1 y hy) hle (Int.le_of_lt (BOL hy)) (Int.le_of_lt hze), λ y hy => hmz g hg y hy, λ he => by
  obtain ⟨h1, h2⟩ := (OV.1 (h g hg)).2.2 he
  exact ⟨Int.mul_le_mul_of_nonneg_right (VW hd h1) (Int.le_of_lt hze), Int.mul_le_mul_of_nonneg_right (VW hd h2) (Int.le_of_lt hze)⟩⟩
 have hc : BBX s a v z.m z.e := by
  unfold upSl at hgz
  split at hgz
  ·rename_i hlt
   have := List.mem_singleton.1 hgz
   subst this
   exact APA hs hp (AJF hg0) hlt (by have : 0 <= g0.hi - v := hzm; omega)
  ·split at hgz
   ·rename_i hlt
    have := List.mem_singleton.1 hgz
    subst this
    exact BBO hs hp (Zy hg0) hlt (by have : 0 <= v - g0.lo := hzm; omega)
   ·cases hgz
 obtain ⟨y, y1, y2, y3, y4, y5⟩ := BBB hze hc hok
 refine ⟨y, y1, y2, y3, y4, ?_⟩
 have hw := (AX y2).1
 have := rS hze hle (by rw [<- y5]; exact Int.le_refl _) (Int.le_of_lt hd) (Int.le_of_lt hw)
 exact this
theorem BXR {f : Rl} {s : List Gau} (hs : ∀ g ∈ s, GY g) (hf : f.ok) (hp : f.passes s) (hne : s ≠ []) : EQ s ≠ [] := by
 obtain ⟨g, hg, h1, _⟩ := AMD hf hp hne
 obtain ⟨y, hy, _⟩ := Py hs (Zy hg) hf.1 hf.2 h1
 intro he; rw [he] at hy; cases hy
theorem Ug {s : List Gau} {t : Int} {x : Ln} (h : s ≠ [] -> EQ s ≠ []) : x ∈ DW s t ↔ x ∈ EQ s ∨ x ∈ (DE s t).filter (Vg s) := by
 unfold DW
 have : (bif decide (0 < s.length) then decide ((EQ s).length = 0) else false) = false := by
  by_cases hn : 0 < s.length
  ·rw [decide_eq_true hn]
   have := h (by intro he; rw [he] at hn; cases hn)
   exact decide_eq_false (by intro he; exact this (List.eq_nil_of_length_eq_zero he))
  ·rw [decide_eq_false hn]; rfl
 rw [this]
 exact List.mem_append
theorem IR {s : List Gau} {t : Int} (hs : ∀ g ∈ s, GY g) {x : Ln} (hx : x ∈ DW s t) : DS x /\ (DD x).passes s := by
 have hok := BZB hs x hx
 refine ⟨hok, (AHK hok).1 ?_⟩
 rw [aK] at hx
 revert hx
 cases (bif decide ((s.length : Int) > 0) then ((EQ s).length : Int) == 0 else false) with
 | true => intro hx; cases hx
 | false =>
  intro hx
  rcases List.mem_append.1 hx with hx | hx
  ·exact (List.mem_filter.1 hx).2
  ·have := (List.mem_filter.1 hx).2
   unfold Vg at this
   cases hr : Ar x with
   | true => rw [hr] at this; exact this
   | false => rw [hr] at this; cases this
theorem BZS {s : List Gau} {t v : Int} (h : v = 0 ∨ v = 200000) : AL ⟨t, v⟩ ∈ DE s t := by
 unfold DE moB
 rcases h with rfl | rfl <;> simp
theorem CAV {s : List Gau} {t : Int} {p : Pt} (h : p ∈ AA s) : Gu ⟨t, 0⟩ p ∈ DE s t /\ Gu p ⟨t, 200000⟩ ∈ DE s t := by
 unfold DE
 constructor <;> (refine List.mem_append.2 (.inr (List.mem_flatMap.2 ⟨p, h, ?_⟩)); simp)
theorem AIK {s : List Gau} {x : Ln} (h1 : DS x) (h2 : (DD x).passes s) : Vg s x = true := by
 unfold Vg; rw [WA.2 h1]; exact (AHK h1).2 h2
theorem BJI {f : Rl} {s : List Gau} {t : Int} (hs : ∀ g ∈ s, GY g) (ht : 0 <= t /\ t <= 2000) (hf : f.ok) (hp : f.passes s) : ∃ y ∈ DW s t, DS y /\ ((DD y).num t <= 0 ∨ (DD y).num t * f.w <= f.num t * (DD y).w) := by
 by_cases hne : s = []
 ·subst hne
  have ho : DS (AL ⟨t, 0⟩) := VS ⟨ht.1, ht.2, by show (0 : Int) <= 0; omega, by show (0 : Int) <= 200000; omega⟩
  refine ⟨AL ⟨t, 0⟩, (Ug (λ h => (h rfl).elim)).2 (.inr (List.mem_filter.2 ⟨BZS (.inl rfl), AIK ho (λ g hg => by cases hg)⟩)), ho, .inl ?_⟩
  rw [(AHW _ _).1, Int.zero_mul]; exact Int.le_refl _
 ·have hfl := BXR hs hf hp hne
  obtain ⟨g, hg, h1, h2⟩ := AMD hf hp hne
  have hm : ∀ y ∈ EQ s, y ∈ DW s t := λ y hy => (Ug (λ _ => hfl)).2 (.inl hy)
  by_cases hat : g.st <= t
  ·obtain ⟨y, y1, y2, y3, y4, y5⟩ := Py hs (Zy hg) hf.1 hf.2 h1
   refine ⟨y, hm y y1, y2, .inr ?_⟩
   have hw := (AX y2).1
   have a1 := Int.mul_le_mul_of_nonneg_right y5 (show 0 <= t - g.st by omega)
   have a2 := Int.mul_le_mul_of_nonneg_right (h2 t) (Int.le_of_lt hw)
   have e1 : (DD y).num t = g.lo * (DD y).w + (DD y).q * (t - g.st) := by unfold Rl.num at *; grind
   rw [e1]; grind
  ·by_cases ho : ∃ h ∈ s, h.st ≠ g.st
   ·obtain ⟨y, y1, y2, y3, y4, y5⟩ := BRI hs (Zy hg) hf.1 hf.2 h1 ho
    refine ⟨y, hm y y1, y2, .inr ?_⟩
    have hw := (AX y2).1
    have a1 := Int.mul_le_mul_of_nonneg_right y5 (show 0 <= g.st - t by omega)
    have a2 := Int.mul_le_mul_of_nonneg_right (h2 t) (Int.le_of_lt hw)
    have e1 : (DD y).num t = g.lo * (DD y).w + (DD y).q * (t - g.st) := by unfold Rl.num at *; grind
    rw [e1]; grind
   ·have hall : ∀ h ∈ s, h.st = g.st := λ h hh => Classical.byContradiction λ hc => ho ⟨h, hh, hc⟩
    have og := hs g hg
    have hk : DS (Gu ⟨t, 0⟩ ⟨g.st, g.lo⟩) := ⟨ht.1, by show t < g.st; omega, og.2.1, Int.le_refl _, og.2.2.1, by show g.lo <= 200000; have := og.2.2.2; omega⟩
    refine ⟨_, (Ug (λ _ => hfl)).2 (.inr (List.mem_filter.2 ⟨(CAV (Zy hg)).1, AIK hk (λ h hh => ?_)⟩)), hk, .inl ?_⟩
    ·obtain ⟨b1, b2⟩ := (OV.1 (h1 h hh)).2.2 (hall h hh)
     have c1 := VW hf.1 b1
     have c2 := VW hf.1 b2
     unfold Rl.pass
     rw [G5, hall h hh]
     have hw : 0 < g.st - t := by omega
     have e : (DD (Gu ⟨t, 0⟩ ⟨g.st, g.lo⟩)).w = g.st - t := rfl
     rw [e]
     have d1 := Int.mul_le_mul_of_nonneg_right c1 (Int.le_of_lt hw)
     have d2 := Int.mul_le_mul_of_nonneg_right c2 (Int.le_of_lt hw)
     constructor <;> simp only [Int.zero_mul, Int.zero_add, Int.sub_zero] <;> omega
    ·rw [G5]; simp
theorem BVE {f : Rl} {s : List Gau} {t : Int} (hs : ∀ g ∈ s, GY g) (ht : 0 <= t /\ t <= 2000) (hf : f.ok) (hp : f.passes s) : ∃ y ∈ DW s t, DS y /\ (200000 * (DD y).w <= (DD y).num t ∨ f.num t * (DD y).w <= (DD y).num t * f.w) := by
 by_cases hne : s = []
 ·subst hne
  have ho : DS (AL ⟨t, 200000⟩) := VS ⟨ht.1, ht.2, by show (0 : Int) <= 200000; omega, by show (200000 : Int) <= 200000; omega⟩
  refine ⟨AL ⟨t, 200000⟩, (Ug (λ h => (h rfl).elim)).2 (.inr (List.mem_filter.2 ⟨BZS (.inr rfl), AIK ho (λ g hg => by cases hg)⟩)), ho, .inl ?_⟩
  rw [(AHW _ _).1]; exact Int.le_refl _
 ·have hfl := BXR hs hf hp hne
  obtain ⟨g, hg, h1, h2⟩ := BZE hf hp hne
  have hm : ∀ y ∈ EQ s, y ∈ DW s t := λ y hy => (Ug (λ _ => hfl)).2 (.inl hy)
  by_cases hat : t <= g.st
  ·obtain ⟨y, y1, y2, y3, y4, y5⟩ := Py hs (AJF hg) hf.1 hf.2 h1
   refine ⟨y, hm y y1, y2, .inr ?_⟩
   have hw := (AX y2).1
   have a1 := Int.mul_le_mul_of_nonneg_right y5 (show 0 <= g.st - t by omega)
   have a2 := Int.mul_le_mul_of_nonneg_right (h2 t) (Int.le_of_lt hw)
   have e1 : (DD y).num t = g.hi * (DD y).w + (DD y).q * (t - g.st) := by unfold Rl.num at *; grind
   rw [e1]; grind
  ·by_cases ho : ∃ h ∈ s, h.st ≠ g.st
   ·obtain ⟨y, y1, y2, y3, y4, y5⟩ := BRI hs (AJF hg) hf.1 hf.2 h1 ho
    refine ⟨y, hm y y1, y2, .inr ?_⟩
    have hw := (AX y2).1
    have a1 := Int.mul_le_mul_of_nonneg_right y5 (show 0 <= t - g.st by omega)
    have a2 := Int.mul_le_mul_of_nonneg_right (h2 t) (Int.le_of_lt hw)
    have e1 : (DD y).num t = g.hi * (DD y).w + (DD y).q * (t - g.st) := by unfold Rl.num at *; grind
    rw [e1]; grind
   ·have hall : ∀ h ∈ s, h.st = g.st := λ h hh => Classical.byContradiction λ hc => ho ⟨h, hh, hc⟩
    have og := hs g hg
    have hk : DS (Gu ⟨g.st, g.hi⟩ ⟨t, 200000⟩) := ⟨og.1, by show g.st < t; omega, ht.2, by show 0 <= g.hi; have := og.2.2; omega, og.2.2.2.2, by show (200000 : Int) <= 200000; omega⟩
    refine ⟨_, (Ug (λ _ => hfl)).2 (.inr (List.mem_filter.2 ⟨(CAV (AJF hg)).2, AIK hk (λ h hh => ?_)⟩)), hk, .inl ?_⟩
    ·obtain ⟨b1, b2⟩ := (OV.1 (h1 h hh)).2.2 (hall h hh)
     have c1 := VW hf.1 b1
     have c2 := VW hf.1 b2
     unfold Rl.pass
     rw [G5, hall h hh]
     have hw : 0 < t - g.st := by omega
     have e : (DD (Gu ⟨g.st, g.hi⟩ ⟨t, 200000⟩)).w = t - g.st := rfl
     rw [e]
     have d1 := Int.mul_le_mul_of_nonneg_right c1 (Int.le_of_lt hw)
     have d2 := Int.mul_le_mul_of_nonneg_right c2 (Int.le_of_lt hw)
     constructor <;> simp only [Int.sub_self, Int.mul_zero, Int.add_zero] <;> omega
    ·rw [G5]
     show 200000 * (t - g.st) <= g.hi * (t - g.st) + (200000 - g.hi) * (t - g.st)
     grind
end Go.Bal
