/- Package rating: the same bounds; flows that are so many times as great; stages that are higher (no program in sight). -/
import Derived.Test.YtoihhodbkimedaaRatZ
set_option linter.unusedVariables false
set_option linter.unusedSimpArgs false
namespace Go.Bal
open Go Go.Sym Go.Proofs
def lowR (r : Rt) : Prop := 0 < r.d /\ Nat.gcd r.n.natAbs r.d.natAbs = 1
theorem CFM {n d : Int} (h : 0 < d) : lowR (UT n d) := by
 refine ⟨(BDO h).1, ?_⟩
 have hp : 0 < Nat.gcd n.natAbs d.natAbs := Nat.gcd_pos_of_pos_right _ (by omega)
 show Nat.gcd (n.tdiv (Nat.gcd n.natAbs d.natAbs : Nat)).natAbs (d.tdiv (Nat.gcd n.natAbs d.natAbs : Nat)).natAbs = 1
 rw [Int.natAbs_tdiv, Int.natAbs_tdiv]
 show Nat.gcd (n.natAbs / Nat.gcd n.natAbs d.natAbs) (d.natAbs / Nat.gcd n.natAbs d.natAbs) = 1
 rw [Nat.gcd_div (Nat.gcd_dvd_left _ _) (Nat.gcd_dvd_right _ _)]
 exact Nat.div_self hp
theorem BJS {x : Ln} {t : Int} (h : DS x) : lowR (BI x t) := by
 unfold BI SZ
 split
 ·exact ⟨Int.one_pos, rfl⟩
 ·split
  ·exact ⟨Int.one_pos, rfl⟩
  ·rw [BES]; exact CFM (AX h).1
theorem CMR {a b : Rt} (ha : lowR a) (hb : lowR b) (h : a.n * b.d = b.n * a.d) : a = b := by
 obtain ⟨a1, a2⟩ := ha
 obtain ⟨b1, b2⟩ := hb
 have h2 : a.n.natAbs * b.d.natAbs = b.n.natAbs * a.d.natAbs := by
  rw [<- Int.natAbs_mul, <- Int.natAbs_mul, h]
 have d1 : a.d.natAbs ∣ b.d.natAbs := by
  have : a.d.natAbs ∣ b.d.natAbs * a.n.natAbs := ⟨b.n.natAbs, by rw [Nat.mul_comm, h2, Nat.mul_comm]⟩
  exact Nat.Coprime.dvd_of_dvd_mul_right (Nat.Coprime.symm a2) this
 have d2 : b.d.natAbs ∣ a.d.natAbs := by
  have : b.d.natAbs ∣ a.d.natAbs * b.n.natAbs := ⟨a.n.natAbs, by rw [Nat.mul_comm, <- h2, Nat.mul_comm]⟩
  exact Nat.Coprime.dvd_of_dvd_mul_right (Nat.Coprime.symm b2) this
 have hd : a.d = b.d := by have := Nat.dvd_antisymm d1 d2; omega
 have hn : a.n = b.n := by
  rw [hd] at h
  exact Int.eq_of_mul_eq_mul_right (by omega) h
 cases a; cases b; simp_all
theorem BXF {a b : Rt} (ha : lowR a) (hb : lowR b) (h1 : FQ a b) (h2 : FQ b a) : a = b := CMR ha hb (Int.le_antisymm h1 h2)
theorem BST {s : List Gau} {t : Int} (hs : ∀ g ∈ s, GY g) (h : DW s t ≠ []) : lowR (IP s t).lo /\ lowR (IP s t).hi := by
 obtain ⟨⟨z, oz, pz, ez⟩, y, oy, py, ey⟩ := KM hs h
 rw [ez, ey]; exact ⟨BJS oz, BJS oy⟩
theorem CMD {a b : Bnd} (h1 : a.lo = b.lo) (h2 : a.hi = b.hi) : a = b := by cases a; cases b; simp_all
theorem BLD {s u : List Gau} {t v : Int} (hs : ∀ g ∈ s, GY g) (hu : ∀ g ∈ u, GY g) (ht : 0 <= t /\ t <= 2000) (hv : 0 <= v /\ v <= 2000) (f1 : ∀ f : Rl, f.ok -> f.passes s -> ∃ g : Rl, g.ok /\ g.passes u /\ g.num v = f.num t /\ g.w = f.w) (f2 : ∀ f : Rl, f.ok -> f.passes u -> ∃ g : Rl, g.ok /\ g.passes s /\ g.num t = f.num v /\ g.w = f.w) (hne : DW s t ≠ []) : DW u v ≠ [] /\ IP u v = IP s t := by
 obtain ⟨⟨z, oz, pz, ez⟩, y, oy, py, ey⟩ := KM hs hne
 obtain ⟨gz, g1, g2, g3, g4⟩ := f1 _ (AX oz) pz
 obtain ⟨gy, k1, k2, k3, k4⟩ := f1 _ (AX oy) py
 have hne2 : DW u v ≠ [] := AXL hu hv g1 g2
 obtain ⟨⟨z', oz', pz', ez'⟩, y', oy', py', ey'⟩ := KM hu hne2
 obtain ⟨hz, l1, l2, l3, l4⟩ := f2 _ (AX oz') pz'
 obtain ⟨hy, m1, m2, m3, m4⟩ := f2 _ (AX oy') py'
 have cl : ∀ {f g : Rl} {a b : Int}, g.num b = f.num a -> g.w = f.w -> BS g b = BS f a := λ {f g a b} e1 e2 => by unfold BS; rw [e1, e2]
 have i1 := AMS hs ht hne
 have i2 := AMS hu hv hne2
 have w1 := BST hs hne
 have w2 := BST hu hne2
 refine ⟨hne2, CMD (BXF w2.1 w1.1 ?_ ?_) (BXF w2.2 w1.2 ?_ ?_)⟩
 ·have := fS hu hv g1 g2
  rw [cl g3 g4] at this
  rw [ez]; exact (Du oz i2.1.1.1).2 this
 ·have := fS hs ht l1 l2
  rw [cl l3 l4] at this
  rw [ez']; exact (Du oz' i1.1.1.1).2 this
 ·have := ACA hs ht m1 m2
  rw [cl m3 m4] at this
  rw [ey']; exact (Uy oy' i1.2.1.1.1).2 this
 ·have := ACA hu hv k1 k2
  rw [cl k3 k4] at this
  rw [ey]; exact (Uy oy i2.2.1.1.1).2 this
theorem BDB {s : List Gau} (hs : ∀ g ∈ s, GY g) {f : Rl} (hf : f.ok) (hp : f.passes s) : Can s := by
 by_cases hne : s = []
 ·subst hne
  have ho : DS (AL ⟨0, 0⟩) := VS ⟨Int.le_refl _, by show (0 : Int) <= 2000; omega, Int.le_refl _, by show (0 : Int) <= 200000; omega⟩
  exact ⟨_, ho, λ g hg => by cases hg⟩
 ·obtain ⟨g, hg, h1, _⟩ := AMD hf hp hne
  obtain ⟨y, _, y2, y3, _⟩ := Py hs (Zy hg) hf.1 hf.2 h1
  exact ⟨y, y2, y3⟩
theorem Thru.same {g u : List Gau} {b : List Int} (h : Thru g b) (he : ∀ x, x ∈ u ↔ x ∈ g) (hu : 1 <= u.length /\ u.length <= 24) : Thru u b :=
 ⟨hu, λ x hx => h.ok x ((he x).1 hx), h.asc, h.brk, h.few, λ k hk => by
  obtain ⟨x, h1, h2⟩ := h.thru k hk
  exact ⟨x, h1, λ y hy => h2 y (Ob (λ z hz => (he z).1 hz) b k y hy)⟩⟩
theorem BVA {g u : List Gau} {b : List Int} (h : Thru g b) (he : ∀ x, x ∈ u ↔ x ∈ g) (hu : 1 <= u.length /\ u.length <= 24) {t : Int} (ht : 0 <= t /\ t <= 2000) : AS ⟨u, b, t⟩ = AS ⟨g, b, t⟩ := by
 have h2 := h.same he hu
 rw [(h.flow ht).2, (h2.flow ht).2]
 exact (BLD (FV h.ok) (FV h2.ok) ht ht (λ f hf hp => ⟨f, hf, λ y hy => hp y (Ob (λ z hz => (he z).1 hz) b _ y hy), rfl, rfl⟩) (λ f hf hp => ⟨f, hf, λ y hy => hp y (Ob (λ z hz => (he z).2 hz) b _ y hy), rfl, rfl⟩) (h.ne (RS _ _) ht)).2
theorem BYP {g u : List Gau} {b : List Int} (h : Thru g b) (he : ∀ x, x ∈ u ↔ x ∈ g) (hu : 1 <= u.length /\ u.length <= 24) : (AU u).e = 0 /\ (AU u).r.l.length = (AU g).r.l.length := by
 have h2 := h.same he hu
 have c1 := NZ h.len h.ok
 have c2 := NZ h2.len h2.ok
 obtain ⟨_, W1, _⟩ := Ic c1 h.can
 obtain ⟨e, W2, _⟩ := Ic c2 h2.can
 have l1 := W1.least (c := (AU u).r.b) (λ i hi => Can.mono (t := CH u (AU u).r.b i) ⟨_, (W2.pass i hi).1, (W2.pass i hi).2⟩ (Ob (λ z hz => (he z).2 hz) _ _))
 have l2 := W2.least (c := (AU g).r.b) (λ i hi => Can.mono (t := CH g (AU g).r.b i) ⟨_, (W1.pass i hi).1, (W1.pass i hi).2⟩ (Ob (λ z hz => (he z).1 hz) _ _))
 exact ⟨e, by rw [W1.lenl, W2.lenl]; omega⟩
def Hp (c : Int) (g : Gau) : Gau := ⟨g.st + c, g.lo, g.hi⟩
def shF (c : Int) (f : Rl) : Rl := ⟨f.p - f.q * c, f.q, f.w⟩
theorem BDX (c : Int) (f : Rl) (u : Int) : (shF c f).num (u + c) = f.num u := by unfold shF Rl.num; grind
theorem ANZ {c : Int} {f : Rl} (h : f.ok) : (shF c f).ok := h
theorem BJY {c : Int} {f : Rl} {g : Gau} (h : f.pass g) : (shF c f).pass (Hp c g) := by
 unfold Rl.pass at *
 show g.lo * f.w <= (shF c f).num (g.st + c) /\ (shF c f).num (g.st + c) <= g.hi * f.w
 rw [BDX]; exact h
theorem BNX (b : List Int) (c t : Int) : LI (b.map (· + c)) (t + c) = LI b t := by
 unfold LI
 rw [List.countP_map]
 refine List.countP_congr λ x _ => ?_
 simp only [Function.comp, decide_eq_true_eq]; omega
theorem BTJ {g : List Gau} {b : List Int} {c : Int} {k : Int} : ∀ x, x ∈ CH (g.map (Hp c)) (b.map (· + c)) k ↔ ∃ y ∈ CH g b k, x = Hp c y := λ x => by
 rw [DU]
 constructor
 ·rintro ⟨h1, h2⟩
  obtain ⟨y, hy, rfl⟩ := List.mem_map.1 h1
  refine ⟨y, DU.2 ⟨hy, ?_⟩, rfl⟩
  have : LI (b.map (· + c)) (y.st + c) = LI b y.st := BNX b c y.st
  have h2 : ((LI (b.map (· + c)) (y.st + c) : Nat) : Int) = k := h2
  omega
 ·rintro ⟨y, hy, rfl⟩
  obtain ⟨h1, h2⟩ := DU.1 hy
  refine ⟨List.mem_map.2 ⟨y, h1, rfl⟩, ?_⟩
  show ((LI (b.map (· + c)) (y.st + c) : Nat) : Int) = k
  rw [BNX]; exact h2
theorem BDJ {g : List Gau} {b : List Int} {c k : Int} {f : Rl} (h : f.passes (CH g b k)) : (shF c f).passes (CH (g.map (Hp c)) (b.map (· + c)) k) := λ x hx => by
 obtain ⟨y, hy, rfl⟩ := (BTJ x).1 hx
 exact BJY (h y hy)
theorem BBM {g : List Gau} {b : List Int} {c k : Int} {f : Rl} (h : f.passes (CH (g.map (Hp c)) (b.map (· + c)) k)) : (shF (-c) f).passes (CH g b k) := λ y hy => by
 have := BJY (c := -c) (h (Hp c y) ((BTJ _).2 ⟨y, hy, rfl⟩))
 have e : Hp (-c) (Hp c y) = y := by cases y; simp [Hp]; omega
 rw [e] at this; exact this
theorem Thru.up_ {g : List Gau} {b : List Int} (h : Thru g b) {c : Int} (hc : 0 <= c /\ c <= 500) (hg : ∀ x ∈ g, x.st <= 1500) (hb : ∀ x ∈ b, x <= 1500) : Thru (g.map (Hp c)) (b.map (· + c)) := by
 have ho : ∀ x ∈ g.map (Hp c), GY x := λ x hx => by
  obtain ⟨y, hy, rfl⟩ := List.mem_map.1 hx
  obtain ⟨a1, a2, a3, a4, a5⟩ := h.ok y hy
  have := hg y hy
  exact ⟨by show 0 <= y.st + c; omega, by show y.st + c <= 2000; omega, a3, a4, a5⟩
 refine ⟨by rw [List.length_map]; exact h.len, ho, ?_, λ x hx => ?_, by rw [List.length_map]; exact h.few, λ k hk => ?_⟩
 ·exact List.pairwise_map.2 (h.asc.imp λ hxy => by omega)
 ·obtain ⟨y, hy, rfl⟩ := List.mem_map.1 hx
  have := h.brk y hy; have := hb y hy; show 1 <= y + c /\ y + c <= 2000; omega
 ·obtain ⟨x, h1, h2⟩ := h.thru k (by rw [List.length_map] at hk; exact hk)
  exact BDB (FV ho) (ANZ (AX h1)) (BDJ h2)
theorem CDZ {g : List Gau} {b : List Int} (h : Thru g b) {c : Int} (hc : 0 <= c /\ c <= 500) (hg : ∀ x ∈ g, x.st <= 1500) (hb : ∀ x ∈ b, x <= 1500) {t : Int} (ht : 0 <= t /\ t <= 1500) : AS ⟨g.map (Hp c), b.map (· + c), t + c⟩ = AS ⟨g, b, t⟩ := by
 have h2 := h.up_ hc hg hb
 have t1 : 0 <= t /\ t <= 2000 := by omega
 have t2 : 0 <= t + c /\ t + c <= 2000 := by omega
 rw [(h.flow t1).2, (h2.flow t2).2, BNX]
 exact (BLD (FV h.ok) (FV h2.ok) t1 t2 (λ f hf hp => ⟨shF c f, ANZ hf, BDJ hp, BDX c f t, rfl⟩) (λ f hf hp => ⟨shF (-c) f, ANZ hf, BBM hp, by have := BDX (-c) f (t + c); rw [show t + c + -c = t by omega] at this; exact this, rfl⟩) (h.ne (RS _ _) t1)).2
theorem CLZ {g : List Gau} {b : List Int} (h : Thru g b) {c : Int} (hc : 0 <= c /\ c <= 500) (hg : ∀ x ∈ g, x.st <= 1500) (hb : ∀ x ∈ b, x <= 1500) : (AU (g.map (Hp c))).e = 0 /\ (AU (g.map (Hp c))).r.l.length = (AU g).r.l.length := by
 have h2 := h.up_ hc hg hb
 have c1 := NZ h.len h.ok
 have c2 := NZ h2.len h2.ok
 obtain ⟨_, W1, _⟩ := Ic c1 h.can
 obtain ⟨e, W2, _⟩ := Ic c2 h2.can
 have l1 := W1.least (c := (AU (g.map (Hp c))).r.b.map (· + -c)) (λ i hi => by
  rw [List.length_map] at hi
  refine BDB (FV h.ok) (f := shF (-c) (DD (gD (AU (g.map (Hp c))).r.l i))) (ANZ (AX (W2.pass i hi).1)) ?_
  refine BBM ?_
  rw [List.map_map, show ((· + c) ∘ (· + -c) : Int -> Int) = id from funext λ x => by show x + -c + c = x; omega, List.map_id]
  exact (W2.pass i hi).2)
 have l2 := W2.least (c := (AU g).r.b.map (· + c)) (λ i hi => by
  rw [List.length_map] at hi
  exact BDB (FV h2.ok) (ANZ (AX (W1.pass i hi).1)) (BDJ (W1.pass i hi).2))
 rw [List.length_map] at l1 l2
 exact ⟨e, by rw [W1.lenl, W2.lenl]; omega⟩
end Go.Bal
