/- One state tells less than another. -/
import Derived.Test.YtgjkmndbkidgjaaGreatSym8
set_option linter.unusedVariables false
set_option linter.unusedSimpArgs false
namespace Go.Sym
variable {P : Program} {B B' : HN} {ι ι' : Nat -> Pl} {H H' : Heap} {D : Nat -> Prop} {w w' : World}
mutual
def CO : DVal -> DVal -> Prop
  | .v x, .v y => vEq x y
  | .agg xs, .agg ys => IG xs ys
  | .tup xs, .tup ys => IG xs ys
  | .list k n g e, .list k' n' g' e' => (k = k' ∨ n = 0) /\ n = n' /\ (e = true -> e' = true) /\ ∀ i, i < n -> CO (g i) (g' i)
  | .arr k n g, .arr k' n' g' => k = k' /\ n = n' /\ ∀ i, i < n -> CO (g i) (g' i)
  | .eref x c, .eref y d => c = d /\ CO x y
  | .iface t x, .iface u y => t = u /\ CO x y
  | .anyB, .anyB => True
  | _, _ => False
def IG : List DVal -> List DVal -> Prop
  | [], [] => True
  | x :: xs, y :: ys => CO x y /\ IG xs ys
  | _, _ => False
def vEq : Value -> Value -> Prop
  | .int k a, .int k' b => k = k' /\ a = b
  | .bool a, .bool b => a = b
  | .string a, .string b => a = b
  | x, y => x = y
end
theorem AMD {x y : Value} (h : vEq x y) : x = y := by
  unfold vEq at h
  split at h
  · obtain ⟨rfl, rfl⟩ := h; rfl
  · rw [h]
  · rw [h]
  · exact h
theorem QJ : ∀ {xs ys : List DVal}, IG xs ys -> xs.length = ys.length
  | [], [], _ => rfl
  | x :: xs, y :: ys, h => by simp only [IG] at h; simp [QJ h.2]
  | [], _ :: _, h => by simp [IG] at h
  | _ :: _, [], h => by simp [IG] at h
theorem dT : ∀ {xs ys : List DVal}, IG xs ys -> ∀ {j : Nat} {x : DVal}, xs[j]? = some x -> ∃ y, ys[j]? = some y /\ CO x y
  | [], [], _, j, x, hx => by simp at hx
  | a :: xs, b :: ys, h, 0, x, hx => by simp only [IG] at h; simp at hx; subst hx; exact ⟨b, rfl, h.1⟩
  | a :: xs, b :: ys, h, j + 1, x, hx => by
    simp only [IG] at h
    obtain ⟨y, hy, hs⟩ := dT h.2 (j := j) (by simpa using hx)
    exact ⟨y, by simpa using hy, hs⟩
  | [], _ :: _, h, _, _, _ => by simp [IG] at h
  | _ :: _, [], h, _, _, _ => by simp [IG] at h
theorem fW : ∀ {x y : DVal}, CO x y -> IG x.cells1 y.cells1
  | .v x, y, h => by cases y <;> simp only [CO] at h; exact ⟨by simpa [CO] using h, trivial⟩
  | .agg xs, y, h => by cases y <;> simp only [CO] at h; exact h
  | .tup xs, y, h => by cases y <;> (try simp only [CO] at h) <;> exact ⟨by simpa only [CO] using h, trivial⟩
  | .list k n g e, y, h => by cases y <;> (try simp only [CO] at h) <;> exact ⟨by simpa only [CO] using h, trivial⟩
  | .arr k n g, y, h => by cases y <;> (try simp only [CO] at h) <;> exact ⟨by simpa only [CO] using h, trivial⟩
  | .eref a c, y, h => by cases y <;> (try simp only [CO] at h) <;> exact ⟨by simpa only [CO] using h, trivial⟩
  | .iface a c, y, h => by cases y <;> (try simp only [CO] at h) <;> exact ⟨by simpa only [CO] using h, trivial⟩
  | .anyB, y, h => by cases y <;> (try simp only [CO] at h) <;> exact ⟨by simp only [CO], trivial⟩
theorem fL (x : DVal) (r : List DVal) : CI (x :: r) = (CI [x] && CI r) := by
  cases x with
  | v y => cases y <;> simp [CI]
  | _ => simp [CI]
theorem AOI {x y : DVal} (h : CO x y) : CI [x] = CI [y] := by
  cases x <;> cases y <;> simp only [CO] at h <;> try rfl
  rw [AMD h]
theorem xP : ∀ {xs ys : List DVal}, IG xs ys -> CI xs = CI ys
  | [], [], _ => rfl
  | x :: xs, y :: ys, h => by simp only [IG] at h; rw [fL, fL y, AOI h.1, xP h.2]
  | [], _ :: _, h => by simp [IG] at h
  | _ :: _, [], h => by simp [IG] at h
theorem Uj {k : Nat} {x y : DVal} (h : CO x y) (hy : EOk k y) : EOk k x := by
  have := fW h
  exact ⟨by rw [QJ this]; exact hy.len, by rw [xP this]; exact hy.one⟩
theorem AGV {e : DVal} {zs : Array Value} (hl : zs.size = e.cells1.length) (h : ∀ (j : Nat) (x : DVal) (z : Value), e.cells1[j]? = some x -> zs[j]? = some z -> DRel B x z) :
    ∃ v, DRel B e v /\ ∀ e2, CO e2 e -> DRel B e2 v -> ∀ (j : Nat) (x : DVal) (z : Value), e2.cells1[j]? = some x -> zs[j]? = some z -> DRel B x z := by
  have other : e.cells1 = [e] -> (∀ e2, CO e2 e -> e2.cells1 = [e2]) -> ∃ v, DRel B e v /\ ∀ e2, CO e2 e -> DRel B e2 v -> ∀ (j : Nat) (x : DVal) (z : Value), e2.cells1[j]? = some x -> zs[j]? = some z -> DRel B x z := by
    intro h1 h2
    rw [h1] at hl h
    have hz : 0 < zs.size := by rw [hl]; simp
    refine ⟨zs[0], h 0 e zs[0] rfl (by simp [hz]), λ e2 hs hv j x z hx hz' => ?_⟩
    rw [h2 e2 hs] at hx
    cases j with
    | zero => simp at hx; subst hx; simp [hz] at hz'; subst hz'; exact hv
    | succ j => simp at hx
  cases e with
  | agg ds =>
    refine ⟨.agg zs, .agg hl h, λ e2 hs hv j x z hx hz => ?_⟩
    cases e2 <;> simp only [CO] at hs
    cases hv with
    | agg hl hr => exact hr j x z hx hz
  | v y => exact other rfl λ e2 hs => by cases e2 <;> first | rfl | simp only [CO] at hs
  | tup y => exact other rfl λ e2 hs => by cases e2 <;> first | rfl | simp only [CO] at hs
  | list a b c d => exact other rfl λ e2 hs => by cases e2 <;> first | rfl | simp only [CO] at hs
  | eref a b => exact other rfl λ e2 hs => by cases e2 <;> first | rfl | simp only [CO] at hs
  | iface a b => exact other rfl λ e2 hs => by cases e2 <;> first | rfl | simp only [CO] at hs
  | anyB => exact other rfl λ e2 hs => by cases e2 <;> first | rfl | simp only [CO] at hs
  | arr a b c => exact other rfl λ e2 hs => by cases e2 <;> first | rfl | simp only [CO] at hs
theorem Ti {a b : DVal} {c : Array Value} {o k : Nat} (hs : CO a b) (ok : EOk k b) (hsz : o + k <= c.size) (h : ∀ (j : Nat) (x : DVal) (y : Value), b.cells1[j]? = some x -> c[o + j]? = some y -> DRel B x y)
    (down : ∀ v, DRel B b v -> DRel B a v) : ∀ (j : Nat) (x : DVal) (y : Value), a.cells1[j]? = some x -> c[o + j]? = some y -> DRel B x y := by
  have hz : ∀ j, j < k -> (c.extract o (o + k))[j]? = c[o + j]? := λ j hj => by rw [Array.getElem?_extract]; simp; omega
  obtain ⟨v, h1, h2⟩ := AGV (B := B) (e := b) (zs := c.extract o (o + k)) (by rw [ok.len]; simp; omega) (λ j x z hx hz' => by
    have hlt := (List.getElem?_eq_some_iff.1 hx).1
    rw [ok.len] at hlt
    rw [hz j hlt] at hz'
    exact h j x z hx hz')
  intro j x y hx hy
  have hlt := (List.getElem?_eq_some_iff.1 hx).1
  rw [(Uj hs ok).len] at hlt
  exact h2 a hs (down v h1) j x y hx (by rw [hz j hlt]; exact hy)
mutual
theorem BZ : ∀ (x : DVal) (y : DVal) (v : Value), CO x y -> DRel B y v -> DRel B x v
  | .v x, y, v, h, hv => by cases y <;> simp only [CO] at h; rw [AMD h]; exact hv
  | .agg xs, y, v, h, hv => by
    cases y <;> simp only [CO] at h
    cases hv with
    | agg hl hr =>
      exact .agg (by rw [hl, QJ h]) λ j x z hx hz => by
        obtain ⟨y, hy, hs⟩ := dT h hx
        exact ZZ xs j x y z hx hs (hr j y z hy hz)
  | .tup xs, y, v, h, hv => by
    cases y <;> simp only [CO] at h
    cases hv with
    | tup hl hr =>
      exact .tup (by rw [hl, QJ h]) λ j x z hx hz => by
        obtain ⟨y, hy, hs⟩ := dT h hx
        exact ZZ xs j x y z hx hs (hr j y z hy hz)
  | .list k n g e, y, v, h, hv => by
    cases y <;> simp only [CO] at h
    obtain ⟨hkk, rfl, he, hg⟩ := h
    cases hv with
    | nil h1 h2 => exact .nil (λ h => h1 (he h)) h2
    | list hn hb hcap hex hk hsz hr =>
      rcases hkk with rfl | h0
      case inr => omega
      refine .list hn hb hcap (λ h => hex (he h)) (λ i hi => Uj (hg i hi) (hk i hi)) hsz λ i j x y hi hx hy => ?_
      have h1 : (i + 1) * k <= n * k := Nat.mul_le_mul_right k hi
      have h2 : (i + 1) * k = i * k + k := Nat.succ_mul i k
      exact Ti (hg i hi) (hk i hi) (by omega) (λ j x y hx hy => hr i j x y hi hx hy) (λ v hv => BZ (g i) _ v (hg i hi) hv) j x y hx hy
  | .arr k n g, y, v, h, hv => by
    cases y <;> simp only [CO] at h
    obtain ⟨rfl, rfl, hg⟩ := h
    cases hv with
    | arr hl hk hr =>
      refine .arr hl (λ i hi => Uj (hg i hi) (hk i hi)) λ i j x y hi hx hy => ?_
      have h1 : (i + 1) * k <= n * k := Nat.mul_le_mul_right k hi
      have h2 : (i + 1) * k = i * k + k := Nat.succ_mul i k
      exact Ti (hg i hi) (hk i hi) (by omega) (λ j x y hx hy => hr i j x y hi hx hy) (λ v hv => BZ (g i) _ v (hg i hi) hv) j x y hx hy
  | .anyB, y, v, h, hv => by
    cases y <;> simp only [CO] at h
    exact hv
  | .iface a c, y, v, h, hv => by
    cases y <;> simp only [CO] at h
    obtain ⟨rfl, hs⟩ := h
    cases hv with
    | iface hr => exact .iface (BZ _ _ _ hs hr)
  | .eref a c, y, v, h, hv => by
    cases y <;> simp only [CO] at h
    obtain ⟨rfl, hs⟩ := h
    cases hv with
    | eref hb hsz hr =>
      have hl := QJ (fW hs)
      rename_i d b off cs
      refine .eref hb (by omega) λ j x y hx hy => ?_
      have hz : ∀ j, j < d.cells1.length -> (cs.extract off (off + d.cells1.length))[j]? = cs[off + j]? := λ j hj => by rw [Array.getElem?_extract]; simp; omega
      obtain ⟨v, h1, h2⟩ := AGV (B := B) (e := d) (zs := cs.extract off (off + d.cells1.length)) (by simp; omega) (λ j x z hx hz' => by
        have hlt := (List.getElem?_eq_some_iff.1 hx).1
        rw [hz j hlt] at hz'
        exact hr j x z hx hz')
      have hlt := (List.getElem?_eq_some_iff.1 hx).1
      exact h2 a hs (BZ a d v hs h1) j x y hx (by rw [hz j (by omega)]; exact hy)
theorem ZZ : ∀ (l : List DVal) (j : Nat) (x y : DVal) (v : Value), l[j]? = some x -> CO x y -> DRel B y v -> DRel B x v
  | [], j, x, y, v, hx, _, _ => by simp at hx
  | a :: l, 0, x, y, v, hx, h, hv => by simp at hx; subst hx; exact BZ a y v h hv
  | a :: l, j + 1, x, y, v, hx, h, hv => ZZ l j x y v (by simpa using hx) h hv
end
end Go.Sym

namespace Go.Sym
variable {P : Program} {B B' : HN} {ι ι' : Nat -> Pl} {H H' : Heap} {D : Nat -> Prop} {w w' : World}
mutual
def ZA (ρ : Nat -> Nat) (p : Nat -> Bool) : AVal -> AVal -> Prop
  | .any, _ => True
  | .d x, .d y => CO x y
  | .agg xs, .agg ys => LO ρ p xs ys
  | .tup xs, .tup ys => LO ρ p xs ys
  | .bptr i c, .bptr j d => j = ρ i /\ p i = true /\ c = d
  | .rptr i k e c, .rptr j k' e' c' => j = ρ i /\ p i = true /\ k = k' /\ e = e' /\ c = c'
  | .own i k e n, .own j k' e' n' => j = ρ i /\ p i = true /\ k = k' /\ e = e' /\ n = n'
  | .fn f a b, .fn g c d => f = g /\ LO ρ p a c /\ LO ρ p b d
  | .mref i, .mref j => j = ρ i /\ p i = true
  | .opt g a, .opt h b => g = h /\ ZA ρ p a b
  | _, _ => False
def LO (ρ : Nat -> Nat) (p : Nat -> Bool) : List AVal -> List AVal -> Prop
  | [], [] => True
  | x :: xs, y :: ys => ZA ρ p x y /\ LO ρ p xs ys
  | _, _ => False
end
theorem HG {ρ : Nat -> Nat} {p : Nat -> Bool} : ∀ {xs ys : List AVal}, LO ρ p xs ys -> xs.length = ys.length
  | [], [], _ => rfl
  | x :: xs, y :: ys, h => by simp only [LO] at h; simp [HG h.2]
  | [], _ :: _, h => by simp [LO] at h
  | _ :: _, [], h => by simp [LO] at h
theorem IL {ρ : Nat -> Nat} {p : Nat -> Bool} : ∀ {xs ys : List AVal}, LO ρ p xs ys -> ∀ {j : Nat} {x : AVal}, xs[j]? = some x -> ∃ y, ys[j]? = some y /\ ZA ρ p x y
  | [], [], _, j, x, hx => by simp at hx
  | a :: xs, b :: ys, h, 0, x, hx => by simp only [LO] at h; simp at hx; subst hx; exact ⟨b, rfl, h.1⟩
  | a :: xs, b :: ys, h, j + 1, x, hx => by
    simp only [LO] at h
    obtain ⟨y, hy, hs⟩ := IL h.2 (j := j) (by simpa using hx)
    exact ⟨y, by simpa using hy, hs⟩
  | [], _ :: _, h, _, _, _ => by simp [LO] at h
  | _ :: _, [], h, _, _, _ => by simp [LO] at h
mutual
theorem WZ {ρ : Nat -> Nat} {p : Nat -> Bool} {D' : Nat -> Prop} (hp : ∀ i, p i = true -> D' i) : ∀ (x y : AVal) (v : Value), ZA ρ p x y -> VRel B ι D y v -> VRel B (λ i => ι (ρ i)) D' x v
  | .any, _, _, _, _ => .any
  | .d x, y, v, h, hv => by cases y <;> simp only [ZA] at h; exact .d (BZ _ _ _ h hv.d_inv)
  | .agg xs, y, v, h, hv => by
    cases y <;> simp only [ZA] at h
    cases hv with
    | agg hl hr =>
      exact .agg (by rw [hl, HG h]) λ j x z hx hz => by
        obtain ⟨y, hy, hs⟩ := IL h hx
        exact GR hp xs j x y z hx hs (hr j y z hy hz)
  | .tup xs, y, v, h, hv => by
    cases y <;> simp only [ZA] at h
    cases hv with
    | tup hl hr =>
      exact .tup (by rw [hl, HG h]) λ j x z hx hz => by
        obtain ⟨y, hy, hs⟩ := IL h hx
        exact GR hp xs j x y z hx hs (hr j y z hy hz)
  | .bptr i c, y, v, h, hv => by
    cases y <;> simp only [ZA] at h
    obtain ⟨rfl, h2, rfl⟩ := h
    cases hv; exact VRel.bptr (ι := λ i => ι (ρ i)) (hp _ h2)
  | .rptr i k e c, y, v, h, hv => by
    cases y <;> simp only [ZA] at h
    obtain ⟨rfl, h2, rfl, rfl, rfl⟩ := h
    cases hv; exact VRel.rptr (ι := λ i => ι (ρ i)) (hp _ h2)
  | .own i k e n, y, v, h, hv => by
    cases y <;> simp only [ZA] at h
    obtain ⟨rfl, h2, rfl, rfl, rfl⟩ := h
    cases hv with
    | own _ h3 h4 => exact VRel.own (ι := λ i => ι (ρ i)) (hp _ h2) h3 h4
  | .fn f a b, y, v, h, hv => by
    cases y <;> simp only [ZA] at h
    obtain ⟨rfl, h1, h2⟩ := h
    cases hv with
    | fn h3 h4 h5 h6 =>
      exact .fn (by rw [h3, HG h1]) (by rw [h4, HG h2])
        (λ j x z hx hz => by
          obtain ⟨y, hy, hs⟩ := IL h1 hx
          exact GR hp a j x y z hx hs (h5 j y z hy hz))
        λ j x z hx hz => by
          obtain ⟨y, hy, hs⟩ := IL h2 hx
          exact GR hp b j x y z hx hs (h6 j y z hy hz)
  | .mref i, y, v, h, hv => by
    cases y <;> simp only [ZA] at h
    obtain ⟨rfl, h2⟩ := h
    cases hv; exact VRel.mref (ι := λ i => ι (ρ i)) (hp _ h2)
  | .opt g a, y, v, h, hv => by
    cases y <;> simp only [ZA] at h
    obtain ⟨rfl, h2⟩ := h
    cases hv with
    | opt h3 h4 => exact .opt (λ hg => WZ hp a _ v h2 (h3 hg)) h4
theorem GR {ρ : Nat -> Nat} {p : Nat -> Bool} {D' : Nat -> Prop} (hp : ∀ i, p i = true -> D' i) : ∀ (l : List AVal) (j : Nat) (x y : AVal) (v : Value), l[j]? = some x -> ZA ρ p x y -> VRel B ι D y v -> VRel B (λ i => ι (ρ i)) D' x v
  | [], j, x, y, v, hx, _, _ => by simp at hx
  | a :: l, 0, x, y, v, hx, h, hv => by simp at hx; subst hx; exact WZ hp a y v h hv
  | a :: l, j + 1, x, y, v, hx, h, hv => GR hp l j x y v (by simpa using hx) h hv
end
def bK (ρ : Nat -> Nat) (p : Nat -> Bool) : AObj -> AObj -> Prop
  | .row k n g, .row k' n' g' => k = k' /\ n = n' /\ ∀ i, i < n -> CO (g i) (g' i)
  | .box es, .box es' => LO ρ p es es'
  | .imap q z h g s p, .imap q' z' h' g' s' p' => q = q' /\ z = z' /\ p = p' /\ (∀ n, h n = h' n) /\ (∀ n, s n = s' n) /\ ∀ n, CO (g n) (g' n)
  | .kmap q z h g, .kmap q' z' h' g' => q = q' /\ z = z' /\ (∀ n, h n = h' n) /\ ∀ n, CO (g n) (g' n)
  | .abox es m g, .abox es' m' g' => LO ρ p es es' /\ m = m' /\ ∀ i, i < m -> g i = g' i
  | .miter m a b c d, .miter m' a' b' c' d' => p m = true /\ ρ m = m' /\ (∀ n, a n = a' n) /\ (∀ n, b n = b' n) /\ (∀ n, c n = c' n) /\ (d = none ∨ d = d')
  | _, _ => False
theorem NY {ρ : Nat -> Nat} {p : Nat -> Bool} {D' : Nat -> Prop} (hp : ∀ i, p i = true -> D' i) {q : Nat} {a b : AObj} {x : Option Obj} (h : bK ρ p a b) (hb : ORel B ι D q b x) : ORel B (λ i => ι (ρ i)) D' q a x := by
  cases a with
  | row k n g =>
    cases b <;> simp only [bK] at h
    obtain ⟨rfl, rfl, hg⟩ := h
    cases hb with
    | row hk hn hsz hr =>
      refine .row (λ i hi => Uj (hg i hi) (hk i hi)) hn hsz λ i j x y hi hx hy => ?_
      have h1 : (i + 1) * k <= n * k := Nat.mul_le_mul_right k hi
      have h2 : (i + 1) * k = i * k + k := Nat.succ_mul i k
      have h3 : n * k <= q * k := Nat.mul_le_mul_right k hn
      exact Ti (hg i hi) (hk i hi) (by omega) (λ j x y hx hy => hr i j x y hi hx hy) (λ v hv => BZ (g i) _ v (hg i hi) hv) j x y hx hy
  | box es =>
    cases b <;> simp only [bK] at h
    cases hb with
    | box hsz hr =>
      exact .box (by rw [hsz, HG h]) λ j x z hx hz => by
        obtain ⟨y, hy, hs⟩ := IL h hx
        exact GR hp es j x y z hx hs (hr j y z hy hz)
  | imap kd z has get st pend =>
    cases b <;> simp only [bK] at h
    obtain ⟨rfl, rfl, rfl, hh, hs, hg⟩ := h
    cases hb with
    | imap hm =>
      refine .imap ⟨λ i e he => ?_, λ n hn => ?_, λ n hn => hm.met n (by rw [<- hh n]; exact hn), hm.once⟩
      · obtain ⟨n, h1, h2, h3, h4, h5⟩ := hm.keys i e he
        exact ⟨n, h1, by rw [hh n]; exact h2, h3, by rw [hs n]; exact h4, BZ _ _ _ (hg n) h5⟩
      · obtain ⟨h1, h2⟩ := hm.miss n (by rw [<- hh n]; exact hn)
        exact ⟨BZ _ _ _ (hg n) h1, by rw [hs n]; exact h2⟩
  | kmap kd z has get =>
    cases b <;> simp only [bK] at h
    obtain ⟨rfl, rfl, hh, hg⟩ := h
    cases hb with
    | kmap hm =>
      refine .kmap ⟨λ i e he => ?_, λ n hn => ?_, λ n hn => hm.met n (by rw [<- hh n]; exact hn), hm.once⟩
      · obtain ⟨n, h1, h2, h5⟩ := hm.keys i e he
        exact ⟨n, h1, by rw [hh n]; exact h2, BZ _ _ _ (hg n) h5⟩
      · exact BZ _ _ _ (hg n) (hm.miss n (by rw [<- hh n]; exact hn))
  | abox es m g =>
    cases b <;> simp only [bK] at h
    obtain ⟨h, rfl, hg⟩ := h
    cases hb with
    | abox hsz hr hb =>
      exact .abox (by rw [hsz, HG h]) (λ j x z hx hz => by
        obtain ⟨y, hy, hs⟩ := IL h hx
        exact GR hp es j x y z hx hs (hr j y z hy hz)) λ j hj => by rw [HG h, hg j hj]; exact hb j hj
  | miter m a1 b1 c1 d1 =>
    cases b <;> simp only [bK] at h
    obtain ⟨h0, rfl, ha, hb', hc, hd⟩ := h
    obtain rfl : a1 = _ := funext ha
    obtain rfl : b1 = _ := funext hb'
    obtain rfl : c1 = _ := funext hc
    cases hb with
    | miter hD h1 h2 h3 h4 h5 =>
      refine .miter (hp m h0) h1 h2 h3 h4 λ k hk => ?_
      rcases hd with rfl | rfl
      · cases hk
      · exact h5 k hk
def DV : List (Nat × AVal) -> Nat -> AVal
  | [], _ => .any
  | (j, v) :: r, t => if t = j then v else DV r t
def QT (l : List (Nat × HCell)) : Heap := λ i => (HH l i).getD .none
structure ST where
  sl : List (Nat × AVal)
  H : List (Nat × HCell)
def ST.st (s : ST) : AState := ⟨DV s.sl, QT s.H⟩
def ALX (ρ : Nat -> Nat) (p : Nat -> Bool) (sl : Nat -> AVal) : List (Nat × AVal) -> Prop
  | [] => True
  | (t, v) :: r => ZA ρ p v (sl t) /\ ALX ρ p sl r
def cSub (ρ : Nat -> Nat) (p : Nat -> Bool) : HCell -> HCell -> Prop
  | .live o, .live o' => bK ρ p o o'
  | .dead, .live _ => True
  | .dead, .dead => True
  | _, _ => False
def hSub (ρ : Nat -> Nat) (p : Nat -> Bool) (H : Heap) : List (Nat × HCell) -> Prop
  | [] => True
  | (i, c) :: r => cSub ρ p c (H (ρ i)) /\ hSub ρ p H r
def EA (l : List (Nat × Nat)) (i : Nat) : Nat := match l with
  | [] => i
  | (a, b) :: r => if i = a then b else EA r i
def AVO (E : List Nat) (l : List (Nat × Nat)) (s : ST) (σ : AState) : Prop :=
  ALX (EA l) (λ i => (HH s.H i).isSome) σ.sl s.sl /\ hSub (EA l) (λ i => (HH s.H i).isSome) σ.H s.H /\
    (nodup (s.H.map λ x => EA l x.1) && E.all λ i => EA l i == i && (HH s.H i).isSome) = true
theorem yC {ρ : Nat -> Nat} {p : Nat -> Bool} {sl : Nat -> AVal} : ∀ {l : List (Nat × AVal)}, ALX ρ p sl l -> ∀ t, ZA ρ p (DV l t) (sl t)
  | [], _, t => by simp [DV, ZA]
  | (j, v) :: r, h, t => by
    simp only [DV]
    split
    · rename_i e; subst e; exact h.1
    · exact yC h.2 t
theorem sQ {ρ : Nat -> Nat} {p : Nat -> Bool} {H : Heap} : ∀ {l : List (Nat × HCell)}, hSub ρ p H l -> ∀ {i : Nat} {c : HCell}, (i, c) ∈ l -> cSub ρ p c (H (ρ i))
  | [], _, i, c, h => by cases h
  | (j, d) :: r, h, i, c, hm => by
    rcases List.mem_cons.1 hm with hm | hm
    · cases hm; exact h.1
    · exact sQ h.2 hm
theorem Rel.sub {c : Ctx} {E : List Nat} {l : List (Nat × Nat)} {s : ST} {σ : AState} {a : Act} (hE : ∀ i, c.H0.dom i -> i ∈ E) (h : AVO E l s σ) (hR : Rel c B ι σ a w) : Rel c B (λ i => ι (EA l i)) s.st a w := by
  obtain ⟨h1, h2, h3⟩ := h
  simp only [Bool.and_eq_true, List.all_eq_true, beq_iff_eq] at h3
  obtain ⟨h3, h4⟩ := h3
  have hnd := GG h3
  have hdom : ∀ i, (λ i => (HH s.H i).isSome) i = true -> (ST.st s).H.dom i := λ i hi => by
    obtain ⟨d, hd⟩ := Option.isSome_iff_exists.1 hi
    have := sQ h2 (GI hd)
    unfold Heap.dom
    show (HH s.H i).getD .none ≠ .none
    rw [hd]
    intro he
    simp at he; subst he
    simp [cSub] at this
  have live : ∀ i o, (ST.st s).H i = .live o -> (i, .live o) ∈ s.H /\ ∃ o', σ.H (EA l i) = .live o' /\ bK (EA l) (λ i => (HH s.H i).isSome) o o' := λ i o hi => by
    have hg : HH s.H i = some (.live o) := by
      have : (HH s.H i).getD .none = .live o := hi
      cases hq : HH s.H i with
      | none => rw [hq] at this; cases this
      | some d => rw [hq] at this; simpa using this
    have hm := GI hg
    have := sQ h2 hm
    refine ⟨hm, ?_⟩
    cases hq : σ.H (EA l i) with
    | live o' => rw [hq] at this; exact ⟨o', rfl, this⟩
    | none => rw [hq] at this; simp [cSub] at this
    | dead => rw [hq] at this; simp [cSub] at this
  refine ⟨λ t => WZ hdom _ _ _ (yC h1 t) (hR.slots t), hR.size, ?_, ?_⟩
  · obtain ⟨Ds, d1, d0, d2, d3⟩ := hR.defers
    refine ⟨Ds, d1, d0, d2, λ D hD => ⟨(d3 D hD).1, (d3 D hD).2.here, λ i o hi => ?_⟩⟩
    obtain ⟨_, o', ho, _⟩ := live i o hi
    exact (d3 D hD).2.sep _ _ ho
  have hm := hR.mv
  refine ⟨hm.bm, hm.bn, λ i hi => ?_, ⟨λ i o hi => ?_, λ i j o o' hi hj hij => ?_, λ i o hi => ?_, hm.heap.imm⟩, λ i o hi => ?_, hm.frame, hm.size, hm.calm⟩
  · obtain ⟨h5, h6⟩ := h4 i (hE i hi)
    exact ⟨hdom i h6, by rw [h5]; exact (hm.im i hi).2⟩
  · obtain ⟨_, o', ho, hs⟩ := live i o hi
    exact NY hdom hs (hm.heap.obj _ _ ho)
  · obtain ⟨m1, o1, ho1, _⟩ := live i o hi
    obtain ⟨m2, o2, ho2, _⟩ := live j o' hj
    exact (Kz hnd m1 m2 (hm.heap.inj _ _ _ _ ho1 ho2 hij)).1
  · obtain ⟨_, o', ho, _⟩ := live i o hi
    exact hm.heap.sep _ _ ho
  · obtain ⟨_, o', ho, _⟩ := live i o hi
    exact hm.own _ _ ho
theorem CodeE.sub {c : Ctx} {E : List Nat} {l : List (Nat × Nat)} {s : ST} {σ : AState} {code : Code} {Q : Exit -> AState -> Prop} (hE : ∀ i, c.H0.dom i -> i ∈ E) (hs : AVO E l s σ) (h : CodeE P c code Q s.st) : CodeE P c code Q σ :=
  λ _ _ a w hR => h _ _ a w (hR.sub hE hs)
end Go.Sym

namespace Go.Sym
variable {P : Program} {B B' : HN} {ι ι' : Nat -> Pl} {H H' : Heap} {D : Nat -> Prop} {w w' : World}
theorem DK {a b : Nat} : (Nat.beq a b = true) = (a = b) := propext ⟨Nat.eq_of_beq_eq_true, λ h => by subst h; exact Nat.beq_refl a⟩
def CJ : Option (List Prop) -> Prop
  | some l => BG l
  | none => False
def WW : Option (List Prop) -> Option (List Prop) -> Option (List Prop)
  | some l, some m => some (l ++ m)
  | _, _ => none
def ANL : Value -> Value -> Option (List Prop)
  | .int k a, .int k' b => if k = k' then some [a = b] else none
  | .bool a, .bool b => some [a = b]
  | .string a, .string b => some [a = b]
  | x, y => some [x = y]
theorem CM {a b : Option (List Prop)} (h : CJ (WW a b)) : CJ a /\ CJ b := by
  cases a with
  | none => exact h.elim
  | some l => cases b with
    | none => exact h.elim
    | some m => exact BD h
theorem AJS (x : Value) : vEq x x := by
  unfold vEq; split <;> simp_all
theorem AFW {x y : Value} (h : CJ (ANL x y)) : vEq x y := by
  unfold ANL at h
  split at h
  · split at h
    · rename_i hk; exact ⟨hk, h⟩
    · exact h.elim
  · exact h
  · exact h
  · have h : x = y := h
    subst h
    exact AJS x
mutual
def IE : DVal -> DVal -> Option (List Prop)
  | .v x, .v y => ANL x y
  | .agg xs, .agg ys => dN xs ys
  | .tup xs, .tup ys => dN xs ys
  | .list k n g e, .list k' n' g' e' => if Nat.beq k k' && (!e || e') then some [n = n', ∀ i, i < n -> CJ (IE (g i) (g' i))] else if (Nat.beq k' 0 || Nat.beq k 0) && (!e || e') then some [n = n', n = 0] else none
  | .arr k n g, .arr k' n' g' => if Nat.beq k k' then some [n = n', ∀ i, i < n -> CJ (IE (g i) (g' i))] else none
  | .eref x c, .eref y d => if Nat.beq c d then IE x y else none
  | .iface t x, .iface u y => if Nat.beq t u then IE x y else none
  | .anyB, .anyB => some []
  | _, _ => none
def dN : List DVal -> List DVal -> Option (List Prop)
  | [], [] => some []
  | x :: xs, y :: ys => WW (IE x y) (dN xs ys)
  | _, _ => none
end
mutual
theorem CP : ∀ (x y : DVal), CJ (IE x y) -> CO x y
  | .v x, y, h => by cases y <;> simp only [IE] at h <;> first | exact (by simp only [CO]; exact AFW h) | exact h.elim
  | .agg xs, y, h => by cases y <;> simp only [IE] at h <;> first | exact (by simp only [CO]; exact Aw _ _ h) | exact h.elim
  | .tup xs, y, h => by cases y <;> simp only [IE] at h <;> first | exact (by simp only [CO]; exact Aw _ _ h) | exact h.elim
  | .list k n g e, y, h => by
    cases y <;> simp only [IE] at h <;> try exact h.elim
    split at h
    · rename_i hc
      simp only [Bool.and_eq_true, DK, Bool.or_eq_true, Bool.not_eq_true'] at hc
      obtain ⟨h1, h2⟩ := CX.1 h
      simp only [CO]
      refine ⟨.inl hc.1, h1, λ he => ?_, λ i hi => CP _ _ (h2 i hi)⟩
      rcases hc.2 with h | h
      · rw [he] at h; cases h
      · exact h
    · split at h
      · rename_i hc
        simp only [Bool.and_eq_true, DK, Bool.or_eq_true, Bool.not_eq_true'] at hc
        obtain ⟨h1, h2⟩ := CX.1 h
        have h2 : n = 0 := h2
        simp only [CO]
        refine ⟨.inr h2, h1, λ he => ?_, λ i hi => by omega⟩
        rcases hc.2 with h | h
        · rw [he] at h; cases h
        · exact h
      · exact h.elim
  | .arr k n g, y, h => by
    cases y <;> simp only [IE] at h <;> try exact h.elim
    split at h
    · rename_i hc
      obtain ⟨h1, h2⟩ := CX.1 h
      simp only [CO]
      exact ⟨Nat.eq_of_beq_eq_true hc, h1, λ i hi => CP _ _ (h2 i hi)⟩
    · exact h.elim
  | .anyB, y, h => by
    cases y <;> simp only [IE] at h <;> try exact h.elim
    simp only [CO]
  | .iface x c, y, h => by
    cases y <;> simp only [IE] at h <;> try exact h.elim
    split at h
    · rename_i hc
      simp only [CO]
      exact ⟨Nat.eq_of_beq_eq_true hc, CP _ _ h⟩
    · exact h.elim
  | .eref x c, y, h => by
    cases y <;> simp only [IE] at h <;> try exact h.elim
    split at h
    · rename_i hc
      simp only [CO]
      exact ⟨Nat.eq_of_beq_eq_true hc, CP _ _ h⟩
    · exact h.elim
theorem Aw : ∀ (x y : List DVal), CJ (dN x y) -> IG x y
  | [], y, h => by cases y <;> simp only [dN] at h <;> first | trivial | exact h.elim
  | x :: xs, y, h => by
    cases y <;> simp only [dN] at h
    · exact h.elim
    · obtain ⟨h1, h2⟩ := CM h
      simp only [IG]
      exact ⟨CP _ _ h1, Aw _ _ h2⟩
end
abbrev Bg := Nat -> Option (Nat × Nat × (Nat -> DVal))
structure FrzRow (B' : HN) (ι : Nat -> Pl) (id k m : Nat) (get : Nat -> DVal) (c : Array Value) : Prop where
  at' : B' (ι id).b = some c
  len : m <= (ι id).cap
  size : (ι id).cap * k <= c.size
  ok : ∀ i, i < m -> EOk k (get i)
  rel : ∀ (i j : Nat) (x : DVal) (y : Value), i < m -> (get i).cells1[j]? = some x -> c[i * k + j]? = some y -> DRel B' x y
def ZP (B B' : HN) (ι : Nat -> Pl) (F : Bg) : Prop :=
  (∀ b c, B b = some c -> B' b = some c) /\ ∀ id k m get, F id = some (k, m, get) -> ∃ c, FrzRow B' ι id k m get c
mutual
def JW (F : Bg) : DVal -> AVal -> Option (List Prop)
  | x, .d y => IE x y
  | .list k n g e, .own id k' i n' => match F id with
    | some (k2, m, get) => if Nat.beq k k' && Nat.beq k k2 && !e then some [n = n', i + n' <= m, ∀ j, j < n -> CJ (IE (g j) (get (i + j)))] else none
    | none => none
  | .agg xs, .agg ys => HT F xs ys
  | .tup xs, .tup ys => HT F xs ys
  | _, _ => none
def HT (F : Bg) : List DVal -> List AVal -> Option (List Prop)
  | [], [] => some []
  | x :: xs, y :: ys => WW (JW F x y) (HT F xs ys)
  | _, _ => none
end
theorem Ah {F : Bg} : ∀ {xs : List DVal} {ys : List AVal}, CJ (HT F xs ys) -> xs.length = ys.length
  | [], [], _ => rfl
  | x :: xs, y :: ys, h => by simp only [HT] at h; simp [Ah (CM h).2]
  | [], _ :: _, h => by simp only [HT] at h; exact h.elim
  | _ :: _, [], h => by simp only [HT] at h; exact h.elim
theorem YV {F : Bg} : ∀ {xs : List DVal} {ys : List AVal}, CJ (HT F xs ys) -> ∀ {j : Nat} {x : DVal}, xs[j]? = some x -> ∃ y, ys[j]? = some y /\ CJ (JW F x y)
  | [], [], _, j, x, hx => by simp at hx
  | a :: xs, b :: ys, h, 0, x, hx => by simp only [HT] at h; simp at hx; subst hx; exact ⟨b, rfl, (CM h).1⟩
  | a :: xs, b :: ys, h, j + 1, x, hx => by
    simp only [HT] at h
    obtain ⟨y, hy, hs⟩ := YV (CM h).2 (j := j) (by simpa using hx)
    exact ⟨y, by simpa using hy, hs⟩
  | [], _ :: _, h, _, _, _ => by simp only [HT] at h; exact h.elim
  | _ :: _, [], h, _, _, _ => by simp only [HT] at h; exact h.elim
theorem vL {F : Bg} (hF : ZP B B' ι F) {k n : Nat} {g : Nat -> DVal} {id i n' m : Nat} {get : Nat -> DVal} {v : Value} (hf : F id = some (k, m, get)) (hn : n = n') (hm : i + n' <= m) (hg : ∀ j, j < n -> CO (g j) (get (i + j))) (hv : VRel B ι D (.own id k i n') v) : DRel B' (.list k n g false) v := by
  obtain ⟨c, hc⟩ := hF.2 id k m get hf
  subst hn
  cases hv with
  | own hD hcap hq =>
    rcases Nat.eq_zero_or_pos n with rfl | hp
    · exact .nil (λ h => by cases h) (.inr (by simp))
    · have hsz : ∀ j, j < n -> (i + j + 1) * k <= c.size := λ j hj => by
        have h1 : (i + j + 1) * k <= (ι id).cap * k := Nat.mul_le_mul_right k (by have := hc.len; omega)
        have := hc.size
        omega
      refine .list hp hc.at' hcap (λ h => by cases h) (λ j hj => Uj (hg j hj) (hc.ok _ (by omega))) ?_ λ j l x y hj hx hy => ?_
      · have h1 : (i + n) * k <= (ι id).cap * k := Nat.mul_le_mul_right k (by have := hc.len; omega)
        have h2 : (i + n) * k = i * k + n * k := Nat.add_mul i n k
        have := hc.size
        omega
      · have e1 : (i + j) * k = i * k + j * k := Nat.add_mul i j k
        have e2 : (i + j + 1) * k = (i + j) * k + k := Nat.succ_mul _ k
        refine (Ti (o := (i + j) * k) (hg j hj) (hc.ok _ (by omega)) (by have := hsz j hj; omega) (λ l x y hx hy => hc.rel (i + j) l x y (by omega) hx hy) (λ v hv => BZ _ _ v (hg j hj) hv) l x y hx (by rw [e1]; exact hy))
mutual
theorem Wt {F : Bg} (hF : ZP B B' ι F) : ∀ (x : DVal) (y : AVal) (v : Value), CJ (JW F x y) -> VRel B ι D y v -> DRel B' x v
  | .v x, y, v, h, hv => by
    cases y <;> simp only [JW] at h <;> try exact h.elim
    exact (BZ _ _ v (CP _ _ h) hv.d_inv).mono hF.1
  | .anyB, y, v, h, hv => by
    cases y <;> simp only [JW] at h <;> try exact h.elim
    exact (BZ _ _ v (CP _ _ h) hv.d_inv).mono hF.1
  | .iface x c, y, v, h, hv => by
    cases y <;> simp only [JW] at h <;> try exact h.elim
    exact (BZ _ _ v (CP _ _ h) hv.d_inv).mono hF.1
  | .eref x c, y, v, h, hv => by
    cases y <;> simp only [JW] at h <;> try exact h.elim
    exact (BZ _ _ v (CP _ _ h) hv.d_inv).mono hF.1
  | .arr k n g, y, v, h, hv => by
    cases y <;> simp only [JW] at h <;> try exact h.elim
    exact (BZ _ _ v (CP _ _ h) hv.d_inv).mono hF.1
  | .list k n g e, y, v, h, hv => by
    cases y <;> simp only [JW] at h <;> try exact h.elim
    · exact (BZ _ _ v (CP _ _ h) hv.d_inv).mono hF.1
    · split at h
      · rename_i k2 m get hf
        split at h
        · rename_i hc
          simp only [Bool.and_eq_true, DK, Bool.not_eq_true'] at hc
          obtain ⟨⟨rfl, rfl⟩, rfl⟩ := hc
          obtain ⟨h1, h2⟩ := CX.1 h
          obtain ⟨h2, h3⟩ := CX.1 h2
          exact vL hF hf h1 h2 (λ j hj => CP _ _ (h3 j hj)) hv
        · exact h.elim
      · exact h.elim
  | .agg xs, y, v, h, hv => by
    cases y <;> simp only [JW] at h <;> try exact h.elim
    · exact (BZ _ _ v (CP _ _ h) hv.d_inv).mono hF.1
    · cases hv with
      | agg hl hr =>
        exact .agg (by rw [hl, Ah h]) λ j x z hx hz => by
          obtain ⟨y, hy, hs⟩ := YV h hx
          exact QI hF xs j x y z hx hs (hr j y z hy hz)
  | .tup xs, y, v, h, hv => by
    cases y <;> simp only [JW] at h <;> try exact h.elim
    · exact (BZ _ _ v (CP _ _ h) hv.d_inv).mono hF.1
    · cases hv with
      | tup hl hr =>
        exact .tup (by rw [hl, Ah h]) λ j x z hx hz => by
          obtain ⟨y, hy, hs⟩ := YV h hx
          exact QI hF xs j x y z hx hs (hr j y z hy hz)
theorem QI {F : Bg} (hF : ZP B B' ι F) : ∀ (l : List DVal) (j : Nat) (x : DVal) (y : AVal) (v : Value), l[j]? = some x -> CJ (JW F x y) -> VRel B ι D y v -> DRel B' x v
  | [], j, x, y, v, hx, _, _ => by simp at hx
  | a :: l, 0, x, y, v, hx, h, hv => by simp at hx; subst hx; exact Wt hF a y v h hv
  | a :: l, j + 1, x, y, v, hx, h, hv => QI hF l j x y v (by simpa using hx) h hv
end
def ANR : Fn -> Fn -> Option (List Prop)
  | .func a, .func b => if Nat.beq a b then some [] else none
  | f, g => some [f = g]
theorem AEY {f g : Fn} (h : CJ (ANR f g)) : f = g := by
  unfold ANR at h
  split at h
  · split at h
    · rename_i hb; rw [Nat.eq_of_beq_eq_true hb]
    · exact h.elim
  · exact h
mutual
def JG (F : Bg) (ρ : Nat -> Nat) (p : Nat -> Bool) : AVal -> AVal -> Option (List Prop)
  | .any, _ => some []
  | .d x, y => JW F x y
  | .agg xs, .agg ys => EL F ρ p xs ys
  | .agg xs, .d (.agg ys) => EL F ρ p xs (ys.map .d)
  | .tup xs, .tup ys => EL F ρ p xs ys
  | .tup xs, .d (.tup ys) => EL F ρ p xs (ys.map .d)
  | .bptr i c, .bptr j d => if Nat.beq j (ρ i) && p i && Nat.beq c d then some [] else none
  | .rptr i k e c, .rptr j k' e' c' => if Nat.beq j (ρ i) && p i && Nat.beq k k' && Nat.beq c c' then some [e = e'] else none
  | .own i k e n, .own j k' e' n' => if Nat.beq j (ρ i) && p i && Nat.beq k k' then some [e = e', n = n'] else none
  | .fn f a b, .fn g c d => WW (ANR f g) (WW (EL F ρ p a c) (EL F ρ p b d))
  | .mref i, .mref j => if Nat.beq j (ρ i) && p i then some [] else none
  | .opt g a, .opt h b => WW (some [g = h]) (JG F ρ p a b)
  | _, _ => none
def EL (F : Bg) (ρ : Nat -> Nat) (p : Nat -> Bool) : List AVal -> List AVal -> Option (List Prop)
  | [], [] => some []
  | x :: xs, y :: ys => WW (JG F ρ p x y) (EL F ρ p xs ys)
  | _, _ => none
end
theorem FO {F : Bg} {ρ : Nat -> Nat} {p : Nat -> Bool} : ∀ {xs ys : List AVal}, CJ (EL F ρ p xs ys) -> xs.length = ys.length
  | [], [], _ => rfl
  | x :: xs, y :: ys, h => by simp only [EL] at h; simp [FO (CM h).2]
  | [], _ :: _, h => by simp only [EL] at h; exact h.elim
  | _ :: _, [], h => by simp only [EL] at h; exact h.elim
theorem FY {F : Bg} {ρ : Nat -> Nat} {p : Nat -> Bool} : ∀ {xs ys : List AVal}, CJ (EL F ρ p xs ys) -> ∀ {j : Nat} {x : AVal}, xs[j]? = some x -> ∃ y, ys[j]? = some y /\ CJ (JG F ρ p x y)
  | [], [], _, j, x, hx => by simp at hx
  | a :: xs, b :: ys, h, 0, x, hx => by simp only [EL] at h; simp at hx; subst hx; exact ⟨b, rfl, (CM h).1⟩
  | a :: xs, b :: ys, h, j + 1, x, hx => by
    simp only [EL] at h
    obtain ⟨y, hy, hs⟩ := FY (CM h).2 (j := j) (by simpa using hx)
    exact ⟨y, by simpa using hy, hs⟩
  | [], _ :: _, h, _, _, _ => by simp only [EL] at h; exact h.elim
  | _ :: _, [], h, _, _, _ => by simp only [EL] at h; exact h.elim
theorem AUN {ys : List DVal} {v : Value} (h : DRel B (.agg ys) v) : VRel B ι D (.agg (ys.map .d)) v := by
  cases h with
  | agg hl hr =>
    refine .agg (by simp [hl]) λ j x z hx hz => ?_
    rw [List.getElem?_map] at hx
    obtain ⟨x', h1, rfl⟩ := Option.map_eq_some_iff.1 hx
    exact .d (hr j x' z h1 hz)
theorem AUC {ys : List DVal} {v : Value} (h : DRel B (.tup ys) v) : VRel B ι D (.tup (ys.map .d)) v := by
  cases h with
  | tup hl hr =>
    refine .tup (by simp [hl]) λ j x z hx hz => ?_
    rw [List.getElem?_map] at hx
    obtain ⟨x', h1, rfl⟩ := Option.map_eq_some_iff.1 hx
    exact .d (hr j x' z h1 hz)
mutual
theorem LF {F : Bg} (hF : ZP B B' ι F) {ρ : Nat -> Nat} {p : Nat -> Bool} {D' : Nat -> Prop} (hp : ∀ i, p i = true -> D' i) : ∀ (x y : AVal) (v : Value), CJ (JG F ρ p x y) -> VRel B ι D y v -> VRel B' (λ i => ι (ρ i)) D' x v
  | .any, _, _, _, _ => .any
  | .d x, y, v, h, hv => .d (Wt hF x y v (by simpa only [JG] using h) hv)
  | .agg xs, y, v, h, hv => by
    have fin : ∀ ys : List AVal, CJ (EL F ρ p xs ys) -> VRel B ι D (.agg ys) v -> VRel B' (λ i => ι (ρ i)) D' (.agg xs) v := λ ys h hv => by
      cases hv with
      | agg hl hr =>
        exact .agg (by rw [hl, FO h]) λ j x z hx hz => by
          obtain ⟨y, hy, hs⟩ := FY h hx
          exact GH hF hp xs j x y z hx hs (hr j y z hy hz)
    cases y <;> (try simp only [JG] at h) <;> try exact h.elim
    · rename_i x
      cases x <;> (try simp only [JG] at h) <;> try exact h.elim
      exact fin _ h (AUN hv.d_inv)
    · exact fin _ h hv
  | .tup xs, y, v, h, hv => by
    have fin : ∀ ys : List AVal, CJ (EL F ρ p xs ys) -> VRel B ι D (.tup ys) v -> VRel B' (λ i => ι (ρ i)) D' (.tup xs) v := λ ys h hv => by
      cases hv with
      | tup hl hr =>
        exact .tup (by rw [hl, FO h]) λ j x z hx hz => by
          obtain ⟨y, hy, hs⟩ := FY h hx
          exact GH hF hp xs j x y z hx hs (hr j y z hy hz)
    cases y <;> (try simp only [JG] at h) <;> try exact h.elim
    · rename_i x
      cases x <;> (try simp only [JG] at h) <;> try exact h.elim
      exact fin _ h (AUC hv.d_inv)
    · exact fin _ h hv
  | .bptr i c, y, v, h, hv => by
    cases y <;> simp only [JG] at h <;> try exact h.elim
    split at h
    · rename_i hc
      simp only [Bool.and_eq_true, DK] at hc
      obtain ⟨⟨rfl, h2⟩, rfl⟩ := hc
      cases hv; exact VRel.bptr (ι := λ i => ι (ρ i)) (hp _ h2)
    · exact h.elim
  | .rptr i k e c, y, v, h, hv => by
    cases y <;> simp only [JG] at h <;> try exact h.elim
    split at h
    · rename_i hc
      simp only [Bool.and_eq_true, DK] at hc
      obtain ⟨⟨⟨rfl, h2⟩, rfl⟩, rfl⟩ := hc
      have h : e = _ := h
      subst h
      cases hv; exact VRel.rptr (ι := λ i => ι (ρ i)) (hp _ h2)
    · exact h.elim
  | .own i k e n, y, v, h, hv => by
    cases y <;> simp only [JG] at h <;> try exact h.elim
    split at h
    · rename_i hc
      simp only [Bool.and_eq_true, DK] at hc
      obtain ⟨⟨rfl, h2⟩, rfl⟩ := hc
      obtain ⟨h3, h4⟩ := CX.1 h
      have h4 : n = _ := h4
      subst h3; subst h4
      cases hv with
      | own _ h3 h4 => exact VRel.own (ι := λ i => ι (ρ i)) (hp _ h2) h3 h4
    · exact h.elim
  | .fn f a b, y, v, h, hv => by
    cases y <;> simp only [JG] at h <;> try exact h.elim
    obtain ⟨h1, h2⟩ := CM h
    obtain ⟨h2, h3⟩ := CM h2
    have h1 := AEY h1
    subst h1
    cases hv with
    | fn h4 h5 h6 h7 =>
      exact .fn (by rw [h4, FO h2]) (by rw [h5, FO h3])
        (λ j x z hx hz => by
          obtain ⟨y, hy, hs⟩ := FY h2 hx
          exact GH hF hp a j x y z hx hs (h6 j y z hy hz))
        λ j x z hx hz => by
          obtain ⟨y, hy, hs⟩ := FY h3 hx
          exact GH hF hp b j x y z hx hs (h7 j y z hy hz)
  | .mref i, y, v, h, hv => by
    cases y <;> simp only [JG] at h <;> try exact h.elim
    split at h
    · rename_i hc
      simp only [Bool.and_eq_true, DK] at hc
      obtain ⟨rfl, h2⟩ := hc
      cases hv; exact VRel.mref (ι := λ i => ι (ρ i)) (hp _ h2)
    · exact h.elim
  | .opt g a, y, v, h, hv => by
    cases y <;> simp only [JG] at h <;> try exact h.elim
    obtain ⟨h1, h2⟩ := CM h
    have h1 : g = _ := h1
    subst h1
    cases hv with
    | opt h3 h4 => exact .opt (λ hg => LF hF hp a _ v h2 (h3 hg)) h4
theorem GH {F : Bg} (hF : ZP B B' ι F) {ρ : Nat -> Nat} {p : Nat -> Bool} {D' : Nat -> Prop} (hp : ∀ i, p i = true -> D' i) : ∀ (l : List AVal) (j : Nat) (x y : AVal) (v : Value), l[j]? = some x -> CJ (JG F ρ p x y) -> VRel B ι D y v -> VRel B' (λ i => ι (ρ i)) D' x v
  | [], j, x, y, v, hx, _, _ => by simp at hx
  | a :: l, 0, x, y, v, hx, h, hv => by simp at hx; subst hx; exact LF hF hp a y v h hv
  | a :: l, j + 1, x, y, v, hx, h, hv => GH hF hp l j x y v (by simpa using hx) h hv
end
def LM (F : Bg) (ρ : Nat -> Nat) (p : Nat -> Bool) : AObj -> AObj -> Option (List Prop)
  | .row k n g, .row k' n' g' => if Nat.beq k k' then some [n = n', ∀ i, i < n -> CJ (IE (g i) (g' i))] else none
  | .box es, .box es' => EL F ρ p es es'
  | .imap q z h g s none, .imap q' z' h' g' s' none => if q = q' then some [z = z', ∀ n, h n = h' n, ∀ n, s n = s' n, ∀ n, CJ (IE (g n) (g' n))] else none
  | .kmap q z h g, .kmap q' z' h' g' => if q = q' then some [z = z', ∀ n, h n = h' n, ∀ n, CJ (IE (g n) (g' n))] else none
  | .abox es m g, .abox es' m' g' => if Nat.beq m m' then WW (EL F ρ p es es') (some [∀ i, i < m -> g i = g' i]) else none
  | .miter m a b c none, .miter m' a' b' c' _ => if p m && Nat.beq (ρ m) m' then some [∀ n, a n = a' n, ∀ n, b n = b' n, ∀ n, c n = c' n] else none
  | _, _ => none
theorem PQ {F : Bg} (hF : ZP B B' ι F) {ρ : Nat -> Nat} {p : Nat -> Bool} {D' : Nat -> Prop} (hp : ∀ i, p i = true -> D' i) {q : Nat} {a b : AObj} {x : Option Obj} (h : CJ (LM F ρ p a b)) (hb : ORel B ι D q b x) : ORel B' (λ i => ι (ρ i)) D' q a x := by
  cases a with
  | row k n g =>
    cases b <;> simp only [LM] at h <;> try exact h.elim
    split at h
    · rename_i hc
      obtain ⟨h1, h2⟩ := CX.1 h
      have hs : bK ρ p (.row k n g) (.row _ _ _) := ⟨Nat.eq_of_beq_eq_true hc, h1, λ i hi => CP _ _ (h2 i hi)⟩
      exact (NY hp hs hb).mono hF.1 λ i hi => ⟨hi, rfl⟩
    · exact h.elim
  | box es =>
    cases b <;> simp only [LM] at h <;> try exact h.elim
    cases hb with
    | box hsz hr =>
      exact .box (by rw [hsz, FO h]) λ j x z hx hz => by
        obtain ⟨y, hy, hs⟩ := FY h hx
        exact GH hF hp es j x y z hx hs (hr j y z hy hz)
  | imap q z hs g st pend =>
    cases pend with
    | some x => cases b <;> simp only [LM] at h <;> exact h.elim
    | none =>
    cases b <;> try (simp only [LM] at h; exact h.elim)
    rename_i q' z' hs' g' st' pend'
    cases pend' with
    | some x => simp only [LM] at h; exact h.elim
    | none =>
    simp only [LM] at h
    split at h
    · rename_i hc
      obtain ⟨h1, h3⟩ := CX.1 h
      obtain ⟨h3, h4⟩ := CX.1 h3
      obtain ⟨h4, h5⟩ := CX.1 h4
      have hs : bK ρ p (.imap q z hs g st none) (.imap _ _ _ _ _ _) := ⟨hc, h1, rfl, h3, h4, λ n => CP _ _ (h5 n)⟩
      exact (NY hp hs hb).mono hF.1 λ i hi => ⟨hi, rfl⟩
    · exact h.elim
  | kmap q z hs g =>
    cases b <;> simp only [LM] at h <;> try exact h.elim
    split at h
    · rename_i hc
      obtain ⟨h1, h3⟩ := CX.1 h
      obtain ⟨h3, h5⟩ := CX.1 h3
      have hs : bK ρ p (.kmap q z hs g) (.kmap _ _ _ _) := ⟨hc, h1, h3, λ n => CP _ _ (h5 n)⟩
      exact (NY hp hs hb).mono hF.1 λ i hi => ⟨hi, rfl⟩
    · exact h.elim
  | abox es m g =>
    cases b <;> simp only [LM] at h <;> try exact h.elim
    split at h
    · rename_i hc
      obtain rfl := Nat.eq_of_beq_eq_true hc
      obtain ⟨h, hg⟩ := CM h
      cases hb with
      | abox hsz hr hb =>
        exact .abox (by rw [hsz, FO h]) (λ j x z hx hz => by
          obtain ⟨y, hy, hs⟩ := FY h hx
          exact GH hF hp es j x y z hx hs (hr j y z hy hz)) λ j hj => by rw [FO h, show g j = _ from hg j hj]; exact hb j hj
    · exact h.elim
  | miter m a1 b1 c1 d1 =>
    cases d1 with
    | some x => cases b <;> simp only [LM] at h <;> exact h.elim
    | none =>
    cases b <;> simp only [LM] at h <;> try exact h.elim
    split at h
    · rename_i hc
      simp only [Bool.and_eq_true] at hc
      obtain ⟨h1, h3⟩ := CX.1 h
      obtain ⟨h3, h4⟩ := CX.1 h3
      rename_i m' a' b' c' d' _
      have hs : bK ρ p (.miter m a1 b1 c1 none) (.miter m' a' b' c' d') := ⟨hc.1, Nat.eq_of_beq_eq_true hc.2, h1, h3, h4, .inl rfl⟩
      exact (NY hp hs hb).mono hF.1 λ i hi => ⟨hi, rfl⟩
    · exact h.elim
def CF (H : Heap) : List Nat -> Heap
  | [] => H
  | id :: r => match H id with
    | .live (.row _ _ _) => CF (CH H id .dead) r
    | _ => CF H r
def EM (H : Heap) (ids : List Nat) : Bg := λ id => if ids.contains id then match H id with
    | .live (.row k m get) => some (k, m, get)
    | _ => none
  else none
theorem FU : ∀ (ids : List Nat) {B : HN} {H : Heap}, HRel B ι H w -> ∃ B', Moved B ι H w B' ι (CF H ids) w /\ ZP B B' ι (EM H ids)
  | [], B, H, h => ⟨B, Moved.refl h, λ _ _ h => h, λ id k m get hf => by simp [EM] at hf⟩
  | id :: r, B, H, h => by
    simp only [CF]
    split
    · rename_i k m get hid
      obtain ⟨c, e, h1, h2, h3, h4, h5, h6⟩ := Moved.freeze h hid
      obtain ⟨B', h7, h8⟩ := FU r h2.heap
      refine ⟨B', h2.trans h7, λ b c hb => h8.1 b c (h2.bm b c hb), λ id' k' m' get' hf => ?_⟩
      by_cases he : id' = id
      · subst he
        simp only [EM, List.contains_cons, beq_self_eq_true, Bool.true_or, if_true, hid, Option.some.injEq, Prod.mk.injEq] at hf
        obtain ⟨rfl, rfl, rfl⟩ := hf
        exact ⟨c, h8.1 _ _ (by simp), h3, h4, h5, λ i j x y hi hx hy => (h6 i j x y hi hx hy).mono λ b c hb => h8.1 b c (h2.bm b c hb)⟩
      · refine h8.2 id' k' m' get' ?_
        have e1 : (id' == id) = false := by simpa using he
        simp only [EM, List.contains_cons, e1, Bool.false_or] at hf
        simp only [EM, CV _ _ he]
        exact hf
    · rename_i hn
      obtain ⟨B', h7, h8⟩ := FU r h
      refine ⟨B', h7, h8.1, λ id' k' m' get' hf => ?_⟩
      by_cases he : id' = id
      · subst he
        simp only [EM, List.contains_cons, beq_self_eq_true, Bool.true_or, if_true] at hf
        first | cases hf | (split at hf; (rename_i hq; exact (hn _ _ _ hq).elim); cases hf)
      · refine h8.2 id' k' m' get' ?_
        have e1 : (id' == id) = false := by simpa using he
        simp only [EM, List.contains_cons, e1, Bool.false_or] at hf
        exact hf
theorem KR : ∀ (ids : List Nat) {H : Heap} {i : Nat} {o : AObj}, CF H ids i = .live o -> H i = .live o
  | [], _, _, _, h => h
  | id :: r, H, i, o, h => by
    have key : ∀ H', (H' = H ∨ H' = CH H id .dead) -> CF H' r i = .live o -> H i = .live o := λ H' hH h => by
      have := KR r h
      rcases hH with rfl | rfl
      · exact this
      · by_cases he : i = id
        · subst he; rw [CW] at this; cases this
        · rwa [CV _ _ he] at this
    simp only [CF] at h
    cases hq : H id with
    | live o' => cases o' with
      | row => simp only [hq] at h; exact key _ (.inr rfl) h
      | _ => simp only [hq] at h; exact key _ (.inl rfl) h
    | _ => simp only [hq] at h; exact key _ (.inl rfl) h
def fI (F : Bg) (ρ : Nat -> Nat) (p : Nat -> Bool) : HCell -> HCell -> Option (List Prop)
  | .live o, .live o' => LM F ρ p o o'
  | .dead, .live _ => some []
  | .dead, .dead => some []
  | _, _ => none
def AFL (F : Bg) (ρ : Nat -> Nat) (p : Nat -> Bool) (sl : Nat -> AVal) : List (Nat × AVal) -> Option (List Prop)
  | [] => some []
  | (t, v) :: r => WW (JG F ρ p v (sl t)) (AFL F ρ p sl r)
def AQK (F : Bg) (ρ : Nat -> Nat) (p : Nat -> Bool) (H : Heap) : List (Nat × HCell) -> Option (List Prop)
  | [] => some []
  | (i, c) :: r => WW (fI F ρ p c (H (ρ i))) (AQK F ρ p H r)
theorem uB {F : Bg} {ρ : Nat -> Nat} {p : Nat -> Bool} {sl : Nat -> AVal} : ∀ {l : List (Nat × AVal)}, CJ (AFL F ρ p sl l) -> ∀ t, CJ (JG F ρ p (DV l t) (sl t))
  | [], _, t => by simp only [DV, JG]; trivial
  | (j, v) :: r, h, t => by
    obtain ⟨h1, h2⟩ := CM h
    simp only [DV]
    split
    · rename_i e; subst e; exact h1
    · exact uB h2 t
theorem bA {F : Bg} {ρ : Nat -> Nat} {p : Nat -> Bool} {H : Heap} : ∀ {l : List (Nat × HCell)}, CJ (AQK F ρ p H l) -> ∀ {i : Nat} {c : HCell}, (i, c) ∈ l -> CJ (fI F ρ p c (H (ρ i)))
  | [], _, i, c, h => by cases h
  | (j, d) :: r, h, i, c, hm => by
    obtain ⟨h1, h2⟩ := CM h
    rcases List.mem_cons.1 hm with hm | hm
    · cases hm; exact h1
    · exact bA h2 hm
def IX (E : List Nat) (fz : List Nat) (l : List (Nat × Nat)) (s : ST) (σ : AState) : Option (List Prop) :=
  if (nodup (s.H.map λ x => EA l x.1) && E.all λ i => Nat.beq (EA l i) i && (HH s.H i).isSome) then
    WW (AFL (EM σ.H fz) (EA l) (λ i => (HH s.H i).isSome) σ.sl s.sl) (AQK (EM σ.H fz) (EA l) (λ i => (HH s.H i).isSome) (CF σ.H fz) s.H)
  else none
theorem Moved.subF {B0 : HN} {ι0 : Nat -> Pl} {H0 : Heap} {w0 : World} {E fz : List Nat} {l : List (Nat × Nat)} {s : ST} {sl : Nat -> AVal} (hE : ∀ i, H0.dom i -> i ∈ E) (h : CJ (IX E fz l s ⟨sl, H⟩)) (hm0 : Moved B0 ι0 H0 w0 B ι H w) :
    ∃ B', Moved B0 ι0 H0 w0 B' (λ i => ι (EA l i)) (QT s.H) w /\ (∀ t v, VRel B ι H.dom (sl t) v -> VRel B' (λ i => ι (EA l i)) (QT s.H).dom (DV s.sl t) v) /\ (∀ i o, QT s.H i = .live o -> ∃ o', H (EA l i) = .live o') /\
      (∀ b c, B b = some c -> B' b = some c) /\ ∀ i ∈ E, (QT s.H).dom i /\ EA l i = i := by
  unfold IX at h
  split at h
  case isFalse => exact h.elim
  rename_i h3
  obtain ⟨h1, h2⟩ := CM h
  simp only [Bool.and_eq_true, List.all_eq_true, DK] at h3
  obtain ⟨h3, h4⟩ := h3
  have hnd := GG h3
  obtain ⟨B', hk, hF⟩ := FU fz hm0.heap
  have hm := hm0.trans hk
  have hdom : ∀ i, (λ i => (HH s.H i).isSome) i = true -> (QT s.H).dom i := λ i hi => by
    obtain ⟨d, hd⟩ := Option.isSome_iff_exists.1 hi
    have := bA h2 (GI hd)
    unfold Heap.dom
    show (HH s.H i).getD .none ≠ .none
    rw [hd]
    intro he
    simp at he; subst he
    simp only [fI] at this; exact this
  have live : ∀ i o, QT s.H i = .live o -> (i, .live o) ∈ s.H /\ ∃ o', CF H fz (EA l i) = .live o' /\ CJ (LM (EM H fz) (EA l) (λ i => (HH s.H i).isSome) o o') := λ i o hi => by
    have hg : HH s.H i = some (.live o) := by
      have : (HH s.H i).getD .none = .live o := hi
      cases hq : HH s.H i with
      | none => rw [hq] at this; cases this
      | some d => rw [hq] at this; simpa using this
    have hm := GI hg
    have := bA h2 hm
    refine ⟨hm, ?_⟩
    cases hq : CF H fz (EA l i) with
    | live o' => rw [hq] at this; exact ⟨o', rfl, this⟩
    | none => rw [hq] at this; simp only [fI] at this; exact this.elim
    | dead => rw [hq] at this; simp only [fI] at this; exact this.elim
  refine ⟨B', ?_, λ t v hv => LF hF hdom _ _ _ (uB h1 t) hv, λ i o hi => by obtain ⟨_, o', ho, _⟩ := live i o hi; exact ⟨o', KR fz ho⟩, hF.1, λ i hi => ⟨hdom i (h4 i hi).2, (h4 i hi).1⟩⟩
  refine ⟨hm.bm, hm.bn, λ i hi => ?_, ⟨λ i o hi => ?_, λ i j o o' hi hj hij => ?_, λ i o hi => ?_, hm.heap.imm⟩, λ i o hi => ?_, hm.frame, hm.size, hm.calm⟩
  · obtain ⟨h5, h6⟩ := h4 i (hE i hi)
    exact ⟨hdom i h6, by show ι (EA l i) = _; rw [h5]; exact (hm.im i hi).2⟩
  · obtain ⟨_, o', ho, hs⟩ := live i o hi
    exact PQ hF hdom hs (hm0.heap.obj _ _ (KR fz ho))
  · obtain ⟨m1, o1, ho1, _⟩ := live i o hi
    obtain ⟨m2, o2, ho2, _⟩ := live j o' hj
    exact (Kz hnd m1 m2 (hm.heap.inj _ _ _ _ ho1 ho2 hij)).1
  · obtain ⟨_, o', ho, _⟩ := live i o hi
    exact hm.heap.sep _ _ ho
  · obtain ⟨_, o', ho, _⟩ := live i o hi
    exact hm.own _ _ ho
theorem Rel.subF {c : Ctx} {E fz : List Nat} {l : List (Nat × Nat)} {s : ST} {σ : AState} {a : Act} (hE : ∀ i, c.H0.dom i -> i ∈ E) (h : CJ (IX E fz l s σ)) (hR : Rel c B ι σ a w) : ∃ B', Rel c B' (λ i => ι (EA l i)) s.st a w := by
  obtain ⟨B', h1, h2, h3, _⟩ := Moved.subF hE h hR.mv
  obtain ⟨Ds, d1, d0, d2, d3⟩ := hR.defers
  refine ⟨B', λ t => h2 t _ (hR.slots t), hR.size, ⟨Ds, d1, d0, d2, λ D hD => ⟨(d3 D hD).1, (d3 D hD).2.here, λ i o hi => ?_⟩⟩, h1⟩
  obtain ⟨o', ho⟩ := h3 i o hi
  exact (d3 D hD).2.sep _ _ ho
theorem CodeE.subF {c : Ctx} {E fz : List Nat} {l : List (Nat × Nat)} {s : ST} {σ : AState} {code : Code} {Q : Exit -> AState -> Prop} (hE : ∀ i, c.H0.dom i -> i ∈ E) (hs : CJ (IX E fz l s σ)) (h : CodeE P c code Q s.st) : CodeE P c code Q σ :=
  λ _ _ a w hR => let ⟨B', hR'⟩ := Rel.subF hE hs hR; h B' _ a w hR'
def RR : List Prop -> Prop -> Prop
  | [], K => K
  | l, K => BG l /\ K
theorem DU {l : List Prop} {K : Prop} (h : RR l K) : BG l /\ K := by
  cases l with
  | nil => exact ⟨trivial, h⟩
  | cons => exact h
def AGW : Option (List Prop) -> Prop -> Prop
  | some l, K => RR l K
  | none, _ => False
theorem Po {l : Option (List Prop)} {K : Prop} (h : AGW l K) : CJ l /\ K := by
  cases l with
  | none => exact h.elim
  | some l => exact DU h
end Go.Sym
