/- One state tells less than another. -/
import Derived.Test.YtoihhodbkimedaaSym6
set_option linter.unusedVariables false
set_option linter.unusedSimpArgs false
namespace Go.Sym
variable {P : Program} {B B' : JW} {ι ι' : Nat -> Pl} {H H' : Heap} {D : Nat -> Prop} {w w' : World}
mutual
def CJ : DVal -> DVal -> Prop
  | .v x, .v y => vEq x y
  | .agg xs, .agg ys => KD xs ys
  | .tup xs, .tup ys => KD xs ys
  | .list k n g e, .list k' n' g' e' => (k = k' ∨ n = 0) /\ n = n' /\ (e = true -> e' = true) /\ ∀ i, i < n -> CJ (g i) (g' i)
  | .arr k n g, .arr k' n' g' => k = k' /\ n = n' /\ ∀ i, i < n -> CJ (g i) (g' i)
  | .eref x c, .eref y d => c = d /\ CJ x y
  | .iface t x, .iface u y => t = u /\ CJ x y
  | .anyB, .anyB => True
  | _, _ => False
def KD : List DVal -> List DVal -> Prop
  | [], [] => True
  | x :: xs, y :: ys => CJ x y /\ KD xs ys
  | _, _ => False
def vEq : Value -> Value -> Prop
  | .int k a, .int k' b => k = k' /\ a = b
  | .bool a, .bool b => a = b
  | .string a, .string b => a = b
  | x, y => x = y
end
theorem BWL {x y : Value} (h : vEq x y) : x = y := by
  unfold vEq at h
  split at h
  · obtain ⟨rfl, rfl⟩ := h; rfl
  · rw [h]
  · rw [h]
  · exact h
theorem ZJ : ∀ {xs ys : List DVal}, KD xs ys -> xs.length = ys.length
  | [], [], _ => rfl
  | x :: xs, y :: ys, h => by simp only [KD] at h; simp [ZJ h.2]
  | [], _ :: _, h => by simp [KD] at h
  | _ :: _, [], h => by simp [KD] at h
theorem E7 : ∀ {xs ys : List DVal}, KD xs ys -> ∀ {j : Nat} {x : DVal}, xs[j]? = some x -> ∃ y, ys[j]? = some y /\ CJ x y
  | [], [], _, j, x, hx => by simp at hx
  | a :: xs, b :: ys, h, 0, x, hx => by simp only [KD] at h; simp at hx; subst hx; exact ⟨b, rfl, h.1⟩
  | a :: xs, b :: ys, h, j + 1, x, hx => by
    simp only [KD] at h
    obtain ⟨y, hy, hs⟩ := E7 h.2 (j := j) (by simpa using hx)
    exact ⟨y, by simpa using hy, hs⟩
  | [], _ :: _, h, _, _, _ => by simp [KD] at h
  | _ :: _, [], h, _, _, _ => by simp [KD] at h
theorem AEO : ∀ {x y : DVal}, CJ x y -> KD x.cells1 y.cells1
  | .v x, y, h => by cases y <;> simp only [CJ] at h; exact ⟨by simpa [CJ] using h, trivial⟩
  | .agg xs, y, h => by cases y <;> simp only [CJ] at h; exact h
  | .tup xs, y, h => by cases y <;> (try simp only [CJ] at h) <;> exact ⟨by simpa only [CJ] using h, trivial⟩
  | .list k n g e, y, h => by cases y <;> (try simp only [CJ] at h) <;> exact ⟨by simpa only [CJ] using h, trivial⟩
  | .arr k n g, y, h => by cases y <;> (try simp only [CJ] at h) <;> exact ⟨by simpa only [CJ] using h, trivial⟩
  | .eref a c, y, h => by cases y <;> (try simp only [CJ] at h) <;> exact ⟨by simpa only [CJ] using h, trivial⟩
  | .iface a c, y, h => by cases y <;> (try simp only [CJ] at h) <;> exact ⟨by simpa only [CJ] using h, trivial⟩
  | .anyB, y, h => by cases y <;> (try simp only [CJ] at h) <;> exact ⟨by simp only [CJ], trivial⟩
theorem AFC (x : DVal) (r : List DVal) : BU (x :: r) = (BU [x] && BU r) := by
  cases x with
  | v y => cases y <;> simp [BU]
  | _ => simp [BU]
theorem CBU {x y : DVal} (h : CJ x y) : BU [x] = BU [y] := by
  cases x <;> cases y <;> simp only [CJ] at h <;> try rfl
  rw [BWL h]
theorem BBS : ∀ {xs ys : List DVal}, KD xs ys -> BU xs = BU ys
  | [], [], _ => rfl
  | x :: xs, y :: ys, h => by simp only [KD] at h; rw [AFC, AFC y, CBU h.1, BBS h.2]
  | [], _ :: _, h => by simp [KD] at h
  | _ :: _, [], h => by simp [KD] at h
theorem tC {k : Nat} {x y : DVal} (h : CJ x y) (hy : EOk k y) : EOk k x := by
  have := AEO h
  exact ⟨by rw [ZJ this]; exact hy.len, by rw [BBS this]; exact hy.one⟩
theorem BSL {e : DVal} {zs : Array Value} (hl : zs.size = e.cells1.length) (h : ∀ (j : Nat) (x : DVal) (z : Value), e.cells1[j]? = some x -> zs[j]? = some z -> DRel B x z) :
    ∃ v, DRel B e v /\ ∀ e2, CJ e2 e -> DRel B e2 v -> ∀ (j : Nat) (x : DVal) (z : Value), e2.cells1[j]? = some x -> zs[j]? = some z -> DRel B x z := by
  have other : e.cells1 = [e] -> (∀ e2, CJ e2 e -> e2.cells1 = [e2]) -> ∃ v, DRel B e v /\ ∀ e2, CJ e2 e -> DRel B e2 v -> ∀ (j : Nat) (x : DVal) (z : Value), e2.cells1[j]? = some x -> zs[j]? = some z -> DRel B x z := by
    intro h1 h2
    rw [h1] at hl h
    have hz : 0 < zs.size := by rw [hl]; simp
    refine ⟨zs[0], h 0 e zs[0] rfl (by simp [hz]), λ e2 hs hv j x z hx hz' => ?_⟩
    rw [h2 e2 hs] at hx
    cases j with
    | zero => simp at hx; subst hx; simp [hz] at hz'; subst hz'; exact hv
    | succ j => simp at hx
  cases e with
  | agg ds =>
    refine ⟨.agg zs, .agg hl h, λ e2 hs hv j x z hx hz => ?_⟩
    cases e2 <;> simp only [CJ] at hs
    cases hv with
    | agg hl hr => exact hr j x z hx hz
  | v y => exact other rfl λ e2 hs => by cases e2 <;> first | rfl | simp only [CJ] at hs
  | tup y => exact other rfl λ e2 hs => by cases e2 <;> first | rfl | simp only [CJ] at hs
  | list a b c d => exact other rfl λ e2 hs => by cases e2 <;> first | rfl | simp only [CJ] at hs
  | eref a b => exact other rfl λ e2 hs => by cases e2 <;> first | rfl | simp only [CJ] at hs
  | iface a b => exact other rfl λ e2 hs => by cases e2 <;> first | rfl | simp only [CJ] at hs
  | anyB => exact other rfl λ e2 hs => by cases e2 <;> first | rfl | simp only [CJ] at hs
  | arr a b c => exact other rfl λ e2 hs => by cases e2 <;> first | rfl | simp only [CJ] at hs
theorem xA {a b : DVal} {c : Array Value} {o k : Nat} (hs : CJ a b) (ok : EOk k b) (hsz : o + k <= c.size) (h : ∀ (j : Nat) (x : DVal) (y : Value), b.cells1[j]? = some x -> c[o + j]? = some y -> DRel B x y)
    (down : ∀ v, DRel B b v -> DRel B a v) : ∀ (j : Nat) (x : DVal) (y : Value), a.cells1[j]? = some x -> c[o + j]? = some y -> DRel B x y := by
  have hz : ∀ j, j < k -> (c.extract o (o + k))[j]? = c[o + j]? := λ j hj => by rw [Array.getElem?_extract]; simp; omega
  obtain ⟨v, h1, h2⟩ := BSL (B := B) (e := b) (zs := c.extract o (o + k)) (by rw [ok.len]; simp; omega) (λ j x z hx hz' => by
    have hlt := (List.getElem?_eq_some_iff.1 hx).1
    rw [ok.len] at hlt
    rw [hz j hlt] at hz'
    exact h j x z hx hz')
  intro j x y hx hy
  have hlt := (List.getElem?_eq_some_iff.1 hx).1
  rw [(tC hs ok).len] at hlt
  exact h2 a hs (down v h1) j x y hx (by rw [hz j hlt]; exact hy)
mutual
theorem BY : ∀ (x : DVal) (y : DVal) (v : Value), CJ x y -> DRel B y v -> DRel B x v
  | .v x, y, v, h, hv => by cases y <;> simp only [CJ] at h; rw [BWL h]; exact hv
  | .agg xs, y, v, h, hv => by
    cases y <;> simp only [CJ] at h
    cases hv with
    | agg hl hr =>
      exact .agg (by rw [hl, ZJ h]) λ j x z hx hz => by
        obtain ⟨y, hy, hs⟩ := E7 h hx
        exact Mf xs j x y z hx hs (hr j y z hy hz)
  | .tup xs, y, v, h, hv => by
    cases y <;> simp only [CJ] at h
    cases hv with
    | tup hl hr =>
      exact .tup (by rw [hl, ZJ h]) λ j x z hx hz => by
        obtain ⟨y, hy, hs⟩ := E7 h hx
        exact Mf xs j x y z hx hs (hr j y z hy hz)
  | .list k n g e, y, v, h, hv => by
    cases y <;> simp only [CJ] at h
    obtain ⟨hkk, rfl, he, hg⟩ := h
    cases hv with
    | nil h1 h2 => exact .nil (λ h => h1 (he h)) h2
    | list hn hb hcap hex hk hsz hr =>
      rcases hkk with rfl | h0
      case inr => omega
      refine .list hn hb hcap (λ h => hex (he h)) (λ i hi => tC (hg i hi) (hk i hi)) hsz λ i j x y hi hx hy => ?_
      have h1 : (i + 1) * k <= n * k := Nat.mul_le_mul_right k hi
      have h2 : (i + 1) * k = i * k + k := Nat.succ_mul i k
      exact xA (hg i hi) (hk i hi) (by omega) (λ j x y hx hy => hr i j x y hi hx hy) (λ v hv => BY (g i) _ v (hg i hi) hv) j x y hx hy
  | .arr k n g, y, v, h, hv => by
    cases y <;> simp only [CJ] at h
    obtain ⟨rfl, rfl, hg⟩ := h
    cases hv with
    | arr hl hk hr =>
      refine .arr hl (λ i hi => tC (hg i hi) (hk i hi)) λ i j x y hi hx hy => ?_
      have h1 : (i + 1) * k <= n * k := Nat.mul_le_mul_right k hi
      have h2 : (i + 1) * k = i * k + k := Nat.succ_mul i k
      exact xA (hg i hi) (hk i hi) (by omega) (λ j x y hx hy => hr i j x y hi hx hy) (λ v hv => BY (g i) _ v (hg i hi) hv) j x y hx hy
  | .anyB, y, v, h, hv => by
    cases y <;> simp only [CJ] at h
    exact hv
  | .iface a c, y, v, h, hv => by
    cases y <;> simp only [CJ] at h
    obtain ⟨rfl, hs⟩ := h
    cases hv with
    | iface hr => exact .iface (BY _ _ _ hs hr)
  | .eref a c, y, v, h, hv => by
    cases y <;> simp only [CJ] at h
    obtain ⟨rfl, hs⟩ := h
    cases hv with
    | eref hb hsz hr =>
      have hl := ZJ (AEO hs)
      rename_i d b off cs
      refine .eref hb (by omega) λ j x y hx hy => ?_
      have hz : ∀ j, j < d.cells1.length -> (cs.extract off (off + d.cells1.length))[j]? = cs[off + j]? := λ j hj => by rw [Array.getElem?_extract]; simp; omega
      obtain ⟨v, h1, h2⟩ := BSL (B := B) (e := d) (zs := cs.extract off (off + d.cells1.length)) (by simp; omega) (λ j x z hx hz' => by
        have hlt := (List.getElem?_eq_some_iff.1 hx).1
        rw [hz j hlt] at hz'
        exact hr j x z hx hz')
      have hlt := (List.getElem?_eq_some_iff.1 hx).1
      exact h2 a hs (BY a d v hs h1) j x y hx (by rw [hz j (by omega)]; exact hy)
theorem Mf : ∀ (l : List DVal) (j : Nat) (x y : DVal) (v : Value), l[j]? = some x -> CJ x y -> DRel B y v -> DRel B x v
  | [], j, x, y, v, hx, _, _ => by simp at hx
  | a :: l, 0, x, y, v, hx, h, hv => by simp at hx; subst hx; exact BY a y v h hv
  | a :: l, j + 1, x, y, v, hx, h, hv => Mf l j x y v (by simpa using hx) h hv
end
end Go.Sym

namespace Go.Sym
variable {P : Program} {B B' : JW} {ι ι' : Nat -> Pl} {H H' : Heap} {D : Nat -> Prop} {w w' : World}
mutual
def Ip (ρ : Nat -> Nat) (p : Nat -> Bool) : AVal -> AVal -> Prop
  | .any, _ => True
  | .d x, .d y => CJ x y
  | .agg xs, .agg ys => PZ ρ p xs ys
  | .tup xs, .tup ys => PZ ρ p xs ys
  | .bptr i c, .bptr j d => j = ρ i /\ p i = true /\ c = d
  | .rptr i k e c, .rptr j k' e' c' => j = ρ i /\ p i = true /\ k = k' /\ e = e' /\ c = c'
  | .own i k e n, .own j k' e' n' => j = ρ i /\ p i = true /\ k = k' /\ e = e' /\ n = n'
  | .fn f a b, .fn g c d => f = g /\ PZ ρ p a c /\ PZ ρ p b d
  | .mref i, .mref j => j = ρ i /\ p i = true
  | .opt g a, .opt h b => g = h /\ Ip ρ p a b
  | _, _ => False
def PZ (ρ : Nat -> Nat) (p : Nat -> Bool) : List AVal -> List AVal -> Prop
  | [], [] => True
  | x :: xs, y :: ys => Ip ρ p x y /\ PZ ρ p xs ys
  | _, _ => False
end
theorem OL {ρ : Nat -> Nat} {p : Nat -> Bool} : ∀ {xs ys : List AVal}, PZ ρ p xs ys -> xs.length = ys.length
  | [], [], _ => rfl
  | x :: xs, y :: ys, h => by simp only [PZ] at h; simp [OL h.2]
  | [], _ :: _, h => by simp [PZ] at h
  | _ :: _, [], h => by simp [PZ] at h
theorem MR {ρ : Nat -> Nat} {p : Nat -> Bool} : ∀ {xs ys : List AVal}, PZ ρ p xs ys -> ∀ {j : Nat} {x : AVal}, xs[j]? = some x -> ∃ y, ys[j]? = some y /\ Ip ρ p x y
  | [], [], _, j, x, hx => by simp at hx
  | a :: xs, b :: ys, h, 0, x, hx => by simp only [PZ] at h; simp at hx; subst hx; exact ⟨b, rfl, h.1⟩
  | a :: xs, b :: ys, h, j + 1, x, hx => by
    simp only [PZ] at h
    obtain ⟨y, hy, hs⟩ := MR h.2 (j := j) (by simpa using hx)
    exact ⟨y, by simpa using hy, hs⟩
  | [], _ :: _, h, _, _, _ => by simp [PZ] at h
  | _ :: _, [], h, _, _, _ => by simp [PZ] at h
mutual
theorem Cz {ρ : Nat -> Nat} {p : Nat -> Bool} {D' : Nat -> Prop} (hp : ∀ i, p i = true -> D' i) : ∀ (x y : AVal) (v : Value), Ip ρ p x y -> VRel B ι D y v -> VRel B (λ i => ι (ρ i)) D' x v
  | .any, _, _, _, _ => .any
  | .d x, y, v, h, hv => by cases y <;> simp only [Ip] at h; exact .d (BY _ _ _ h hv.d_inv)
  | .agg xs, y, v, h, hv => by
    cases y <;> simp only [Ip] at h
    cases hv with
    | agg hl hr =>
      exact .agg (by rw [hl, OL h]) λ j x z hx hz => by
        obtain ⟨y, hy, hs⟩ := MR h hx
        exact KF hp xs j x y z hx hs (hr j y z hy hz)
  | .tup xs, y, v, h, hv => by
    cases y <;> simp only [Ip] at h
    cases hv with
    | tup hl hr =>
      exact .tup (by rw [hl, OL h]) λ j x z hx hz => by
        obtain ⟨y, hy, hs⟩ := MR h hx
        exact KF hp xs j x y z hx hs (hr j y z hy hz)
  | .bptr i c, y, v, h, hv => by
    cases y <;> simp only [Ip] at h
    obtain ⟨rfl, h2, rfl⟩ := h
    cases hv; exact VRel.bptr (ι := λ i => ι (ρ i)) (hp _ h2)
  | .rptr i k e c, y, v, h, hv => by
    cases y <;> simp only [Ip] at h
    obtain ⟨rfl, h2, rfl, rfl, rfl⟩ := h
    cases hv; exact VRel.rptr (ι := λ i => ι (ρ i)) (hp _ h2)
  | .own i k e n, y, v, h, hv => by
    cases y <;> simp only [Ip] at h
    obtain ⟨rfl, h2, rfl, rfl, rfl⟩ := h
    cases hv with
    | own _ h3 h4 => exact VRel.own (ι := λ i => ι (ρ i)) (hp _ h2) h3 h4
  | .fn f a b, y, v, h, hv => by
    cases y <;> simp only [Ip] at h
    obtain ⟨rfl, h1, h2⟩ := h
    cases hv with
    | fn h3 h4 h5 h6 =>
      exact .fn (by rw [h3, OL h1]) (by rw [h4, OL h2])
        (λ j x z hx hz => by
          obtain ⟨y, hy, hs⟩ := MR h1 hx
          exact KF hp a j x y z hx hs (h5 j y z hy hz))
        λ j x z hx hz => by
          obtain ⟨y, hy, hs⟩ := MR h2 hx
          exact KF hp b j x y z hx hs (h6 j y z hy hz)
  | .mref i, y, v, h, hv => by
    cases y <;> simp only [Ip] at h
    obtain ⟨rfl, h2⟩ := h
    cases hv; exact VRel.mref (ι := λ i => ι (ρ i)) (hp _ h2)
  | .opt g a, y, v, h, hv => by
    cases y <;> simp only [Ip] at h
    obtain ⟨rfl, h2⟩ := h
    cases hv with
    | opt h3 h4 => exact .opt (λ hg => Cz hp a _ v h2 (h3 hg)) h4
theorem KF {ρ : Nat -> Nat} {p : Nat -> Bool} {D' : Nat -> Prop} (hp : ∀ i, p i = true -> D' i) : ∀ (l : List AVal) (j : Nat) (x y : AVal) (v : Value), l[j]? = some x -> Ip ρ p x y -> VRel B ι D y v -> VRel B (λ i => ι (ρ i)) D' x v
  | [], j, x, y, v, hx, _, _ => by simp at hx
  | a :: l, 0, x, y, v, hx, h, hv => by simp at hx; subst hx; exact Cz hp a y v h hv
  | a :: l, j + 1, x, y, v, hx, h, hv => KF hp l j x y v (by simpa using hx) h hv
end
def osub (ρ : Nat -> Nat) (p : Nat -> Bool) : AObj -> AObj -> Prop
  | .row k n g, .row k' n' g' => k = k' /\ n = n' /\ ∀ i, i < n -> CJ (g i) (g' i)
  | .box es, .box es' => PZ ρ p es es'
  | .imap q z h g s p, .imap q' z' h' g' s' p' => q = q' /\ z = z' /\ p = p' /\ (∀ n, h n = h' n) /\ (∀ n, s n = s' n) /\ ∀ n, CJ (g n) (g' n)
  | _, _ => False
theorem iE {ρ : Nat -> Nat} {p : Nat -> Bool} {D' : Nat -> Prop} (hp : ∀ i, p i = true -> D' i) {q : Nat} {a b : AObj} {x : Option Obj} (h : osub ρ p a b) (hb : ORel B ι D q b x) : ORel B (λ i => ι (ρ i)) D' q a x := by
  cases a with
  | row k n g =>
    cases b <;> simp only [osub] at h
    obtain ⟨rfl, rfl, hg⟩ := h
    cases hb with
    | row hk hn hsz hr =>
      refine .row (λ i hi => tC (hg i hi) (hk i hi)) hn hsz λ i j x y hi hx hy => ?_
      have h1 : (i + 1) * k <= n * k := Nat.mul_le_mul_right k hi
      have h2 : (i + 1) * k = i * k + k := Nat.succ_mul i k
      have h3 : n * k <= q * k := Nat.mul_le_mul_right k hn
      exact xA (hg i hi) (hk i hi) (by omega) (λ j x y hx hy => hr i j x y hi hx hy) (λ v hv => BY (g i) _ v (hg i hi) hv) j x y hx hy
  | box es =>
    cases b <;> simp only [osub] at h
    cases hb with
    | box hsz hr =>
      exact .box (by rw [hsz, OL h]) λ j x z hx hz => by
        obtain ⟨y, hy, hs⟩ := MR h hx
        exact KF hp es j x y z hx hs (hr j y z hy hz)
  | imap kd z has get st pend =>
    cases b <;> simp only [osub] at h
    obtain ⟨rfl, rfl, rfl, hh, hs, hg⟩ := h
    cases hb with
    | imap hm =>
      refine .imap ⟨λ i e he => ?_, λ n hn => ?_, λ n hn => hm.met n (by rw [<- hh n]; exact hn), hm.once⟩
      · obtain ⟨n, h1, h2, h3, h4, h5⟩ := hm.keys i e he
        exact ⟨n, h1, by rw [hh n]; exact h2, h3, by rw [hs n]; exact h4, BY _ _ _ (hg n) h5⟩
      · obtain ⟨h1, h2⟩ := hm.miss n (by rw [<- hh n]; exact hn)
        exact ⟨BY _ _ _ (hg n) h1, by rw [hs n]; exact h2⟩
def DT : List (Nat × AVal) -> Nat -> AVal
  | [], _ => .any
  | (j, v) :: r, t => if t = j then v else DT r t
def VI (l : List (Nat × HCell)) : Heap := λ i => (IA l i).getD .none
structure ST where
  sl : List (Nat × AVal)
  H : List (Nat × HCell)
def ST.st (s : ST) : AState := ⟨DT s.sl, VI s.H⟩
def BYK (ρ : Nat -> Nat) (p : Nat -> Bool) (sl : Nat -> AVal) : List (Nat × AVal) -> Prop
  | [] => True
  | (t, v) :: r => Ip ρ p v (sl t) /\ BYK ρ p sl r
def cSub (ρ : Nat -> Nat) (p : Nat -> Bool) : HCell -> HCell -> Prop
  | .live o, .live o' => osub ρ p o o'
  | .dead, .live _ => True
  | .dead, .dead => True
  | _, _ => False
def hSub (ρ : Nat -> Nat) (p : Nat -> Bool) (H : Heap) : List (Nat × HCell) -> Prop
  | [] => True
  | (i, c) :: r => cSub ρ p c (H (ρ i)) /\ hSub ρ p H r
def DQ (l : List (Nat × Nat)) (i : Nat) : Nat := match l with
  | [] => i
  | (a, b) :: r => if i = a then b else DQ r i
def CHS (E : List Nat) (l : List (Nat × Nat)) (s : ST) (σ : AState) : Prop :=
  BYK (DQ l) (λ i => (IA s.H i).isSome) σ.sl s.sl /\ hSub (DQ l) (λ i => (IA s.H i).isSome) σ.H s.H /\
    (nodup (s.H.map λ x => DQ l x.1) && E.all λ i => DQ l i == i && (IA s.H i).isSome) = true
theorem BBN {ρ : Nat -> Nat} {p : Nat -> Bool} {sl : Nat -> AVal} : ∀ {l : List (Nat × AVal)}, BYK ρ p sl l -> ∀ t, Ip ρ p (DT l t) (sl t)
  | [], _, t => by simp [DT, Ip]
  | (j, v) :: r, h, t => by
    simp only [DT]
    split
    · rename_i e; subst e; exact h.1
    · exact BBN h.2 t
theorem ATR {ρ : Nat -> Nat} {p : Nat -> Bool} {H : Heap} : ∀ {l : List (Nat × HCell)}, hSub ρ p H l -> ∀ {i : Nat} {c : HCell}, (i, c) ∈ l -> cSub ρ p c (H (ρ i))
  | [], _, i, c, h => by cases h
  | (j, d) :: r, h, i, c, hm => by
    rcases List.mem_cons.1 hm with hm | hm
    · cases hm; exact h.1
    · exact ATR h.2 hm
theorem Rel.sub {c : Ctx} {E : List Nat} {l : List (Nat × Nat)} {s : ST} {σ : AState} {a : Act} (hE : ∀ i, c.H0.dom i -> i ∈ E) (h : CHS E l s σ) (hR : Rel c B ι σ a w) : Rel c B (λ i => ι (DQ l i)) s.st a w := by
  obtain ⟨h1, h2, h3⟩ := h
  simp only [Bool.and_eq_true, List.all_eq_true, beq_iff_eq] at h3
  obtain ⟨h3, h4⟩ := h3
  have hnd := FK h3
  have hdom : ∀ i, (λ i => (IA s.H i).isSome) i = true -> (ST.st s).H.dom i := λ i hi => by
    obtain ⟨d, hd⟩ := Option.isSome_iff_exists.1 hi
    have := ATR h2 (GW hd)
    unfold Heap.dom
    show (IA s.H i).getD .none ≠ .none
    rw [hd]
    intro he
    simp at he; subst he
    simp [cSub] at this
  have live : ∀ i o, (ST.st s).H i = .live o -> (i, .live o) ∈ s.H /\ ∃ o', σ.H (DQ l i) = .live o' /\ osub (DQ l) (λ i => (IA s.H i).isSome) o o' := λ i o hi => by
    have hg : IA s.H i = some (.live o) := by
      have : (IA s.H i).getD .none = .live o := hi
      cases hq : IA s.H i with
      | none => rw [hq] at this; cases this
      | some d => rw [hq] at this; simpa using this
    have hm := GW hg
    have := ATR h2 hm
    refine ⟨hm, ?_⟩
    cases hq : σ.H (DQ l i) with
    | live o' => rw [hq] at this; exact ⟨o', rfl, this⟩
    | none => rw [hq] at this; simp [cSub] at this
    | dead => rw [hq] at this; simp [cSub] at this
  refine ⟨λ t => Cz hdom _ _ _ (BBN h1 t) (hR.slots t), hR.size, ?_, ?_⟩
  · obtain ⟨Ds, d1, d0, d2, d3⟩ := hR.defers
    refine ⟨Ds, d1, d0, d2, λ D hD => ⟨(d3 D hD).1, (d3 D hD).2.here, λ i o hi => ?_⟩⟩
    obtain ⟨_, o', ho, _⟩ := live i o hi
    exact (d3 D hD).2.sep _ _ ho
  have hm := hR.mv
  refine ⟨hm.bm, hm.bn, λ i hi => ?_, ⟨λ i o hi => ?_, λ i j o o' hi hj hij => ?_, λ i o hi => ?_, hm.heap.imm⟩, λ i o hi => ?_, hm.frame, hm.size, hm.calm⟩
  · obtain ⟨h5, h6⟩ := h4 i (hE i hi)
    exact ⟨hdom i h6, by rw [h5]; exact (hm.im i hi).2⟩
  · obtain ⟨_, o', ho, hs⟩ := live i o hi
    exact iE hdom hs (hm.heap.obj _ _ ho)
  · obtain ⟨m1, o1, ho1, _⟩ := live i o hi
    obtain ⟨m2, o2, ho2, _⟩ := live j o' hj
    exact (fY hnd m1 m2 (hm.heap.inj _ _ _ _ ho1 ho2 hij)).1
  · obtain ⟨_, o', ho, _⟩ := live i o hi
    exact hm.heap.sep _ _ ho
  · obtain ⟨_, o', ho, _⟩ := live i o hi
    exact hm.own _ _ ho
theorem CodeE.sub {c : Ctx} {E : List Nat} {l : List (Nat × Nat)} {s : ST} {σ : AState} {code : Code} {Q : Exit -> AState -> Prop} (hE : ∀ i, c.H0.dom i -> i ∈ E) (hs : CHS E l s σ) (h : CodeE P c code Q s.st) : CodeE P c code Q σ :=
  λ _ _ a w hR => h _ _ a w (hR.sub hE hs)
end Go.Sym

namespace Go.Sym
variable {P : Program} {B B' : JW} {ι ι' : Nat -> Pl} {H H' : Heap} {D : Nat -> Prop} {w w' : World}
theorem CV {a b : Nat} : (Nat.beq a b = true) = (a = b) := propext ⟨Nat.eq_of_beq_eq_true, λ h => by subst h; exact Nat.beq_refl a⟩
def BV : Option (List Prop) -> Prop
  | some l => BN l
  | none => False
def Hs : Option (List Prop) -> Option (List Prop) -> Option (List Prop)
  | some l, some m => some (l ++ m)
  | _, _ => none
def BWH : Value -> Value -> Option (List Prop)
  | .int k a, .int k' b => if k = k' then some [a = b] else none
  | .bool a, .bool b => some [a = b]
  | .string a, .string b => some [a = b]
  | x, y => some [x = y]
theorem CL {a b : Option (List Prop)} (h : BV (Hs a b)) : BV a /\ BV b := by
  cases a with
  | none => exact h.elim
  | some l => cases b with
    | none => exact h.elim
    | some m => exact AW h
theorem BUN (x : Value) : vEq x x := by
  unfold vEq; split <;> simp_all
theorem BNJ {x y : Value} (h : BV (BWH x y)) : vEq x y := by
  unfold BWH at h
  split at h
  · split at h
    · rename_i hk; exact ⟨hk, h⟩
    · exact h.elim
  · exact h
  · exact h
  · have h : x = y := h
    subst h
    exact BUN x
mutual
def LF : DVal -> DVal -> Option (List Prop)
  | .v x, .v y => BWH x y
  | .agg xs, .agg ys => Q7 xs ys
  | .tup xs, .tup ys => Q7 xs ys
  | .list k n g e, .list k' n' g' e' => if Nat.beq k k' && (!e || e') then some [n = n', ∀ i, i < n -> BV (LF (g i) (g' i))] else if (Nat.beq k' 0 || Nat.beq k 0) && (!e || e') then some [n = n', n = 0] else none
  | .arr k n g, .arr k' n' g' => if Nat.beq k k' then some [n = n', ∀ i, i < n -> BV (LF (g i) (g' i))] else none
  | .eref x c, .eref y d => if Nat.beq c d then LF x y else none
  | .iface t x, .iface u y => if Nat.beq t u then LF x y else none
  | .anyB, .anyB => some []
  | _, _ => none
def Q7 : List DVal -> List DVal -> Option (List Prop)
  | [], [] => some []
  | x :: xs, y :: ys => Hs (LF x y) (Q7 xs ys)
  | _, _ => none
end
mutual
theorem CQ : ∀ (x y : DVal), BV (LF x y) -> CJ x y
  | .v x, y, h => by cases y <;> simp only [LF] at h <;> first | exact (by simp only [CJ]; exact BNJ h) | exact h.elim
  | .agg xs, y, h => by cases y <;> simp only [LF] at h <;> first | exact (by simp only [CJ]; exact Iu _ _ h) | exact h.elim
  | .tup xs, y, h => by cases y <;> simp only [LF] at h <;> first | exact (by simp only [CJ]; exact Iu _ _ h) | exact h.elim
  | .list k n g e, y, h => by
    cases y <;> simp only [LF] at h <;> try exact h.elim
    split at h
    · rename_i hc
      simp only [Bool.and_eq_true, CV, Bool.or_eq_true, Bool.not_eq_true'] at hc
      obtain ⟨h1, h2⟩ := EC.1 h
      simp only [CJ]
      refine ⟨.inl hc.1, h1, λ he => ?_, λ i hi => CQ _ _ (h2 i hi)⟩
      rcases hc.2 with h | h
      · rw [he] at h; cases h
      · exact h
    · split at h
      · rename_i hc
        simp only [Bool.and_eq_true, CV, Bool.or_eq_true, Bool.not_eq_true'] at hc
        obtain ⟨h1, h2⟩ := EC.1 h
        have h2 : n = 0 := h2
        simp only [CJ]
        refine ⟨.inr h2, h1, λ he => ?_, λ i hi => by omega⟩
        rcases hc.2 with h | h
        · rw [he] at h; cases h
        · exact h
      · exact h.elim
  | .arr k n g, y, h => by
    cases y <;> simp only [LF] at h <;> try exact h.elim
    split at h
    · rename_i hc
      obtain ⟨h1, h2⟩ := EC.1 h
      simp only [CJ]
      exact ⟨Nat.eq_of_beq_eq_true hc, h1, λ i hi => CQ _ _ (h2 i hi)⟩
    · exact h.elim
  | .anyB, y, h => by
    cases y <;> simp only [LF] at h <;> try exact h.elim
    simp only [CJ]
  | .iface x c, y, h => by
    cases y <;> simp only [LF] at h <;> try exact h.elim
    split at h
    · rename_i hc
      simp only [CJ]
      exact ⟨Nat.eq_of_beq_eq_true hc, CQ _ _ h⟩
    · exact h.elim
  | .eref x c, y, h => by
    cases y <;> simp only [LF] at h <;> try exact h.elim
    split at h
    · rename_i hc
      simp only [CJ]
      exact ⟨Nat.eq_of_beq_eq_true hc, CQ _ _ h⟩
    · exact h.elim
theorem Iu : ∀ (x y : List DVal), BV (Q7 x y) -> KD x y
  | [], y, h => by cases y <;> simp only [Q7] at h <;> first | trivial | exact h.elim
  | x :: xs, y, h => by
    cases y <;> simp only [Q7] at h
    · exact h.elim
    · obtain ⟨h1, h2⟩ := CL h
      simp only [KD]
      exact ⟨CQ _ _ h1, Iu _ _ h2⟩
end
abbrev To := Nat -> Option (Nat × Nat × (Nat -> DVal))
structure FrzRow (B' : JW) (ι : Nat -> Pl) (id k m : Nat) (get : Nat -> DVal) (c : Array Value) : Prop where
  at' : B' (ι id).b = some c
  len : m <= (ι id).cap
  size : (ι id).cap * k <= c.size
  ok : ∀ i, i < m -> EOk k (get i)
  rel : ∀ (i j : Nat) (x : DVal) (y : Value), i < m -> (get i).cells1[j]? = some x -> c[i * k + j]? = some y -> DRel B' x y
def Ih (B B' : JW) (ι : Nat -> Pl) (F : To) : Prop :=
  (∀ b c, B b = some c -> B' b = some c) /\ ∀ id k m get, F id = some (k, m, get) -> ∃ c, FrzRow B' ι id k m get c
mutual
def OB (F : To) : DVal -> AVal -> Option (List Prop)
  | x, .d y => LF x y
  | .list k n g e, .own id k' i n' => match F id with
    | some (k2, m, get) => if Nat.beq k k' && Nat.beq k k2 && !e then some [n = n', i + n' <= m, ∀ j, j < n -> BV (LF (g j) (get (i + j)))] else none
    | none => none
  | .agg xs, .agg ys => JB F xs ys
  | .tup xs, .tup ys => JB F xs ys
  | _, _ => none
def JB (F : To) : List DVal -> List AVal -> Option (List Prop)
  | [], [] => some []
  | x :: xs, y :: ys => Hs (OB F x y) (JB F xs ys)
  | _, _ => none
end
theorem Kl {F : To} : ∀ {xs : List DVal} {ys : List AVal}, BV (JB F xs ys) -> xs.length = ys.length
  | [], [], _ => rfl
  | x :: xs, y :: ys, h => by simp only [JB] at h; simp [Kl (CL h).2]
  | [], _ :: _, h => by simp only [JB] at h; exact h.elim
  | _ :: _, [], h => by simp only [JB] at h; exact h.elim
theorem Jn {F : To} : ∀ {xs : List DVal} {ys : List AVal}, BV (JB F xs ys) -> ∀ {j : Nat} {x : DVal}, xs[j]? = some x -> ∃ y, ys[j]? = some y /\ BV (OB F x y)
  | [], [], _, j, x, hx => by simp at hx
  | a :: xs, b :: ys, h, 0, x, hx => by simp only [JB] at h; simp at hx; subst hx; exact ⟨b, rfl, (CL h).1⟩
  | a :: xs, b :: ys, h, j + 1, x, hx => by
    simp only [JB] at h
    obtain ⟨y, hy, hs⟩ := Jn (CL h).2 (j := j) (by simpa using hx)
    exact ⟨y, by simpa using hy, hs⟩
  | [], _ :: _, h, _, _, _ => by simp only [JB] at h; exact h.elim
  | _ :: _, [], h, _, _, _ => by simp only [JB] at h; exact h.elim
theorem ASW {F : To} (hF : Ih B B' ι F) {k n : Nat} {g : Nat -> DVal} {id i n' m : Nat} {get : Nat -> DVal} {v : Value} (hf : F id = some (k, m, get)) (hn : n = n') (hm : i + n' <= m) (hg : ∀ j, j < n -> CJ (g j) (get (i + j))) (hv : VRel B ι D (.own id k i n') v) : DRel B' (.list k n g false) v := by
  obtain ⟨c, hc⟩ := hF.2 id k m get hf
  subst hn
  cases hv with
  | own hD hcap hq =>
    rcases Nat.eq_zero_or_pos n with rfl | hp
    · exact .nil (λ h => by cases h) (.inr (by simp))
    · have hsz : ∀ j, j < n -> (i + j + 1) * k <= c.size := λ j hj => by
        have h1 : (i + j + 1) * k <= (ι id).cap * k := Nat.mul_le_mul_right k (by have := hc.len; omega)
        have := hc.size
        omega
      refine .list hp hc.at' hcap (λ h => by cases h) (λ j hj => tC (hg j hj) (hc.ok _ (by omega))) ?_ λ j l x y hj hx hy => ?_
      · have h1 : (i + n) * k <= (ι id).cap * k := Nat.mul_le_mul_right k (by have := hc.len; omega)
        have h2 : (i + n) * k = i * k + n * k := Nat.add_mul i n k
        have := hc.size
        omega
      · have e1 : (i + j) * k = i * k + j * k := Nat.add_mul i j k
        have e2 : (i + j + 1) * k = (i + j) * k + k := Nat.succ_mul _ k
        refine (xA (o := (i + j) * k) (hg j hj) (hc.ok _ (by omega)) (by have := hsz j hj; omega) (λ l x y hx hy => hc.rel (i + j) l x y (by omega) hx hy) (λ v hv => BY _ _ v (hg j hj) hv) l x y hx (by rw [e1]; exact hy))
mutual
theorem uT {F : To} (hF : Ih B B' ι F) : ∀ (x : DVal) (y : AVal) (v : Value), BV (OB F x y) -> VRel B ι D y v -> DRel B' x v
  | .v x, y, v, h, hv => by
    cases y <;> simp only [OB] at h <;> try exact h.elim
    exact (BY _ _ v (CQ _ _ h) hv.d_inv).mono hF.1
  | .anyB, y, v, h, hv => by
    cases y <;> simp only [OB] at h <;> try exact h.elim
    exact (BY _ _ v (CQ _ _ h) hv.d_inv).mono hF.1
  | .iface x c, y, v, h, hv => by
    cases y <;> simp only [OB] at h <;> try exact h.elim
    exact (BY _ _ v (CQ _ _ h) hv.d_inv).mono hF.1
  | .eref x c, y, v, h, hv => by
    cases y <;> simp only [OB] at h <;> try exact h.elim
    exact (BY _ _ v (CQ _ _ h) hv.d_inv).mono hF.1
  | .arr k n g, y, v, h, hv => by
    cases y <;> simp only [OB] at h <;> try exact h.elim
    exact (BY _ _ v (CQ _ _ h) hv.d_inv).mono hF.1
  | .list k n g e, y, v, h, hv => by
    cases y <;> simp only [OB] at h <;> try exact h.elim
    · exact (BY _ _ v (CQ _ _ h) hv.d_inv).mono hF.1
    · split at h
      · rename_i k2 m get hf
        split at h
        · rename_i hc
          simp only [Bool.and_eq_true, CV, Bool.not_eq_true'] at hc
          obtain ⟨⟨rfl, rfl⟩, rfl⟩ := hc
          obtain ⟨h1, h2⟩ := EC.1 h
          obtain ⟨h2, h3⟩ := EC.1 h2
          exact ASW hF hf h1 h2 (λ j hj => CQ _ _ (h3 j hj)) hv
        · exact h.elim
      · exact h.elim
  | .agg xs, y, v, h, hv => by
    cases y <;> simp only [OB] at h <;> try exact h.elim
    · exact (BY _ _ v (CQ _ _ h) hv.d_inv).mono hF.1
    · cases hv with
      | agg hl hr =>
        exact .agg (by rw [hl, Kl h]) λ j x z hx hz => by
          obtain ⟨y, hy, hs⟩ := Jn h hx
          exact VX hF xs j x y z hx hs (hr j y z hy hz)
  | .tup xs, y, v, h, hv => by
    cases y <;> simp only [OB] at h <;> try exact h.elim
    · exact (BY _ _ v (CQ _ _ h) hv.d_inv).mono hF.1
    · cases hv with
      | tup hl hr =>
        exact .tup (by rw [hl, Kl h]) λ j x z hx hz => by
          obtain ⟨y, hy, hs⟩ := Jn h hx
          exact VX hF xs j x y z hx hs (hr j y z hy hz)
theorem VX {F : To} (hF : Ih B B' ι F) : ∀ (l : List DVal) (j : Nat) (x : DVal) (y : AVal) (v : Value), l[j]? = some x -> BV (OB F x y) -> VRel B ι D y v -> DRel B' x v
  | [], j, x, y, v, hx, _, _ => by simp at hx
  | a :: l, 0, x, y, v, hx, h, hv => by simp at hx; subst hx; exact uT hF a y v h hv
  | a :: l, j + 1, x, y, v, hx, h, hv => VX hF l j x y v (by simpa using hx) h hv
end
def CAQ : Fn -> Fn -> Option (List Prop)
  | .func a, .func b => if Nat.beq a b then some [] else none
  | f, g => some [f = g]
theorem BNR {f g : Fn} (h : BV (CAQ f g)) : f = g := by
  unfold CAQ at h
  split at h
  · split at h
    · rename_i hb; rw [Nat.eq_of_beq_eq_true hb]
    · exact h.elim
  · exact h
mutual
def KS (F : To) (ρ : Nat -> Nat) (p : Nat -> Bool) : AVal -> AVal -> Option (List Prop)
  | .any, _ => some []
  | .d x, y => OB F x y
  | .agg xs, .agg ys => ES F ρ p xs ys
  | .agg xs, .d (.agg ys) => ES F ρ p xs (ys.map .d)
  | .tup xs, .tup ys => ES F ρ p xs ys
  | .tup xs, .d (.tup ys) => ES F ρ p xs (ys.map .d)
  | .bptr i c, .bptr j d => if Nat.beq j (ρ i) && p i && Nat.beq c d then some [] else none
  | .rptr i k e c, .rptr j k' e' c' => if Nat.beq j (ρ i) && p i && Nat.beq k k' && Nat.beq c c' then some [e = e'] else none
  | .own i k e n, .own j k' e' n' => if Nat.beq j (ρ i) && p i && Nat.beq k k' then some [e = e', n = n'] else none
  | .fn f a b, .fn g c d => Hs (CAQ f g) (Hs (ES F ρ p a c) (ES F ρ p b d))
  | .mref i, .mref j => if Nat.beq j (ρ i) && p i then some [] else none
  | .opt g a, .opt h b => Hs (some [g = h]) (KS F ρ p a b)
  | _, _ => none
def ES (F : To) (ρ : Nat -> Nat) (p : Nat -> Bool) : List AVal -> List AVal -> Option (List Prop)
  | [], [] => some []
  | x :: xs, y :: ys => Hs (KS F ρ p x y) (ES F ρ p xs ys)
  | _, _ => none
end
theorem HN {F : To} {ρ : Nat -> Nat} {p : Nat -> Bool} : ∀ {xs ys : List AVal}, BV (ES F ρ p xs ys) -> xs.length = ys.length
  | [], [], _ => rfl
  | x :: xs, y :: ys, h => by simp only [ES] at h; simp [HN (CL h).2]
  | [], _ :: _, h => by simp only [ES] at h; exact h.elim
  | _ :: _, [], h => by simp only [ES] at h; exact h.elim
theorem HM {F : To} {ρ : Nat -> Nat} {p : Nat -> Bool} : ∀ {xs ys : List AVal}, BV (ES F ρ p xs ys) -> ∀ {j : Nat} {x : AVal}, xs[j]? = some x -> ∃ y, ys[j]? = some y /\ BV (KS F ρ p x y)
  | [], [], _, j, x, hx => by simp at hx
  | a :: xs, b :: ys, h, 0, x, hx => by simp only [ES] at h; simp at hx; subst hx; exact ⟨b, rfl, (CL h).1⟩
  | a :: xs, b :: ys, h, j + 1, x, hx => by
    simp only [ES] at h
    obtain ⟨y, hy, hs⟩ := HM (CL h).2 (j := j) (by simpa using hx)
    exact ⟨y, by simpa using hy, hs⟩
  | [], _ :: _, h, _, _, _ => by simp only [ES] at h; exact h.elim
  | _ :: _, [], h, _, _, _ => by simp only [ES] at h; exact h.elim
theorem CFV {ys : List DVal} {v : Value} (h : DRel B (.agg ys) v) : VRel B ι D (.agg (ys.map .d)) v := by
  cases h with
  | agg hl hr =>
    refine .agg (by simp [hl]) λ j x z hx hz => ?_
    rw [List.getElem?_map] at hx
    obtain ⟨x', h1, rfl⟩ := Option.map_eq_some_iff.1 hx
    exact .d (hr j x' z h1 hz)
theorem CGA {ys : List DVal} {v : Value} (h : DRel B (.tup ys) v) : VRel B ι D (.tup (ys.map .d)) v := by
  cases h with
  | tup hl hr =>
    refine .tup (by simp [hl]) λ j x z hx hz => ?_
    rw [List.getElem?_map] at hx
    obtain ⟨x', h1, rfl⟩ := Option.map_eq_some_iff.1 hx
    exact .d (hr j x' z h1 hz)
mutual
theorem OX {F : To} (hF : Ih B B' ι F) {ρ : Nat -> Nat} {p : Nat -> Bool} {D' : Nat -> Prop} (hp : ∀ i, p i = true -> D' i) : ∀ (x y : AVal) (v : Value), BV (KS F ρ p x y) -> VRel B ι D y v -> VRel B' (λ i => ι (ρ i)) D' x v
  | .any, _, _, _, _ => .any
  | .d x, y, v, h, hv => .d (uT hF x y v (by simpa only [KS] using h) hv)
  | .agg xs, y, v, h, hv => by
    have fin : ∀ ys : List AVal, BV (ES F ρ p xs ys) -> VRel B ι D (.agg ys) v -> VRel B' (λ i => ι (ρ i)) D' (.agg xs) v := λ ys h hv => by
      cases hv with
      | agg hl hr =>
        exact .agg (by rw [hl, HN h]) λ j x z hx hz => by
          obtain ⟨y, hy, hs⟩ := HM h hx
          exact ID hF hp xs j x y z hx hs (hr j y z hy hz)
    cases y <;> (try simp only [KS] at h) <;> try exact h.elim
    · rename_i x
      cases x <;> (try simp only [KS] at h) <;> try exact h.elim
      exact fin _ h (CFV hv.d_inv)
    · exact fin _ h hv
  | .tup xs, y, v, h, hv => by
    have fin : ∀ ys : List AVal, BV (ES F ρ p xs ys) -> VRel B ι D (.tup ys) v -> VRel B' (λ i => ι (ρ i)) D' (.tup xs) v := λ ys h hv => by
      cases hv with
      | tup hl hr =>
        exact .tup (by rw [hl, HN h]) λ j x z hx hz => by
          obtain ⟨y, hy, hs⟩ := HM h hx
          exact ID hF hp xs j x y z hx hs (hr j y z hy hz)
    cases y <;> (try simp only [KS] at h) <;> try exact h.elim
    · rename_i x
      cases x <;> (try simp only [KS] at h) <;> try exact h.elim
      exact fin _ h (CGA hv.d_inv)
    · exact fin _ h hv
  | .bptr i c, y, v, h, hv => by
    cases y <;> simp only [KS] at h <;> try exact h.elim
    split at h
    · rename_i hc
      simp only [Bool.and_eq_true, CV] at hc
      obtain ⟨⟨rfl, h2⟩, rfl⟩ := hc
      cases hv; exact VRel.bptr (ι := λ i => ι (ρ i)) (hp _ h2)
    · exact h.elim
  | .rptr i k e c, y, v, h, hv => by
    cases y <;> simp only [KS] at h <;> try exact h.elim
    split at h
    · rename_i hc
      simp only [Bool.and_eq_true, CV] at hc
      obtain ⟨⟨⟨rfl, h2⟩, rfl⟩, rfl⟩ := hc
      have h : e = _ := h
      subst h
      cases hv; exact VRel.rptr (ι := λ i => ι (ρ i)) (hp _ h2)
    · exact h.elim
  | .own i k e n, y, v, h, hv => by
    cases y <;> simp only [KS] at h <;> try exact h.elim
    split at h
    · rename_i hc
      simp only [Bool.and_eq_true, CV] at hc
      obtain ⟨⟨rfl, h2⟩, rfl⟩ := hc
      obtain ⟨h3, h4⟩ := EC.1 h
      have h4 : n = _ := h4
      subst h3; subst h4
      cases hv with
      | own _ h3 h4 => exact VRel.own (ι := λ i => ι (ρ i)) (hp _ h2) h3 h4
    · exact h.elim
  | .fn f a b, y, v, h, hv => by
    cases y <;> simp only [KS] at h <;> try exact h.elim
    obtain ⟨h1, h2⟩ := CL h
    obtain ⟨h2, h3⟩ := CL h2
    have h1 := BNR h1
    subst h1
    cases hv with
    | fn h4 h5 h6 h7 =>
      exact .fn (by rw [h4, HN h2]) (by rw [h5, HN h3])
        (λ j x z hx hz => by
          obtain ⟨y, hy, hs⟩ := HM h2 hx
          exact ID hF hp a j x y z hx hs (h6 j y z hy hz))
        λ j x z hx hz => by
          obtain ⟨y, hy, hs⟩ := HM h3 hx
          exact ID hF hp b j x y z hx hs (h7 j y z hy hz)
  | .mref i, y, v, h, hv => by
    cases y <;> simp only [KS] at h <;> try exact h.elim
    split at h
    · rename_i hc
      simp only [Bool.and_eq_true, CV] at hc
      obtain ⟨rfl, h2⟩ := hc
      cases hv; exact VRel.mref (ι := λ i => ι (ρ i)) (hp _ h2)
    · exact h.elim
  | .opt g a, y, v, h, hv => by
    cases y <;> simp only [KS] at h <;> try exact h.elim
    obtain ⟨h1, h2⟩ := CL h
    have h1 : g = _ := h1
    subst h1
    cases hv with
    | opt h3 h4 => exact .opt (λ hg => OX hF hp a _ v h2 (h3 hg)) h4
theorem ID {F : To} (hF : Ih B B' ι F) {ρ : Nat -> Nat} {p : Nat -> Bool} {D' : Nat -> Prop} (hp : ∀ i, p i = true -> D' i) : ∀ (l : List AVal) (j : Nat) (x y : AVal) (v : Value), l[j]? = some x -> BV (KS F ρ p x y) -> VRel B ι D y v -> VRel B' (λ i => ι (ρ i)) D' x v
  | [], j, x, y, v, hx, _, _ => by simp at hx
  | a :: l, 0, x, y, v, hx, h, hv => by simp at hx; subst hx; exact OX hF hp a y v h hv
  | a :: l, j + 1, x, y, v, hx, h, hv => ID hF hp l j x y v (by simpa using hx) h hv
end
def ZZ (F : To) (ρ : Nat -> Nat) (p : Nat -> Bool) : AObj -> AObj -> Option (List Prop)
  | .row k n g, .row k' n' g' => if Nat.beq k k' then some [n = n', ∀ i, i < n -> BV (LF (g i) (g' i))] else none
  | .box es, .box es' => ES F ρ p es es'
  | .imap q z h g s none, .imap q' z' h' g' s' none => if q = q' then some [z = z', ∀ n, h n = h' n, ∀ n, s n = s' n, ∀ n, BV (LF (g n) (g' n))] else none
  | _, _ => none
theorem VE {F : To} (hF : Ih B B' ι F) {ρ : Nat -> Nat} {p : Nat -> Bool} {D' : Nat -> Prop} (hp : ∀ i, p i = true -> D' i) {q : Nat} {a b : AObj} {x : Option Obj} (h : BV (ZZ F ρ p a b)) (hb : ORel B ι D q b x) : ORel B' (λ i => ι (ρ i)) D' q a x := by
  cases a with
  | row k n g =>
    cases b <;> simp only [ZZ] at h <;> try exact h.elim
    split at h
    · rename_i hc
      obtain ⟨h1, h2⟩ := EC.1 h
      have hs : osub ρ p (.row k n g) (.row _ _ _) := ⟨Nat.eq_of_beq_eq_true hc, h1, λ i hi => CQ _ _ (h2 i hi)⟩
      exact (iE hp hs hb).mono hF.1 λ i hi => ⟨hi, rfl⟩
    · exact h.elim
  | box es =>
    cases b <;> simp only [ZZ] at h <;> try exact h.elim
    cases hb with
    | box hsz hr =>
      exact .box (by rw [hsz, HN h]) λ j x z hx hz => by
        obtain ⟨y, hy, hs⟩ := HM h hx
        exact ID hF hp es j x y z hx hs (hr j y z hy hz)
  | imap q z hs g st pend =>
    cases pend with
    | some x => cases b <;> simp only [ZZ] at h <;> exact h.elim
    | none =>
    cases b <;> try (simp only [ZZ] at h; exact h.elim)
    rename_i q' z' hs' g' st' pend'
    cases pend' with
    | some x => simp only [ZZ] at h; exact h.elim
    | none =>
    simp only [ZZ] at h
    split at h
    · rename_i hc
      obtain ⟨h1, h3⟩ := EC.1 h
      obtain ⟨h3, h4⟩ := EC.1 h3
      obtain ⟨h4, h5⟩ := EC.1 h4
      have hs : osub ρ p (.imap q z hs g st none) (.imap _ _ _ _ _ _) := ⟨hc, h1, rfl, h3, h4, λ n => CQ _ _ (h5 n)⟩
      exact (iE hp hs hb).mono hF.1 λ i hi => ⟨hi, rfl⟩
    · exact h.elim
def BT (H : Heap) : List Nat -> Heap
  | [] => H
  | id :: r => match H id with
    | .live (.row _ _ _) => BT (CD H id .dead) r
    | _ => BT H r
def EX (H : Heap) (ids : List Nat) : To := λ id => if ids.contains id then match H id with
    | .live (.row k m get) => some (k, m, get)
    | _ => none
  else none
theorem HL : ∀ (ids : List Nat) {B : JW} {H : Heap}, HRel B ι H w -> ∃ B', Moved B ι H w B' ι (BT H ids) w /\ Ih B B' ι (EX H ids)
  | [], B, H, h => ⟨B, Moved.refl h, λ _ _ h => h, λ id k m get hf => by simp [EX] at hf⟩
  | id :: r, B, H, h => by
    simp only [BT]
    split
    · rename_i k m get hid
      obtain ⟨c, e, h1, h2, h3, h4, h5, h6⟩ := Moved.freeze h hid
      obtain ⟨B', h7, h8⟩ := HL r h2.heap
      refine ⟨B', h2.trans h7, λ b c hb => h8.1 b c (h2.bm b c hb), λ id' k' m' get' hf => ?_⟩
      by_cases he : id' = id
      · subst he
        simp only [EX, List.contains_cons, beq_self_eq_true, Bool.true_or, if_true, hid, Option.some.injEq, Prod.mk.injEq] at hf
        obtain ⟨rfl, rfl, rfl⟩ := hf
        exact ⟨c, h8.1 _ _ (by simp), h3, h4, h5, λ i j x y hi hx hy => (h6 i j x y hi hx hy).mono λ b c hb => h8.1 b c (h2.bm b c hb)⟩
      · refine h8.2 id' k' m' get' ?_
        have e1 : (id' == id) = false := by simpa using he
        simp only [EX, List.contains_cons, e1, Bool.false_or] at hf
        simp only [EX, DF _ _ he]
        exact hf
    · rename_i hn
      obtain ⟨B', h7, h8⟩ := HL r h
      refine ⟨B', h7, h8.1, λ id' k' m' get' hf => ?_⟩
      by_cases he : id' = id
      · subst he
        simp only [EX, List.contains_cons, beq_self_eq_true, Bool.true_or, if_true] at hf
        first | cases hf | (split at hf; (rename_i hq; exact (hn _ _ _ hq).elim); cases hf)
      · refine h8.2 id' k' m' get' ?_
        have e1 : (id' == id) = false := by simpa using he
        simp only [EX, List.contains_cons, e1, Bool.false_or] at hf
        exact hf
theorem LT : ∀ (ids : List Nat) {H : Heap} {i : Nat} {o : AObj}, BT H ids i = .live o -> H i = .live o
  | [], _, _, _, h => h
  | id :: r, H, i, o, h => by
    have key : ∀ H', (H' = H ∨ H' = CD H id .dead) -> BT H' r i = .live o -> H i = .live o := λ H' hH h => by
      have := LT r h
      rcases hH with rfl | rfl
      · exact this
      · by_cases he : i = id
        · subst he; rw [DG] at this; cases this
        · rwa [DF _ _ he] at this
    simp only [BT] at h
    cases hq : H id with
    | live o' => cases o' with
      | row => simp only [hq] at h; exact key _ (.inr rfl) h
      | _ => simp only [hq] at h; exact key _ (.inl rfl) h
    | _ => simp only [hq] at h; exact key _ (.inl rfl) h
def AFF (F : To) (ρ : Nat -> Nat) (p : Nat -> Bool) : HCell -> HCell -> Option (List Prop)
  | .live o, .live o' => ZZ F ρ p o o'
  | .dead, .live _ => some []
  | .dead, .dead => some []
  | _, _ => none
def BMQ (F : To) (ρ : Nat -> Nat) (p : Nat -> Bool) (sl : Nat -> AVal) : List (Nat × AVal) -> Option (List Prop)
  | [] => some []
  | (t, v) :: r => Hs (KS F ρ p v (sl t)) (BMQ F ρ p sl r)
def BZX (F : To) (ρ : Nat -> Nat) (p : Nat -> Bool) (H : Heap) : List (Nat × HCell) -> Option (List Prop)
  | [] => some []
  | (i, c) :: r => Hs (AFF F ρ p c (H (ρ i))) (BZX F ρ p H r)
theorem ANF {F : To} {ρ : Nat -> Nat} {p : Nat -> Bool} {sl : Nat -> AVal} : ∀ {l : List (Nat × AVal)}, BV (BMQ F ρ p sl l) -> ∀ t, BV (KS F ρ p (DT l t) (sl t))
  | [], _, t => by simp only [DT, KS]; trivial
  | (j, v) :: r, h, t => by
    obtain ⟨h1, h2⟩ := CL h
    simp only [DT]
    split
    · rename_i e; subst e; exact h1
    · exact ANF h2 t
theorem AAO {F : To} {ρ : Nat -> Nat} {p : Nat -> Bool} {H : Heap} : ∀ {l : List (Nat × HCell)}, BV (BZX F ρ p H l) -> ∀ {i : Nat} {c : HCell}, (i, c) ∈ l -> BV (AFF F ρ p c (H (ρ i)))
  | [], _, i, c, h => by cases h
  | (j, d) :: r, h, i, c, hm => by
    obtain ⟨h1, h2⟩ := CL h
    rcases List.mem_cons.1 hm with hm | hm
    · cases hm; exact h1
    · exact AAO h2 hm
def HQ (E : List Nat) (fz : List Nat) (l : List (Nat × Nat)) (s : ST) (σ : AState) : Option (List Prop) :=
  if (nodup (s.H.map λ x => DQ l x.1) && E.all λ i => Nat.beq (DQ l i) i && (IA s.H i).isSome) then
    Hs (BMQ (EX σ.H fz) (DQ l) (λ i => (IA s.H i).isSome) σ.sl s.sl) (BZX (EX σ.H fz) (DQ l) (λ i => (IA s.H i).isSome) (BT σ.H fz) s.H)
  else none
theorem Moved.subF {B0 : JW} {ι0 : Nat -> Pl} {H0 : Heap} {w0 : World} {E fz : List Nat} {l : List (Nat × Nat)} {s : ST} {sl : Nat -> AVal} (hE : ∀ i, H0.dom i -> i ∈ E) (h : BV (HQ E fz l s ⟨sl, H⟩)) (hm0 : Moved B0 ι0 H0 w0 B ι H w) :
    ∃ B', Moved B0 ι0 H0 w0 B' (λ i => ι (DQ l i)) (VI s.H) w /\ (∀ t v, VRel B ι H.dom (sl t) v -> VRel B' (λ i => ι (DQ l i)) (VI s.H).dom (DT s.sl t) v) /\ (∀ i o, VI s.H i = .live o -> ∃ o', H (DQ l i) = .live o') /\
      (∀ b c, B b = some c -> B' b = some c) /\ ∀ i ∈ E, (VI s.H).dom i /\ DQ l i = i := by
  unfold HQ at h
  split at h
  case isFalse => exact h.elim
  rename_i h3
  obtain ⟨h1, h2⟩ := CL h
  simp only [Bool.and_eq_true, List.all_eq_true, CV] at h3
  obtain ⟨h3, h4⟩ := h3
  have hnd := FK h3
  obtain ⟨B', hk, hF⟩ := HL fz hm0.heap
  have hm := hm0.trans hk
  have hdom : ∀ i, (λ i => (IA s.H i).isSome) i = true -> (VI s.H).dom i := λ i hi => by
    obtain ⟨d, hd⟩ := Option.isSome_iff_exists.1 hi
    have := AAO h2 (GW hd)
    unfold Heap.dom
    show (IA s.H i).getD .none ≠ .none
    rw [hd]
    intro he
    simp at he; subst he
    simp only [AFF] at this; exact this
  have live : ∀ i o, VI s.H i = .live o -> (i, .live o) ∈ s.H /\ ∃ o', BT H fz (DQ l i) = .live o' /\ BV (ZZ (EX H fz) (DQ l) (λ i => (IA s.H i).isSome) o o') := λ i o hi => by
    have hg : IA s.H i = some (.live o) := by
      have : (IA s.H i).getD .none = .live o := hi
      cases hq : IA s.H i with
      | none => rw [hq] at this; cases this
      | some d => rw [hq] at this; simpa using this
    have hm := GW hg
    have := AAO h2 hm
    refine ⟨hm, ?_⟩
    cases hq : BT H fz (DQ l i) with
    | live o' => rw [hq] at this; exact ⟨o', rfl, this⟩
    | none => rw [hq] at this; simp only [AFF] at this; exact this.elim
    | dead => rw [hq] at this; simp only [AFF] at this; exact this.elim
  refine ⟨B', ?_, λ t v hv => OX hF hdom _ _ _ (ANF h1 t) hv, λ i o hi => by obtain ⟨_, o', ho, _⟩ := live i o hi; exact ⟨o', LT fz ho⟩, hF.1, λ i hi => ⟨hdom i (h4 i hi).2, (h4 i hi).1⟩⟩
  refine ⟨hm.bm, hm.bn, λ i hi => ?_, ⟨λ i o hi => ?_, λ i j o o' hi hj hij => ?_, λ i o hi => ?_, hm.heap.imm⟩, λ i o hi => ?_, hm.frame, hm.size, hm.calm⟩
  · obtain ⟨h5, h6⟩ := h4 i (hE i hi)
    exact ⟨hdom i h6, by show ι (DQ l i) = _; rw [h5]; exact (hm.im i hi).2⟩
  · obtain ⟨_, o', ho, hs⟩ := live i o hi
    exact VE hF hdom hs (hm0.heap.obj _ _ (LT fz ho))
  · obtain ⟨m1, o1, ho1, _⟩ := live i o hi
    obtain ⟨m2, o2, ho2, _⟩ := live j o' hj
    exact (fY hnd m1 m2 (hm.heap.inj _ _ _ _ ho1 ho2 hij)).1
  · obtain ⟨_, o', ho, _⟩ := live i o hi
    exact hm.heap.sep _ _ ho
  · obtain ⟨_, o', ho, _⟩ := live i o hi
    exact hm.own _ _ ho
theorem Rel.subF {c : Ctx} {E fz : List Nat} {l : List (Nat × Nat)} {s : ST} {σ : AState} {a : Act} (hE : ∀ i, c.H0.dom i -> i ∈ E) (h : BV (HQ E fz l s σ)) (hR : Rel c B ι σ a w) : ∃ B', Rel c B' (λ i => ι (DQ l i)) s.st a w := by
  obtain ⟨B', h1, h2, h3, _⟩ := Moved.subF hE h hR.mv
  obtain ⟨Ds, d1, d0, d2, d3⟩ := hR.defers
  refine ⟨B', λ t => h2 t _ (hR.slots t), hR.size, ⟨Ds, d1, d0, d2, λ D hD => ⟨(d3 D hD).1, (d3 D hD).2.here, λ i o hi => ?_⟩⟩, h1⟩
  obtain ⟨o', ho⟩ := h3 i o hi
  exact (d3 D hD).2.sep _ _ ho
theorem CodeE.subF {c : Ctx} {E fz : List Nat} {l : List (Nat × Nat)} {s : ST} {σ : AState} {code : Code} {Q : Exit -> AState -> Prop} (hE : ∀ i, c.H0.dom i -> i ∈ E) (hs : BV (HQ E fz l s σ)) (h : CodeE P c code Q s.st) : CodeE P c code Q σ :=
  λ _ _ a w hR => let ⟨B', hR'⟩ := Rel.subF hE hs hR; h B' _ a w hR'
def L9 : List Prop -> Prop -> Prop
  | [], K => K
  | l, K => BN l /\ K
theorem FW {l : List Prop} {K : Prop} (h : L9 l K) : BN l /\ K := by
  cases l with
  | nil => exact ⟨trivial, h⟩
  | cons => exact h
def BTN : Option (List Prop) -> Prop -> Prop
  | some l, K => L9 l K
  | none, _ => False
theorem eD {l : Option (List Prop)} {K : Prop} (h : BTN l K) : BV l /\ K := by
  cases l with
  | none => exact h.elim
  | some l => exact FW h
end Go.Sym
