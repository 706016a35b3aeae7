/- One state tells less than another. -/
import Derived.Test.YtoihhodbkimedaaGreatSym6
set_option linter.unusedVariables false
set_option linter.unusedSimpArgs false
namespace Go.Sym
variable {P : Program} {B B' : KN} {ι ι' : Nat -> Pl} {H H' : Heap} {D : Nat -> Prop} {w w' : World}
mutual
def CI : DVal -> DVal -> Prop
  | .v x, .v y => vEq x y
  | .agg xs, .agg ys => KQ xs ys
  | .tup xs, .tup ys => KQ xs ys
  | .list k n g e, .list k' n' g' e' => (k = k' ∨ n = 0) /\ n = n' /\ (e = true -> e' = true) /\ ∀ i, i < n -> CI (g i) (g' i)
  | .arr k n g, .arr k' n' g' => k = k' /\ n = n' /\ ∀ i, i < n -> CI (g i) (g' i)
  | .eref x c, .eref y d => c = d /\ CI x y
  | .iface t x, .iface u y => t = u /\ CI x y
  | .anyB, .anyB => True
  | _, _ => False
def KQ : List DVal -> List DVal -> Prop
  | [], [] => True
  | x :: xs, y :: ys => CI x y /\ KQ xs ys
  | _, _ => False
def vEq : Value -> Value -> Prop
  | .int k a, .int k' b => k = k' /\ a = b
  | .bool a, .bool b => a = b
  | .string a, .string b => a = b
  | x, y => x = y
end
theorem CGS {x y : Value} (h : vEq x y) : x = y := by
  unfold vEq at h
  split at h
  · obtain ⟨rfl, rfl⟩ := h; rfl
  · rw [h]
  · rw [h]
  · exact h
theorem YY : ∀ {xs ys : List DVal}, KQ xs ys -> xs.length = ys.length
  | [], [], _ => rfl
  | x :: xs, y :: ys, h => by simp only [KQ] at h; simp [YY h.2]
  | [], _ :: _, h => by simp [KQ] at h
  | _ :: _, [], h => by simp [KQ] at h
theorem zO : ∀ {xs ys : List DVal}, KQ xs ys -> ∀ {j : Nat} {x : DVal}, xs[j]? = some x -> ∃ y, ys[j]? = some y /\ CI x y
  | [], [], _, j, x, hx => by simp at hx
  | a :: xs, b :: ys, h, 0, x, hx => by simp only [KQ] at h; simp at hx; subst hx; exact ⟨b, rfl, h.1⟩
  | a :: xs, b :: ys, h, j + 1, x, hx => by
    simp only [KQ] at h
    obtain ⟨y, hy, hs⟩ := zO h.2 (j := j) (by simpa using hx)
    exact ⟨y, by simpa using hy, hs⟩
  | [], _ :: _, h, _, _, _ => by simp [KQ] at h
  | _ :: _, [], h, _, _, _ => by simp [KQ] at h
theorem AFU : ∀ {x y : DVal}, CI x y -> KQ x.cells1 y.cells1
  | .v x, y, h => by cases y <;> simp only [CI] at h; exact ⟨by simpa [CI] using h, trivial⟩
  | .agg xs, y, h => by cases y <;> simp only [CI] at h; exact h
  | .tup xs, y, h => by cases y <;> (try simp only [CI] at h) <;> exact ⟨by simpa only [CI] using h, trivial⟩
  | .list k n g e, y, h => by cases y <;> (try simp only [CI] at h) <;> exact ⟨by simpa only [CI] using h, trivial⟩
  | .arr k n g, y, h => by cases y <;> (try simp only [CI] at h) <;> exact ⟨by simpa only [CI] using h, trivial⟩
  | .eref a c, y, h => by cases y <;> (try simp only [CI] at h) <;> exact ⟨by simpa only [CI] using h, trivial⟩
  | .iface a c, y, h => by cases y <;> (try simp only [CI] at h) <;> exact ⟨by simpa only [CI] using h, trivial⟩
  | .anyB, y, h => by cases y <;> (try simp only [CI] at h) <;> exact ⟨by simp only [CI], trivial⟩
theorem AFT (x : DVal) (r : List DVal) : BR (x :: r) = (BR [x] && BR r) := by
  cases x with
  | v y => cases y <;> simp [BR]
  | _ => simp [BR]
theorem CCP {x y : DVal} (h : CI x y) : BR [x] = BR [y] := by
  cases x <;> cases y <;> simp only [CI] at h <;> try rfl
  rw [CGS h]
theorem BBE : ∀ {xs ys : List DVal}, KQ xs ys -> BR xs = BR ys
  | [], [], _ => rfl
  | x :: xs, y :: ys, h => by simp only [KQ] at h; rw [AFT, AFT y, CCP h.1, BBE h.2]
  | [], _ :: _, h => by simp [KQ] at h
  | _ :: _, [], h => by simp [KQ] at h
theorem tV {k : Nat} {x y : DVal} (h : CI x y) (hy : EOk k y) : EOk k x := by
  have := AFU h
  exact ⟨by rw [YY this]; exact hy.len, by rw [BBE this]; exact hy.one⟩
theorem BWX {e : DVal} {zs : Array Value} (hl : zs.size = e.cells1.length) (h : ∀ (j : Nat) (x : DVal) (z : Value), e.cells1[j]? = some x -> zs[j]? = some z -> DRel B x z) :
    ∃ v, DRel B e v /\ ∀ e2, CI e2 e -> DRel B e2 v -> ∀ (j : Nat) (x : DVal) (z : Value), e2.cells1[j]? = some x -> zs[j]? = some z -> DRel B x z := by
  have other : e.cells1 = [e] -> (∀ e2, CI e2 e -> e2.cells1 = [e2]) -> ∃ v, DRel B e v /\ ∀ e2, CI e2 e -> DRel B e2 v -> ∀ (j : Nat) (x : DVal) (z : Value), e2.cells1[j]? = some x -> zs[j]? = some z -> DRel B x z := by
    intro h1 h2
    rw [h1] at hl h
    have hz : 0 < zs.size := by rw [hl]; simp
    refine ⟨zs[0], h 0 e zs[0] rfl (by simp [hz]), λ e2 hs hv j x z hx hz' => ?_⟩
    rw [h2 e2 hs] at hx
    cases j with
    | zero => simp at hx; subst hx; simp [hz] at hz'; subst hz'; exact hv
    | succ j => simp at hx
  cases e with
  | agg ds =>
    refine ⟨.agg zs, .agg hl h, λ e2 hs hv j x z hx hz => ?_⟩
    cases e2 <;> simp only [CI] at hs
    cases hv with
    | agg hl hr => exact hr j x z hx hz
  | v y => exact other rfl λ e2 hs => by cases e2 <;> first | rfl | simp only [CI] at hs
  | tup y => exact other rfl λ e2 hs => by cases e2 <;> first | rfl | simp only [CI] at hs
  | list a b c d => exact other rfl λ e2 hs => by cases e2 <;> first | rfl | simp only [CI] at hs
  | eref a b => exact other rfl λ e2 hs => by cases e2 <;> first | rfl | simp only [CI] at hs
  | iface a b => exact other rfl λ e2 hs => by cases e2 <;> first | rfl | simp only [CI] at hs
  | anyB => exact other rfl λ e2 hs => by cases e2 <;> first | rfl | simp only [CI] at hs
  | arr a b c => exact other rfl λ e2 hs => by cases e2 <;> first | rfl | simp only [CI] at hs
theorem qB {a b : DVal} {c : Array Value} {o k : Nat} (hs : CI a b) (ok : EOk k b) (hsz : o + k <= c.size) (h : ∀ (j : Nat) (x : DVal) (y : Value), b.cells1[j]? = some x -> c[o + j]? = some y -> DRel B x y)
    (down : ∀ v, DRel B b v -> DRel B a v) : ∀ (j : Nat) (x : DVal) (y : Value), a.cells1[j]? = some x -> c[o + j]? = some y -> DRel B x y := by
  have hz : ∀ j, j < k -> (c.extract o (o + k))[j]? = c[o + j]? := λ j hj => by rw [Array.getElem?_extract]; simp; omega
  obtain ⟨v, h1, h2⟩ := BWX (B := B) (e := b) (zs := c.extract o (o + k)) (by rw [ok.len]; simp; omega) (λ j x z hx hz' => by
    have hlt := (List.getElem?_eq_some_iff.1 hx).1
    rw [ok.len] at hlt
    rw [hz j hlt] at hz'
    exact h j x z hx hz')
  intro j x y hx hy
  have hlt := (List.getElem?_eq_some_iff.1 hx).1
  rw [(tV hs ok).len] at hlt
  exact h2 a hs (down v h1) j x y hx (by rw [hz j hlt]; exact hy)
mutual
theorem BW : ∀ (x : DVal) (y : DVal) (v : Value), CI x y -> DRel B y v -> DRel B x v
  | .v x, y, v, h, hv => by cases y <;> simp only [CI] at h; rw [CGS h]; exact hv
  | .agg xs, y, v, h, hv => by
    cases y <;> simp only [CI] at h
    cases hv with
    | agg hl hr =>
      exact .agg (by rw [hl, YY h]) λ j x z hx hz => by
        obtain ⟨y, hy, hs⟩ := zO h hx
        exact Qd xs j x y z hx hs (hr j y z hy hz)
  | .tup xs, y, v, h, hv => by
    cases y <;> simp only [CI] at h
    cases hv with
    | tup hl hr =>
      exact .tup (by rw [hl, YY h]) λ j x z hx hz => by
        obtain ⟨y, hy, hs⟩ := zO h hx
        exact Qd xs j x y z hx hs (hr j y z hy hz)
  | .list k n g e, y, v, h, hv => by
    cases y <;> simp only [CI] at h
    obtain ⟨hkk, rfl, he, hg⟩ := h
    cases hv with
    | nil h1 h2 => exact .nil (λ h => h1 (he h)) h2
    | list hn hb hcap hex hk hsz hr =>
      rcases hkk with rfl | h0
      case inr => omega
      refine .list hn hb hcap (λ h => hex (he h)) (λ i hi => tV (hg i hi) (hk i hi)) hsz λ i j x y hi hx hy => ?_
      have h1 : (i + 1) * k <= n * k := Nat.mul_le_mul_right k hi
      have h2 : (i + 1) * k = i * k + k := Nat.succ_mul i k
      exact qB (hg i hi) (hk i hi) (by omega) (λ j x y hx hy => hr i j x y hi hx hy) (λ v hv => BW (g i) _ v (hg i hi) hv) j x y hx hy
  | .arr k n g, y, v, h, hv => by
    cases y <;> simp only [CI] at h
    obtain ⟨rfl, rfl, hg⟩ := h
    cases hv with
    | arr hl hk hr =>
      refine .arr hl (λ i hi => tV (hg i hi) (hk i hi)) λ i j x y hi hx hy => ?_
      have h1 : (i + 1) * k <= n * k := Nat.mul_le_mul_right k hi
      have h2 : (i + 1) * k = i * k + k := Nat.succ_mul i k
      exact qB (hg i hi) (hk i hi) (by omega) (λ j x y hx hy => hr i j x y hi hx hy) (λ v hv => BW (g i) _ v (hg i hi) hv) j x y hx hy
  | .anyB, y, v, h, hv => by
    cases y <;> simp only [CI] at h
    exact hv
  | .iface a c, y, v, h, hv => by
    cases y <;> simp only [CI] at h
    obtain ⟨rfl, hs⟩ := h
    cases hv with
    | iface hr => exact .iface (BW _ _ _ hs hr)
  | .eref a c, y, v, h, hv => by
    cases y <;> simp only [CI] at h
    obtain ⟨rfl, hs⟩ := h
    cases hv with
    | eref hb hsz hr =>
      have hl := YY (AFU hs)
      rename_i d b off cs
      refine .eref hb (by omega) λ j x y hx hy => ?_
      have hz : ∀ j, j < d.cells1.length -> (cs.extract off (off + d.cells1.length))[j]? = cs[off + j]? := λ j hj => by rw [Array.getElem?_extract]; simp; omega
      obtain ⟨v, h1, h2⟩ := BWX (B := B) (e := d) (zs := cs.extract off (off + d.cells1.length)) (by simp; omega) (λ j x z hx hz' => by
        have hlt := (List.getElem?_eq_some_iff.1 hx).1
        rw [hz j hlt] at hz'
        exact hr j x z hx hz')
      have hlt := (List.getElem?_eq_some_iff.1 hx).1
      exact h2 a hs (BW a d v hs h1) j x y hx (by rw [hz j (by omega)]; exact hy)
theorem Qd : ∀ (l : List DVal) (j : Nat) (x y : DVal) (v : Value), l[j]? = some x -> CI x y -> DRel B y v -> DRel B x v
  | [], j, x, y, v, hx, _, _ => by simp at hx
  | a :: l, 0, x, y, v, hx, h, hv => by simp at hx; subst hx; exact BW a y v h hv
  | a :: l, j + 1, x, y, v, hx, h, hv => Qd l j x y v (by simpa using hx) h hv
end
end Go.Sym

namespace Go.Sym
variable {P : Program} {B B' : KN} {ι ι' : Nat -> Pl} {H H' : Heap} {D : Nat -> Prop} {w w' : World}
mutual
def Nt (ρ : Nat -> Nat) (p : Nat -> Bool) : AVal -> AVal -> Prop
  | .any, _ => True
  | .d x, .d y => CI x y
  | .agg xs, .agg ys => QL ρ p xs ys
  | .tup xs, .tup ys => QL ρ p xs ys
  | .bptr i c, .bptr j d => j = ρ i /\ p i = true /\ c = d
  | .rptr i k e c, .rptr j k' e' c' => j = ρ i /\ p i = true /\ k = k' /\ e = e' /\ c = c'
  | .own i k e n, .own j k' e' n' => j = ρ i /\ p i = true /\ k = k' /\ e = e' /\ n = n'
  | .fn f a b, .fn g c d => f = g /\ QL ρ p a c /\ QL ρ p b d
  | .mref i, .mref j => j = ρ i /\ p i = true
  | .opt g a, .opt h b => g = h /\ Nt ρ p a b
  | _, _ => False
def QL (ρ : Nat -> Nat) (p : Nat -> Bool) : List AVal -> List AVal -> Prop
  | [], [] => True
  | x :: xs, y :: ys => Nt ρ p x y /\ QL ρ p xs ys
  | _, _ => False
end
theorem MN {ρ : Nat -> Nat} {p : Nat -> Bool} : ∀ {xs ys : List AVal}, QL ρ p xs ys -> xs.length = ys.length
  | [], [], _ => rfl
  | x :: xs, y :: ys, h => by simp only [QL] at h; simp [MN h.2]
  | [], _ :: _, h => by simp [QL] at h
  | _ :: _, [], h => by simp [QL] at h
theorem MM {ρ : Nat -> Nat} {p : Nat -> Bool} : ∀ {xs ys : List AVal}, QL ρ p xs ys -> ∀ {j : Nat} {x : AVal}, xs[j]? = some x -> ∃ y, ys[j]? = some y /\ Nt ρ p x y
  | [], [], _, j, x, hx => by simp at hx
  | a :: xs, b :: ys, h, 0, x, hx => by simp only [QL] at h; simp at hx; subst hx; exact ⟨b, rfl, h.1⟩
  | a :: xs, b :: ys, h, j + 1, x, hx => by
    simp only [QL] at h
    obtain ⟨y, hy, hs⟩ := MM h.2 (j := j) (by simpa using hx)
    exact ⟨y, by simpa using hy, hs⟩
  | [], _ :: _, h, _, _, _ => by simp [QL] at h
  | _ :: _, [], h, _, _, _ => by simp [QL] at h
mutual
theorem Ip {ρ : Nat -> Nat} {p : Nat -> Bool} {D' : Nat -> Prop} (hp : ∀ i, p i = true -> D' i) : ∀ (x y : AVal) (v : Value), Nt ρ p x y -> VRel B ι D y v -> VRel B (λ i => ι (ρ i)) D' x v
  | .any, _, _, _, _ => .any
  | .d x, y, v, h, hv => by cases y <;> simp only [Nt] at h; exact .d (BW _ _ _ h hv.d_inv)
  | .agg xs, y, v, h, hv => by
    cases y <;> simp only [Nt] at h
    cases hv with
    | agg hl hr =>
      exact .agg (by rw [hl, MN h]) λ j x z hx hz => by
        obtain ⟨y, hy, hs⟩ := MM h hx
        exact KP hp xs j x y z hx hs (hr j y z hy hz)
  | .tup xs, y, v, h, hv => by
    cases y <;> simp only [Nt] at h
    cases hv with
    | tup hl hr =>
      exact .tup (by rw [hl, MN h]) λ j x z hx hz => by
        obtain ⟨y, hy, hs⟩ := MM h hx
        exact KP hp xs j x y z hx hs (hr j y z hy hz)
  | .bptr i c, y, v, h, hv => by
    cases y <;> simp only [Nt] at h
    obtain ⟨rfl, h2, rfl⟩ := h
    cases hv; exact VRel.bptr (ι := λ i => ι (ρ i)) (hp _ h2)
  | .rptr i k e c, y, v, h, hv => by
    cases y <;> simp only [Nt] at h
    obtain ⟨rfl, h2, rfl, rfl, rfl⟩ := h
    cases hv; exact VRel.rptr (ι := λ i => ι (ρ i)) (hp _ h2)
  | .own i k e n, y, v, h, hv => by
    cases y <;> simp only [Nt] at h
    obtain ⟨rfl, h2, rfl, rfl, rfl⟩ := h
    cases hv with
    | own _ h3 h4 => exact VRel.own (ι := λ i => ι (ρ i)) (hp _ h2) h3 h4
  | .fn f a b, y, v, h, hv => by
    cases y <;> simp only [Nt] at h
    obtain ⟨rfl, h1, h2⟩ := h
    cases hv with
    | fn h3 h4 h5 h6 =>
      exact .fn (by rw [h3, MN h1]) (by rw [h4, MN h2])
        (λ j x z hx hz => by
          obtain ⟨y, hy, hs⟩ := MM h1 hx
          exact KP hp a j x y z hx hs (h5 j y z hy hz))
        λ j x z hx hz => by
          obtain ⟨y, hy, hs⟩ := MM h2 hx
          exact KP hp b j x y z hx hs (h6 j y z hy hz)
  | .mref i, y, v, h, hv => by
    cases y <;> simp only [Nt] at h
    obtain ⟨rfl, h2⟩ := h
    cases hv; exact VRel.mref (ι := λ i => ι (ρ i)) (hp _ h2)
  | .opt g a, y, v, h, hv => by
    cases y <;> simp only [Nt] at h
    obtain ⟨rfl, h2⟩ := h
    cases hv with
    | opt h3 h4 => exact .opt (λ hg => Ip hp a _ v h2 (h3 hg)) h4
theorem KP {ρ : Nat -> Nat} {p : Nat -> Bool} {D' : Nat -> Prop} (hp : ∀ i, p i = true -> D' i) : ∀ (l : List AVal) (j : Nat) (x y : AVal) (v : Value), l[j]? = some x -> Nt ρ p x y -> VRel B ι D y v -> VRel B (λ i => ι (ρ i)) D' x v
  | [], j, x, y, v, hx, _, _ => by simp at hx
  | a :: l, 0, x, y, v, hx, h, hv => by simp at hx; subst hx; exact Ip hp a y v h hv
  | a :: l, j + 1, x, y, v, hx, h, hv => KP hp l j x y v (by simpa using hx) h hv
end
def osub (ρ : Nat -> Nat) (p : Nat -> Bool) : AObj -> AObj -> Prop
  | .row k n g, .row k' n' g' => k = k' /\ n = n' /\ ∀ i, i < n -> CI (g i) (g' i)
  | .box es, .box es' => QL ρ p es es'
  | .imap q z h g s p, .imap q' z' h' g' s' p' => q = q' /\ z = z' /\ p = p' /\ (∀ n, h n = h' n) /\ (∀ n, s n = s' n) /\ ∀ n, CI (g n) (g' n)
  | _, _ => False
theorem lD {ρ : Nat -> Nat} {p : Nat -> Bool} {D' : Nat -> Prop} (hp : ∀ i, p i = true -> D' i) {q : Nat} {a b : AObj} {x : Option Obj} (h : osub ρ p a b) (hb : ORel B ι D q b x) : ORel B (λ i => ι (ρ i)) D' q a x := by
  cases a with
  | row k n g =>
    cases b <;> simp only [osub] at h
    obtain ⟨rfl, rfl, hg⟩ := h
    cases hb with
    | row hk hn hsz hr =>
      refine .row (λ i hi => tV (hg i hi) (hk i hi)) hn hsz λ i j x y hi hx hy => ?_
      have h1 : (i + 1) * k <= n * k := Nat.mul_le_mul_right k hi
      have h2 : (i + 1) * k = i * k + k := Nat.succ_mul i k
      have h3 : n * k <= q * k := Nat.mul_le_mul_right k hn
      exact qB (hg i hi) (hk i hi) (by omega) (λ j x y hx hy => hr i j x y hi hx hy) (λ v hv => BW (g i) _ v (hg i hi) hv) j x y hx hy
  | box es =>
    cases b <;> simp only [osub] at h
    cases hb with
    | box hsz hr =>
      exact .box (by rw [hsz, MN h]) λ j x z hx hz => by
        obtain ⟨y, hy, hs⟩ := MM h hx
        exact KP hp es j x y z hx hs (hr j y z hy hz)
  | imap kd z has get st pend =>
    cases b <;> simp only [osub] at h
    obtain ⟨rfl, rfl, rfl, hh, hs, hg⟩ := h
    cases hb with
    | imap hm =>
      refine .imap ⟨λ i e he => ?_, λ n hn => ?_, λ n hn => hm.met n (by rw [<- hh n]; exact hn), hm.once⟩
      · obtain ⟨n, h1, h2, h3, h4, h5⟩ := hm.keys i e he
        exact ⟨n, h1, by rw [hh n]; exact h2, h3, by rw [hs n]; exact h4, BW _ _ _ (hg n) h5⟩
      · obtain ⟨h1, h2⟩ := hm.miss n (by rw [<- hh n]; exact hn)
        exact ⟨BW _ _ _ (hg n) h1, by rw [hs n]; exact h2⟩
def DT : List (Nat × AVal) -> Nat -> AVal
  | [], _ => .any
  | (j, v) :: r, t => if t = j then v else DT r t
def YE (l : List (Nat × HCell)) : Heap := λ i => (IR l i).getD .none
structure ST where
  sl : List (Nat × AVal)
  H : List (Nat × HCell)
def ST.st (s : ST) : AState := ⟨DT s.sl, YE s.H⟩
def CGK (ρ : Nat -> Nat) (p : Nat -> Bool) (sl : Nat -> AVal) : List (Nat × AVal) -> Prop
  | [] => True
  | (t, v) :: r => Nt ρ p v (sl t) /\ CGK ρ p sl r
def cSub (ρ : Nat -> Nat) (p : Nat -> Bool) : HCell -> HCell -> Prop
  | .live o, .live o' => osub ρ p o o'
  | .dead, .live _ => True
  | .dead, .dead => True
  | _, _ => False
def hSub (ρ : Nat -> Nat) (p : Nat -> Bool) (H : Heap) : List (Nat × HCell) -> Prop
  | [] => True
  | (i, c) :: r => cSub ρ p c (H (ρ i)) /\ hSub ρ p H r
def DO (l : List (Nat × Nat)) (i : Nat) : Nat := match l with
  | [] => i
  | (a, b) :: r => if i = a then b else DO r i
def COC (E : List Nat) (l : List (Nat × Nat)) (s : ST) (σ : AState) : Prop :=
  CGK (DO l) (λ i => (IR s.H i).isSome) σ.sl s.sl /\ hSub (DO l) (λ i => (IR s.H i).isSome) σ.H s.H /\
    (nodup (s.H.map λ x => DO l x.1) && E.all λ i => DO l i == i && (IR s.H i).isSome) = true
theorem BAY {ρ : Nat -> Nat} {p : Nat -> Bool} {sl : Nat -> AVal} : ∀ {l : List (Nat × AVal)}, CGK ρ p sl l -> ∀ t, Nt ρ p (DT l t) (sl t)
  | [], _, t => by simp [DT, Nt]
  | (j, v) :: r, h, t => by
    simp only [DT]
    split
    · rename_i e; subst e; exact h.1
    · exact BAY h.2 t
theorem AOZ {ρ : Nat -> Nat} {p : Nat -> Bool} {H : Heap} : ∀ {l : List (Nat × HCell)}, hSub ρ p H l -> ∀ {i : Nat} {c : HCell}, (i, c) ∈ l -> cSub ρ p c (H (ρ i))
  | [], _, i, c, h => by cases h
  | (j, d) :: r, h, i, c, hm => by
    rcases List.mem_cons.1 hm with hm | hm
    · cases hm; exact h.1
    · exact AOZ h.2 hm
theorem Rel.sub {c : Ctx} {E : List Nat} {l : List (Nat × Nat)} {s : ST} {σ : AState} {a : Act} (hE : ∀ i, c.H0.dom i -> i ∈ E) (h : COC E l s σ) (hR : Rel c B ι σ a w) : Rel c B (λ i => ι (DO l i)) s.st a w := by
  obtain ⟨h1, h2, h3⟩ := h
  simp only [Bool.and_eq_true, List.all_eq_true, beq_iff_eq] at h3
  obtain ⟨h3, h4⟩ := h3
  have hnd := GQ h3
  have hdom : ∀ i, (λ i => (IR s.H i).isSome) i = true -> (ST.st s).H.dom i := λ i hi => by
    obtain ⟨d, hd⟩ := Option.isSome_iff_exists.1 hi
    have := AOZ h2 (HE hd)
    unfold Heap.dom
    show (IR s.H i).getD .none ≠ .none
    rw [hd]
    intro he
    simp at he; subst he
    simp [cSub] at this
  have live : ∀ i o, (ST.st s).H i = .live o -> (i, .live o) ∈ s.H /\ ∃ o', σ.H (DO l i) = .live o' /\ osub (DO l) (λ i => (IR s.H i).isSome) o o' := λ i o hi => by
    have hg : IR s.H i = some (.live o) := by
      have : (IR s.H i).getD .none = .live o := hi
      cases hq : IR s.H i with
      | none => rw [hq] at this; cases this
      | some d => rw [hq] at this; simpa using this
    have hm := HE hg
    have := AOZ h2 hm
    refine ⟨hm, ?_⟩
    cases hq : σ.H (DO l i) with
    | live o' => rw [hq] at this; exact ⟨o', rfl, this⟩
    | none => rw [hq] at this; simp [cSub] at this
    | dead => rw [hq] at this; simp [cSub] at this
  refine ⟨λ t => Ip hdom _ _ _ (BAY h1 t) (hR.slots t), hR.size, ?_, ?_⟩
  · obtain ⟨Ds, d1, d0, d2, d3⟩ := hR.defers
    refine ⟨Ds, d1, d0, d2, λ D hD => ⟨(d3 D hD).1, (d3 D hD).2.here, λ i o hi => ?_⟩⟩
    obtain ⟨_, o', ho, _⟩ := live i o hi
    exact (d3 D hD).2.sep _ _ ho
  have hm := hR.mv
  refine ⟨hm.bm, hm.bn, λ i hi => ?_, ⟨λ i o hi => ?_, λ i j o o' hi hj hij => ?_, λ i o hi => ?_, hm.heap.imm⟩, λ i o hi => ?_, hm.frame, hm.size, hm.calm⟩
  · obtain ⟨h5, h6⟩ := h4 i (hE i hi)
    exact ⟨hdom i h6, by rw [h5]; exact (hm.im i hi).2⟩
  · obtain ⟨_, o', ho, hs⟩ := live i o hi
    exact lD hdom hs (hm.heap.obj _ _ ho)
  · obtain ⟨m1, o1, ho1, _⟩ := live i o hi
    obtain ⟨m2, o2, ho2, _⟩ := live j o' hj
    exact (cV hnd m1 m2 (hm.heap.inj _ _ _ _ ho1 ho2 hij)).1
  · obtain ⟨_, o', ho, _⟩ := live i o hi
    exact hm.heap.sep _ _ ho
  · obtain ⟨_, o', ho, _⟩ := live i o hi
    exact hm.own _ _ ho
theorem CodeE.sub {c : Ctx} {E : List Nat} {l : List (Nat × Nat)} {s : ST} {σ : AState} {code : Code} {Q : Exit -> AState -> Prop} (hE : ∀ i, c.H0.dom i -> i ∈ E) (hs : COC E l s σ) (h : CodeE P c code Q s.st) : CodeE P c code Q σ :=
  λ _ _ a w hR => h _ _ a w (hR.sub hE hs)
end Go.Sym

namespace Go.Sym
variable {P : Program} {B B' : KN} {ι ι' : Nat -> Pl} {H H' : Heap} {D : Nat -> Prop} {w w' : World}
theorem DD {a b : Nat} : (Nat.beq a b = true) = (a = b) := propext ⟨Nat.eq_of_beq_eq_true, λ h => by subst h; exact Nat.beq_refl a⟩
def BU : Option (List Prop) -> Prop
  | some l => BK l
  | none => False
def Je : Option (List Prop) -> Option (List Prop) -> Option (List Prop)
  | some l, some m => some (l ++ m)
  | _, _ => none
def CEK : Value -> Value -> Option (List Prop)
  | .int k a, .int k' b => if k = k' then some [a = b] else none
  | .bool a, .bool b => some [a = b]
  | .string a, .string b => some [a = b]
  | x, y => some [x = y]
theorem CJ {a b : Option (List Prop)} (h : BU (Je a b)) : BU a /\ BU b := by
  cases a with
  | none => exact h.elim
  | some l => cases b with
    | none => exact h.elim
    | some m => exact AV h
theorem BZN (x : Value) : vEq x x := by
  unfold vEq; split <;> simp_all
theorem BPL {x y : Value} (h : BU (CEK x y)) : vEq x y := by
  unfold CEK at h
  split at h
  · split at h
    · rename_i hk; exact ⟨hk, h⟩
    · exact h.elim
  · exact h
  · exact h
  · have h : x = y := h
    subst h
    exact BZN x
mutual
def LP : DVal -> DVal -> Option (List Prop)
  | .v x, .v y => CEK x y
  | .agg xs, .agg ys => AEH xs ys
  | .tup xs, .tup ys => AEH xs ys
  | .list k n g e, .list k' n' g' e' => if Nat.beq k k' && (!e || e') then some [n = n', ∀ i, i < n -> BU (LP (g i) (g' i))] else if (Nat.beq k' 0 || Nat.beq k 0) && (!e || e') then some [n = n', n = 0] else none
  | .arr k n g, .arr k' n' g' => if Nat.beq k k' then some [n = n', ∀ i, i < n -> BU (LP (g i) (g' i))] else none
  | .eref x c, .eref y d => if Nat.beq c d then LP x y else none
  | .iface t x, .iface u y => if Nat.beq t u then LP x y else none
  | .anyB, .anyB => some []
  | _, _ => none
def AEH : List DVal -> List DVal -> Option (List Prop)
  | [], [] => some []
  | x :: xs, y :: ys => Je (LP x y) (AEH xs ys)
  | _, _ => none
end
mutual
theorem CO : ∀ (x y : DVal), BU (LP x y) -> CI x y
  | .v x, y, h => by cases y <;> simp only [LP] at h <;> first | exact (by simp only [CI]; exact BPL h) | exact h.elim
  | .agg xs, y, h => by cases y <;> simp only [LP] at h <;> first | exact (by simp only [CI]; exact Nr _ _ h) | exact h.elim
  | .tup xs, y, h => by cases y <;> simp only [LP] at h <;> first | exact (by simp only [CI]; exact Nr _ _ h) | exact h.elim
  | .list k n g e, y, h => by
    cases y <;> simp only [LP] at h <;> try exact h.elim
    split at h
    · rename_i hc
      simp only [Bool.and_eq_true, DD, Bool.or_eq_true, Bool.not_eq_true'] at hc
      obtain ⟨h1, h2⟩ := DY.1 h
      simp only [CI]
      refine ⟨.inl hc.1, h1, λ he => ?_, λ i hi => CO _ _ (h2 i hi)⟩
      rcases hc.2 with h | h
      · rw [he] at h; cases h
      · exact h
    · split at h
      · rename_i hc
        simp only [Bool.and_eq_true, DD, Bool.or_eq_true, Bool.not_eq_true'] at hc
        obtain ⟨h1, h2⟩ := DY.1 h
        have h2 : n = 0 := h2
        simp only [CI]
        refine ⟨.inr h2, h1, λ he => ?_, λ i hi => by omega⟩
        rcases hc.2 with h | h
        · rw [he] at h; cases h
        · exact h
      · exact h.elim
  | .arr k n g, y, h => by
    cases y <;> simp only [LP] at h <;> try exact h.elim
    split at h
    · rename_i hc
      obtain ⟨h1, h2⟩ := DY.1 h
      simp only [CI]
      exact ⟨Nat.eq_of_beq_eq_true hc, h1, λ i hi => CO _ _ (h2 i hi)⟩
    · exact h.elim
  | .anyB, y, h => by
    cases y <;> simp only [LP] at h <;> try exact h.elim
    simp only [CI]
  | .iface x c, y, h => by
    cases y <;> simp only [LP] at h <;> try exact h.elim
    split at h
    · rename_i hc
      simp only [CI]
      exact ⟨Nat.eq_of_beq_eq_true hc, CO _ _ h⟩
    · exact h.elim
  | .eref x c, y, h => by
    cases y <;> simp only [LP] at h <;> try exact h.elim
    split at h
    · rename_i hc
      simp only [CI]
      exact ⟨Nat.eq_of_beq_eq_true hc, CO _ _ h⟩
    · exact h.elim
theorem Nr : ∀ (x y : List DVal), BU (AEH x y) -> KQ x y
  | [], y, h => by cases y <;> simp only [AEH] at h <;> first | trivial | exact h.elim
  | x :: xs, y, h => by
    cases y <;> simp only [AEH] at h
    · exact h.elim
    · obtain ⟨h1, h2⟩ := CJ h
      simp only [KQ]
      exact ⟨CO _ _ h1, Nr _ _ h2⟩
end
abbrev Sr := Nat -> Option (Nat × Nat × (Nat -> DVal))
structure FrzRow (B' : KN) (ι : Nat -> Pl) (id k m : Nat) (get : Nat -> DVal) (c : Array Value) : Prop where
  at' : B' (ι id).b = some c
  len : m <= (ι id).cap
  size : (ι id).cap * k <= c.size
  ok : ∀ i, i < m -> EOk k (get i)
  rel : ∀ (i j : Nat) (x : DVal) (y : Value), i < m -> (get i).cells1[j]? = some x -> c[i * k + j]? = some y -> DRel B' x y
def Pg (B B' : KN) (ι : Nat -> Pl) (F : Sr) : Prop :=
  (∀ b c, B b = some c -> B' b = some c) /\ ∀ id k m get, F id = some (k, m, get) -> ∃ c, FrzRow B' ι id k m get c
mutual
def NE (F : Sr) : DVal -> AVal -> Option (List Prop)
  | x, .d y => LP x y
  | .list k n g e, .own id k' i n' => match F id with
    | some (k2, m, get) => if Nat.beq k k' && Nat.beq k k2 && !e then some [n = n', i + n' <= m, ∀ j, j < n -> BU (LP (g j) (get (i + j)))] else none
    | none => none
  | .agg xs, .agg ys => JU F xs ys
  | .tup xs, .tup ys => JU F xs ys
  | _, _ => none
def JU (F : Sr) : List DVal -> List AVal -> Option (List Prop)
  | [], [] => some []
  | x :: xs, y :: ys => Je (NE F x y) (JU F xs ys)
  | _, _ => none
end
theorem Mh {F : Sr} : ∀ {xs : List DVal} {ys : List AVal}, BU (JU F xs ys) -> xs.length = ys.length
  | [], [], _ => rfl
  | x :: xs, y :: ys, h => by simp only [JU] at h; simp [Mh (CJ h).2]
  | [], _ :: _, h => by simp only [JU] at h; exact h.elim
  | _ :: _, [], h => by simp only [JU] at h; exact h.elim
theorem Js {F : Sr} : ∀ {xs : List DVal} {ys : List AVal}, BU (JU F xs ys) -> ∀ {j : Nat} {x : DVal}, xs[j]? = some x -> ∃ y, ys[j]? = some y /\ BU (NE F x y)
  | [], [], _, j, x, hx => by simp at hx
  | a :: xs, b :: ys, h, 0, x, hx => by simp only [JU] at h; simp at hx; subst hx; exact ⟨b, rfl, (CJ h).1⟩
  | a :: xs, b :: ys, h, j + 1, x, hx => by
    simp only [JU] at h
    obtain ⟨y, hy, hs⟩ := Js (CJ h).2 (j := j) (by simpa using hx)
    exact ⟨y, by simpa using hy, hs⟩
  | [], _ :: _, h, _, _, _ => by simp only [JU] at h; exact h.elim
  | _ :: _, [], h, _, _, _ => by simp only [JU] at h; exact h.elim
theorem AWI {F : Sr} (hF : Pg B B' ι F) {k n : Nat} {g : Nat -> DVal} {id i n' m : Nat} {get : Nat -> DVal} {v : Value} (hf : F id = some (k, m, get)) (hn : n = n') (hm : i + n' <= m) (hg : ∀ j, j < n -> CI (g j) (get (i + j))) (hv : VRel B ι D (.own id k i n') v) : DRel B' (.list k n g false) v := by
  obtain ⟨c, hc⟩ := hF.2 id k m get hf
  subst hn
  cases hv with
  | own hD hcap hq =>
    rcases Nat.eq_zero_or_pos n with rfl | hp
    · exact .nil (λ h => by cases h) (.inr (by simp))
    · have hsz : ∀ j, j < n -> (i + j + 1) * k <= c.size := λ j hj => by
        have h1 : (i + j + 1) * k <= (ι id).cap * k := Nat.mul_le_mul_right k (by have := hc.len; omega)
        have := hc.size
        omega
      refine .list hp hc.at' hcap (λ h => by cases h) (λ j hj => tV (hg j hj) (hc.ok _ (by omega))) ?_ λ j l x y hj hx hy => ?_
      · have h1 : (i + n) * k <= (ι id).cap * k := Nat.mul_le_mul_right k (by have := hc.len; omega)
        have h2 : (i + n) * k = i * k + n * k := Nat.add_mul i n k
        have := hc.size
        omega
      · have e1 : (i + j) * k = i * k + j * k := Nat.add_mul i j k
        have e2 : (i + j + 1) * k = (i + j) * k + k := Nat.succ_mul _ k
        refine (qB (o := (i + j) * k) (hg j hj) (hc.ok _ (by omega)) (by have := hsz j hj; omega) (λ l x y hx hy => hc.rel (i + j) l x y (by omega) hx hy) (λ v hv => BW _ _ v (hg j hj) hv) l x y hx (by rw [e1]; exact hy))
mutual
theorem wM {F : Sr} (hF : Pg B B' ι F) : ∀ (x : DVal) (y : AVal) (v : Value), BU (NE F x y) -> VRel B ι D y v -> DRel B' x v
  | .v x, y, v, h, hv => by
    cases y <;> simp only [NE] at h <;> try exact h.elim
    exact (BW _ _ v (CO _ _ h) hv.d_inv).mono hF.1
  | .anyB, y, v, h, hv => by
    cases y <;> simp only [NE] at h <;> try exact h.elim
    exact (BW _ _ v (CO _ _ h) hv.d_inv).mono hF.1
  | .iface x c, y, v, h, hv => by
    cases y <;> simp only [NE] at h <;> try exact h.elim
    exact (BW _ _ v (CO _ _ h) hv.d_inv).mono hF.1
  | .eref x c, y, v, h, hv => by
    cases y <;> simp only [NE] at h <;> try exact h.elim
    exact (BW _ _ v (CO _ _ h) hv.d_inv).mono hF.1
  | .arr k n g, y, v, h, hv => by
    cases y <;> simp only [NE] at h <;> try exact h.elim
    exact (BW _ _ v (CO _ _ h) hv.d_inv).mono hF.1
  | .list k n g e, y, v, h, hv => by
    cases y <;> simp only [NE] at h <;> try exact h.elim
    · exact (BW _ _ v (CO _ _ h) hv.d_inv).mono hF.1
    · split at h
      · rename_i k2 m get hf
        split at h
        · rename_i hc
          simp only [Bool.and_eq_true, DD, Bool.not_eq_true'] at hc
          obtain ⟨⟨rfl, rfl⟩, rfl⟩ := hc
          obtain ⟨h1, h2⟩ := DY.1 h
          obtain ⟨h2, h3⟩ := DY.1 h2
          exact AWI hF hf h1 h2 (λ j hj => CO _ _ (h3 j hj)) hv
        · exact h.elim
      · exact h.elim
  | .agg xs, y, v, h, hv => by
    cases y <;> simp only [NE] at h <;> try exact h.elim
    · exact (BW _ _ v (CO _ _ h) hv.d_inv).mono hF.1
    · cases hv with
      | agg hl hr =>
        exact .agg (by rw [hl, Mh h]) λ j x z hx hz => by
          obtain ⟨y, hy, hs⟩ := Js h hx
          exact WC hF xs j x y z hx hs (hr j y z hy hz)
  | .tup xs, y, v, h, hv => by
    cases y <;> simp only [NE] at h <;> try exact h.elim
    · exact (BW _ _ v (CO _ _ h) hv.d_inv).mono hF.1
    · cases hv with
      | tup hl hr =>
        exact .tup (by rw [hl, Mh h]) λ j x z hx hz => by
          obtain ⟨y, hy, hs⟩ := Js h hx
          exact WC hF xs j x y z hx hs (hr j y z hy hz)
theorem WC {F : Sr} (hF : Pg B B' ι F) : ∀ (l : List DVal) (j : Nat) (x : DVal) (y : AVal) (v : Value), l[j]? = some x -> BU (NE F x y) -> VRel B ι D y v -> DRel B' x v
  | [], j, x, y, v, hx, _, _ => by simp at hx
  | a :: l, 0, x, y, v, hx, h, hv => by simp at hx; subst hx; exact wM hF a y v h hv
  | a :: l, j + 1, x, y, v, hx, h, hv => WC hF l j x y v (by simpa using hx) h hv
end
def CER : Fn -> Fn -> Option (List Prop)
  | .func a, .func b => if Nat.beq a b then some [] else none
  | f, g => some [f = g]
theorem BRS {f g : Fn} (h : BU (CER f g)) : f = g := by
  unfold CER at h
  split at h
  · split at h
    · rename_i hb; rw [Nat.eq_of_beq_eq_true hb]
    · exact h.elim
  · exact h
mutual
def LB (F : Sr) (ρ : Nat -> Nat) (p : Nat -> Bool) : AVal -> AVal -> Option (List Prop)
  | .any, _ => some []
  | .d x, y => NE F x y
  | .agg xs, .agg ys => FB F ρ p xs ys
  | .agg xs, .d (.agg ys) => FB F ρ p xs (ys.map .d)
  | .tup xs, .tup ys => FB F ρ p xs ys
  | .tup xs, .d (.tup ys) => FB F ρ p xs (ys.map .d)
  | .bptr i c, .bptr j d => if Nat.beq j (ρ i) && p i && Nat.beq c d then some [] else none
  | .rptr i k e c, .rptr j k' e' c' => if Nat.beq j (ρ i) && p i && Nat.beq k k' && Nat.beq c c' then some [e = e'] else none
  | .own i k e n, .own j k' e' n' => if Nat.beq j (ρ i) && p i && Nat.beq k k' then some [e = e', n = n'] else none
  | .fn f a b, .fn g c d => Je (CER f g) (Je (FB F ρ p a c) (FB F ρ p b d))
  | .mref i, .mref j => if Nat.beq j (ρ i) && p i then some [] else none
  | .opt g a, .opt h b => Je (some [g = h]) (LB F ρ p a b)
  | _, _ => none
def FB (F : Sr) (ρ : Nat -> Nat) (p : Nat -> Bool) : List AVal -> List AVal -> Option (List Prop)
  | [], [] => some []
  | x :: xs, y :: ys => Je (LB F ρ p x y) (FB F ρ p xs ys)
  | _, _ => none
end
theorem HY {F : Sr} {ρ : Nat -> Nat} {p : Nat -> Bool} : ∀ {xs ys : List AVal}, BU (FB F ρ p xs ys) -> xs.length = ys.length
  | [], [], _ => rfl
  | x :: xs, y :: ys, h => by simp only [FB] at h; simp [HY (CJ h).2]
  | [], _ :: _, h => by simp only [FB] at h; exact h.elim
  | _ :: _, [], h => by simp only [FB] at h; exact h.elim
theorem HT {F : Sr} {ρ : Nat -> Nat} {p : Nat -> Bool} : ∀ {xs ys : List AVal}, BU (FB F ρ p xs ys) -> ∀ {j : Nat} {x : AVal}, xs[j]? = some x -> ∃ y, ys[j]? = some y /\ BU (LB F ρ p x y)
  | [], [], _, j, x, hx => by simp at hx
  | a :: xs, b :: ys, h, 0, x, hx => by simp only [FB] at h; simp at hx; subst hx; exact ⟨b, rfl, (CJ h).1⟩
  | a :: xs, b :: ys, h, j + 1, x, hx => by
    simp only [FB] at h
    obtain ⟨y, hy, hs⟩ := HT (CJ h).2 (j := j) (by simpa using hx)
    exact ⟨y, by simpa using hy, hs⟩
  | [], _ :: _, h, _, _, _ => by simp only [FB] at h; exact h.elim
  | _ :: _, [], h, _, _, _ => by simp only [FB] at h; exact h.elim
theorem COA {ys : List DVal} {v : Value} (h : DRel B (.agg ys) v) : VRel B ι D (.agg (ys.map .d)) v := by
  cases h with
  | agg hl hr =>
    refine .agg (by simp [hl]) λ j x z hx hz => ?_
    rw [List.getElem?_map] at hx
    obtain ⟨x', h1, rfl⟩ := Option.map_eq_some_iff.1 hx
    exact .d (hr j x' z h1 hz)
theorem CJL {ys : List DVal} {v : Value} (h : DRel B (.tup ys) v) : VRel B ι D (.tup (ys.map .d)) v := by
  cases h with
  | tup hl hr =>
    refine .tup (by simp [hl]) λ j x z hx hz => ?_
    rw [List.getElem?_map] at hx
    obtain ⟨x', h1, rfl⟩ := Option.map_eq_some_iff.1 hx
    exact .d (hr j x' z h1 hz)
mutual
theorem PD {F : Sr} (hF : Pg B B' ι F) {ρ : Nat -> Nat} {p : Nat -> Bool} {D' : Nat -> Prop} (hp : ∀ i, p i = true -> D' i) : ∀ (x y : AVal) (v : Value), BU (LB F ρ p x y) -> VRel B ι D y v -> VRel B' (λ i => ι (ρ i)) D' x v
  | .any, _, _, _, _ => .any
  | .d x, y, v, h, hv => .d (wM hF x y v (by simpa only [LB] using h) hv)
  | .agg xs, y, v, h, hv => by
    have fin : ∀ ys : List AVal, BU (FB F ρ p xs ys) -> VRel B ι D (.agg ys) v -> VRel B' (λ i => ι (ρ i)) D' (.agg xs) v := λ ys h hv => by
      cases hv with
      | agg hl hr =>
        exact .agg (by rw [hl, HY h]) λ j x z hx hz => by
          obtain ⟨y, hy, hs⟩ := HT h hx
          exact ID hF hp xs j x y z hx hs (hr j y z hy hz)
    cases y <;> (try simp only [LB] at h) <;> try exact h.elim
    · rename_i x
      cases x <;> (try simp only [LB] at h) <;> try exact h.elim
      exact fin _ h (COA hv.d_inv)
    · exact fin _ h hv
  | .tup xs, y, v, h, hv => by
    have fin : ∀ ys : List AVal, BU (FB F ρ p xs ys) -> VRel B ι D (.tup ys) v -> VRel B' (λ i => ι (ρ i)) D' (.tup xs) v := λ ys h hv => by
      cases hv with
      | tup hl hr =>
        exact .tup (by rw [hl, HY h]) λ j x z hx hz => by
          obtain ⟨y, hy, hs⟩ := HT h hx
          exact ID hF hp xs j x y z hx hs (hr j y z hy hz)
    cases y <;> (try simp only [LB] at h) <;> try exact h.elim
    · rename_i x
      cases x <;> (try simp only [LB] at h) <;> try exact h.elim
      exact fin _ h (CJL hv.d_inv)
    · exact fin _ h hv
  | .bptr i c, y, v, h, hv => by
    cases y <;> simp only [LB] at h <;> try exact h.elim
    split at h
    · rename_i hc
      simp only [Bool.and_eq_true, DD] at hc
      obtain ⟨⟨rfl, h2⟩, rfl⟩ := hc
      cases hv; exact VRel.bptr (ι := λ i => ι (ρ i)) (hp _ h2)
    · exact h.elim
  | .rptr i k e c, y, v, h, hv => by
    cases y <;> simp only [LB] at h <;> try exact h.elim
    split at h
    · rename_i hc
      simp only [Bool.and_eq_true, DD] at hc
      obtain ⟨⟨⟨rfl, h2⟩, rfl⟩, rfl⟩ := hc
      have h : e = _ := h
      subst h
      cases hv; exact VRel.rptr (ι := λ i => ι (ρ i)) (hp _ h2)
    · exact h.elim
  | .own i k e n, y, v, h, hv => by
    cases y <;> simp only [LB] at h <;> try exact h.elim
    split at h
    · rename_i hc
      simp only [Bool.and_eq_true, DD] at hc
      obtain ⟨⟨rfl, h2⟩, rfl⟩ := hc
      obtain ⟨h3, h4⟩ := DY.1 h
      have h4 : n = _ := h4
      subst h3; subst h4
      cases hv with
      | own _ h3 h4 => exact VRel.own (ι := λ i => ι (ρ i)) (hp _ h2) h3 h4
    · exact h.elim
  | .fn f a b, y, v, h, hv => by
    cases y <;> simp only [LB] at h <;> try exact h.elim
    obtain ⟨h1, h2⟩ := CJ h
    obtain ⟨h2, h3⟩ := CJ h2
    have h1 := BRS h1
    subst h1
    cases hv with
    | fn h4 h5 h6 h7 =>
      exact .fn (by rw [h4, HY h2]) (by rw [h5, HY h3])
        (λ j x z hx hz => by
          obtain ⟨y, hy, hs⟩ := HT h2 hx
          exact ID hF hp a j x y z hx hs (h6 j y z hy hz))
        λ j x z hx hz => by
          obtain ⟨y, hy, hs⟩ := HT h3 hx
          exact ID hF hp b j x y z hx hs (h7 j y z hy hz)
  | .mref i, y, v, h, hv => by
    cases y <;> simp only [LB] at h <;> try exact h.elim
    split at h
    · rename_i hc
      simp only [Bool.and_eq_true, DD] at hc
      obtain ⟨rfl, h2⟩ := hc
      cases hv; exact VRel.mref (ι := λ i => ι (ρ i)) (hp _ h2)
    · exact h.elim
  | .opt g a, y, v, h, hv => by
    cases y <;> simp only [LB] at h <;> try exact h.elim
    obtain ⟨h1, h2⟩ := CJ h
    have h1 : g = _ := h1
    subst h1
    cases hv with
    | opt h3 h4 => exact .opt (λ hg => PD hF hp a _ v h2 (h3 hg)) h4
theorem ID {F : Sr} (hF : Pg B B' ι F) {ρ : Nat -> Nat} {p : Nat -> Bool} {D' : Nat -> Prop} (hp : ∀ i, p i = true -> D' i) : ∀ (l : List AVal) (j : Nat) (x y : AVal) (v : Value), l[j]? = some x -> BU (LB F ρ p x y) -> VRel B ι D y v -> VRel B' (λ i => ι (ρ i)) D' x v
  | [], j, x, y, v, hx, _, _ => by simp at hx
  | a :: l, 0, x, y, v, hx, h, hv => by simp at hx; subst hx; exact PD hF hp a y v h hv
  | a :: l, j + 1, x, y, v, hx, h, hv => ID hF hp l j x y v (by simpa using hx) h hv
end
def Cj (F : Sr) (ρ : Nat -> Nat) (p : Nat -> Bool) : AObj -> AObj -> Option (List Prop)
  | .row k n g, .row k' n' g' => if Nat.beq k k' then some [n = n', ∀ i, i < n -> BU (LP (g i) (g' i))] else none
  | .box es, .box es' => FB F ρ p es es'
  | .imap q z h g s none, .imap q' z' h' g' s' none => if q = q' then some [z = z', ∀ n, h n = h' n, ∀ n, s n = s' n, ∀ n, BU (LP (g n) (g' n))] else none
  | _, _ => none
theorem VU {F : Sr} (hF : Pg B B' ι F) {ρ : Nat -> Nat} {p : Nat -> Bool} {D' : Nat -> Prop} (hp : ∀ i, p i = true -> D' i) {q : Nat} {a b : AObj} {x : Option Obj} (h : BU (Cj F ρ p a b)) (hb : ORel B ι D q b x) : ORel B' (λ i => ι (ρ i)) D' q a x := by
  cases a with
  | row k n g =>
    cases b <;> simp only [Cj] at h <;> try exact h.elim
    split at h
    · rename_i hc
      obtain ⟨h1, h2⟩ := DY.1 h
      have hs : osub ρ p (.row k n g) (.row _ _ _) := ⟨Nat.eq_of_beq_eq_true hc, h1, λ i hi => CO _ _ (h2 i hi)⟩
      exact (lD hp hs hb).mono hF.1 λ i hi => ⟨hi, rfl⟩
    · exact h.elim
  | box es =>
    cases b <;> simp only [Cj] at h <;> try exact h.elim
    cases hb with
    | box hsz hr =>
      exact .box (by rw [hsz, HY h]) λ j x z hx hz => by
        obtain ⟨y, hy, hs⟩ := HT h hx
        exact ID hF hp es j x y z hx hs (hr j y z hy hz)
  | imap q z hs g st pend =>
    cases pend with
    | some x => cases b <;> simp only [Cj] at h <;> exact h.elim
    | none =>
    cases b <;> try (simp only [Cj] at h; exact h.elim)
    rename_i q' z' hs' g' st' pend'
    cases pend' with
    | some x => simp only [Cj] at h; exact h.elim
    | none =>
    simp only [Cj] at h
    split at h
    · rename_i hc
      obtain ⟨h1, h3⟩ := DY.1 h
      obtain ⟨h3, h4⟩ := DY.1 h3
      obtain ⟨h4, h5⟩ := DY.1 h4
      have hs : osub ρ p (.imap q z hs g st none) (.imap _ _ _ _ _ _) := ⟨hc, h1, rfl, h3, h4, λ n => CO _ _ (h5 n)⟩
      exact (lD hp hs hb).mono hF.1 λ i hi => ⟨hi, rfl⟩
    · exact h.elim
def BQ (H : Heap) : List Nat -> Heap
  | [] => H
  | id :: r => match H id with
    | .live (.row _ _ _) => BQ (CB H id .dead) r
    | _ => BQ H r
def FC (H : Heap) (ids : List Nat) : Sr := λ id => if ids.contains id then match H id with
    | .live (.row k m get) => some (k, m, get)
    | _ => none
  else none
theorem HS : ∀ (ids : List Nat) {B : KN} {H : Heap}, HRel B ι H w -> ∃ B', Moved B ι H w B' ι (BQ H ids) w /\ Pg B B' ι (FC H ids)
  | [], B, H, h => ⟨B, Moved.refl h, λ _ _ h => h, λ id k m get hf => by simp [FC] at hf⟩
  | id :: r, B, H, h => by
    simp only [BQ]
    split
    · rename_i k m get hid
      obtain ⟨c, e, h1, h2, h3, h4, h5, h6⟩ := Moved.freeze h hid
      obtain ⟨B', h7, h8⟩ := HS r h2.heap
      refine ⟨B', h2.trans h7, λ b c hb => h8.1 b c (h2.bm b c hb), λ id' k' m' get' hf => ?_⟩
      by_cases he : id' = id
      · subst he
        simp only [FC, List.contains_cons, beq_self_eq_true, Bool.true_or, if_true, hid, Option.some.injEq, Prod.mk.injEq] at hf
        obtain ⟨rfl, rfl, rfl⟩ := hf
        exact ⟨c, h8.1 _ _ (by simp), h3, h4, h5, λ i j x y hi hx hy => (h6 i j x y hi hx hy).mono λ b c hb => h8.1 b c (h2.bm b c hb)⟩
      · refine h8.2 id' k' m' get' ?_
        have e1 : (id' == id) = false := by simpa using he
        simp only [FC, List.contains_cons, e1, Bool.false_or] at hf
        simp only [FC, DE _ _ he]
        exact hf
    · rename_i hn
      obtain ⟨B', h7, h8⟩ := HS r h
      refine ⟨B', h7, h8.1, λ id' k' m' get' hf => ?_⟩
      by_cases he : id' = id
      · subst he
        simp only [FC, List.contains_cons, beq_self_eq_true, Bool.true_or, if_true] at hf
        first | cases hf | (split at hf; (rename_i hq; exact (hn _ _ _ hq).elim); cases hf)
      · refine h8.2 id' k' m' get' ?_
        have e1 : (id' == id) = false := by simpa using he
        simp only [FC, List.contains_cons, e1, Bool.false_or] at hf
        exact hf
theorem NA : ∀ (ids : List Nat) {H : Heap} {i : Nat} {o : AObj}, BQ H ids i = .live o -> H i = .live o
  | [], _, _, _, h => h
  | id :: r, H, i, o, h => by
    have key : ∀ H', (H' = H ∨ H' = CB H id .dead) -> BQ H' r i = .live o -> H i = .live o := λ H' hH h => by
      have := NA r h
      rcases hH with rfl | rfl
      · exact this
      · by_cases he : i = id
        · subst he; rw [DG] at this; cases this
        · rwa [DE _ _ he] at this
    simp only [BQ] at h
    cases hq : H id with
    | live o' => cases o' with
      | row => simp only [hq] at h; exact key _ (.inr rfl) h
      | _ => simp only [hq] at h; exact key _ (.inl rfl) h
    | _ => simp only [hq] at h; exact key _ (.inl rfl) h
def AGC (F : Sr) (ρ : Nat -> Nat) (p : Nat -> Bool) : HCell -> HCell -> Option (List Prop)
  | .live o, .live o' => Cj F ρ p o o'
  | .dead, .live _ => some []
  | .dead, .dead => some []
  | _, _ => none
def BSA (F : Sr) (ρ : Nat -> Nat) (p : Nat -> Bool) (sl : Nat -> AVal) : List (Nat × AVal) -> Option (List Prop)
  | [] => some []
  | (t, v) :: r => Je (LB F ρ p v (sl t)) (BSA F ρ p sl r)
def CGH (F : Sr) (ρ : Nat -> Nat) (p : Nat -> Bool) (H : Heap) : List (Nat × HCell) -> Option (List Prop)
  | [] => some []
  | (i, c) :: r => Je (AGC F ρ p c (H (ρ i))) (CGH F ρ p H r)
theorem AKN {F : Sr} {ρ : Nat -> Nat} {p : Nat -> Bool} {sl : Nat -> AVal} : ∀ {l : List (Nat × AVal)}, BU (BSA F ρ p sl l) -> ∀ t, BU (LB F ρ p (DT l t) (sl t))
  | [], _, t => by simp only [DT, LB]; trivial
  | (j, v) :: r, h, t => by
    obtain ⟨h1, h2⟩ := CJ h
    simp only [DT]
    split
    · rename_i e; subst e; exact h1
    · exact AKN h2 t
theorem ADJ {F : Sr} {ρ : Nat -> Nat} {p : Nat -> Bool} {H : Heap} : ∀ {l : List (Nat × HCell)}, BU (CGH F ρ p H l) -> ∀ {i : Nat} {c : HCell}, (i, c) ∈ l -> BU (AGC F ρ p c (H (ρ i)))
  | [], _, i, c, h => by cases h
  | (j, d) :: r, h, i, c, hm => by
    obtain ⟨h1, h2⟩ := CJ h
    rcases List.mem_cons.1 hm with hm | hm
    · cases hm; exact h1
    · exact ADJ h2 hm
def LI (E : List Nat) (fz : List Nat) (l : List (Nat × Nat)) (s : ST) (σ : AState) : Option (List Prop) :=
  if (nodup (s.H.map λ x => DO l x.1) && E.all λ i => Nat.beq (DO l i) i && (IR s.H i).isSome) then
    Je (BSA (FC σ.H fz) (DO l) (λ i => (IR s.H i).isSome) σ.sl s.sl) (CGH (FC σ.H fz) (DO l) (λ i => (IR s.H i).isSome) (BQ σ.H fz) s.H)
  else none
theorem Moved.subF {B0 : KN} {ι0 : Nat -> Pl} {H0 : Heap} {w0 : World} {E fz : List Nat} {l : List (Nat × Nat)} {s : ST} {sl : Nat -> AVal} (hE : ∀ i, H0.dom i -> i ∈ E) (h : BU (LI E fz l s ⟨sl, H⟩)) (hm0 : Moved B0 ι0 H0 w0 B ι H w) :
    ∃ B', Moved B0 ι0 H0 w0 B' (λ i => ι (DO l i)) (YE s.H) w /\ (∀ t v, VRel B ι H.dom (sl t) v -> VRel B' (λ i => ι (DO l i)) (YE s.H).dom (DT s.sl t) v) /\ (∀ i o, YE s.H i = .live o -> ∃ o', H (DO l i) = .live o') /\
      (∀ b c, B b = some c -> B' b = some c) /\ ∀ i ∈ E, (YE s.H).dom i /\ DO l i = i := by
  unfold LI at h
  split at h
  case isFalse => exact h.elim
  rename_i h3
  obtain ⟨h1, h2⟩ := CJ h
  simp only [Bool.and_eq_true, List.all_eq_true, DD] at h3
  obtain ⟨h3, h4⟩ := h3
  have hnd := GQ h3
  obtain ⟨B', hk, hF⟩ := HS fz hm0.heap
  have hm := hm0.trans hk
  have hdom : ∀ i, (λ i => (IR s.H i).isSome) i = true -> (YE s.H).dom i := λ i hi => by
    obtain ⟨d, hd⟩ := Option.isSome_iff_exists.1 hi
    have := ADJ h2 (HE hd)
    unfold Heap.dom
    show (IR s.H i).getD .none ≠ .none
    rw [hd]
    intro he
    simp at he; subst he
    simp only [AGC] at this; exact this
  have live : ∀ i o, YE s.H i = .live o -> (i, .live o) ∈ s.H /\ ∃ o', BQ H fz (DO l i) = .live o' /\ BU (Cj (FC H fz) (DO l) (λ i => (IR s.H i).isSome) o o') := λ i o hi => by
    have hg : IR s.H i = some (.live o) := by
      have : (IR s.H i).getD .none = .live o := hi
      cases hq : IR s.H i with
      | none => rw [hq] at this; cases this
      | some d => rw [hq] at this; simpa using this
    have hm := HE hg
    have := ADJ h2 hm
    refine ⟨hm, ?_⟩
    cases hq : BQ H fz (DO l i) with
    | live o' => rw [hq] at this; exact ⟨o', rfl, this⟩
    | none => rw [hq] at this; simp only [AGC] at this; exact this.elim
    | dead => rw [hq] at this; simp only [AGC] at this; exact this.elim
  refine ⟨B', ?_, λ t v hv => PD hF hdom _ _ _ (AKN h1 t) hv, λ i o hi => by obtain ⟨_, o', ho, _⟩ := live i o hi; exact ⟨o', NA fz ho⟩, hF.1, λ i hi => ⟨hdom i (h4 i hi).2, (h4 i hi).1⟩⟩
  refine ⟨hm.bm, hm.bn, λ i hi => ?_, ⟨λ i o hi => ?_, λ i j o o' hi hj hij => ?_, λ i o hi => ?_, hm.heap.imm⟩, λ i o hi => ?_, hm.frame, hm.size, hm.calm⟩
  · obtain ⟨h5, h6⟩ := h4 i (hE i hi)
    exact ⟨hdom i h6, by show ι (DO l i) = _; rw [h5]; exact (hm.im i hi).2⟩
  · obtain ⟨_, o', ho, hs⟩ := live i o hi
    exact VU hF hdom hs (hm0.heap.obj _ _ (NA fz ho))
  · obtain ⟨m1, o1, ho1, _⟩ := live i o hi
    obtain ⟨m2, o2, ho2, _⟩ := live j o' hj
    exact (cV hnd m1 m2 (hm.heap.inj _ _ _ _ ho1 ho2 hij)).1
  · obtain ⟨_, o', ho, _⟩ := live i o hi
    exact hm.heap.sep _ _ ho
  · obtain ⟨_, o', ho, _⟩ := live i o hi
    exact hm.own _ _ ho
theorem Rel.subF {c : Ctx} {E fz : List Nat} {l : List (Nat × Nat)} {s : ST} {σ : AState} {a : Act} (hE : ∀ i, c.H0.dom i -> i ∈ E) (h : BU (LI E fz l s σ)) (hR : Rel c B ι σ a w) : ∃ B', Rel c B' (λ i => ι (DO l i)) s.st a w := by
  obtain ⟨B', h1, h2, h3, _⟩ := Moved.subF hE h hR.mv
  obtain ⟨Ds, d1, d0, d2, d3⟩ := hR.defers
  refine ⟨B', λ t => h2 t _ (hR.slots t), hR.size, ⟨Ds, d1, d0, d2, λ D hD => ⟨(d3 D hD).1, (d3 D hD).2.here, λ i o hi => ?_⟩⟩, h1⟩
  obtain ⟨o', ho⟩ := h3 i o hi
  exact (d3 D hD).2.sep _ _ ho
theorem CodeE.subF {c : Ctx} {E fz : List Nat} {l : List (Nat × Nat)} {s : ST} {σ : AState} {code : Code} {Q : Exit -> AState -> Prop} (hE : ∀ i, c.H0.dom i -> i ∈ E) (hs : BU (LI E fz l s σ)) (h : CodeE P c code Q s.st) : CodeE P c code Q σ :=
  λ _ _ a w hR => let ⟨B', hR'⟩ := Rel.subF hE hs hR; h B' _ a w hR'
def andK : List Prop -> Prop -> Prop
  | [], K => K
  | l, K => BK l /\ K
theorem GC {l : List Prop} {K : Prop} (h : andK l K) : BK l /\ K := by
  cases l with
  | nil => exact ⟨trivial, h⟩
  | cons => exact h
def BTY : Option (List Prop) -> Prop -> Prop
  | some l, K => andK l K
  | none, _ => False
theorem lL {l : Option (List Prop)} {K : Prop} (h : BTY l K) : BU l /\ K := by
  cases l with
  | none => exact h.elim
  | some l => exact GC h
end Go.Sym
