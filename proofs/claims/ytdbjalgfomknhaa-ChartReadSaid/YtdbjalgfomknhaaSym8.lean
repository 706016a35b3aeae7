/- When a state tells less than another: a list of conditions on scalars. -/
import Derived.Test.YtdbjalgfomknhaaSym7
set_option linter.unusedVariables false
set_option linter.unusedSimpArgs false
namespace Go.Sym
variable {P : Program} {B B' : Cm} {ι ι' : Nat -> Pl} {H H' : Heap} {D : Nat -> Prop} {w w' : World}
theorem LA {a b : Nat} : (Nat.beq a b = true) = (a = b) := propext ⟨Nat.eq_of_beq_eq_true, λ h => by subst h; exact Nat.beq_refl a⟩
def HG : Option (List Prop) -> Prop
  | some l => DO l
  | none => False
def fV : Option (List Prop) -> Option (List Prop) -> Option (List Prop)
  | some l, some m => some (l ++ m)
  | _, _ => none
def BFG : Value -> Value -> Option (List Prop)
  | .int k a, .int k' b => if k = k' then some [a = b] else none
  | .bool a, .bool b => some [a = b]
  | .string a, .string b => some [a = b]
  | x, y => some [x = y]
theorem HY {a b : Option (List Prop)} (h : HG (fV a b)) : HG a /\ HG b := by
  cases a with
  | none => exact h.elim
  | some l => cases b with
    | none => exact h.elim
    | some m => exact BW h
theorem AYV (x : Value) : vEq x x := by
  unfold vEq; split <;> simp_all
theorem AUR {x y : Value} (h : HG (BFG x y)) : vEq x y := by
  unfold BFG at h
  split at h
  · split at h
    · rename_i hk; exact ⟨hk, h⟩
    · exact h.elim
  · exact h
  · exact h
  · have h : x = y := h
    subst h
    exact AYV x
mutual
def Hs : DVal -> DVal -> Option (List Prop)
  | .v x, .v y => BFG x y
  | .agg xs, .agg ys => N5 xs ys
  | .tup xs, .tup ys => N5 xs ys
  | .list k n g e, .list k' n' g' e' => if Nat.beq k k' && (!e || e') then some [n = n', ∀ i, i < n -> HG (Hs (g i) (g' i))] else if (Nat.beq k' 0 || Nat.beq k 0) && (!e || e') then some [n = n', n = 0] else none
  | .arr k n g, .arr k' n' g' => if Nat.beq k k' then some [n = n', ∀ i, i < n -> HG (Hs (g i) (g' i))] else none
  | .eref x c, .eref y d => if Nat.beq c d then Hs x y else none
  | .iface t x, .iface u y => if Nat.beq t u then Hs x y else none
  | .anyB, .anyB => some []
  | _, _ => none
def N5 : List DVal -> List DVal -> Option (List Prop)
  | [], [] => some []
  | x :: xs, y :: ys => fV (Hs x y) (N5 xs ys)
  | _, _ => none
end
mutual
theorem JC : ∀ (x y : DVal), HG (Hs x y) -> IK x y
  | .v x, y, h => by cases y <;> simp only [Hs] at h <;> first | exact (by simp only [IK]; exact AUR h) | exact h.elim
  | .agg xs, y, h => by cases y <;> simp only [Hs] at h <;> first | exact (by simp only [IK]; exact oB _ _ h) | exact h.elim
  | .tup xs, y, h => by cases y <;> simp only [Hs] at h <;> first | exact (by simp only [IK]; exact oB _ _ h) | exact h.elim
  | .list k n g e, y, h => by
    cases y <;> simp only [Hs] at h <;> try exact h.elim
    split at h
    · rename_i hc
      simp only [Bool.and_eq_true, LA, Bool.or_eq_true, Bool.not_eq_true'] at hc
      obtain ⟨h1, h2⟩ := LF.1 h
      simp only [IK]
      refine ⟨.inl hc.1, h1, λ he => ?_, λ i hi => JC _ _ (h2 i hi)⟩
      rcases hc.2 with h | h
      · rw [he] at h; cases h
      · exact h
    · split at h
      · rename_i hc
        simp only [Bool.and_eq_true, LA, Bool.or_eq_true, Bool.not_eq_true'] at hc
        obtain ⟨h1, h2⟩ := LF.1 h
        have h2 : n = 0 := h2
        simp only [IK]
        refine ⟨.inr h2, h1, λ he => ?_, λ i hi => by omega⟩
        rcases hc.2 with h | h
        · rw [he] at h; cases h
        · exact h
      · exact h.elim
  | .arr k n g, y, h => by
    cases y <;> simp only [Hs] at h <;> try exact h.elim
    split at h
    · rename_i hc
      obtain ⟨h1, h2⟩ := LF.1 h
      simp only [IK]
      exact ⟨Nat.eq_of_beq_eq_true hc, h1, λ i hi => JC _ _ (h2 i hi)⟩
    · exact h.elim
  | .anyB, y, h => by
    cases y <;> simp only [Hs] at h <;> try exact h.elim
    simp only [IK]
  | .iface x c, y, h => by
    cases y <;> simp only [Hs] at h <;> try exact h.elim
    split at h
    · rename_i hc
      simp only [IK]
      exact ⟨Nat.eq_of_beq_eq_true hc, JC _ _ h⟩
    · exact h.elim
  | .eref x c, y, h => by
    cases y <;> simp only [Hs] at h <;> try exact h.elim
    split at h
    · rename_i hc
      simp only [IK]
      exact ⟨Nat.eq_of_beq_eq_true hc, JC _ _ h⟩
    · exact h.elim
theorem oB : ∀ (x y : List DVal), HG (N5 x y) -> Dt x y
  | [], y, h => by cases y <;> simp only [N5] at h <;> first | trivial | exact h.elim
  | x :: xs, y, h => by
    cases y <;> simp only [N5] at h
    · exact h.elim
    · obtain ⟨h1, h2⟩ := HY h
      simp only [Dt]
      exact ⟨JC _ _ h1, oB _ _ h2⟩
end
abbrev vU := Nat -> Option (Nat × Nat × (Nat -> DVal))
structure FrzRow (B' : Cm) (ι : Nat -> Pl) (id k m : Nat) (get : Nat -> DVal) (c : Array Value) : Prop where
  at' : B' (ι id).b = some c
  len : m <= (ι id).cap
  size : (ι id).cap * k <= c.size
  ok : ∀ i, i < m -> EOk k (get i)
  rel : ∀ (i j : Nat) (x : DVal) (y : Value), i < m -> (get i).cells1[j]? = some x -> c[i * k + j]? = some y -> DRel B' x y
def pE (B B' : Cm) (ι : Nat -> Pl) (F : vU) : Prop :=
  (∀ b c, B b = some c -> B' b = some c) /\ ∀ id k m get, F id = some (k, m, get) -> ∃ c, FrzRow B' ι id k m get c
mutual
def Ih (F : vU) : DVal -> AVal -> Option (List Prop)
  | x, .d y => Hs x y
  | .list k n g e, .own id k' i n' => match F id with
    | some (k2, m, get) => if Nat.beq k k' && Nat.beq k k2 && !e then some [n = n', i + n' <= m, ∀ j, j < n -> HG (Hs (g j) (get (i + j)))] else none
    | none => none
  | .agg xs, .agg ys => Bh F xs ys
  | .tup xs, .tup ys => Bh F xs ys
  | _, _ => none
def Bh (F : vU) : List DVal -> List AVal -> Option (List Prop)
  | [], [] => some []
  | x :: xs, y :: ys => fV (Ih F x y) (Bh F xs ys)
  | _, _ => none
end
theorem jE {F : vU} : ∀ {xs : List DVal} {ys : List AVal}, HG (Bh F xs ys) -> xs.length = ys.length
  | [], [], _ => rfl
  | x :: xs, y :: ys, h => by simp only [Bh] at h; simp [jE (HY h).2]
  | [], _ :: _, h => by simp only [Bh] at h; exact h.elim
  | _ :: _, [], h => by simp only [Bh] at h; exact h.elim
theorem nZ {F : vU} : ∀ {xs : List DVal} {ys : List AVal}, HG (Bh F xs ys) -> ∀ {j : Nat} {x : DVal}, xs[j]? = some x -> ∃ y, ys[j]? = some y /\ HG (Ih F x y)
  | [], [], _, j, x, hx => by simp at hx
  | a :: xs, b :: ys, h, 0, x, hx => by simp only [Bh] at h; simp at hx; subst hx; exact ⟨b, rfl, (HY h).1⟩
  | a :: xs, b :: ys, h, j + 1, x, hx => by
    simp only [Bh] at h
    obtain ⟨y, hy, hs⟩ := nZ (HY h).2 (j := j) (by simpa using hx)
    exact ⟨y, by simpa using hy, hs⟩
  | [], _ :: _, h, _, _, _ => by simp only [Bh] at h; exact h.elim
  | _ :: _, [], h, _, _, _ => by simp only [Bh] at h; exact h.elim
theorem AEI {F : vU} (hF : pE B B' ι F) {k n : Nat} {g : Nat -> DVal} {id i n' m : Nat} {get : Nat -> DVal} {v : Value} (hf : F id = some (k, m, get)) (hn : n = n') (hm : i + n' <= m) (hg : ∀ j, j < n -> IK (g j) (get (i + j))) (hv : VRel B ι D (.own id k i n') v) : DRel B' (.list k n g false) v := by
  obtain ⟨c, hc⟩ := hF.2 id k m get hf
  subst hn
  cases hv with
  | own hD hcap hq =>
    rcases Nat.eq_zero_or_pos n with rfl | hp
    · exact .nil (λ h => by cases h) (.inr (by simp))
    · have hsz : ∀ j, j < n -> (i + j + 1) * k <= c.size := λ j hj => by
        have h1 : (i + j + 1) * k <= (ι id).cap * k := Nat.mul_le_mul_right k (by have := hc.len; omega)
        have := hc.size
        omega
      refine .list hp hc.at' hcap (λ h => by cases h) (λ j hj => M6 (hg j hj) (hc.ok _ (by omega))) ?_ λ j l x y hj hx hy => ?_
      · have h1 : (i + n) * k <= (ι id).cap * k := Nat.mul_le_mul_right k (by have := hc.len; omega)
        have h2 : (i + n) * k = i * k + n * k := Nat.add_mul i n k
        have := hc.size
        omega
      · have e1 : (i + j) * k = i * k + j * k := Nat.add_mul i j k
        have e2 : (i + j + 1) * k = (i + j) * k + k := Nat.succ_mul _ k
        refine (I0 (o := (i + j) * k) (hg j hj) (hc.ok _ (by omega)) (by have := hsz j hj; omega) (λ l x y hx hy => hc.rel (i + j) l x y (by omega) hx hy) (λ v hv => HI _ _ v (hg j hj) hv) l x y hx (by rw [e1]; exact hy))
mutual
theorem K0 {F : vU} (hF : pE B B' ι F) : ∀ (x : DVal) (y : AVal) (v : Value), HG (Ih F x y) -> VRel B ι D y v -> DRel B' x v
  | .v x, y, v, h, hv => by
    cases y <;> simp only [Ih] at h <;> try exact h.elim
    exact (HI _ _ v (JC _ _ h) hv.d_inv).mono hF.1
  | .anyB, y, v, h, hv => by
    cases y <;> simp only [Ih] at h <;> try exact h.elim
    exact (HI _ _ v (JC _ _ h) hv.d_inv).mono hF.1
  | .iface x c, y, v, h, hv => by
    cases y <;> simp only [Ih] at h <;> try exact h.elim
    exact (HI _ _ v (JC _ _ h) hv.d_inv).mono hF.1
  | .eref x c, y, v, h, hv => by
    cases y <;> simp only [Ih] at h <;> try exact h.elim
    exact (HI _ _ v (JC _ _ h) hv.d_inv).mono hF.1
  | .arr k n g, y, v, h, hv => by
    cases y <;> simp only [Ih] at h <;> try exact h.elim
    exact (HI _ _ v (JC _ _ h) hv.d_inv).mono hF.1
  | .list k n g e, y, v, h, hv => by
    cases y <;> simp only [Ih] at h <;> try exact h.elim
    · exact (HI _ _ v (JC _ _ h) hv.d_inv).mono hF.1
    · split at h
      · rename_i k2 m get hf
        split at h
        · rename_i hc
          simp only [Bool.and_eq_true, LA, Bool.not_eq_true'] at hc
          obtain ⟨⟨rfl, rfl⟩, rfl⟩ := hc
          obtain ⟨h1, h2⟩ := LF.1 h
          obtain ⟨h2, h3⟩ := LF.1 h2
          exact AEI hF hf h1 h2 (λ j hj => JC _ _ (h3 j hj)) hv
        · exact h.elim
      · exact h.elim
  | .agg xs, y, v, h, hv => by
    cases y <;> simp only [Ih] at h <;> try exact h.elim
    · exact (HI _ _ v (JC _ _ h) hv.d_inv).mono hF.1
    · cases hv with
      | agg hl hr =>
        exact .agg (by rw [hl, jE h]) λ j x z hx hz => by
          obtain ⟨y, hy, hs⟩ := nZ h hx
          exact Yv hF xs j x y z hx hs (hr j y z hy hz)
  | .tup xs, y, v, h, hv => by
    cases y <;> simp only [Ih] at h <;> try exact h.elim
    · exact (HI _ _ v (JC _ _ h) hv.d_inv).mono hF.1
    · cases hv with
      | tup hl hr =>
        exact .tup (by rw [hl, jE h]) λ j x z hx hz => by
          obtain ⟨y, hy, hs⟩ := nZ h hx
          exact Yv hF xs j x y z hx hs (hr j y z hy hz)
theorem Yv {F : vU} (hF : pE B B' ι F) : ∀ (l : List DVal) (j : Nat) (x : DVal) (y : AVal) (v : Value), l[j]? = some x -> HG (Ih F x y) -> VRel B ι D y v -> DRel B' x v
  | [], j, x, y, v, hx, _, _ => by simp at hx
  | a :: l, 0, x, y, v, hx, h, hv => by simp at hx; subst hx; exact K0 hF a y v h hv
  | a :: l, j + 1, x, y, v, hx, h, hv => Yv hF l j x y v (by simpa using hx) h hv
end
def BBQ : Fn -> Fn -> Option (List Prop)
  | .func a, .func b => if Nat.beq a b then some [] else none
  | f, g => some [f = g]
theorem ASB {f g : Fn} (h : HG (BBQ f g)) : f = g := by
  unfold BBQ at h
  split at h
  · split at h
    · rename_i hb; rw [Nat.eq_of_beq_eq_true hb]
    · exact h.elim
  · exact h
mutual
def Gj (F : vU) (ρ : Nat -> Nat) (p : Nat -> Bool) : AVal -> AVal -> Option (List Prop)
  | .any, _ => some []
  | .d x, y => Ih F x y
  | .agg xs, .agg ys => OJ F ρ p xs ys
  | .agg xs, .d (.agg ys) => OJ F ρ p xs (ys.map .d)
  | .tup xs, .tup ys => OJ F ρ p xs ys
  | .tup xs, .d (.tup ys) => OJ F ρ p xs (ys.map .d)
  | .bptr i c, .bptr j d => if Nat.beq j (ρ i) && p i && Nat.beq c d then some [] else none
  | .rptr i k e c, .rptr j k' e' c' => if Nat.beq j (ρ i) && p i && Nat.beq k k' && Nat.beq c c' then some [e = e'] else none
  | .own i k e n, .own j k' e' n' => if Nat.beq j (ρ i) && p i && Nat.beq k k' then some [e = e', n = n'] else none
  | .fn f a b, .fn g c d => fV (BBQ f g) (fV (OJ F ρ p a c) (OJ F ρ p b d))
  | .mref i, .mref j => if Nat.beq j (ρ i) && p i then some [] else none
  | .opt g a, .opt h b => fV (some [g = h]) (Gj F ρ p a b)
  | _, _ => none
def OJ (F : vU) (ρ : Nat -> Nat) (p : Nat -> Bool) : List AVal -> List AVal -> Option (List Prop)
  | [], [] => some []
  | x :: xs, y :: ys => fV (Gj F ρ p x y) (OJ F ρ p xs ys)
  | _, _ => none
end
theorem RN {F : vU} {ρ : Nat -> Nat} {p : Nat -> Bool} : ∀ {xs ys : List AVal}, HG (OJ F ρ p xs ys) -> xs.length = ys.length
  | [], [], _ => rfl
  | x :: xs, y :: ys, h => by simp only [OJ] at h; simp [RN (HY h).2]
  | [], _ :: _, h => by simp only [OJ] at h; exact h.elim
  | _ :: _, [], h => by simp only [OJ] at h; exact h.elim
theorem UT {F : vU} {ρ : Nat -> Nat} {p : Nat -> Bool} : ∀ {xs ys : List AVal}, HG (OJ F ρ p xs ys) -> ∀ {j : Nat} {x : AVal}, xs[j]? = some x -> ∃ y, ys[j]? = some y /\ HG (Gj F ρ p x y)
  | [], [], _, j, x, hx => by simp at hx
  | a :: xs, b :: ys, h, 0, x, hx => by simp only [OJ] at h; simp at hx; subst hx; exact ⟨b, rfl, (HY h).1⟩
  | a :: xs, b :: ys, h, j + 1, x, hx => by
    simp only [OJ] at h
    obtain ⟨y, hy, hs⟩ := UT (HY h).2 (j := j) (by simpa using hx)
    exact ⟨y, by simpa using hy, hs⟩
  | [], _ :: _, h, _, _, _ => by simp only [OJ] at h; exact h.elim
  | _ :: _, [], h, _, _, _ => by simp only [OJ] at h; exact h.elim
theorem BJK {ys : List DVal} {v : Value} (h : DRel B (.agg ys) v) : VRel B ι D (.agg (ys.map .d)) v := by
  cases h with
  | agg hl hr =>
    refine .agg (by simp [hl]) λ j x z hx hz => ?_
    rw [List.getElem?_map] at hx
    obtain ⟨x', h1, rfl⟩ := Option.map_eq_some_iff.1 hx
    exact .d (hr j x' z h1 hz)
theorem BLK {ys : List DVal} {v : Value} (h : DRel B (.tup ys) v) : VRel B ι D (.tup (ys.map .d)) v := by
  cases h with
  | tup hl hr =>
    refine .tup (by simp [hl]) λ j x z hx hz => ?_
    rw [List.getElem?_map] at hx
    obtain ⟨x', h1, rfl⟩ := Option.map_eq_some_iff.1 hx
    exact .d (hr j x' z h1 hz)
mutual
theorem Ll {F : vU} (hF : pE B B' ι F) {ρ : Nat -> Nat} {p : Nat -> Bool} {D' : Nat -> Prop} (hp : ∀ i, p i = true -> D' i) : ∀ (x y : AVal) (v : Value), HG (Gj F ρ p x y) -> VRel B ι D y v -> VRel B' (λ i => ι (ρ i)) D' x v
  | .any, _, _, _, _ => .any
  | .d x, y, v, h, hv => .d (K0 hF x y v (by simpa only [Gj] using h) hv)
  | .agg xs, y, v, h, hv => by
    have fin : ∀ ys : List AVal, HG (OJ F ρ p xs ys) -> VRel B ι D (.agg ys) v -> VRel B' (λ i => ι (ρ i)) D' (.agg xs) v := λ ys h hv => by
      cases hv with
      | agg hl hr =>
        exact .agg (by rw [hl, RN h]) λ j x z hx hz => by
          obtain ⟨y, hy, hs⟩ := UT h hx
          exact US hF hp xs j x y z hx hs (hr j y z hy hz)
    cases y <;> (try simp only [Gj] at h) <;> try exact h.elim
    · rename_i x
      cases x <;> (try simp only [Gj] at h) <;> try exact h.elim
      exact fin _ h (BJK hv.d_inv)
    · exact fin _ h hv
  | .tup xs, y, v, h, hv => by
    have fin : ∀ ys : List AVal, HG (OJ F ρ p xs ys) -> VRel B ι D (.tup ys) v -> VRel B' (λ i => ι (ρ i)) D' (.tup xs) v := λ ys h hv => by
      cases hv with
      | tup hl hr =>
        exact .tup (by rw [hl, RN h]) λ j x z hx hz => by
          obtain ⟨y, hy, hs⟩ := UT h hx
          exact US hF hp xs j x y z hx hs (hr j y z hy hz)
    cases y <;> (try simp only [Gj] at h) <;> try exact h.elim
    · rename_i x
      cases x <;> (try simp only [Gj] at h) <;> try exact h.elim
      exact fin _ h (BLK hv.d_inv)
    · exact fin _ h hv
  | .bptr i c, y, v, h, hv => by
    cases y <;> simp only [Gj] at h <;> try exact h.elim
    split at h
    · rename_i hc
      simp only [Bool.and_eq_true, LA] at hc
      obtain ⟨⟨rfl, h2⟩, rfl⟩ := hc
      cases hv; exact VRel.bptr (ι := λ i => ι (ρ i)) (hp _ h2)
    · exact h.elim
  | .rptr i k e c, y, v, h, hv => by
    cases y <;> simp only [Gj] at h <;> try exact h.elim
    split at h
    · rename_i hc
      simp only [Bool.and_eq_true, LA] at hc
      obtain ⟨⟨⟨rfl, h2⟩, rfl⟩, rfl⟩ := hc
      have h : e = _ := h
      subst h
      cases hv; exact VRel.rptr (ι := λ i => ι (ρ i)) (hp _ h2)
    · exact h.elim
  | .own i k e n, y, v, h, hv => by
    cases y <;> simp only [Gj] at h <;> try exact h.elim
    split at h
    · rename_i hc
      simp only [Bool.and_eq_true, LA] at hc
      obtain ⟨⟨rfl, h2⟩, rfl⟩ := hc
      obtain ⟨h3, h4⟩ := LF.1 h
      have h4 : n = _ := h4
      subst h3; subst h4
      cases hv with
      | own _ h3 h4 => exact VRel.own (ι := λ i => ι (ρ i)) (hp _ h2) h3 h4
    · exact h.elim
  | .fn f a b, y, v, h, hv => by
    cases y <;> simp only [Gj] at h <;> try exact h.elim
    obtain ⟨h1, h2⟩ := HY h
    obtain ⟨h2, h3⟩ := HY h2
    have h1 := ASB h1
    subst h1
    cases hv with
    | fn h4 h5 h6 h7 =>
      exact .fn (by rw [h4, RN h2]) (by rw [h5, RN h3])
        (λ j x z hx hz => by
          obtain ⟨y, hy, hs⟩ := UT h2 hx
          exact US hF hp a j x y z hx hs (h6 j y z hy hz))
        λ j x z hx hz => by
          obtain ⟨y, hy, hs⟩ := UT h3 hx
          exact US hF hp b j x y z hx hs (h7 j y z hy hz)
  | .mref i, y, v, h, hv => by
    cases y <;> simp only [Gj] at h <;> try exact h.elim
    split at h
    · rename_i hc
      simp only [Bool.and_eq_true, LA] at hc
      obtain ⟨rfl, h2⟩ := hc
      cases hv; exact VRel.mref (ι := λ i => ι (ρ i)) (hp _ h2)
    · exact h.elim
  | .opt g a, y, v, h, hv => by
    cases y <;> simp only [Gj] at h <;> try exact h.elim
    obtain ⟨h1, h2⟩ := HY h
    have h1 : g = _ := h1
    subst h1
    cases hv with
    | opt h3 h4 => exact .opt (λ hg => Ll hF hp a _ v h2 (h3 hg)) h4
theorem US {F : vU} (hF : pE B B' ι F) {ρ : Nat -> Nat} {p : Nat -> Bool} {D' : Nat -> Prop} (hp : ∀ i, p i = true -> D' i) : ∀ (l : List AVal) (j : Nat) (x y : AVal) (v : Value), l[j]? = some x -> HG (Gj F ρ p x y) -> VRel B ι D y v -> VRel B' (λ i => ι (ρ i)) D' x v
  | [], j, x, y, v, hx, _, _ => by simp at hx
  | a :: l, 0, x, y, v, hx, h, hv => by simp at hx; subst hx; exact Ll hF hp a y v h hv
  | a :: l, j + 1, x, y, v, hx, h, hv => US hF hp l j x y v (by simpa using hx) h hv
end
def Pd (F : vU) (ρ : Nat -> Nat) (p : Nat -> Bool) : AObj -> AObj -> Option (List Prop)
  | .row k n g, .row k' n' g' => if Nat.beq k k' then some [n = n', ∀ i, i < n -> HG (Hs (g i) (g' i))] else none
  | .box es, .box es' => OJ F ρ p es es'
  | .imap q z h g s none, .imap q' z' h' g' s' none => if q = q' then some [z = z', ∀ n, h n = h' n, ∀ n, s n = s' n, ∀ n, HG (Hs (g n) (g' n))] else none
  | .abox es m g, .abox es' m' g' => if Nat.beq m m' then fV (OJ F ρ p es es') (some [∀ i, i < m -> g i = g' i]) else none
  | .miter m a b c none, .miter m' a' b' c' _ => if p m && Nat.beq (ρ m) m' then some [∀ n, a n = a' n, ∀ n, b n = b' n, ∀ n, c n = c' n] else none
  | _, _ => none
theorem Vb {F : vU} (hF : pE B B' ι F) {ρ : Nat -> Nat} {p : Nat -> Bool} {D' : Nat -> Prop} (hp : ∀ i, p i = true -> D' i) {q : Nat} {a b : AObj} {x : Option Obj} (h : HG (Pd F ρ p a b)) (hb : ORel B ι D q b x) : ORel B' (λ i => ι (ρ i)) D' q a x := by
  cases a with
  | row k n g =>
    cases b <;> simp only [Pd] at h <;> try exact h.elim
    split at h
    · rename_i hc
      obtain ⟨h1, h2⟩ := LF.1 h
      have hs : osub ρ p (.row k n g) (.row _ _ _) := ⟨Nat.eq_of_beq_eq_true hc, h1, λ i hi => JC _ _ (h2 i hi)⟩
      exact (fZ hp hs hb).mono hF.1 λ i hi => ⟨hi, rfl⟩
    · exact h.elim
  | box es =>
    cases b <;> simp only [Pd] at h <;> try exact h.elim
    cases hb with
    | box hsz hr =>
      exact .box (by rw [hsz, RN h]) λ j x z hx hz => by
        obtain ⟨y, hy, hs⟩ := UT h hx
        exact US hF hp es j x y z hx hs (hr j y z hy hz)
  | imap q z hs g st pend =>
    cases pend with
    | some x => cases b <;> simp only [Pd] at h <;> exact h.elim
    | none =>
    cases b <;> try (simp only [Pd] at h; exact h.elim)
    rename_i q' z' hs' g' st' pend'
    cases pend' with
    | some x => simp only [Pd] at h; exact h.elim
    | none =>
    simp only [Pd] at h
    split at h
    · rename_i hc
      obtain ⟨h1, h3⟩ := LF.1 h
      obtain ⟨h3, h4⟩ := LF.1 h3
      obtain ⟨h4, h5⟩ := LF.1 h4
      have hs : osub ρ p (.imap q z hs g st none) (.imap _ _ _ _ _ _) := ⟨hc, h1, rfl, h3, h4, λ n => JC _ _ (h5 n)⟩
      exact (fZ hp hs hb).mono hF.1 λ i hi => ⟨hi, rfl⟩
    · exact h.elim
  | abox es m g =>
    cases b <;> simp only [Pd] at h <;> try exact h.elim
    split at h
    · rename_i hc
      obtain rfl := Nat.eq_of_beq_eq_true hc
      obtain ⟨h, hg⟩ := HY h
      cases hb with
      | abox hsz hr hb =>
        exact .abox (by rw [hsz, RN h]) (λ j x z hx hz => by
          obtain ⟨y, hy, hs⟩ := UT h hx
          exact US hF hp es j x y z hx hs (hr j y z hy hz)) λ j hj => by rw [RN h, show g j = _ from hg j hj]; exact hb j hj
    · exact h.elim
  | miter m a1 b1 c1 d1 =>
    cases d1 with
    | some x => cases b <;> simp only [Pd] at h <;> exact h.elim
    | none =>
    cases b <;> simp only [Pd] at h <;> try exact h.elim
    split at h
    · rename_i hc
      simp only [Bool.and_eq_true] at hc
      obtain ⟨h1, h3⟩ := LF.1 h
      obtain ⟨h3, h4⟩ := LF.1 h3
      rename_i m' a' b' c' d' _
      have hs : osub ρ p (.miter m a1 b1 c1 none) (.miter m' a' b' c' d') := ⟨hc.1, Nat.eq_of_beq_eq_true hc.2, h1, h3, h4, .inl rfl⟩
      exact (fZ hp hs hb).mono hF.1 λ i hi => ⟨hi, rfl⟩
    · exact h.elim
def GP (H : Heap) : List Nat -> Heap
  | [] => H
  | id :: r => match H id with
    | .live (.row _ _ _) => GP (HC H id .dead) r
    | _ => GP H r
def PB (H : Heap) (ids : List Nat) : vU := λ id => if ids.contains id then match H id with
    | .live (.row k m get) => some (k, m, get)
    | _ => none
  else none
theorem UM : ∀ (ids : List Nat) {B : Cm} {H : Heap}, HRel B ι H w -> ∃ B', Moved B ι H w B' ι (GP H ids) w /\ pE B B' ι (PB H ids)
  | [], B, H, h => ⟨B, Moved.refl h, λ _ _ h => h, λ id k m get hf => by simp [PB] at hf⟩
  | id :: r, B, H, h => by
    simp only [GP]
    split
    · rename_i k m get hid
      obtain ⟨c, e, h1, h2, h3, h4, h5, h6⟩ := Moved.freeze h hid
      obtain ⟨B', h7, h8⟩ := UM r h2.heap
      refine ⟨B', h2.trans h7, λ b c hb => h8.1 b c (h2.bm b c hb), λ id' k' m' get' hf => ?_⟩
      by_cases he : id' = id
      · subst he
        simp only [PB, List.contains_cons, beq_self_eq_true, Bool.true_or, if_true, hid, Option.some.injEq, Prod.mk.injEq] at hf
        obtain ⟨rfl, rfl, rfl⟩ := hf
        exact ⟨c, h8.1 _ _ (by simp), h3, h4, h5, λ i j x y hi hx hy => (h6 i j x y hi hx hy).mono λ b c hb => h8.1 b c (h2.bm b c hb)⟩
      · refine h8.2 id' k' m' get' ?_
        have e1 : (id' == id) = false := by simpa using he
        simp only [PB, List.contains_cons, e1, Bool.false_or] at hf
        simp only [PB, KF _ _ he]
        exact hf
    · rename_i hn
      obtain ⟨B', h7, h8⟩ := UM r h
      refine ⟨B', h7, h8.1, λ id' k' m' get' hf => ?_⟩
      by_cases he : id' = id
      · subst he
        simp only [PB, List.contains_cons, beq_self_eq_true, Bool.true_or, if_true] at hf
        first | cases hf | (split at hf; (rename_i hq; exact (hn _ _ _ hq).elim); cases hf)
      · refine h8.2 id' k' m' get' ?_
        have e1 : (id' == id) = false := by simpa using he
        simp only [PB, List.contains_cons, e1, Bool.false_or] at hf
        exact hf
theorem Kg : ∀ (ids : List Nat) {H : Heap} {i : Nat} {o : AObj}, GP H ids i = .live o -> H i = .live o
  | [], _, _, _, h => h
  | id :: r, H, i, o, h => by
    have key : ∀ H', (H' = H ∨ H' = HC H id .dead) -> GP H' r i = .live o -> H i = .live o := λ H' hH h => by
      have := Kg r h
      rcases hH with rfl | rfl
      · exact this
      · by_cases he : i = id
        · subst he; rw [LG] at this; cases this
        · rwa [KF _ _ he] at this
    simp only [GP] at h
    cases hq : H id with
    | live o' => cases o' with
      | row => simp only [hq] at h; exact key _ (.inr rfl) h
      | _ => simp only [hq] at h; exact key _ (.inl rfl) h
    | _ => simp only [hq] at h; exact key _ (.inl rfl) h
def ABW (F : vU) (ρ : Nat -> Nat) (p : Nat -> Bool) : HCell -> HCell -> Option (List Prop)
  | .live o, .live o' => Pd F ρ p o o'
  | .dead, .live _ => some []
  | .dead, .dead => some []
  | _, _ => none
def ASF (F : vU) (ρ : Nat -> Nat) (p : Nat -> Bool) (sl : Nat -> AVal) : List (Nat × AVal) -> Option (List Prop)
  | [] => some []
  | (t, v) :: r => fV (Gj F ρ p v (sl t)) (ASF F ρ p sl r)
def BHH (F : vU) (ρ : Nat -> Nat) (p : Nat -> Bool) (H : Heap) : List (Nat × HCell) -> Option (List Prop)
  | [] => some []
  | (i, c) :: r => fV (ABW F ρ p c (H (ρ i))) (BHH F ρ p H r)
theorem AGO {F : vU} {ρ : Nat -> Nat} {p : Nat -> Bool} {sl : Nat -> AVal} : ∀ {l : List (Nat × AVal)}, HG (ASF F ρ p sl l) -> ∀ t, HG (Gj F ρ p (LH l t) (sl t))
  | [], _, t => by simp only [LH, Gj]; trivial
  | (j, v) :: r, h, t => by
    obtain ⟨h1, h2⟩ := HY h
    simp only [LH]
    split
    · rename_i e; subst e; exact h1
    · exact AGO h2 t
theorem ABC {F : vU} {ρ : Nat -> Nat} {p : Nat -> Bool} {H : Heap} : ∀ {l : List (Nat × HCell)}, HG (BHH F ρ p H l) -> ∀ {i : Nat} {c : HCell}, (i, c) ∈ l -> HG (ABW F ρ p c (H (ρ i)))
  | [], _, i, c, h => by cases h
  | (j, d) :: r, h, i, c, hm => by
    obtain ⟨h1, h2⟩ := HY h
    rcases List.mem_cons.1 hm with hm | hm
    · cases hm; exact h1
    · exact ABC h2 hm
def Fq (E : List Nat) (fz : List Nat) (l : List (Nat × Nat)) (s : ST) (σ : AState) : Option (List Prop) :=
  if (nodup (s.H.map λ x => ML l x.1) && E.all λ i => Nat.beq (ML l i) i && (ZM s.H i).isSome) then
    fV (ASF (PB σ.H fz) (ML l) (λ i => (ZM s.H i).isSome) σ.sl s.sl) (BHH (PB σ.H fz) (ML l) (λ i => (ZM s.H i).isSome) (GP σ.H fz) s.H)
  else none
theorem Moved.subF {B0 : Cm} {ι0 : Nat -> Pl} {H0 : Heap} {w0 : World} {E fz : List Nat} {l : List (Nat × Nat)} {s : ST} {sl : Nat -> AVal} (hE : ∀ i, H0.dom i -> i ∈ E) (h : HG (Fq E fz l s ⟨sl, H⟩)) (hm0 : Moved B0 ι0 H0 w0 B ι H w) :
    ∃ B', Moved B0 ι0 H0 w0 B' (λ i => ι (ML l i)) (aN s.H) w /\ (∀ t v, VRel B ι H.dom (sl t) v -> VRel B' (λ i => ι (ML l i)) (aN s.H).dom (LH s.sl t) v) /\ (∀ i o, aN s.H i = .live o -> ∃ o', H (ML l i) = .live o') /\
      (∀ b c, B b = some c -> B' b = some c) /\ ∀ i ∈ E, (aN s.H).dom i /\ ML l i = i := by
  unfold Fq at h
  split at h
  case isFalse => exact h.elim
  rename_i h3
  obtain ⟨h1, h2⟩ := HY h
  simp only [Bool.and_eq_true, List.all_eq_true, LA] at h3
  obtain ⟨h3, h4⟩ := h3
  have hnd := VJ h3
  obtain ⟨B', hk, hF⟩ := UM fz hm0.heap
  have hm := hm0.trans hk
  have hdom : ∀ i, (λ i => (ZM s.H i).isSome) i = true -> (aN s.H).dom i := λ i hi => by
    obtain ⟨d, hd⟩ := Option.isSome_iff_exists.1 hi
    have := ABC h2 (VT hd)
    unfold Heap.dom
    show (ZM s.H i).getD .none ≠ .none
    rw [hd]
    intro he
    simp at he; subst he
    simp only [ABW] at this; exact this
  have live : ∀ i o, aN s.H i = .live o -> (i, .live o) ∈ s.H /\ ∃ o', GP H fz (ML l i) = .live o' /\ HG (Pd (PB H fz) (ML l) (λ i => (ZM s.H i).isSome) o o') := λ i o hi => by
    have hg : ZM s.H i = some (.live o) := by
      have : (ZM s.H i).getD .none = .live o := hi
      cases hq : ZM s.H i with
      | none => rw [hq] at this; cases this
      | some d => rw [hq] at this; simpa using this
    have hm := VT hg
    have := ABC h2 hm
    refine ⟨hm, ?_⟩
    cases hq : GP H fz (ML l i) with
    | live o' => rw [hq] at this; exact ⟨o', rfl, this⟩
    | none => rw [hq] at this; simp only [ABW] at this; exact this.elim
    | dead => rw [hq] at this; simp only [ABW] at this; exact this.elim
  refine ⟨B', ?_, λ t v hv => Ll hF hdom _ _ _ (AGO h1 t) hv, λ i o hi => by obtain ⟨_, o', ho, _⟩ := live i o hi; exact ⟨o', Kg fz ho⟩, hF.1, λ i hi => ⟨hdom i (h4 i hi).2, (h4 i hi).1⟩⟩
  refine ⟨hm.bm, hm.bn, λ i hi => ?_, ⟨λ i o hi => ?_, λ i j o o' hi hj hij => ?_, λ i o hi => ?_, hm.heap.imm⟩, λ i o hi => ?_, hm.frame, hm.size, hm.calm⟩
  · obtain ⟨h5, h6⟩ := h4 i (hE i hi)
    exact ⟨hdom i h6, by show ι (ML l i) = _; rw [h5]; exact (hm.im i hi).2⟩
  · obtain ⟨_, o', ho, hs⟩ := live i o hi
    exact Vb hF hdom hs (hm0.heap.obj _ _ (Kg fz ho))
  · obtain ⟨m1, o1, ho1, _⟩ := live i o hi
    obtain ⟨m2, o2, ho2, _⟩ := live j o' hj
    exact (A6 hnd m1 m2 (hm.heap.inj _ _ _ _ ho1 ho2 hij)).1
  · obtain ⟨_, o', ho, _⟩ := live i o hi
    exact hm.heap.sep _ _ ho
  · obtain ⟨_, o', ho, _⟩ := live i o hi
    exact hm.own _ _ ho
theorem Rel.subF {c : Ctx} {E fz : List Nat} {l : List (Nat × Nat)} {s : ST} {σ : AState} {a : Act} (hE : ∀ i, c.H0.dom i -> i ∈ E) (h : HG (Fq E fz l s σ)) (hR : Rel c B ι σ a w) : ∃ B', Rel c B' (λ i => ι (ML l i)) s.st a w := by
  obtain ⟨B', h1, h2, h3, _⟩ := Moved.subF hE h hR.mv
  obtain ⟨Ds, d1, d0, d2, d3⟩ := hR.defers
  refine ⟨B', λ t => h2 t _ (hR.slots t), hR.size, ⟨Ds, d1, d0, d2, λ D hD => ⟨(d3 D hD).1, (d3 D hD).2.here, λ i o hi => ?_⟩⟩, h1⟩
  obtain ⟨o', ho⟩ := h3 i o hi
  exact (d3 D hD).2.sep _ _ ho
theorem CodeE.subF {c : Ctx} {E fz : List Nat} {l : List (Nat × Nat)} {s : ST} {σ : AState} {code : Code} {Q : Exit -> AState -> Prop} (hE : ∀ i, c.H0.dom i -> i ∈ E) (hs : HG (Fq E fz l s σ)) (h : CodeE P c code Q s.st) : CodeE P c code Q σ :=
  λ _ _ a w hR => let ⟨B', hR'⟩ := Rel.subF hE hs hR; h B' _ a w hR'
def Zj : List Prop -> Prop -> Prop
  | [], K => K
  | l, K => DO l /\ K
theorem LD {l : List Prop} {K : Prop} (h : Zj l K) : DO l /\ K := by
  cases l with
  | nil => exact ⟨trivial, h⟩
  | cons => exact h
def AYO : Option (List Prop) -> Prop -> Prop
  | some l, K => Zj l K
  | none, _ => False
theorem zV {l : Option (List Prop)} {K : Prop} (h : AYO l K) : HG l /\ K := by
  cases l with
  | none => exact h.elim
  | some l => exact LD h
end Go.Sym

namespace Go.Sym
theorem QU {a b : List Prop} : DO (a ++ b) ↔ DO a /\ DO b := by
  induction a with
  | nil => simp [DO]
  | cons p a ih => rw [List.cons_append, LF, LF, ih, and_assoc]
variable {P : Program} {B B' : Cm} {ι ι' : Nat -> Pl} {H H' : Heap} {D : Nat -> Prop} {w w' : World}
def AQI (o : Oper) (t : Nat) : Bool := match o.dst with
  | some d => Nat.beq d t
  | none => false
theorem AUW {o : Oper} {t : Nat} (h : AQI o t = true) : o.dst = some t := by
  unfold AQI at h
  split at h
  · rename_i d hd; rw [hd, Nat.eq_of_beq_eq_true h]
  · cases h
def Dd : List Oper -> Bool
  | [] => true
  | o :: l => (match o.dst with
    | some d => l.all λ o' => !AQI o' d
    | none => true) && Dd l
theorem oU {l : List Oper} (h : Dd l = true) {i k : Nat} {o o' : Oper} {t : Nat} (hik : i < k) (ho : l[i]? = some o) (ho' : l[k]? = some o') (ht : o.dst = some t) : o'.dst ≠ some t := by
  induction l generalizing i k with
  | nil => simp at ho
  | cons a l ih =>
    simp only [Dd, Bool.and_eq_true] at h
    cases k with
    | zero => omega
    | succ k =>
      rw [List.getElem?_cons_succ] at ho'
      cases i with
      | zero =>
        rw [List.getElem?_cons_zero] at ho
        cases ho
        have h1 := h.1
        rw [ht] at h1
        simp only [List.all_eq_true] at h1
        have := h1 o' (List.mem_of_getElem? ho')
        intro he
        simp [AQI, he] at this
      | succ i => exact ih h.2 (i := i) (k := k) (by omega) (by rw [List.getElem?_cons_succ] at ho; exact ho) ho'
def lowL : List Oper -> Nat -> Bool
  | [], _ => true
  | o :: l, k => (match o.guard with
    | some q => Nat.blt q.1 k
    | none => true) && lowL l (k + 1)
theorem uA : ∀ {l : List Oper} {k : Nat}, lowL l k = true -> ∀ {i : Nat} {o : Oper} {q : Nat × Bool}, l[i]? = some o -> o.guard = some q -> q.1 < k + i
  | [], _, _, i, o, q, h, _ => by simp at h
  | a :: l, k, h, 0, o, q, ho, hq => by
    simp only [lowL, Bool.and_eq_true] at h
    simp at ho; subst ho
    have h1 := h.1
    rw [hq] at h1
    simpa using h1
  | a :: l, k, h, i + 1, o, q, ho, hq => by
    simp only [lowL, Bool.and_eq_true] at h
    have := uA h.2 (i := i) (by simpa using ho) hq
    omega
def wg : List Oper -> Nat -> Nat -> Option (Nat × Bool)
  | [], _, _ => none
  | _ :: _, 0, _ => none
  | o :: l, k + 1, t => if AQI o t then o.guard else wg l k t
theorem AYH : ∀ {l : List Oper} {k t : Nat} {q : Nat × Bool}, wg l k t = some q -> ∃ i o, i < k /\ l[i]? = some o /\ o.dst = some t /\ o.guard = some q
  | [], k, t, q, h => by simp [wg] at h
  | o :: l, 0, t, q, h => by simp [wg] at h
  | o :: l, k + 1, t, q, h => by
    simp only [wg] at h
    split at h
    · rename_i hd; exact ⟨0, o, by omega, rfl, AUW hd, h⟩
    · obtain ⟨i, o', h1, h2, h3⟩ := AYH h
      exact ⟨i + 1, o', by omega, by simpa using h2, h3⟩
def gcov (ops : Array Oper) : Nat -> Nat × Bool -> Nat × Bool -> Bool
  | 0, _, _ => false
  | f + 1, q, q' => (Nat.beq q.1 q'.1 && (q.2 == q'.2)) || match (ops[q.1]?).bind (·.guard) with
    | some q2 => gcov ops f q2 q'
    | none => false
def GInv (ops : Array Oper) (sl : Nat -> AVal) (k : Nat) : Prop :=
  ∀ i o t q, i < k -> ops[i]? = some o -> o.dst = some t -> o.guard = some q -> ∃ g v, sl t = .opt g v /\ HH ops sl q.1 q.2 = some g
theorem ASE {ops : Array Oper} {sl : Nat -> AVal} {j : Nat} {want g gd : Bool} {t : Nat} {v : AVal} (ht : (ops[j]?).bind (·.dst) = some t) (hs : sl t = .opt gd v) (h : HH ops sl j want = some g) (hg : g = true) : gd = true := by
  unfold HH at h
  rw [ht] at h
  simp only [hs] at h
  split at h <;> simp_all
theorem ATX {ops : Array Oper} {sl : Nat -> AVal} {j : Nat} {want g : Bool} (h : HH ops sl j want = some g) : ∃ o t, ops[j]? = some o /\ o.dst = some t := by
  unfold HH at h
  split at h
  · rename_i t ht
    cases hj : ops[j]? with
    | none => rw [hj] at ht; cases ht
    | some o => rw [hj] at ht; exact ⟨o, t, rfl, ht⟩
  · cases h
theorem AJT {ops : Array Oper} {sl : Nat -> AVal} {k : Nat} (hI : GInv ops sl k) (hl : lowL ops.toList 0 = true) : ∀ (f : Nat) (q q' : Nat × Bool) (g g' : Bool), gcov ops f q q' = true -> q.1 < k -> HH ops sl q.1 q.2 = some g -> g = true -> HH ops sl q'.1 q'.2 = some g' -> g' = true
  | 0, _, _, _, _, h, _, _, _, _ => by simp [gcov] at h
  | f + 1, q, q', g, g', h, hq, h1, hg, h2 => by
    simp only [gcov, Bool.or_eq_true, Bool.and_eq_true, LA, beq_iff_eq] at h
    rcases h with ⟨e1, e2⟩ | h
    · rw [<- e1, <- e2, h1] at h2; cases h2; exact hg
    · split at h
      · rename_i q2 hq2
        obtain ⟨o, t, ho, ht⟩ := ATX h1
        have hgq : o.guard = some q2 := by rw [ho] at hq2; exact hq2
        obtain ⟨gd, v, hs, hgd⟩ := hI q.1 o t q2 hq ho ht hgq
        have := ASE (by rw [ho]; exact ht) hs h1 hg
        have hlow := uA hl (i := q.1) (by simpa using ho) hgq
        exact AJT hI hl f q2 q' gd g' h (by omega) hgd this h2
      · cases h
def tagW (cv : Nat × Bool -> Bool) (ops : Array Oper) (k : Nat) (c : Prop) (x : Operand) (a : AVal) : List Prop := match a with
  | .opt g _ => match x with
    | .tmp t => match wg ops.toList k t with
      | some q => if cv q then [] else [c -> g = true]
      | none => [c -> g = true]
    | _ => [c -> g = true]
  | _ => []
theorem vS {cv : Nat × Bool -> Bool} {ops : Array Oper} {sl : Nat -> AVal} {k : Nat} {c : Prop} {x : Operand} (hI : GInv ops sl k) (hcv : ∀ q g, cv q = true -> HH ops sl q.1 q.2 = some g -> c -> g = true) (h : DO (tagW cv ops k c x (BP sl x))) : DO (Ix c (BP sl x)) := by
  generalize ha : BP sl x = a at h
  cases a with
  | opt g v =>
    simp only [tagW] at h
    split at h
    · rename_i t
      split at h
      · rename_i q hq
        split at h
        · rename_i hc
          obtain ⟨i, o, h1, h2, h3, h4⟩ := AYH hq
          obtain ⟨g', v', h5, h6⟩ := hI i o t q h1 (by simpa using h2) h3 h4
          have : sl t = .opt g v := ha
          rw [h5] at this; cases this
          exact λ c => hcv q _ hc h6 c
        · exact h
      · exact h
    · exact h
  | _ => trivial
def cvOwn (ops : Array Oper) (k : Nat) (gd : Option (Nat × Bool)) (q : Nat × Bool) : Bool := match gd with
  | some g => gcov ops (k + 1) g q
  | none => false
def AMB (ops : Array Oper) (k : Nat) (gd : Option (Nat × Bool)) (c : Operand) (want : Bool) (q : Nat × Bool) : Bool :=
  (match c, (ops[q.1]?).bind (·.dst) with
    | .tmp tc, some t => Nat.beq t tc && (q.2 == want)
    | _, _ => false) || cvOwn ops k gd q
def AYI (ops : Array Oper) (k : Nat) (sl : Nat -> AVal) (o : Oper) : List Prop := match o.op, o.guard with
  | .pick c a b, gd => match DM (BP sl c) with
    | .d (.v (.bool t)) => tagW (cvOwn ops k gd) ops k True c (BP sl c) ++ (tagW (AMB ops k gd c true) ops k (t = true) a (BP sl a) ++ tagW (AMB ops k gd c false) ops k (t = false) b (BP sl b))
    | _ => []
  | _, none => []
  | op, some q => op.operands.toList.flatMap λ x => tagW (cvOwn ops k (some q)) ops k True x (BP sl x)
def bA (sl : Nat -> AVal) (o : Oper) : List Prop := match o.op, o.guard with
  | .pick c a b, _ => match DM (BP sl c) with
    | .d (.v (.bool t)) => Ix True (BP sl c) ++ (Ix (t = true) (BP sl a) ++ Ix (t = false) (BP sl b))
    | _ => []
  | _, none => []
  | op, some _ => ZA (BP sl) op.operands.toList
theorem ABN {ops : Array Oper} {sl : Nat -> AVal} {k : Nat} {gd : Option (Nat × Bool)} {c : Operand} {want t : Bool} (hO : ∀ q g, cvOwn ops k gd q = true -> HH ops sl q.1 q.2 = some g -> g = true) (hc : DM (BP sl c) = .d (.v (.bool t))) (ht : DO (Ix True (BP sl c))) (q : Nat × Bool) (g : Bool)
    (h : AMB ops k gd c want q = true) (hg : HH ops sl q.1 q.2 = some g) (hw : t = want) : g = true := by
  simp only [AMB, Bool.or_eq_true] at h
  rcases h with h | h
  · split at h
    · rename_i tc t' hd
      simp only [Bool.and_eq_true, LA, beq_iff_eq] at h
      obtain ⟨rfl, h2⟩ := h
      unfold HH at hg
      rw [hd] at hg
      simp only [BP] at hc ht
      subst hw
      rw [h2] at hg
      obtain ⟨v, hv⟩ : ∃ v, sl t' = v := ⟨_, rfl⟩
      simp only [hv] at hc ht hg
      cases v with
      | opt gc v' =>
        have : gc = true := ht trivial
        subst this
        simp only [DM] at hc; subst hc
        cases t <;> simp at hg <;> exact hg
      | d x => simp only [DM] at hc; cases hc; cases t <;> simp at hg <;> exact hg
      | _ => simp only [DM] at hc; cases hc
    · cases h
  · exact hO q g h hg
theorem ASR {ops : Array Oper} {sl : Nat -> AVal} {k : Nat} {o : Oper} (hI : GInv ops sl k) (hl : lowL ops.toList 0 = true) (ho : ops[k]? = some o) (hgd : ∀ q, o.guard = some q -> HH ops sl q.1 q.2 = some true) (h : DO (AYI ops k sl o)) : DO (bA sl o) := by
  have hO : ∀ q g, cvOwn ops k o.guard q = true -> HH ops sl q.1 q.2 = some g -> g = true := λ q g hc hg => by
    unfold cvOwn at hc
    split at hc
    · rename_i q0 hq0
      have := uA hl (i := k) (by simpa using ho) hq0
      exact AJT hI hl _ q0 q true g hc (by omega) (hgd q0 hq0) rfl hg
    · cases hc
  unfold AYI at h
  unfold bA
  split at h
  · rename_i c a b ho'
    split at h
    · rename_i t hc
      obtain ⟨h1, h2⟩ := BW h
      obtain ⟨h2, h3⟩ := BW h2
      have t1 := vS hI (λ q g a b _ => hO q g a b) h1
      exact QU.2 ⟨t1, QU.2 ⟨vS hI (λ q g a b c => ABN hO hc t1 q g a b c) h2, vS hI (λ q g a b c => ABN hO hc t1 q g a b c) h3⟩⟩
    · trivial
  · trivial
  · rename_i q hgn hq
    rw [hgn] at hO
    generalize o.op.operands.toList = l at h
    induction l with
    | nil => trivial
    | cons x l ih =>
      rw [List.flatMap_cons] at h
      obtain ⟨h1, h2⟩ := BW h
      show DO (Ix True (BP sl x) ++ ZA (BP sl) l)
      exact QU.2 ⟨vS hI (λ q g a b _ => hO q g a b) h1, ih h2⟩
theorem GInv.next {ops : Array Oper} {sl : Nat -> AVal} {k : Nat} {o : Oper} {v : AVal} (hI : GInv ops sl k) (hl : lowL ops.toList 0 = true) (hd : Dd ops.toList = true) (ho : ops[k]? = some o) (hv : ∀ q, o.guard = some q -> ∃ g v', v = .opt g v' /\ HH ops sl q.1 q.2 = some g) (sl' : Nat -> AVal)
    (hsl : ∀ t, sl' t = if o.dst = some t then v else sl t) : GInv ops sl' (k + 1) := by
  have hk : ∀ j want, j < k -> HH ops sl' j want = HH ops sl j want := λ j want hj => by
    unfold HH
    cases hjo : ops[j]? with
    | none => rfl
    | some oj =>
      simp only [Option.bind_some]
      cases hdj : oj.dst with
      | none => rfl
      | some t =>
        simp only
        rw [hsl t, if_neg (oU hd hj (by simpa using hjo) (by simpa using ho) hdj)]
  intro i o' t q hi ho' ht hq
  have hlow := uA hl (i := i) (by simpa using ho') hq
  rcases Nat.lt_or_ge i k with hik | hik
  · obtain ⟨g, v', h1, h2⟩ := hI i o' t q hik ho' ht hq
    refine ⟨g, v', ?_, by rw [hk _ _ (by omega)]; exact h2⟩
    rw [hsl t, if_neg (oU hd hik (by simpa using ho') (by simpa using ho) ht)]
    exact h1
  · have : i = k := by omega
    subst this
    rw [ho] at ho'; cases ho'
    obtain ⟨g, v', h1, h2⟩ := hv q hq
    exact ⟨g, v', by rw [hsl t, if_pos ht]; exact h1, by rw [hk _ _ (by omega)]; exact h2⟩
end Go.Sym
