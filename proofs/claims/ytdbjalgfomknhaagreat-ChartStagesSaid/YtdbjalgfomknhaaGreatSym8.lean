/- When a state tells less than another: a list of conditions on scalars. -/
import Derived.Test.YtdbjalgfomknhaaGreatSym7
set_option linter.unusedVariables false
set_option linter.unusedSimpArgs false
namespace Go.Sym
variable {P : Program} {B B' : Fg} {ι ι' : Nat -> Pl} {H H' : Heap} {D : Nat -> Prop} {w w' : World}
theorem OA {a b : Nat} : (Nat.beq a b = true) = (a = b) := propext ⟨Nat.eq_of_beq_eq_true, λ h => by subst h; exact Nat.beq_refl a⟩
def IM : Option (List Prop) -> Prop
  | some l => EF l
  | none => False
def fK : Option (List Prop) -> Option (List Prop) -> Option (List Prop)
  | some l, some m => some (l ++ m)
  | _, _ => none
def BBP : Value -> Value -> Option (List Prop)
  | .int k a, .int k' b => if k = k' then some [a = b] else none
  | .bool a, .bool b => some [a = b]
  | .string a, .string b => some [a = b]
  | x, y => some [x = y]
theorem JK {a b : Option (List Prop)} (h : IM (fK a b)) : IM a /\ IM b := by
  cases a with
  | none => exact h.elim
  | some l => cases b with
    | none => exact h.elim
    | some m => exact CD h
theorem ASZ (x : Value) : vEq x x := by
  unfold vEq; split <;> simp_all
theorem AMM {x y : Value} (h : IM (BBP x y)) : vEq x y := by
  unfold BBP at h
  split at h
  · split at h
    · rename_i hk; exact ⟨hk, h⟩
    · exact h.elim
  · exact h
  · exact h
  · have h : x = y := h
    subst h
    exact ASZ x
mutual
def Ko : DVal -> DVal -> Option (List Prop)
  | .v x, .v y => BBP x y
  | .agg xs, .agg ys => A0 xs ys
  | .tup xs, .tup ys => A0 xs ys
  | .list k n g e, .list k' n' g' e' => if Nat.beq k k' && (!e || e') then some [n = n', ∀ i, i < n -> IM (Ko (g i) (g' i))] else if (Nat.beq k' 0 || Nat.beq k 0) && (!e || e') then some [n = n', n = 0] else none
  | .arr k n g, .arr k' n' g' => if Nat.beq k k' then some [n = n', ∀ i, i < n -> IM (Ko (g i) (g' i))] else none
  | .eref x c, .eref y d => if Nat.beq c d then Ko x y else none
  | .iface t x, .iface u y => if Nat.beq t u then Ko x y else none
  | .anyB, .anyB => some []
  | _, _ => none
def A0 : List DVal -> List DVal -> Option (List Prop)
  | [], [] => some []
  | x :: xs, y :: ys => fK (Ko x y) (A0 xs ys)
  | _, _ => none
end
mutual
theorem LC : ∀ (x y : DVal), IM (Ko x y) -> JY x y
  | .v x, y, h => by cases y <;> simp only [Ko] at h <;> first | exact (by simp only [JY]; exact AMM h) | exact h.elim
  | .agg xs, y, h => by cases y <;> simp only [Ko] at h <;> first | exact (by simp only [JY]; exact kA _ _ h) | exact h.elim
  | .tup xs, y, h => by cases y <;> simp only [Ko] at h <;> first | exact (by simp only [JY]; exact kA _ _ h) | exact h.elim
  | .list k n g e, y, h => by
    cases y <;> simp only [Ko] at h <;> try exact h.elim
    split at h
    · rename_i hc
      simp only [Bool.and_eq_true, OA, Bool.or_eq_true, Bool.not_eq_true'] at hc
      obtain ⟨h1, h2⟩ := OE.1 h
      simp only [JY]
      refine ⟨.inl hc.1, h1, λ he => ?_, λ i hi => LC _ _ (h2 i hi)⟩
      rcases hc.2 with h | h
      · rw [he] at h; cases h
      · exact h
    · split at h
      · rename_i hc
        simp only [Bool.and_eq_true, OA, Bool.or_eq_true, Bool.not_eq_true'] at hc
        obtain ⟨h1, h2⟩ := OE.1 h
        have h2 : n = 0 := h2
        simp only [JY]
        refine ⟨.inr h2, h1, λ he => ?_, λ i hi => by omega⟩
        rcases hc.2 with h | h
        · rw [he] at h; cases h
        · exact h
      · exact h.elim
  | .arr k n g, y, h => by
    cases y <;> simp only [Ko] at h <;> try exact h.elim
    split at h
    · rename_i hc
      obtain ⟨h1, h2⟩ := OE.1 h
      simp only [JY]
      exact ⟨Nat.eq_of_beq_eq_true hc, h1, λ i hi => LC _ _ (h2 i hi)⟩
    · exact h.elim
  | .anyB, y, h => by
    cases y <;> simp only [Ko] at h <;> try exact h.elim
    simp only [JY]
  | .iface x c, y, h => by
    cases y <;> simp only [Ko] at h <;> try exact h.elim
    split at h
    · rename_i hc
      simp only [JY]
      exact ⟨Nat.eq_of_beq_eq_true hc, LC _ _ h⟩
    · exact h.elim
  | .eref x c, y, h => by
    cases y <;> simp only [Ko] at h <;> try exact h.elim
    split at h
    · rename_i hc
      simp only [JY]
      exact ⟨Nat.eq_of_beq_eq_true hc, LC _ _ h⟩
    · exact h.elim
theorem kA : ∀ (x y : List DVal), IM (A0 x y) -> Hd x y
  | [], y, h => by cases y <;> simp only [A0] at h <;> first | trivial | exact h.elim
  | x :: xs, y, h => by
    cases y <;> simp only [A0] at h
    · exact h.elim
    · obtain ⟨h1, h2⟩ := JK h
      simp only [Hd]
      exact ⟨LC _ _ h1, kA _ _ h2⟩
end
abbrev nK := Nat -> Option (Nat × Nat × (Nat -> DVal))
structure FrzRow (B' : Fg) (ι : Nat -> Pl) (id k m : Nat) (get : Nat -> DVal) (c : Array Value) : Prop where
  at' : B' (ι id).b = some c
  len : m <= (ι id).cap
  size : (ι id).cap * k <= c.size
  ok : ∀ i, i < m -> EOk k (get i)
  rel : ∀ (i j : Nat) (x : DVal) (y : Value), i < m -> (get i).cells1[j]? = some x -> c[i * k + j]? = some y -> DRel B' x y
def lF (B B' : Fg) (ι : Nat -> Pl) (F : nK) : Prop :=
  (∀ b c, B b = some c -> B' b = some c) /\ ∀ id k m get, F id = some (k, m, get) -> ∃ c, FrzRow B' ι id k m get c
mutual
def Ll (F : nK) : DVal -> AVal -> Option (List Prop)
  | x, .d y => Ko x y
  | .list k n g e, .own id k' i n' => match F id with
    | some (k2, m, get) => if Nat.beq k k' && Nat.beq k k2 && !e then some [n = n', i + n' <= m, ∀ j, j < n -> IM (Ko (g j) (get (i + j)))] else none
    | none => none
  | .agg xs, .agg ys => Fb F xs ys
  | .tup xs, .tup ys => Fb F xs ys
  | _, _ => none
def Fb (F : nK) : List DVal -> List AVal -> Option (List Prop)
  | [], [] => some []
  | x :: xs, y :: ys => fK (Ll F x y) (Fb F xs ys)
  | _, _ => none
end
theorem lB {F : nK} : ∀ {xs : List DVal} {ys : List AVal}, IM (Fb F xs ys) -> xs.length = ys.length
  | [], [], _ => rfl
  | x :: xs, y :: ys, h => by simp only [Fb] at h; simp [lB (JK h).2]
  | [], _ :: _, h => by simp only [Fb] at h; exact h.elim
  | _ :: _, [], h => by simp only [Fb] at h; exact h.elim
theorem lE {F : nK} : ∀ {xs : List DVal} {ys : List AVal}, IM (Fb F xs ys) -> ∀ {j : Nat} {x : DVal}, xs[j]? = some x -> ∃ y, ys[j]? = some y /\ IM (Ll F x y)
  | [], [], _, j, x, hx => by simp at hx
  | a :: xs, b :: ys, h, 0, x, hx => by simp only [Fb] at h; simp at hx; subst hx; exact ⟨b, rfl, (JK h).1⟩
  | a :: xs, b :: ys, h, j + 1, x, hx => by
    simp only [Fb] at h
    obtain ⟨y, hy, hs⟩ := lE (JK h).2 (j := j) (by simpa using hx)
    exact ⟨y, by simpa using hy, hs⟩
  | [], _ :: _, h, _, _, _ => by simp only [Fb] at h; exact h.elim
  | _ :: _, [], h, _, _, _ => by simp only [Fb] at h; exact h.elim
theorem Q0 {F : nK} (hF : lF B B' ι F) {k n : Nat} {g : Nat -> DVal} {id i n' m : Nat} {get : Nat -> DVal} {v : Value} (hf : F id = some (k, m, get)) (hn : n = n') (hm : i + n' <= m) (hg : ∀ j, j < n -> JY (g j) (get (i + j))) (hv : VRel B ι D (.own id k i n') v) : DRel B' (.list k n g false) v := by
  obtain ⟨c, hc⟩ := hF.2 id k m get hf
  subst hn
  cases hv with
  | own hD hcap hq =>
    rcases Nat.eq_zero_or_pos n with rfl | hp
    · exact .nil (λ h => by cases h) (.inr (by simp))
    · have hsz : ∀ j, j < n -> (i + j + 1) * k <= c.size := λ j hj => by
        have h1 : (i + j + 1) * k <= (ι id).cap * k := Nat.mul_le_mul_right k (by have := hc.len; omega)
        have := hc.size
        omega
      refine .list hp hc.at' hcap (λ h => by cases h) (λ j hj => tG (hg j hj) (hc.ok _ (by omega))) ?_ λ j l x y hj hx hy => ?_
      · have h1 : (i + n) * k <= (ι id).cap * k := Nat.mul_le_mul_right k (by have := hc.len; omega)
        have h2 : (i + n) * k = i * k + n * k := Nat.add_mul i n k
        have := hc.size
        omega
      · have e1 : (i + j) * k = i * k + j * k := Nat.add_mul i j k
        have e2 : (i + j + 1) * k = (i + j) * k + k := Nat.succ_mul _ k
        refine (tE (o := (i + j) * k) (hg j hj) (hc.ok _ (by omega)) (by have := hsz j hj; omega) (λ l x y hx hy => hc.rel (i + j) l x y (by omega) hx hy) (λ v hv => IR _ _ v (hg j hj) hv) l x y hx (by rw [e1]; exact hy))
mutual
theorem uG {F : nK} (hF : lF B B' ι F) : ∀ (x : DVal) (y : AVal) (v : Value), IM (Ll F x y) -> VRel B ι D y v -> DRel B' x v
  | .v x, y, v, h, hv => by
    cases y <;> simp only [Ll] at h <;> try exact h.elim
    exact (IR _ _ v (LC _ _ h) hv.d_inv).mono hF.1
  | .anyB, y, v, h, hv => by
    cases y <;> simp only [Ll] at h <;> try exact h.elim
    exact (IR _ _ v (LC _ _ h) hv.d_inv).mono hF.1
  | .iface x c, y, v, h, hv => by
    cases y <;> simp only [Ll] at h <;> try exact h.elim
    exact (IR _ _ v (LC _ _ h) hv.d_inv).mono hF.1
  | .eref x c, y, v, h, hv => by
    cases y <;> simp only [Ll] at h <;> try exact h.elim
    exact (IR _ _ v (LC _ _ h) hv.d_inv).mono hF.1
  | .arr k n g, y, v, h, hv => by
    cases y <;> simp only [Ll] at h <;> try exact h.elim
    exact (IR _ _ v (LC _ _ h) hv.d_inv).mono hF.1
  | .list k n g e, y, v, h, hv => by
    cases y <;> simp only [Ll] at h <;> try exact h.elim
    · exact (IR _ _ v (LC _ _ h) hv.d_inv).mono hF.1
    · split at h
      · rename_i k2 m get hf
        split at h
        · rename_i hc
          simp only [Bool.and_eq_true, OA, Bool.not_eq_true'] at hc
          obtain ⟨⟨rfl, rfl⟩, rfl⟩ := hc
          obtain ⟨h1, h2⟩ := OE.1 h
          obtain ⟨h2, h3⟩ := OE.1 h2
          exact Q0 hF hf h1 h2 (λ j hj => LC _ _ (h3 j hj)) hv
        · exact h.elim
      · exact h.elim
  | .agg xs, y, v, h, hv => by
    cases y <;> simp only [Ll] at h <;> try exact h.elim
    · exact (IR _ _ v (LC _ _ h) hv.d_inv).mono hF.1
    · cases hv with
      | agg hl hr =>
        exact .agg (by rw [hl, lB h]) λ j x z hx hz => by
          obtain ⟨y, hy, hs⟩ := lE h hx
          exact aB hF xs j x y z hx hs (hr j y z hy hz)
  | .tup xs, y, v, h, hv => by
    cases y <;> simp only [Ll] at h <;> try exact h.elim
    · exact (IR _ _ v (LC _ _ h) hv.d_inv).mono hF.1
    · cases hv with
      | tup hl hr =>
        exact .tup (by rw [hl, lB h]) λ j x z hx hz => by
          obtain ⟨y, hy, hs⟩ := lE h hx
          exact aB hF xs j x y z hx hs (hr j y z hy hz)
theorem aB {F : nK} (hF : lF B B' ι F) : ∀ (l : List DVal) (j : Nat) (x : DVal) (y : AVal) (v : Value), l[j]? = some x -> IM (Ll F x y) -> VRel B ι D y v -> DRel B' x v
  | [], j, x, y, v, hx, _, _ => by simp at hx
  | a :: l, 0, x, y, v, hx, h, hv => by simp at hx; subst hx; exact uG hF a y v h hv
  | a :: l, j + 1, x, y, v, hx, h, hv => aB hF l j x y v (by simpa using hx) h hv
end
def AUV : Fn -> Fn -> Option (List Prop)
  | .func a, .func b => if Nat.beq a b then some [] else none
  | f, g => some [f = g]
theorem AOC {f g : Fn} (h : IM (AUV f g)) : f = g := by
  unfold AUV at h
  split at h
  · split at h
    · rename_i hb; rw [Nat.eq_of_beq_eq_true hb]
    · exact h.elim
  · exact h
mutual
def Hj (F : nK) (ρ : Nat -> Nat) (p : Nat -> Bool) : AVal -> AVal -> Option (List Prop)
  | .any, _ => some []
  | .d x, y => Ll F x y
  | .agg xs, .agg ys => SK F ρ p xs ys
  | .agg xs, .d (.agg ys) => SK F ρ p xs (ys.map .d)
  | .tup xs, .tup ys => SK F ρ p xs ys
  | .tup xs, .d (.tup ys) => SK F ρ p xs (ys.map .d)
  | .bptr i c, .bptr j d => if Nat.beq j (ρ i) && p i && Nat.beq c d then some [] else none
  | .rptr i k e c, .rptr j k' e' c' => if Nat.beq j (ρ i) && p i && Nat.beq k k' && Nat.beq c c' then some [e = e'] else none
  | .own i k e n, .own j k' e' n' => if Nat.beq j (ρ i) && p i && Nat.beq k k' then some [e = e', n = n'] else none
  | .fn f a b, .fn g c d => fK (AUV f g) (fK (SK F ρ p a c) (SK F ρ p b d))
  | .mref i, .mref j => if Nat.beq j (ρ i) && p i then some [] else none
  | .opt g a, .opt h b => fK (some [g = h]) (Hj F ρ p a b)
  | _, _ => none
def SK (F : nK) (ρ : Nat -> Nat) (p : Nat -> Bool) : List AVal -> List AVal -> Option (List Prop)
  | [], [] => some []
  | x :: xs, y :: ys => fK (Hj F ρ p x y) (SK F ρ p xs ys)
  | _, _ => none
end
theorem VN {F : nK} {ρ : Nat -> Nat} {p : Nat -> Bool} : ∀ {xs ys : List AVal}, IM (SK F ρ p xs ys) -> xs.length = ys.length
  | [], [], _ => rfl
  | x :: xs, y :: ys, h => by simp only [SK] at h; simp [VN (JK h).2]
  | [], _ :: _, h => by simp only [SK] at h; exact h.elim
  | _ :: _, [], h => by simp only [SK] at h; exact h.elim
theorem XZ {F : nK} {ρ : Nat -> Nat} {p : Nat -> Bool} : ∀ {xs ys : List AVal}, IM (SK F ρ p xs ys) -> ∀ {j : Nat} {x : AVal}, xs[j]? = some x -> ∃ y, ys[j]? = some y /\ IM (Hj F ρ p x y)
  | [], [], _, j, x, hx => by simp at hx
  | a :: xs, b :: ys, h, 0, x, hx => by simp only [SK] at h; simp at hx; subst hx; exact ⟨b, rfl, (JK h).1⟩
  | a :: xs, b :: ys, h, j + 1, x, hx => by
    simp only [SK] at h
    obtain ⟨y, hy, hs⟩ := XZ (JK h).2 (j := j) (by simpa using hx)
    exact ⟨y, by simpa using hy, hs⟩
  | [], _ :: _, h, _, _, _ => by simp only [SK] at h; exact h.elim
  | _ :: _, [], h, _, _, _ => by simp only [SK] at h; exact h.elim
theorem BCZ {ys : List DVal} {v : Value} (h : DRel B (.agg ys) v) : VRel B ι D (.agg (ys.map .d)) v := by
  cases h with
  | agg hl hr =>
    refine .agg (by simp [hl]) λ j x z hx hz => ?_
    rw [List.getElem?_map] at hx
    obtain ⟨x', h1, rfl⟩ := Option.map_eq_some_iff.1 hx
    exact .d (hr j x' z h1 hz)
theorem BEJ {ys : List DVal} {v : Value} (h : DRel B (.tup ys) v) : VRel B ι D (.tup (ys.map .d)) v := by
  cases h with
  | tup hl hr =>
    refine .tup (by simp [hl]) λ j x z hx hz => ?_
    rw [List.getElem?_map] at hx
    obtain ⟨x', h1, rfl⟩ := Option.map_eq_some_iff.1 hx
    exact .d (hr j x' z h1 hz)
mutual
theorem Og {F : nK} (hF : lF B B' ι F) {ρ : Nat -> Nat} {p : Nat -> Bool} {D' : Nat -> Prop} (hp : ∀ i, p i = true -> D' i) : ∀ (x y : AVal) (v : Value), IM (Hj F ρ p x y) -> VRel B ι D y v -> VRel B' (λ i => ι (ρ i)) D' x v
  | .any, _, _, _, _ => .any
  | .d x, y, v, h, hv => .d (uG hF x y v (by simpa only [Hj] using h) hv)
  | .agg xs, y, v, h, hv => by
    have fin : ∀ ys : List AVal, IM (SK F ρ p xs ys) -> VRel B ι D (.agg ys) v -> VRel B' (λ i => ι (ρ i)) D' (.agg xs) v := λ ys h hv => by
      cases hv with
      | agg hl hr =>
        exact .agg (by rw [hl, VN h]) λ j x z hx hz => by
          obtain ⟨y, hy, hs⟩ := XZ h hx
          exact YO hF hp xs j x y z hx hs (hr j y z hy hz)
    cases y <;> (try simp only [Hj] at h) <;> try exact h.elim
    · rename_i x
      cases x <;> (try simp only [Hj] at h) <;> try exact h.elim
      exact fin _ h (BCZ hv.d_inv)
    · exact fin _ h hv
  | .tup xs, y, v, h, hv => by
    have fin : ∀ ys : List AVal, IM (SK F ρ p xs ys) -> VRel B ι D (.tup ys) v -> VRel B' (λ i => ι (ρ i)) D' (.tup xs) v := λ ys h hv => by
      cases hv with
      | tup hl hr =>
        exact .tup (by rw [hl, VN h]) λ j x z hx hz => by
          obtain ⟨y, hy, hs⟩ := XZ h hx
          exact YO hF hp xs j x y z hx hs (hr j y z hy hz)
    cases y <;> (try simp only [Hj] at h) <;> try exact h.elim
    · rename_i x
      cases x <;> (try simp only [Hj] at h) <;> try exact h.elim
      exact fin _ h (BEJ hv.d_inv)
    · exact fin _ h hv
  | .bptr i c, y, v, h, hv => by
    cases y <;> simp only [Hj] at h <;> try exact h.elim
    split at h
    · rename_i hc
      simp only [Bool.and_eq_true, OA] at hc
      obtain ⟨⟨rfl, h2⟩, rfl⟩ := hc
      cases hv; exact VRel.bptr (ι := λ i => ι (ρ i)) (hp _ h2)
    · exact h.elim
  | .rptr i k e c, y, v, h, hv => by
    cases y <;> simp only [Hj] at h <;> try exact h.elim
    split at h
    · rename_i hc
      simp only [Bool.and_eq_true, OA] at hc
      obtain ⟨⟨⟨rfl, h2⟩, rfl⟩, rfl⟩ := hc
      have h : e = _ := h
      subst h
      cases hv; exact VRel.rptr (ι := λ i => ι (ρ i)) (hp _ h2)
    · exact h.elim
  | .own i k e n, y, v, h, hv => by
    cases y <;> simp only [Hj] at h <;> try exact h.elim
    split at h
    · rename_i hc
      simp only [Bool.and_eq_true, OA] at hc
      obtain ⟨⟨rfl, h2⟩, rfl⟩ := hc
      obtain ⟨h3, h4⟩ := OE.1 h
      have h4 : n = _ := h4
      subst h3; subst h4
      cases hv with
      | own _ h3 h4 => exact VRel.own (ι := λ i => ι (ρ i)) (hp _ h2) h3 h4
    · exact h.elim
  | .fn f a b, y, v, h, hv => by
    cases y <;> simp only [Hj] at h <;> try exact h.elim
    obtain ⟨h1, h2⟩ := JK h
    obtain ⟨h2, h3⟩ := JK h2
    have h1 := AOC h1
    subst h1
    cases hv with
    | fn h4 h5 h6 h7 =>
      exact .fn (by rw [h4, VN h2]) (by rw [h5, VN h3])
        (λ j x z hx hz => by
          obtain ⟨y, hy, hs⟩ := XZ h2 hx
          exact YO hF hp a j x y z hx hs (h6 j y z hy hz))
        λ j x z hx hz => by
          obtain ⟨y, hy, hs⟩ := XZ h3 hx
          exact YO hF hp b j x y z hx hs (h7 j y z hy hz)
  | .mref i, y, v, h, hv => by
    cases y <;> simp only [Hj] at h <;> try exact h.elim
    split at h
    · rename_i hc
      simp only [Bool.and_eq_true, OA] at hc
      obtain ⟨rfl, h2⟩ := hc
      cases hv; exact VRel.mref (ι := λ i => ι (ρ i)) (hp _ h2)
    · exact h.elim
  | .opt g a, y, v, h, hv => by
    cases y <;> simp only [Hj] at h <;> try exact h.elim
    obtain ⟨h1, h2⟩ := JK h
    have h1 : g = _ := h1
    subst h1
    cases hv with
    | opt h3 h4 => exact .opt (λ hg => Og hF hp a _ v h2 (h3 hg)) h4
theorem YO {F : nK} (hF : lF B B' ι F) {ρ : Nat -> Nat} {p : Nat -> Bool} {D' : Nat -> Prop} (hp : ∀ i, p i = true -> D' i) : ∀ (l : List AVal) (j : Nat) (x y : AVal) (v : Value), l[j]? = some x -> IM (Hj F ρ p x y) -> VRel B ι D y v -> VRel B' (λ i => ι (ρ i)) D' x v
  | [], j, x, y, v, hx, _, _ => by simp at hx
  | a :: l, 0, x, y, v, hx, h, hv => by simp at hx; subst hx; exact Og hF hp a y v h hv
  | a :: l, j + 1, x, y, v, hx, h, hv => YO hF hp l j x y v (by simpa using hx) h hv
end
def Ri (F : nK) (ρ : Nat -> Nat) (p : Nat -> Bool) : AObj -> AObj -> Option (List Prop)
  | .row k n g, .row k' n' g' => if Nat.beq k k' then some [n = n', ∀ i, i < n -> IM (Ko (g i) (g' i))] else none
  | .box es, .box es' => SK F ρ p es es'
  | .imap q z h g s none, .imap q' z' h' g' s' none => if q = q' then some [z = z', ∀ n, h n = h' n, ∀ n, s n = s' n, ∀ n, IM (Ko (g n) (g' n))] else none
  | .abox es m g, .abox es' m' g' => if Nat.beq m m' then fK (SK F ρ p es es') (some [∀ i, i < m -> g i = g' i]) else none
  | .miter m a b c none, .miter m' a' b' c' _ => if p m && Nat.beq (ρ m) m' then some [∀ n, a n = a' n, ∀ n, b n = b' n, ∀ n, c n = c' n] else none
  | _, _ => none
theorem Wp {F : nK} (hF : lF B B' ι F) {ρ : Nat -> Nat} {p : Nat -> Bool} {D' : Nat -> Prop} (hp : ∀ i, p i = true -> D' i) {q : Nat} {a b : AObj} {x : Option Obj} (h : IM (Ri F ρ p a b)) (hb : ORel B ι D q b x) : ORel B' (λ i => ι (ρ i)) D' q a x := by
  cases a with
  | row k n g =>
    cases b <;> simp only [Ri] at h <;> try exact h.elim
    split at h
    · rename_i hc
      obtain ⟨h1, h2⟩ := OE.1 h
      have hs : Y3 ρ p (.row k n g) (.row _ _ _) := ⟨Nat.eq_of_beq_eq_true hc, h1, λ i hi => LC _ _ (h2 i hi)⟩
      exact (cX hp hs hb).mono hF.1 λ i hi => ⟨hi, rfl⟩
    · exact h.elim
  | box es =>
    cases b <;> simp only [Ri] at h <;> try exact h.elim
    cases hb with
    | box hsz hr =>
      exact .box (by rw [hsz, VN h]) λ j x z hx hz => by
        obtain ⟨y, hy, hs⟩ := XZ h hx
        exact YO hF hp es j x y z hx hs (hr j y z hy hz)
  | imap q z hs g st pend =>
    cases pend with
    | some x => cases b <;> simp only [Ri] at h <;> exact h.elim
    | none =>
    cases b <;> try (simp only [Ri] at h; exact h.elim)
    rename_i q' z' hs' g' st' pend'
    cases pend' with
    | some x => simp only [Ri] at h; exact h.elim
    | none =>
    simp only [Ri] at h
    split at h
    · rename_i hc
      obtain ⟨h1, h3⟩ := OE.1 h
      obtain ⟨h3, h4⟩ := OE.1 h3
      obtain ⟨h4, h5⟩ := OE.1 h4
      have hs : Y3 ρ p (.imap q z hs g st none) (.imap _ _ _ _ _ _) := ⟨hc, h1, rfl, h3, h4, λ n => LC _ _ (h5 n)⟩
      exact (cX hp hs hb).mono hF.1 λ i hi => ⟨hi, rfl⟩
    · exact h.elim
  | abox es m g =>
    cases b <;> simp only [Ri] at h <;> try exact h.elim
    split at h
    · rename_i hc
      obtain rfl := Nat.eq_of_beq_eq_true hc
      obtain ⟨h, hg⟩ := JK h
      cases hb with
      | abox hsz hr hb =>
        exact .abox (by rw [hsz, VN h]) (λ j x z hx hz => by
          obtain ⟨y, hy, hs⟩ := XZ h hx
          exact YO hF hp es j x y z hx hs (hr j y z hy hz)) λ j hj => by rw [VN h, show g j = _ from hg j hj]; exact hb j hj
    · exact h.elim
  | miter m a1 b1 c1 d1 =>
    cases d1 with
    | some x => cases b <;> simp only [Ri] at h <;> exact h.elim
    | none =>
    cases b <;> simp only [Ri] at h <;> try exact h.elim
    split at h
    · rename_i hc
      simp only [Bool.and_eq_true] at hc
      obtain ⟨h1, h3⟩ := OE.1 h
      obtain ⟨h3, h4⟩ := OE.1 h3
      rename_i m' a' b' c' d' _
      have hs : Y3 ρ p (.miter m a1 b1 c1 none) (.miter m' a' b' c' d') := ⟨hc.1, Nat.eq_of_beq_eq_true hc.2, h1, h3, h4, .inl rfl⟩
      exact (cX hp hs hb).mono hF.1 λ i hi => ⟨hi, rfl⟩
    · exact h.elim
def HN (H : Heap) : List Nat -> Heap
  | [] => H
  | id :: r => match H id with
    | .live (.row _ _ _) => HN (II H id .dead) r
    | _ => HN H r
def SY (H : Heap) (ids : List Nat) : nK := λ id => if ids.contains id then match H id with
    | .live (.row k m get) => some (k, m, get)
    | _ => none
  else none
theorem XO : ∀ (ids : List Nat) {B : Fg} {H : Heap}, HRel B ι H w -> ∃ B', Moved B ι H w B' ι (HN H ids) w /\ lF B B' ι (SY H ids)
  | [], B, H, h => ⟨B, Moved.refl h, λ _ _ h => h, λ id k m get hf => by simp [SY] at hf⟩
  | id :: r, B, H, h => by
    simp only [HN]
    split
    · rename_i k m get hid
      obtain ⟨c, e, h1, h2, h3, h4, h5, h6⟩ := Moved.freeze h hid
      obtain ⟨B', h7, h8⟩ := XO r h2.heap
      refine ⟨B', h2.trans h7, λ b c hb => h8.1 b c (h2.bm b c hb), λ id' k' m' get' hf => ?_⟩
      by_cases he : id' = id
      · subst he
        simp only [SY, List.contains_cons, beq_self_eq_true, Bool.true_or, if_true, hid, Option.some.injEq, Prod.mk.injEq] at hf
        obtain ⟨rfl, rfl, rfl⟩ := hf
        exact ⟨c, h8.1 _ _ (by simp), h3, h4, h5, λ i j x y hi hx hy => (h6 i j x y hi hx hy).mono λ b c hb => h8.1 b c (h2.bm b c hb)⟩
      · refine h8.2 id' k' m' get' ?_
        have e1 : (id' == id) = false := by simpa using he
        simp only [SY, List.contains_cons, e1, Bool.false_or] at hf
        simp only [SY, MW _ _ he]
        exact hf
    · rename_i hn
      obtain ⟨B', h7, h8⟩ := XO r h
      refine ⟨B', h7, h8.1, λ id' k' m' get' hf => ?_⟩
      by_cases he : id' = id
      · subst he
        simp only [SY, List.contains_cons, beq_self_eq_true, Bool.true_or, if_true] at hf
        first | cases hf | (split at hf; (rename_i hq; exact (hn _ _ _ hq).elim); cases hf)
      · refine h8.2 id' k' m' get' ?_
        have e1 : (id' == id) = false := by simpa using he
        simp only [SY, List.contains_cons, e1, Bool.false_or] at hf
        exact hf
theorem Nj : ∀ (ids : List Nat) {H : Heap} {i : Nat} {o : AObj}, HN H ids i = .live o -> H i = .live o
  | [], _, _, _, h => h
  | id :: r, H, i, o, h => by
    have key : ∀ H', (H' = H ∨ H' = II H id .dead) -> HN H' r i = .live o -> H i = .live o := λ H' hH h => by
      have := Nj r h
      rcases hH with rfl | rfl
      · exact this
      · by_cases he : i = id
        · subst he; rw [OF] at this; cases this
        · rwa [MW _ _ he] at this
    simp only [HN] at h
    cases hq : H id with
    | live o' => cases o' with
      | row => simp only [hq] at h; exact key _ (.inr rfl) h
      | _ => simp only [hq] at h; exact key _ (.inl rfl) h
    | _ => simp only [hq] at h; exact key _ (.inl rfl) h
def H6 (F : nK) (ρ : Nat -> Nat) (p : Nat -> Bool) : HCell -> HCell -> Option (List Prop)
  | .live o, .live o' => Ri F ρ p o o'
  | .dead, .live _ => some []
  | .dead, .dead => some []
  | _, _ => none
def AMC (F : nK) (ρ : Nat -> Nat) (p : Nat -> Bool) (sl : Nat -> AVal) : List (Nat × AVal) -> Option (List Prop)
  | [] => some []
  | (t, v) :: r => fK (Hj F ρ p v (sl t)) (AMC F ρ p sl r)
def AXC (F : nK) (ρ : Nat -> Nat) (p : Nat -> Bool) (H : Heap) : List (Nat × HCell) -> Option (List Prop)
  | [] => some []
  | (i, c) :: r => fK (H6 F ρ p c (H (ρ i))) (AXC F ρ p H r)
theorem V6 {F : nK} {ρ : Nat -> Nat} {p : Nat -> Bool} {sl : Nat -> AVal} : ∀ {l : List (Nat × AVal)}, IM (AMC F ρ p sl l) -> ∀ t, IM (Hj F ρ p (OG l t) (sl t))
  | [], _, t => by simp only [OG, Hj]; trivial
  | (j, v) :: r, h, t => by
    obtain ⟨h1, h2⟩ := JK h
    simp only [OG]
    split
    · rename_i e; subst e; exact h1
    · exact V6 h2 t
theorem yJ {F : nK} {ρ : Nat -> Nat} {p : Nat -> Bool} {H : Heap} : ∀ {l : List (Nat × HCell)}, IM (AXC F ρ p H l) -> ∀ {i : Nat} {c : HCell}, (i, c) ∈ l -> IM (H6 F ρ p c (H (ρ i)))
  | [], _, i, c, h => by cases h
  | (j, d) :: r, h, i, c, hm => by
    obtain ⟨h1, h2⟩ := JK h
    rcases List.mem_cons.1 hm with hm | hm
    · cases hm; exact h1
    · exact yJ h2 hm
def Jc (E : List Nat) (fz : List Nat) (l : List (Nat × Nat)) (s : ST) (σ : AState) : Option (List Prop) :=
  if (nodup (s.H.map λ x => PK l x.1) && E.all λ i => Nat.beq (PK l i) i && (Cx s.H i).isSome) then
    fK (AMC (SY σ.H fz) (PK l) (λ i => (Cx s.H i).isSome) σ.sl s.sl) (AXC (SY σ.H fz) (PK l) (λ i => (Cx s.H i).isSome) (HN σ.H fz) s.H)
  else none
theorem Moved.subF {B0 : Fg} {ι0 : Nat -> Pl} {H0 : Heap} {w0 : World} {E fz : List Nat} {l : List (Nat × Nat)} {s : ST} {sl : Nat -> AVal} (hE : ∀ i, H0.dom i -> i ∈ E) (h : IM (Jc E fz l s ⟨sl, H⟩)) (hm0 : Moved B0 ι0 H0 w0 B ι H w) :
    ∃ B', Moved B0 ι0 H0 w0 B' (λ i => ι (PK l i)) (bN s.H) w /\ (∀ t v, VRel B ι H.dom (sl t) v -> VRel B' (λ i => ι (PK l i)) (bN s.H).dom (OG s.sl t) v) /\ (∀ i o, bN s.H i = .live o -> ∃ o', H (PK l i) = .live o') /\
      (∀ b c, B b = some c -> B' b = some c) /\ ∀ i ∈ E, (bN s.H).dom i /\ PK l i = i := by
  unfold Jc at h
  split at h
  case isFalse => exact h.elim
  rename_i h3
  obtain ⟨h1, h2⟩ := JK h
  simp only [Bool.and_eq_true, List.all_eq_true, OA] at h3
  obtain ⟨h3, h4⟩ := h3
  have hnd := YA h3
  obtain ⟨B', hk, hF⟩ := XO fz hm0.heap
  have hm := hm0.trans hk
  have hdom : ∀ i, (λ i => (Cx s.H i).isSome) i = true -> (bN s.H).dom i := λ i hi => by
    obtain ⟨d, hd⟩ := Option.isSome_iff_exists.1 hi
    have := yJ h2 (YS hd)
    unfold Heap.dom
    show (Cx s.H i).getD .none ≠ .none
    rw [hd]
    intro he
    simp at he; subst he
    simp only [H6] at this; exact this
  have live : ∀ i o, bN s.H i = .live o -> (i, .live o) ∈ s.H /\ ∃ o', HN H fz (PK l i) = .live o' /\ IM (Ri (SY H fz) (PK l) (λ i => (Cx s.H i).isSome) o o') := λ i o hi => by
    have hg : Cx s.H i = some (.live o) := by
      have : (Cx s.H i).getD .none = .live o := hi
      cases hq : Cx s.H i with
      | none => rw [hq] at this; cases this
      | some d => rw [hq] at this; simpa using this
    have hm := YS hg
    have := yJ h2 hm
    refine ⟨hm, ?_⟩
    cases hq : HN H fz (PK l i) with
    | live o' => rw [hq] at this; exact ⟨o', rfl, this⟩
    | none => rw [hq] at this; simp only [H6] at this; exact this.elim
    | dead => rw [hq] at this; simp only [H6] at this; exact this.elim
  refine ⟨B', ?_, λ t v hv => Og hF hdom _ _ _ (V6 h1 t) hv, λ i o hi => by obtain ⟨_, o', ho, _⟩ := live i o hi; exact ⟨o', Nj fz ho⟩, hF.1, λ i hi => ⟨hdom i (h4 i hi).2, (h4 i hi).1⟩⟩
  refine ⟨hm.bm, hm.bn, λ i hi => ?_, ⟨λ i o hi => ?_, λ i j o o' hi hj hij => ?_, λ i o hi => ?_, hm.heap.imm⟩, λ i o hi => ?_, hm.frame, hm.size, hm.calm⟩
  · obtain ⟨h5, h6⟩ := h4 i (hE i hi)
    exact ⟨hdom i h6, by show ι (PK l i) = _; rw [h5]; exact (hm.im i hi).2⟩
  · obtain ⟨_, o', ho, hs⟩ := live i o hi
    exact Wp hF hdom hs (hm0.heap.obj _ _ (Nj fz ho))
  · obtain ⟨m1, o1, ho1, _⟩ := live i o hi
    obtain ⟨m2, o2, ho2, _⟩ := live j o' hj
    exact (qP hnd m1 m2 (hm.heap.inj _ _ _ _ ho1 ho2 hij)).1
  · obtain ⟨_, o', ho, _⟩ := live i o hi
    exact hm.heap.sep _ _ ho
  · obtain ⟨_, o', ho, _⟩ := live i o hi
    exact hm.own _ _ ho
theorem Rel.subF {c : Ctx} {E fz : List Nat} {l : List (Nat × Nat)} {s : ST} {σ : AState} {a : Act} (hE : ∀ i, c.H0.dom i -> i ∈ E) (h : IM (Jc E fz l s σ)) (hR : Rel c B ι σ a w) : ∃ B', Rel c B' (λ i => ι (PK l i)) s.st a w := by
  obtain ⟨B', h1, h2, h3, _⟩ := Moved.subF hE h hR.mv
  obtain ⟨Ds, d1, d0, d2, d3⟩ := hR.defers
  refine ⟨B', λ t => h2 t _ (hR.slots t), hR.size, ⟨Ds, d1, d0, d2, λ D hD => ⟨(d3 D hD).1, (d3 D hD).2.here, λ i o hi => ?_⟩⟩, h1⟩
  obtain ⟨o', ho⟩ := h3 i o hi
  exact (d3 D hD).2.sep _ _ ho
theorem CodeE.subF {c : Ctx} {E fz : List Nat} {l : List (Nat × Nat)} {s : ST} {σ : AState} {code : Code} {Q : Exit -> AState -> Prop} (hE : ∀ i, c.H0.dom i -> i ∈ E) (hs : IM (Jc E fz l s σ)) (h : CodeE P c code Q s.st) : CodeE P c code Q σ :=
  λ _ _ a w hR => let ⟨B', hR'⟩ := Rel.subF hE hs hR; h B' _ a w hR'
def bJ : List Prop -> Prop -> Prop
  | [], K => K
  | l, K => EF l /\ K
theorem OD {l : List Prop} {K : Prop} (h : bJ l K) : EF l /\ K := by
  cases l with
  | nil => exact ⟨trivial, h⟩
  | cons => exact h
def AQW : Option (List Prop) -> Prop -> Prop
  | some l, K => bJ l K
  | none, _ => False
theorem qW {l : Option (List Prop)} {K : Prop} (h : AQW l K) : IM l /\ K := by
  cases l with
  | none => exact h.elim
  | some l => exact OD h
end Go.Sym

namespace Go.Sym
theorem UQ {a b : List Prop} : EF (a ++ b) ↔ EF a /\ EF b := by
  induction a with
  | nil => simp [EF]
  | cons p a ih => rw [List.cons_append, OE, OE, ih, and_assoc]
variable {P : Program} {B B' : Fg} {ι ι' : Nat -> Pl} {H H' : Heap} {D : Nat -> Prop} {w w' : World}
def AKM (o : Oper) (t : Nat) : Bool := match o.dst with
  | some d => Nat.beq d t
  | none => false
theorem AOD {o : Oper} {t : Nat} (h : AKM o t = true) : o.dst = some t := by
  unfold AKM at h
  split at h
  · rename_i d hd; rw [hd, Nat.eq_of_beq_eq_true h]
  · cases h
def Hg : List Oper -> Bool
  | [] => true
  | o :: l => (match o.dst with
    | some d => l.all λ o' => !AKM o' d
    | none => true) && Hg l
theorem jX {l : List Oper} (h : Hg l = true) {i k : Nat} {o o' : Oper} {t : Nat} (hik : i < k) (ho : l[i]? = some o) (ho' : l[k]? = some o') (ht : o.dst = some t) : o'.dst ≠ some t := by
  induction l generalizing i k with
  | nil => simp at ho
  | cons a l ih =>
    simp only [Hg, Bool.and_eq_true] at h
    cases k with
    | zero => omega
    | succ k =>
      rw [List.getElem?_cons_succ] at ho'
      cases i with
      | zero =>
        rw [List.getElem?_cons_zero] at ho
        cases ho
        have h1 := h.1
        rw [ht] at h1
        simp only [List.all_eq_true] at h1
        have := h1 o' (List.mem_of_getElem? ho')
        intro he
        simp [AKM, he] at this
      | succ i => exact ih h.2 (i := i) (k := k) (by omega) (by rw [List.getElem?_cons_succ] at ho; exact ho) ho'
def L0 : List Oper -> Nat -> Bool
  | [], _ => true
  | o :: l, k => (match o.guard with
    | some q => Nat.blt q.1 k
    | none => true) && L0 l (k + 1)
theorem nM : ∀ {l : List Oper} {k : Nat}, L0 l k = true -> ∀ {i : Nat} {o : Oper} {q : Nat × Bool}, l[i]? = some o -> o.guard = some q -> q.1 < k + i
  | [], _, _, i, o, q, h, _ => by simp at h
  | a :: l, k, h, 0, o, q, ho, hq => by
    simp only [L0, Bool.and_eq_true] at h
    simp at ho; subst ho
    have h1 := h.1
    rw [hq] at h1
    simpa using h1
  | a :: l, k, h, i + 1, o, q, ho, hq => by
    simp only [L0, Bool.and_eq_true] at h
    have := nM h.2 (i := i) (by simpa using ho) hq
    omega
def wg : List Oper -> Nat -> Nat -> Option (Nat × Bool)
  | [], _, _ => none
  | _ :: _, 0, _ => none
  | o :: l, k + 1, t => if AKM o t then o.guard else wg l k t
theorem APK : ∀ {l : List Oper} {k t : Nat} {q : Nat × Bool}, wg l k t = some q -> ∃ i o, i < k /\ l[i]? = some o /\ o.dst = some t /\ o.guard = some q
  | [], k, t, q, h => by simp [wg] at h
  | o :: l, 0, t, q, h => by simp [wg] at h
  | o :: l, k + 1, t, q, h => by
    simp only [wg] at h
    split at h
    · rename_i hd; exact ⟨0, o, by omega, rfl, AOD hd, h⟩
    · obtain ⟨i, o', h1, h2, h3⟩ := APK h
      exact ⟨i + 1, o', by omega, by simpa using h2, h3⟩
def gcov (ops : Array Oper) : Nat -> Nat × Bool -> Nat × Bool -> Bool
  | 0, _, _ => false
  | f + 1, q, q' => (Nat.beq q.1 q'.1 && (q.2 == q'.2)) || match (ops[q.1]?).bind (·.guard) with
    | some q2 => gcov ops f q2 q'
    | none => false
def GInv (ops : Array Oper) (sl : Nat -> AVal) (k : Nat) : Prop :=
  ∀ i o t q, i < k -> ops[i]? = some o -> o.dst = some t -> o.guard = some q -> ∃ g v, sl t = .opt g v /\ IQ ops sl q.1 q.2 = some g
theorem ALZ {ops : Array Oper} {sl : Nat -> AVal} {j : Nat} {want g gd : Bool} {t : Nat} {v : AVal} (ht : (ops[j]?).bind (·.dst) = some t) (hs : sl t = .opt gd v) (h : IQ ops sl j want = some g) (hg : g = true) : gd = true := by
  unfold IQ at h
  rw [ht] at h
  simp only [hs] at h
  split at h <;> simp_all
theorem AMI {ops : Array Oper} {sl : Nat -> AVal} {j : Nat} {want g : Bool} (h : IQ ops sl j want = some g) : ∃ o t, ops[j]? = some o /\ o.dst = some t := by
  unfold IQ at h
  split at h
  · rename_i t ht
    cases hj : ops[j]? with
    | none => rw [hj] at ht; cases ht
    | some o => rw [hj] at ht; exact ⟨o, t, rfl, ht⟩
  · cases h
theorem ABV {ops : Array Oper} {sl : Nat -> AVal} {k : Nat} (hI : GInv ops sl k) (hl : L0 ops.toList 0 = true) : ∀ (f : Nat) (q q' : Nat × Bool) (g g' : Bool), gcov ops f q q' = true -> q.1 < k -> IQ ops sl q.1 q.2 = some g -> g = true -> IQ ops sl q'.1 q'.2 = some g' -> g' = true
  | 0, _, _, _, _, h, _, _, _, _ => by simp [gcov] at h
  | f + 1, q, q', g, g', h, hq, h1, hg, h2 => by
    simp only [gcov, Bool.or_eq_true, Bool.and_eq_true, OA, beq_iff_eq] at h
    rcases h with ⟨e1, e2⟩ | h
    · rw [<- e1, <- e2, h1] at h2; cases h2; exact hg
    · split at h
      · rename_i q2 hq2
        obtain ⟨o, t, ho, ht⟩ := AMI h1
        have hgq : o.guard = some q2 := by rw [ho] at hq2; exact hq2
        obtain ⟨gd, v, hs, hgd⟩ := hI q.1 o t q2 hq ho ht hgq
        have := ALZ (by rw [ho]; exact ht) hs h1 hg
        have hlow := nM hl (i := q.1) (by simpa using ho) hgq
        exact ABV hI hl f q2 q' gd g' h (by omega) hgd this h2
      · cases h
def tagW (cv : Nat × Bool -> Bool) (ops : Array Oper) (k : Nat) (c : Prop) (x : Operand) (a : AVal) : List Prop := match a with
  | .opt g _ => match x with
    | .tmp t => match wg ops.toList k t with
      | some q => if cv q then [] else [c -> g = true]
      | none => [c -> g = true]
    | _ => [c -> g = true]
  | _ => []
theorem mI {cv : Nat × Bool -> Bool} {ops : Array Oper} {sl : Nat -> AVal} {k : Nat} {c : Prop} {x : Operand} (hI : GInv ops sl k) (hcv : ∀ q g, cv q = true -> IQ ops sl q.1 q.2 = some g -> c -> g = true) (h : EF (tagW cv ops k c x (BP sl x))) : EF (Lx c (BP sl x)) := by
  generalize ha : BP sl x = a at h
  cases a with
  | opt g v =>
    simp only [tagW] at h
    split at h
    · rename_i t
      split at h
      · rename_i q hq
        split at h
        · rename_i hc
          obtain ⟨i, o, h1, h2, h3, h4⟩ := APK hq
          obtain ⟨g', v', h5, h6⟩ := hI i o t q h1 (by simpa using h2) h3 h4
          have : sl t = .opt g v := ha
          rw [h5] at this; cases this
          exact λ c => hcv q _ hc h6 c
        · exact h
      · exact h
    · exact h
  | _ => trivial
def cvOwn (ops : Array Oper) (k : Nat) (gd : Option (Nat × Bool)) (q : Nat × Bool) : Bool := match gd with
  | some g => gcov ops (k + 1) g q
  | none => false
def AEK (ops : Array Oper) (k : Nat) (gd : Option (Nat × Bool)) (c : Operand) (want : Bool) (q : Nat × Bool) : Bool :=
  (match c, (ops[q.1]?).bind (·.dst) with
    | .tmp tc, some t => Nat.beq t tc && (q.2 == want)
    | _, _ => false) || cvOwn ops k gd q
def ARD (ops : Array Oper) (k : Nat) (sl : Nat -> AVal) (o : Oper) : List Prop := match o.op, o.guard with
  | .pick c a b, gd => match EA (BP sl c) with
    | .d (.v (.bool t)) => tagW (cvOwn ops k gd) ops k True c (BP sl c) ++ (tagW (AEK ops k gd c true) ops k (t = true) a (BP sl a) ++ tagW (AEK ops k gd c false) ops k (t = false) b (BP sl b))
    | _ => []
  | _, none => []
  | op, some q => op.operands.toList.flatMap λ x => tagW (cvOwn ops k (some q)) ops k True x (BP sl x)
def aQ (sl : Nat -> AVal) (o : Oper) : List Prop := match o.op, o.guard with
  | .pick c a b, _ => match EA (BP sl c) with
    | .d (.v (.bool t)) => Lx True (BP sl c) ++ (Lx (t = true) (BP sl a) ++ Lx (t = false) (BP sl b))
    | _ => []
  | _, none => []
  | op, some _ => Bk (BP sl) op.operands.toList
theorem J4 {ops : Array Oper} {sl : Nat -> AVal} {k : Nat} {gd : Option (Nat × Bool)} {c : Operand} {want t : Bool} (hO : ∀ q g, cvOwn ops k gd q = true -> IQ ops sl q.1 q.2 = some g -> g = true) (hc : EA (BP sl c) = .d (.v (.bool t))) (ht : EF (Lx True (BP sl c))) (q : Nat × Bool) (g : Bool)
    (h : AEK ops k gd c want q = true) (hg : IQ ops sl q.1 q.2 = some g) (hw : t = want) : g = true := by
  simp only [AEK, Bool.or_eq_true] at h
  rcases h with h | h
  · split at h
    · rename_i tc t' hd
      simp only [Bool.and_eq_true, OA, beq_iff_eq] at h
      obtain ⟨rfl, h2⟩ := h
      unfold IQ at hg
      rw [hd] at hg
      simp only [BP] at hc ht
      subst hw
      rw [h2] at hg
      obtain ⟨v, hv⟩ : ∃ v, sl t' = v := ⟨_, rfl⟩
      simp only [hv] at hc ht hg
      cases v with
      | opt gc v' =>
        have : gc = true := ht trivial
        subst this
        simp only [EA] at hc; subst hc
        cases t <;> simp at hg <;> exact hg
      | d x => simp only [EA] at hc; cases hc; cases t <;> simp at hg <;> exact hg
      | _ => simp only [EA] at hc; cases hc
    · cases h
  · exact hO q g h hg
theorem AMK {ops : Array Oper} {sl : Nat -> AVal} {k : Nat} {o : Oper} (hI : GInv ops sl k) (hl : L0 ops.toList 0 = true) (ho : ops[k]? = some o) (hgd : ∀ q, o.guard = some q -> IQ ops sl q.1 q.2 = some true) (h : EF (ARD ops k sl o)) : EF (aQ sl o) := by
  have hO : ∀ q g, cvOwn ops k o.guard q = true -> IQ ops sl q.1 q.2 = some g -> g = true := λ q g hc hg => by
    unfold cvOwn at hc
    split at hc
    · rename_i q0 hq0
      have := nM hl (i := k) (by simpa using ho) hq0
      exact ABV hI hl _ q0 q true g hc (by omega) (hgd q0 hq0) rfl hg
    · cases hc
  unfold ARD at h
  unfold aQ
  split at h
  · rename_i c a b ho'
    split at h
    · rename_i t hc
      obtain ⟨h1, h2⟩ := CD h
      obtain ⟨h2, h3⟩ := CD h2
      have t1 := mI hI (λ q g a b _ => hO q g a b) h1
      exact UQ.2 ⟨t1, UQ.2 ⟨mI hI (λ q g a b c => J4 hO hc t1 q g a b c) h2, mI hI (λ q g a b c => J4 hO hc t1 q g a b c) h3⟩⟩
    · trivial
  · trivial
  · rename_i q hgn hq
    rw [hgn] at hO
    generalize o.op.operands.toList = l at h
    induction l with
    | nil => trivial
    | cons x l ih =>
      rw [List.flatMap_cons] at h
      obtain ⟨h1, h2⟩ := CD h
      show EF (Lx True (BP sl x) ++ Bk (BP sl) l)
      exact UQ.2 ⟨mI hI (λ q g a b _ => hO q g a b) h1, ih h2⟩
theorem GInv.next {ops : Array Oper} {sl : Nat -> AVal} {k : Nat} {o : Oper} {v : AVal} (hI : GInv ops sl k) (hl : L0 ops.toList 0 = true) (hd : Hg ops.toList = true) (ho : ops[k]? = some o) (hv : ∀ q, o.guard = some q -> ∃ g v', v = .opt g v' /\ IQ ops sl q.1 q.2 = some g) (sl' : Nat -> AVal)
    (hsl : ∀ t, sl' t = if o.dst = some t then v else sl t) : GInv ops sl' (k + 1) := by
  have hk : ∀ j want, j < k -> IQ ops sl' j want = IQ ops sl j want := λ j want hj => by
    unfold IQ
    cases hjo : ops[j]? with
    | none => rfl
    | some oj =>
      simp only [Option.bind_some]
      cases hdj : oj.dst with
      | none => rfl
      | some t =>
        simp only
        rw [hsl t, if_neg (jX hd hj (by simpa using hjo) (by simpa using ho) hdj)]
  intro i o' t q hi ho' ht hq
  have hlow := nM hl (i := i) (by simpa using ho') hq
  rcases Nat.lt_or_ge i k with hik | hik
  · obtain ⟨g, v', h1, h2⟩ := hI i o' t q hik ho' ht hq
    refine ⟨g, v', ?_, by rw [hk _ _ (by omega)]; exact h2⟩
    rw [hsl t, if_neg (jX hd hik (by simpa using ho') (by simpa using ho) ht)]
    exact h1
  · have : i = k := by omega
    subst this
    rw [ho] at ho'; cases ho'
    obtain ⟨g, v', h1, h2⟩ := hv q hq
    exact ⟨g, v', by rw [hsl t, if_pos ht]; exact h1, by rw [hk _ _ (by omega)]; exact h2⟩
end Go.Sym
