/- When a state tells less than another: a list of conditions on scalars. -/
import Derived.Test.YtonddbmhljelgaaSym6
set_option linter.unusedVariables false
set_option linter.unusedSimpArgs false
namespace Go.Sym
variable {P : Program} {B B' : Imm} {ι ι' : Nat → Pl} {H H' : Heap} {D : Nat → Prop} {w w' : World}
theorem natBeq_iff {a b : Nat} : (Nat.beq a b = true) = (a = b) := propext ⟨Nat.eq_of_beq_eq_true, fun h => by subst h; exact Nat.beq_refl a⟩
def propO : Option (List Prop) → Prop
  | some l => allP l
  | none => False
def andO : Option (List Prop) → Option (List Prop) → Option (List Prop)
  | some l, some m => some (l ++ m)
  | _, _ => none
def condE : Value → Value → Option (List Prop)
  | .int k a, .int k' b => if k = k' then some [a = b] else none
  | .bool a, .bool b => some [a = b]
  | .string a, .string b => some [a = b]
  | x, y => some [x = y]
theorem andO_spec {a b : Option (List Prop)} (h : propO (andO a b)) : propO a ∧ propO b := by
  cases a with
  | none => exact h.elim
  | some l => cases b with
    | none => exact h.elim
    | some m => exact allP_append h
theorem vEq_refl' (x : Value) : vEq x x := by
  unfold vEq; split <;> simp_all
theorem condE_spec {x y : Value} (h : propO (condE x y)) : vEq x y := by
  unfold condE at h
  split at h
  · split at h
    · rename_i hk; exact ⟨hk, h⟩
    · exact h.elim
  · exact h
  · exact h
  · have h : x = y := h
    subst h
    exact vEq_refl' x
mutual
def condD : DVal → DVal → Option (List Prop)
  | .v x, .v y => condE x y
  | .agg xs, .agg ys => condDL xs ys
  | .tup xs, .tup ys => condDL xs ys
  | .list k n g e, .list k' n' g' e' => if Nat.beq k k' && (!e || e') then some [n = n', ∀ i, i < n → propO (condD (g i) (g' i))] else if Nat.beq k' 0 && (!e || e') then some [n = n', n = 0] else none
  | .arr k n g, .arr k' n' g' => if Nat.beq k k' then some [n = n', ∀ i, i < n → propO (condD (g i) (g' i))] else none
  | .eref x c, .eref y d => if Nat.beq c d then condD x y else none
  | _, _ => none
def condDL : List DVal → List DVal → Option (List Prop)
  | [], [] => some []
  | x :: xs, y :: ys => andO (condD x y) (condDL xs ys)
  | _, _ => none
end
mutual
theorem condD_spec : ∀ (x y : DVal), propO (condD x y) → dsub x y
  | .v x, y, h => by cases y <;> simp only [condD] at h <;> first | exact (by simp only [dsub]; exact condE_spec h) | exact h.elim
  | .agg xs, y, h => by cases y <;> simp only [condD] at h <;> first | exact (by simp only [dsub]; exact condDL_spec _ _ h) | exact h.elim
  | .tup xs, y, h => by cases y <;> simp only [condD] at h <;> first | exact (by simp only [dsub]; exact condDL_spec _ _ h) | exact h.elim
  | .list k n g e, y, h => by
    cases y <;> simp only [condD] at h <;> try exact h.elim
    split at h
    · rename_i hc
      simp only [Bool.and_eq_true, natBeq_iff, Bool.or_eq_true, Bool.not_eq_true'] at hc
      obtain ⟨h1, h2⟩ := allP_cons.1 h
      simp only [dsub]
      refine ⟨.inl hc.1, h1, fun he => ?_, fun i hi => condD_spec _ _ (h2 i hi)⟩
      rcases hc.2 with h | h
      · rw [he] at h; cases h
      · exact h
    · split at h
      · rename_i hc
        simp only [Bool.and_eq_true, natBeq_iff, Bool.or_eq_true, Bool.not_eq_true'] at hc
        obtain ⟨h1, h2⟩ := allP_cons.1 h
        have h2 : n = 0 := h2
        simp only [dsub]
        refine ⟨.inr h2, h1, fun he => ?_, fun i hi => by omega⟩
        rcases hc.2 with h | h
        · rw [he] at h; cases h
        · exact h
      · exact h.elim
  | .arr k n g, y, h => by
    cases y <;> simp only [condD] at h <;> try exact h.elim
    split at h
    · rename_i hc
      obtain ⟨h1, h2⟩ := allP_cons.1 h
      simp only [dsub]
      exact ⟨Nat.eq_of_beq_eq_true hc, h1, fun i hi => condD_spec _ _ (h2 i hi)⟩
    · exact h.elim
  | .eref x c, y, h => by
    cases y <;> simp only [condD] at h <;> try exact h.elim
    split at h
    · rename_i hc
      simp only [dsub]
      exact ⟨Nat.eq_of_beq_eq_true hc, condD_spec _ _ h⟩
    · exact h.elim
theorem condDL_spec : ∀ (x y : List DVal), propO (condDL x y) → dsubL x y
  | [], y, h => by cases y <;> simp only [condDL] at h <;> first | trivial | exact h.elim
  | x :: xs, y, h => by
    cases y <;> simp only [condDL] at h
    · exact h.elim
    · obtain ⟨h1, h2⟩ := andO_spec h
      simp only [dsubL]
      exact ⟨condD_spec _ _ h1, condDL_spec _ _ h2⟩
end
abbrev Frz := Nat → Option (Nat × Nat × (Nat → DVal))
structure FrzRow (B' : Imm) (ι : Nat → Pl) (id k m : Nat) (get : Nat → DVal) (c : Array Value) : Prop where
  at' : B' (ι id).b = some c
  len : m ≤ (ι id).cap
  size : (ι id).cap * k ≤ c.size
  ok : ∀ i, i < m → EOk k (get i)
  rel : ∀ (i j : Nat) (x : DVal) (y : Value), i < m → (get i).cells1[j]? = some x → c[i * k + j]? = some y → DRel B' x y
def FrzOk (B B' : Imm) (ι : Nat → Pl) (F : Frz) : Prop :=
  (∀ b c, B b = some c → B' b = some c) ∧ ∀ id k m get, F id = some (k, m, get) → ∃ c, FrzRow B' ι id k m get c
mutual
def condDV (F : Frz) : DVal → AVal → Option (List Prop)
  | x, .d y => condD x y
  | .list k n g e, .own id k' i n' => match F id with
    | some (k2, m, get) => if Nat.beq k k' && Nat.beq k k2 && !e then some [n = n', i + n' ≤ m, ∀ j, j < n → propO (condD (g j) (get (i + j)))] else none
    | none => none
  | .agg xs, .agg ys => condDVL F xs ys
  | .tup xs, .tup ys => condDVL F xs ys
  | _, _ => none
def condDVL (F : Frz) : List DVal → List AVal → Option (List Prop)
  | [], [] => some []
  | x :: xs, y :: ys => andO (condDV F x y) (condDVL F xs ys)
  | _, _ => none
end
theorem condDVL_len {F : Frz} : ∀ {xs : List DVal} {ys : List AVal}, propO (condDVL F xs ys) → xs.length = ys.length
  | [], [], _ => rfl
  | x :: xs, y :: ys, h => by simp only [condDVL] at h; simp [condDVL_len (andO_spec h).2]
  | [], _ :: _, h => by simp only [condDVL] at h; exact h.elim
  | _ :: _, [], h => by simp only [condDVL] at h; exact h.elim
theorem condDVL_get {F : Frz} : ∀ {xs : List DVal} {ys : List AVal}, propO (condDVL F xs ys) → ∀ {j : Nat} {x : DVal}, xs[j]? = some x → ∃ y, ys[j]? = some y ∧ propO (condDV F x y)
  | [], [], _, j, x, hx => by simp at hx
  | a :: xs, b :: ys, h, 0, x, hx => by simp only [condDVL] at h; simp at hx; subst hx; exact ⟨b, rfl, (andO_spec h).1⟩
  | a :: xs, b :: ys, h, j + 1, x, hx => by
    simp only [condDVL] at h
    obtain ⟨y, hy, hs⟩ := condDVL_get (andO_spec h).2 (j := j) (by simpa using hx)
    exact ⟨y, by simpa using hy, hs⟩
  | [], _ :: _, h, _, _, _ => by simp only [condDVL] at h; exact h.elim
  | _ :: _, [], h, _, _, _ => by simp only [condDVL] at h; exact h.elim
theorem frz_list {F : Frz} (hF : FrzOk B B' ι F) {k n : Nat} {g : Nat → DVal} {id i n' m : Nat} {get : Nat → DVal} {v : Value} (hf : F id = some (k, m, get)) (hn : n = n') (hm : i + n' ≤ m) (hg : ∀ j, j < n → dsub (g j) (get (i + j))) (hv : VRel B ι D (.own id k i n') v) : DRel B' (.list k n g false) v := by
  obtain ⟨c, hc⟩ := hF.2 id k m get hf
  subst hn
  cases hv with
  | own hD hcap hq =>
    rcases Nat.eq_zero_or_pos n with rfl | hp
    · exact .nil (fun h => by cases h) (.inr (by simp))
    · have hsz : ∀ j, j < n → (i + j + 1) * k ≤ c.size := fun j hj => by
        have h1 : (i + j + 1) * k ≤ (ι id).cap * k := Nat.mul_le_mul_right k (by have := hc.len; omega)
        have := hc.size
        omega
      refine .list hp hc.at' hcap (fun h => by cases h) (fun j hj => dsub_ok (hg j hj) (hc.ok _ (by omega))) ?_ fun j l x y hj hx hy => ?_
      · have h1 : (i + n) * k ≤ (ι id).cap * k := Nat.mul_le_mul_right k (by have := hc.len; omega)
        have h2 : (i + n) * k = i * k + n * k := Nat.add_mul i n k
        have := hc.size
        omega
      · have e1 : (i + j) * k = i * k + j * k := Nat.add_mul i j k
        have e2 : (i + j + 1) * k = (i + j) * k + k := Nat.succ_mul _ k
        refine (elem_sub (o := (i + j) * k) (hg j hj) (hc.ok _ (by omega)) (by have := hsz j hj; omega) (fun l x y hx hy => hc.rel (i + j) l x y (by omega) hx hy) (fun v hv => dsub_sound _ _ v (hg j hj) hv) l x y hx (by rw [e1]; exact hy))
mutual
theorem condDV_sound {F : Frz} (hF : FrzOk B B' ι F) : ∀ (x : DVal) (y : AVal) (v : Value), propO (condDV F x y) → VRel B ι D y v → DRel B' x v
  | .v x, y, v, h, hv => by
    cases y <;> simp only [condDV] at h <;> try exact h.elim
    exact (dsub_sound _ _ v (condD_spec _ _ h) hv.d_inv).mono hF.1
  | .eref x c, y, v, h, hv => by
    cases y <;> simp only [condDV] at h <;> try exact h.elim
    exact (dsub_sound _ _ v (condD_spec _ _ h) hv.d_inv).mono hF.1
  | .arr k n g, y, v, h, hv => by
    cases y <;> simp only [condDV] at h <;> try exact h.elim
    exact (dsub_sound _ _ v (condD_spec _ _ h) hv.d_inv).mono hF.1
  | .list k n g e, y, v, h, hv => by
    cases y <;> simp only [condDV] at h <;> try exact h.elim
    · exact (dsub_sound _ _ v (condD_spec _ _ h) hv.d_inv).mono hF.1
    · split at h
      · rename_i k2 m get hf
        split at h
        · rename_i hc
          simp only [Bool.and_eq_true, natBeq_iff, Bool.not_eq_true'] at hc
          obtain ⟨⟨rfl, rfl⟩, rfl⟩ := hc
          obtain ⟨h1, h2⟩ := allP_cons.1 h
          obtain ⟨h2, h3⟩ := allP_cons.1 h2
          exact frz_list hF hf h1 h2 (fun j hj => condD_spec _ _ (h3 j hj)) hv
        · exact h.elim
      · exact h.elim
  | .agg xs, y, v, h, hv => by
    cases y <;> simp only [condDV] at h <;> try exact h.elim
    · exact (dsub_sound _ _ v (condD_spec _ _ h) hv.d_inv).mono hF.1
    · cases hv with
      | agg hl hr =>
        exact .agg (by rw [hl, condDVL_len h]) fun j x z hx hz => by
          obtain ⟨y, hy, hs⟩ := condDVL_get h hx
          exact condDV_soundL hF xs j x y z hx hs (hr j y z hy hz)
  | .tup xs, y, v, h, hv => by
    cases y <;> simp only [condDV] at h <;> try exact h.elim
    · exact (dsub_sound _ _ v (condD_spec _ _ h) hv.d_inv).mono hF.1
    · cases hv with
      | tup hl hr =>
        exact .tup (by rw [hl, condDVL_len h]) fun j x z hx hz => by
          obtain ⟨y, hy, hs⟩ := condDVL_get h hx
          exact condDV_soundL hF xs j x y z hx hs (hr j y z hy hz)
theorem condDV_soundL {F : Frz} (hF : FrzOk B B' ι F) : ∀ (l : List DVal) (j : Nat) (x : DVal) (y : AVal) (v : Value), l[j]? = some x → propO (condDV F x y) → VRel B ι D y v → DRel B' x v
  | [], j, x, y, v, hx, _, _ => by simp at hx
  | a :: l, 0, x, y, v, hx, h, hv => by simp at hx; subst hx; exact condDV_sound hF a y v h hv
  | a :: l, j + 1, x, y, v, hx, h, hv => condDV_soundL hF l j x y v (by simpa using hx) h hv
end
def condF : Fn → Fn → Option (List Prop)
  | .func a, .func b => if Nat.beq a b then some [] else none
  | f, g => some [f = g]
theorem condF_spec {f g : Fn} (h : propO (condF f g)) : f = g := by
  unfold condF at h
  split at h
  · split at h
    · rename_i hb; rw [Nat.eq_of_beq_eq_true hb]
    · exact h.elim
  · exact h
mutual
def condV (F : Frz) (ρ : Nat → Nat) (p : Nat → Bool) : AVal → AVal → Option (List Prop)
  | .any, _ => some []
  | .d x, y => condDV F x y
  | .agg xs, .agg ys => condVL F ρ p xs ys
  | .agg xs, .d (.agg ys) => condVL F ρ p xs (ys.map .d)
  | .tup xs, .tup ys => condVL F ρ p xs ys
  | .tup xs, .d (.tup ys) => condVL F ρ p xs (ys.map .d)
  | .bptr i c, .bptr j d => if Nat.beq j (ρ i) && p i && Nat.beq c d then some [] else none
  | .rptr i k e c, .rptr j k' e' c' => if Nat.beq j (ρ i) && p i && Nat.beq k k' && Nat.beq c c' then some [e = e'] else none
  | .own i k e n, .own j k' e' n' => if Nat.beq j (ρ i) && p i && Nat.beq k k' then some [e = e', n = n'] else none
  | .fn f a b, .fn g c d => andO (condF f g) (andO (condVL F ρ p a c) (condVL F ρ p b d))
  | .mref i, .mref j => if Nat.beq j (ρ i) && p i then some [] else none
  | .opt g a, .opt h b => andO (some [g = h]) (condV F ρ p a b)
  | _, _ => none
def condVL (F : Frz) (ρ : Nat → Nat) (p : Nat → Bool) : List AVal → List AVal → Option (List Prop)
  | [], [] => some []
  | x :: xs, y :: ys => andO (condV F ρ p x y) (condVL F ρ p xs ys)
  | _, _ => none
end
theorem condVL_len {F : Frz} {ρ : Nat → Nat} {p : Nat → Bool} : ∀ {xs ys : List AVal}, propO (condVL F ρ p xs ys) → xs.length = ys.length
  | [], [], _ => rfl
  | x :: xs, y :: ys, h => by simp only [condVL] at h; simp [condVL_len (andO_spec h).2]
  | [], _ :: _, h => by simp only [condVL] at h; exact h.elim
  | _ :: _, [], h => by simp only [condVL] at h; exact h.elim
theorem condVL_get {F : Frz} {ρ : Nat → Nat} {p : Nat → Bool} : ∀ {xs ys : List AVal}, propO (condVL F ρ p xs ys) → ∀ {j : Nat} {x : AVal}, xs[j]? = some x → ∃ y, ys[j]? = some y ∧ propO (condV F ρ p x y)
  | [], [], _, j, x, hx => by simp at hx
  | a :: xs, b :: ys, h, 0, x, hx => by simp only [condVL] at h; simp at hx; subst hx; exact ⟨b, rfl, (andO_spec h).1⟩
  | a :: xs, b :: ys, h, j + 1, x, hx => by
    simp only [condVL] at h
    obtain ⟨y, hy, hs⟩ := condVL_get (andO_spec h).2 (j := j) (by simpa using hx)
    exact ⟨y, by simpa using hy, hs⟩
  | [], _ :: _, h, _, _, _ => by simp only [condVL] at h; exact h.elim
  | _ :: _, [], h, _, _, _ => by simp only [condVL] at h; exact h.elim
theorem agg_map {ys : List DVal} {v : Value} (h : DRel B (.agg ys) v) : VRel B ι D (.agg (ys.map .d)) v := by
  cases h with
  | agg hl hr =>
    refine .agg (by simp [hl]) fun j x z hx hz => ?_
    rw [List.getElem?_map] at hx
    obtain ⟨x', h1, rfl⟩ := Option.map_eq_some_iff.1 hx
    exact .d (hr j x' z h1 hz)
theorem tup_map {ys : List DVal} {v : Value} (h : DRel B (.tup ys) v) : VRel B ι D (.tup (ys.map .d)) v := by
  cases h with
  | tup hl hr =>
    refine .tup (by simp [hl]) fun j x z hx hz => ?_
    rw [List.getElem?_map] at hx
    obtain ⟨x', h1, rfl⟩ := Option.map_eq_some_iff.1 hx
    exact .d (hr j x' z h1 hz)
mutual
theorem condV_sound {F : Frz} (hF : FrzOk B B' ι F) {ρ : Nat → Nat} {p : Nat → Bool} {D' : Nat → Prop} (hp : ∀ i, p i = true → D' i) : ∀ (x y : AVal) (v : Value), propO (condV F ρ p x y) → VRel B ι D y v → VRel B' (fun i => ι (ρ i)) D' x v
  | .any, _, _, _, _ => .any
  | .d x, y, v, h, hv => .d (condDV_sound hF x y v (by simpa only [condV] using h) hv)
  | .agg xs, y, v, h, hv => by
    have fin : ∀ ys : List AVal, propO (condVL F ρ p xs ys) → VRel B ι D (.agg ys) v → VRel B' (fun i => ι (ρ i)) D' (.agg xs) v := fun ys h hv => by
      cases hv with
      | agg hl hr =>
        exact .agg (by rw [hl, condVL_len h]) fun j x z hx hz => by
          obtain ⟨y, hy, hs⟩ := condVL_get h hx
          exact condV_soundL hF hp xs j x y z hx hs (hr j y z hy hz)
    cases y <;> (try simp only [condV] at h) <;> try exact h.elim
    · rename_i x
      cases x <;> (try simp only [condV] at h) <;> try exact h.elim
      exact fin _ h (agg_map hv.d_inv)
    · exact fin _ h hv
  | .tup xs, y, v, h, hv => by
    have fin : ∀ ys : List AVal, propO (condVL F ρ p xs ys) → VRel B ι D (.tup ys) v → VRel B' (fun i => ι (ρ i)) D' (.tup xs) v := fun ys h hv => by
      cases hv with
      | tup hl hr =>
        exact .tup (by rw [hl, condVL_len h]) fun j x z hx hz => by
          obtain ⟨y, hy, hs⟩ := condVL_get h hx
          exact condV_soundL hF hp xs j x y z hx hs (hr j y z hy hz)
    cases y <;> (try simp only [condV] at h) <;> try exact h.elim
    · rename_i x
      cases x <;> (try simp only [condV] at h) <;> try exact h.elim
      exact fin _ h (tup_map hv.d_inv)
    · exact fin _ h hv
  | .bptr i c, y, v, h, hv => by
    cases y <;> simp only [condV] at h <;> try exact h.elim
    split at h
    · rename_i hc
      simp only [Bool.and_eq_true, natBeq_iff] at hc
      obtain ⟨⟨rfl, h2⟩, rfl⟩ := hc
      cases hv; exact VRel.bptr (ι := fun i => ι (ρ i)) (hp _ h2)
    · exact h.elim
  | .rptr i k e c, y, v, h, hv => by
    cases y <;> simp only [condV] at h <;> try exact h.elim
    split at h
    · rename_i hc
      simp only [Bool.and_eq_true, natBeq_iff] at hc
      obtain ⟨⟨⟨rfl, h2⟩, rfl⟩, rfl⟩ := hc
      have h : e = _ := h
      subst h
      cases hv; exact VRel.rptr (ι := fun i => ι (ρ i)) (hp _ h2)
    · exact h.elim
  | .own i k e n, y, v, h, hv => by
    cases y <;> simp only [condV] at h <;> try exact h.elim
    split at h
    · rename_i hc
      simp only [Bool.and_eq_true, natBeq_iff] at hc
      obtain ⟨⟨rfl, h2⟩, rfl⟩ := hc
      obtain ⟨h3, h4⟩ := allP_cons.1 h
      have h4 : n = _ := h4
      subst h3; subst h4
      cases hv with
      | own _ h3 h4 => exact VRel.own (ι := fun i => ι (ρ i)) (hp _ h2) h3 h4
    · exact h.elim
  | .fn f a b, y, v, h, hv => by
    cases y <;> simp only [condV] at h <;> try exact h.elim
    obtain ⟨h1, h2⟩ := andO_spec h
    obtain ⟨h2, h3⟩ := andO_spec h2
    have h1 := condF_spec h1
    subst h1
    cases hv with
    | fn h4 h5 h6 h7 =>
      exact .fn (by rw [h4, condVL_len h2]) (by rw [h5, condVL_len h3])
        (fun j x z hx hz => by
          obtain ⟨y, hy, hs⟩ := condVL_get h2 hx
          exact condV_soundL hF hp a j x y z hx hs (h6 j y z hy hz))
        fun j x z hx hz => by
          obtain ⟨y, hy, hs⟩ := condVL_get h3 hx
          exact condV_soundL hF hp b j x y z hx hs (h7 j y z hy hz)
  | .mref i, y, v, h, hv => by
    cases y <;> simp only [condV] at h <;> try exact h.elim
    split at h
    · rename_i hc
      simp only [Bool.and_eq_true, natBeq_iff] at hc
      obtain ⟨rfl, h2⟩ := hc
      cases hv; exact VRel.mref (ι := fun i => ι (ρ i)) (hp _ h2)
    · exact h.elim
  | .opt g a, y, v, h, hv => by
    cases y <;> simp only [condV] at h <;> try exact h.elim
    obtain ⟨h1, h2⟩ := andO_spec h
    have h1 : g = _ := h1
    subst h1
    cases hv with
    | opt h3 h4 => exact .opt (fun hg => condV_sound hF hp a _ v h2 (h3 hg)) h4
theorem condV_soundL {F : Frz} (hF : FrzOk B B' ι F) {ρ : Nat → Nat} {p : Nat → Bool} {D' : Nat → Prop} (hp : ∀ i, p i = true → D' i) : ∀ (l : List AVal) (j : Nat) (x y : AVal) (v : Value), l[j]? = some x → propO (condV F ρ p x y) → VRel B ι D y v → VRel B' (fun i => ι (ρ i)) D' x v
  | [], j, x, y, v, hx, _, _ => by simp at hx
  | a :: l, 0, x, y, v, hx, h, hv => by simp at hx; subst hx; exact condV_sound hF hp a y v h hv
  | a :: l, j + 1, x, y, v, hx, h, hv => condV_soundL hF hp l j x y v (by simpa using hx) h hv
end
def condO (F : Frz) (ρ : Nat → Nat) (p : Nat → Bool) : AObj → AObj → Option (List Prop)
  | .row k n g, .row k' n' g' => if Nat.beq k k' then some [n = n', ∀ i, i < n → propO (condD (g i) (g' i))] else none
  | .box es, .box es' => condVL F ρ p es es'
  | .imap q z h g s none, .imap q' z' h' g' s' none => if q = q' then some [z = z', ∀ n, h n = h' n, ∀ n, s n = s' n, ∀ n, propO (condD (g n) (g' n))] else none
  | _, _ => none
theorem condO_sound {F : Frz} (hF : FrzOk B B' ι F) {ρ : Nat → Nat} {p : Nat → Bool} {D' : Nat → Prop} (hp : ∀ i, p i = true → D' i) {q : Nat} {a b : AObj} {x : Option Obj} (h : propO (condO F ρ p a b)) (hb : ORel B ι D q b x) : ORel B' (fun i => ι (ρ i)) D' q a x := by
  cases a with
  | row k n g =>
    cases b <;> simp only [condO] at h <;> try exact h.elim
    split at h
    · rename_i hc
      obtain ⟨h1, h2⟩ := allP_cons.1 h
      have hs : osub ρ p (.row k n g) (.row _ _ _) := ⟨Nat.eq_of_beq_eq_true hc, h1, fun i hi => condD_spec _ _ (h2 i hi)⟩
      exact (osub_sound hp hs hb).mono hF.1 fun i hi => ⟨hi, rfl⟩
    · exact h.elim
  | box es =>
    cases b <;> simp only [condO] at h <;> try exact h.elim
    cases hb with
    | box hsz hr =>
      exact .box (by rw [hsz, condVL_len h]) fun j x z hx hz => by
        obtain ⟨y, hy, hs⟩ := condVL_get h hx
        exact condV_soundL hF hp es j x y z hx hs (hr j y z hy hz)
  | imap q z hs g st pend =>
    cases pend with
    | some x => cases b <;> simp only [condO] at h <;> exact h.elim
    | none =>
    cases b <;> try (simp only [condO] at h; exact h.elim)
    rename_i q' z' hs' g' st' pend'
    cases pend' with
    | some x => simp only [condO] at h; exact h.elim
    | none =>
    simp only [condO] at h
    split at h
    · rename_i hc
      obtain ⟨h1, h3⟩ := allP_cons.1 h
      obtain ⟨h3, h4⟩ := allP_cons.1 h3
      obtain ⟨h4, h5⟩ := allP_cons.1 h4
      have hs : osub ρ p (.imap q z hs g st none) (.imap _ _ _ _ _ _) := ⟨hc, h1, rfl, h3, h4, fun n => condD_spec _ _ (h5 n)⟩
      exact (osub_sound hp hs hb).mono hF.1 fun i hi => ⟨hi, rfl⟩
    · exact h.elim
def killL (H : Heap) : List Nat → Heap
  | [] => H
  | id :: r => match H id with
    | .live (.row _ _ _) => killL (updH H id .dead) r
    | _ => killL H r
def frzOf (H : Heap) (ids : List Nat) : Frz := fun id => if ids.contains id then match H id with
    | .live (.row k m get) => some (k, m, get)
    | _ => none
  else none
theorem killL_moved : ∀ (ids : List Nat) {B : Imm} {H : Heap}, HRel B ι H w → ∃ B', Moved B ι H w B' ι (killL H ids) w ∧ FrzOk B B' ι (frzOf H ids)
  | [], B, H, h => ⟨B, Moved.refl h, fun _ _ h => h, fun id k m get hf => by simp [frzOf] at hf⟩
  | id :: r, B, H, h => by
    simp only [killL]
    split
    · rename_i k m get hid
      obtain ⟨c, e, h1, h2, h3, h4, h5, h6⟩ := Moved.freeze h hid
      obtain ⟨B', h7, h8⟩ := killL_moved r h2.heap
      refine ⟨B', h2.trans h7, fun b c hb => h8.1 b c (h2.bm b c hb), fun id' k' m' get' hf => ?_⟩
      by_cases he : id' = id
      · subst he
        simp only [frzOf, List.contains_cons, beq_self_eq_true, Bool.true_or, if_true, hid, Option.some.injEq, Prod.mk.injEq] at hf
        obtain ⟨rfl, rfl, rfl⟩ := hf
        exact ⟨c, h8.1 _ _ (by simp), h3, h4, h5, fun i j x y hi hx hy => (h6 i j x y hi hx hy).mono fun b c hb => h8.1 b c (h2.bm b c hb)⟩
      · refine h8.2 id' k' m' get' ?_
        have e1 : (id' == id) = false := by simpa using he
        simp only [frzOf, List.contains_cons, e1, Bool.false_or] at hf
        simp only [frzOf, updH_ne _ _ he]
        exact hf
    · rename_i hn
      obtain ⟨B', h7, h8⟩ := killL_moved r h
      refine ⟨B', h7, h8.1, fun id' k' m' get' hf => ?_⟩
      by_cases he : id' = id
      · subst he
        simp only [frzOf, List.contains_cons, beq_self_eq_true, Bool.true_or, if_true] at hf
        first | cases hf | (split at hf; (rename_i hq; exact (hn _ _ _ hq).elim); cases hf)
      · refine h8.2 id' k' m' get' ?_
        have e1 : (id' == id) = false := by simpa using he
        simp only [frzOf, List.contains_cons, e1, Bool.false_or] at hf
        exact hf
theorem killL_live : ∀ (ids : List Nat) {H : Heap} {i : Nat} {o : AObj}, killL H ids i = .live o → H i = .live o
  | [], _, _, _, h => h
  | id :: r, H, i, o, h => by
    have key : ∀ H', (H' = H ∨ H' = updH H id .dead) → killL H' r i = .live o → H i = .live o := fun H' hH h => by
      have := killL_live r h
      rcases hH with rfl | rfl
      · exact this
      · by_cases he : i = id
        · subst he; rw [updH_same] at this; cases this
        · rwa [updH_ne _ _ he] at this
    simp only [killL] at h
    cases hq : H id with
    | live o' => cases o' with
      | row => simp only [hq] at h; exact key _ (.inr rfl) h
      | _ => simp only [hq] at h; exact key _ (.inl rfl) h
    | _ => simp only [hq] at h; exact key _ (.inl rfl) h
def condC (F : Frz) (ρ : Nat → Nat) (p : Nat → Bool) : HCell → HCell → Option (List Prop)
  | .live o, .live o' => condO F ρ p o o'
  | .dead, .live _ => some []
  | .dead, .dead => some []
  | _, _ => none
def condSl (F : Frz) (ρ : Nat → Nat) (p : Nat → Bool) (sl : Nat → AVal) : List (Nat × AVal) → Option (List Prop)
  | [] => some []
  | (t, v) :: r => andO (condV F ρ p v (sl t)) (condSl F ρ p sl r)
def condH (F : Frz) (ρ : Nat → Nat) (p : Nat → Bool) (H : Heap) : List (Nat × HCell) → Option (List Prop)
  | [] => some []
  | (i, c) :: r => andO (condC F ρ p c (H (ρ i))) (condH F ρ p H r)
theorem condSl_get {F : Frz} {ρ : Nat → Nat} {p : Nat → Bool} {sl : Nat → AVal} : ∀ {l : List (Nat × AVal)}, propO (condSl F ρ p sl l) → ∀ t, propO (condV F ρ p (getS l t) (sl t))
  | [], _, t => by simp only [getS, condV]; trivial
  | (j, v) :: r, h, t => by
    obtain ⟨h1, h2⟩ := andO_spec h
    simp only [getS]
    split
    · rename_i e; subst e; exact h1
    · exact condSl_get h2 t
theorem condH_get {F : Frz} {ρ : Nat → Nat} {p : Nat → Bool} {H : Heap} : ∀ {l : List (Nat × HCell)}, propO (condH F ρ p H l) → ∀ {i : Nat} {c : HCell}, (i, c) ∈ l → propO (condC F ρ p c (H (ρ i)))
  | [], _, i, c, h => by cases h
  | (j, d) :: r, h, i, c, hm => by
    obtain ⟨h1, h2⟩ := andO_spec h
    rcases List.mem_cons.1 hm with hm | hm
    · cases hm; exact h1
    · exact condH_get h2 hm
def condSt (E : List Nat) (fz : List Nat) (l : List (Nat × Nat)) (s : ST) (σ : AState) : Option (List Prop) :=
  if (nodup (s.H.map fun x => renOf l x.1) && E.all fun i => Nat.beq (renOf l i) i && (getK s.H i).isSome) then
    andO (condSl (frzOf σ.H fz) (renOf l) (fun i => (getK s.H i).isSome) σ.sl s.sl) (condH (frzOf σ.H fz) (renOf l) (fun i => (getK s.H i).isSome) (killL σ.H fz) s.H)
  else none
theorem Moved.subF {B0 : Imm} {ι0 : Nat → Pl} {H0 : Heap} {w0 : World} {E fz : List Nat} {l : List (Nat × Nat)} {s : ST} {sl : Nat → AVal} (hE : ∀ i, H0.dom i → i ∈ E) (h : propO (condSt E fz l s ⟨sl, H⟩)) (hm0 : Moved B0 ι0 H0 w0 B ι H w) :
    ∃ B', Moved B0 ι0 H0 w0 B' (fun i => ι (renOf l i)) (heapK s.H) w ∧ (∀ t v, VRel B ι H.dom (sl t) v → VRel B' (fun i => ι (renOf l i)) (heapK s.H).dom (getS s.sl t) v) ∧ (∀ i o, heapK s.H i = .live o → ∃ o', H (renOf l i) = .live o') ∧
      (∀ b c, B b = some c → B' b = some c) ∧ ∀ i ∈ E, (heapK s.H).dom i ∧ renOf l i = i := by
  unfold condSt at h
  split at h
  case isFalse => exact h.elim
  rename_i h3
  obtain ⟨h1, h2⟩ := andO_spec h
  simp only [Bool.and_eq_true, List.all_eq_true, natBeq_iff] at h3
  obtain ⟨h3, h4⟩ := h3
  have hnd := nodup_spec h3
  obtain ⟨B', hk, hF⟩ := killL_moved fz hm0.heap
  have hm := hm0.trans hk
  have hdom : ∀ i, (fun i => (getK s.H i).isSome) i = true → (heapK s.H).dom i := fun i hi => by
    obtain ⟨d, hd⟩ := Option.isSome_iff_exists.1 hi
    have := condH_get h2 (getK_mem hd)
    unfold Heap.dom
    show (getK s.H i).getD .none ≠ .none
    rw [hd]
    intro he
    simp at he; subst he
    simp only [condC] at this; exact this
  have live : ∀ i o, heapK s.H i = .live o → (i, .live o) ∈ s.H ∧ ∃ o', killL H fz (renOf l i) = .live o' ∧ propO (condO (frzOf H fz) (renOf l) (fun i => (getK s.H i).isSome) o o') := fun i o hi => by
    have hg : getK s.H i = some (.live o) := by
      have : (getK s.H i).getD .none = .live o := hi
      cases hq : getK s.H i with
      | none => rw [hq] at this; cases this
      | some d => rw [hq] at this; simpa using this
    have hm := getK_mem hg
    have := condH_get h2 hm
    refine ⟨hm, ?_⟩
    cases hq : killL H fz (renOf l i) with
    | live o' => rw [hq] at this; exact ⟨o', rfl, this⟩
    | none => rw [hq] at this; simp only [condC] at this; exact this.elim
    | dead => rw [hq] at this; simp only [condC] at this; exact this.elim
  refine ⟨B', ?_, fun t v hv => condV_sound hF hdom _ _ _ (condSl_get h1 t) hv, fun i o hi => by obtain ⟨_, o', ho, _⟩ := live i o hi; exact ⟨o', killL_live fz ho⟩, hF.1, fun i hi => ⟨hdom i (h4 i hi).2, (h4 i hi).1⟩⟩
  refine ⟨hm.bm, hm.bn, fun i hi => ?_, ⟨fun i o hi => ?_, fun i j o o' hi hj hij => ?_, fun i o hi => ?_, hm.heap.imm⟩, fun i o hi => ?_, hm.frame, hm.size, hm.calm⟩
  · obtain ⟨h5, h6⟩ := h4 i (hE i hi)
    exact ⟨hdom i h6, by show ι (renOf l i) = _; rw [h5]; exact (hm.im i hi).2⟩
  · obtain ⟨_, o', ho, hs⟩ := live i o hi
    exact condO_sound hF hdom hs (hm0.heap.obj _ _ (killL_live fz ho))
  · obtain ⟨m1, o1, ho1, _⟩ := live i o hi
    obtain ⟨m2, o2, ho2, _⟩ := live j o' hj
    exact (ρ_inj hnd m1 m2 (hm.heap.inj _ _ _ _ ho1 ho2 hij)).1
  · obtain ⟨_, o', ho, _⟩ := live i o hi
    exact hm.heap.sep _ _ ho
  · obtain ⟨_, o', ho, _⟩ := live i o hi
    exact hm.own _ _ ho
theorem Rel.subF {c : Ctx} {E fz : List Nat} {l : List (Nat × Nat)} {s : ST} {σ : AState} {a : Act} (hE : ∀ i, c.H0.dom i → i ∈ E) (h : propO (condSt E fz l s σ)) (hR : Rel c B ι σ a w) : ∃ B', Rel c B' (fun i => ι (renOf l i)) s.st a w := by
  obtain ⟨B', h1, h2, h3, _⟩ := Moved.subF hE h hR.mv
  obtain ⟨Ds, d1, d0, d2, d3⟩ := hR.defers
  refine ⟨B', fun t => h2 t _ (hR.slots t), hR.size, ⟨Ds, d1, d0, d2, fun D hD => ⟨(d3 D hD).1, (d3 D hD).2.here, fun i o hi => ?_⟩⟩, h1⟩
  obtain ⟨o', ho⟩ := h3 i o hi
  exact (d3 D hD).2.sep _ _ ho
theorem CodeE.subF {c : Ctx} {E fz : List Nat} {l : List (Nat × Nat)} {s : ST} {σ : AState} {code : Code} {Q : Exit → AState → Prop} (hE : ∀ i, c.H0.dom i → i ∈ E) (hs : propO (condSt E fz l s σ)) (h : CodeE P c code Q s.st) : CodeE P c code Q σ :=
  fun _ _ a w hR => let ⟨B', hR'⟩ := Rel.subF hE hs hR; h B' _ a w hR'
def andK : List Prop → Prop → Prop
  | [], K => K
  | l, K => allP l ∧ K
theorem andK_spec {l : List Prop} {K : Prop} (h : andK l K) : allP l ∧ K := by
  cases l with
  | nil => exact ⟨trivial, h⟩
  | cons => exact h
def andKO : Option (List Prop) → Prop → Prop
  | some l, K => andK l K
  | none, _ => False
theorem andKO_spec {l : Option (List Prop)} {K : Prop} (h : andKO l K) : propO l ∧ K := by
  cases l with
  | none => exact h.elim
  | some l => exact andK_spec h
end Go.Sym

namespace Go.Sym
theorem allP_append_iff {a b : List Prop} : allP (a ++ b) ↔ allP a ∧ allP b := by
  induction a with
  | nil => simp [allP]
  | cons p a ih => rw [List.cons_append, allP_cons, allP_cons, ih, and_assoc]
variable {P : Program} {B B' : Imm} {ι ι' : Nat → Pl} {H H' : Heap} {D : Nat → Prop} {w w' : World}
def dstIs (o : Oper) (t : Nat) : Bool := match o.dst with
  | some d => Nat.beq d t
  | none => false
theorem dstIs_spec {o : Oper} {t : Nat} (h : dstIs o t = true) : o.dst = some t := by
  unfold dstIs at h
  split at h
  · rename_i d hd; rw [hd, Nat.eq_of_beq_eq_true h]
  · cases h
def distinctL : List Oper → Bool
  | [] => true
  | o :: l => (match o.dst with
    | some d => l.all fun o' => !dstIs o' d
    | none => true) && distinctL l
theorem distinctL_spec {l : List Oper} (h : distinctL l = true) {i k : Nat} {o o' : Oper} {t : Nat} (hik : i < k) (ho : l[i]? = some o) (ho' : l[k]? = some o') (ht : o.dst = some t) : o'.dst ≠ some t := by
  induction l generalizing i k with
  | nil => simp at ho
  | cons a l ih =>
    simp only [distinctL, Bool.and_eq_true] at h
    cases k with
    | zero => omega
    | succ k =>
      rw [List.getElem?_cons_succ] at ho'
      cases i with
      | zero =>
        rw [List.getElem?_cons_zero] at ho
        cases ho
        have h1 := h.1
        rw [ht] at h1
        simp only [List.all_eq_true] at h1
        have := h1 o' (List.mem_of_getElem? ho')
        intro he
        simp [dstIs, he] at this
      | succ i => exact ih h.2 (i := i) (k := k) (by omega) (by rw [List.getElem?_cons_succ] at ho; exact ho) ho'
def lowL : List Oper → Nat → Bool
  | [], _ => true
  | o :: l, k => (match o.guard with
    | some q => Nat.blt q.1 k
    | none => true) && lowL l (k + 1)
theorem lowL_spec : ∀ {l : List Oper} {k : Nat}, lowL l k = true → ∀ {i : Nat} {o : Oper} {q : Nat × Bool}, l[i]? = some o → o.guard = some q → q.1 < k + i
  | [], _, _, i, o, q, h, _ => by simp at h
  | a :: l, k, h, 0, o, q, ho, hq => by
    simp only [lowL, Bool.and_eq_true] at h
    simp at ho; subst ho
    have h1 := h.1
    rw [hq] at h1
    simpa using h1
  | a :: l, k, h, i + 1, o, q, ho, hq => by
    simp only [lowL, Bool.and_eq_true] at h
    have := lowL_spec h.2 (i := i) (by simpa using ho) hq
    omega
def wg : List Oper → Nat → Nat → Option (Nat × Bool)
  | [], _, _ => none
  | _ :: _, 0, _ => none
  | o :: l, k + 1, t => if dstIs o t then o.guard else wg l k t
theorem wg_spec : ∀ {l : List Oper} {k t : Nat} {q : Nat × Bool}, wg l k t = some q → ∃ i o, i < k ∧ l[i]? = some o ∧ o.dst = some t ∧ o.guard = some q
  | [], k, t, q, h => by simp [wg] at h
  | o :: l, 0, t, q, h => by simp [wg] at h
  | o :: l, k + 1, t, q, h => by
    simp only [wg] at h
    split at h
    · rename_i hd; exact ⟨0, o, by omega, rfl, dstIs_spec hd, h⟩
    · obtain ⟨i, o', h1, h2, h3⟩ := wg_spec h
      exact ⟨i + 1, o', by omega, by simpa using h2, h3⟩
def gcov (ops : Array Oper) : Nat → Nat × Bool → Nat × Bool → Bool
  | 0, _, _ => false
  | f + 1, q, q' => (Nat.beq q.1 q'.1 && (q.2 == q'.2)) || match (ops[q.1]?).bind (·.guard) with
    | some q2 => gcov ops f q2 q'
    | none => false
def GInv (ops : Array Oper) (sl : Nat → AVal) (k : Nat) : Prop :=
  ∀ i o t q, i < k → ops[i]? = some o → o.dst = some t → o.guard = some q → ∃ g v, sl t = .opt g v ∧ guardA ops sl q.1 q.2 = some g
theorem guardA_opt {ops : Array Oper} {sl : Nat → AVal} {j : Nat} {want g gd : Bool} {t : Nat} {v : AVal} (ht : (ops[j]?).bind (·.dst) = some t) (hs : sl t = .opt gd v) (h : guardA ops sl j want = some g) (hg : g = true) : gd = true := by
  unfold guardA at h
  rw [ht] at h
  simp only [hs] at h
  split at h <;> simp_all
theorem guardA_dst {ops : Array Oper} {sl : Nat → AVal} {j : Nat} {want g : Bool} (h : guardA ops sl j want = some g) : ∃ o t, ops[j]? = some o ∧ o.dst = some t := by
  unfold guardA at h
  split at h
  · rename_i t ht
    cases hj : ops[j]? with
    | none => rw [hj] at ht; cases ht
    | some o => rw [hj] at ht; exact ⟨o, t, rfl, ht⟩
  · cases h
theorem gcov_spec {ops : Array Oper} {sl : Nat → AVal} {k : Nat} (hI : GInv ops sl k) (hl : lowL ops.toList 0 = true) : ∀ (f : Nat) (q q' : Nat × Bool) (g g' : Bool), gcov ops f q q' = true → q.1 < k → guardA ops sl q.1 q.2 = some g → g = true → guardA ops sl q'.1 q'.2 = some g' → g' = true
  | 0, _, _, _, _, h, _, _, _, _ => by simp [gcov] at h
  | f + 1, q, q', g, g', h, hq, h1, hg, h2 => by
    simp only [gcov, Bool.or_eq_true, Bool.and_eq_true, natBeq_iff, beq_iff_eq] at h
    rcases h with ⟨e1, e2⟩ | h
    · rw [← e1, ← e2, h1] at h2; cases h2; exact hg
    · split at h
      · rename_i q2 hq2
        obtain ⟨o, t, ho, ht⟩ := guardA_dst h1
        have hgq : o.guard = some q2 := by rw [ho] at hq2; exact hq2
        obtain ⟨gd, v, hs, hgd⟩ := hI q.1 o t q2 hq ho ht hgq
        have := guardA_opt (by rw [ho]; exact ht) hs h1 hg
        have hlow := lowL_spec hl (i := q.1) (by simpa using ho) hgq
        exact gcov_spec hI hl f q2 q' gd g' h (by omega) hgd this h2
      · cases h
def tagW (cv : Nat × Bool → Bool) (ops : Array Oper) (k : Nat) (c : Prop) (x : Operand) (a : AVal) : List Prop := match a with
  | .opt g _ => match x with
    | .tmp t => match wg ops.toList k t with
      | some q => if cv q then [] else [c → g = true]
      | none => [c → g = true]
    | _ => [c → g = true]
  | _ => []
theorem tagW_spec {cv : Nat × Bool → Bool} {ops : Array Oper} {sl : Nat → AVal} {k : Nat} {c : Prop} {x : Operand} (hI : GInv ops sl k) (hcv : ∀ q g, cv q = true → guardA ops sl q.1 q.2 = some g → c → g = true) (h : allP (tagW cv ops k c x (evalA sl x))) : allP (tagP c (evalA sl x)) := by
  generalize ha : evalA sl x = a at h
  cases a with
  | opt g v =>
    simp only [tagW] at h
    split at h
    · rename_i t
      split at h
      · rename_i q hq
        split at h
        · rename_i hc
          obtain ⟨i, o, h1, h2, h3, h4⟩ := wg_spec hq
          obtain ⟨g', v', h5, h6⟩ := hI i o t q h1 (by simpa using h2) h3 h4
          have : sl t = .opt g v := ha
          rw [h5] at this; cases this
          exact fun c => hcv q _ hc h6 c
        · exact h
      · exact h
    · exact h
  | _ => trivial
def cvOwn (ops : Array Oper) (k : Nat) (gd : Option (Nat × Bool)) (q : Nat × Bool) : Bool := match gd with
  | some g => gcov ops (k + 1) g q
  | none => false
def cvPick (ops : Array Oper) (k : Nat) (gd : Option (Nat × Bool)) (c : Operand) (want : Bool) (q : Nat × Bool) : Bool :=
  (match c, (ops[q.1]?).bind (·.dst) with
    | .tmp tc, some t => Nat.beq t tc && (q.2 == want)
    | _, _ => false) || cvOwn ops k gd q
def tagsW (ops : Array Oper) (k : Nat) (sl : Nat → AVal) (o : Oper) : List Prop := match o.op, o.guard with
  | .pick c a b, gd => match stripA (evalA sl c) with
    | .d (.v (.bool t)) => tagW (cvOwn ops k gd) ops k True c (evalA sl c) ++ (tagW (cvPick ops k gd c true) ops k (t = true) a (evalA sl a) ++ tagW (cvPick ops k gd c false) ops k (t = false) b (evalA sl b))
    | _ => []
  | _, none => []
  | op, some q => op.operands.toList.flatMap fun x => tagW (cvOwn ops k (some q)) ops k True x (evalA sl x)
def tagsA (sl : Nat → AVal) (o : Oper) : List Prop := match o.op, o.guard with
  | .pick c a b, _ => match stripA (evalA sl c) with
    | .d (.v (.bool t)) => tagP True (evalA sl c) ++ (tagP (t = true) (evalA sl a) ++ tagP (t = false) (evalA sl b))
    | _ => []
  | _, none => []
  | op, some _ => tagsOf (evalA sl) op.operands.toList
theorem cvPick_spec {ops : Array Oper} {sl : Nat → AVal} {k : Nat} {gd : Option (Nat × Bool)} {c : Operand} {want t : Bool} (hO : ∀ q g, cvOwn ops k gd q = true → guardA ops sl q.1 q.2 = some g → g = true) (hc : stripA (evalA sl c) = .d (.v (.bool t))) (ht : allP (tagP True (evalA sl c))) (q : Nat × Bool) (g : Bool)
    (h : cvPick ops k gd c want q = true) (hg : guardA ops sl q.1 q.2 = some g) (hw : t = want) : g = true := by
  simp only [cvPick, Bool.or_eq_true] at h
  rcases h with h | h
  · split at h
    · rename_i tc t' hd
      simp only [Bool.and_eq_true, natBeq_iff, beq_iff_eq] at h
      obtain ⟨rfl, h2⟩ := h
      unfold guardA at hg
      rw [hd] at hg
      simp only [evalA] at hc ht
      subst hw
      rw [h2] at hg
      obtain ⟨v, hv⟩ : ∃ v, sl t' = v := ⟨_, rfl⟩
      simp only [hv] at hc ht hg
      cases v with
      | opt gc v' =>
        have : gc = true := ht trivial
        subst this
        simp only [stripA] at hc; subst hc
        cases t <;> simp at hg <;> exact hg
      | d x => simp only [stripA] at hc; cases hc; cases t <;> simp at hg <;> exact hg
      | _ => simp only [stripA] at hc; cases hc
    · cases h
  · exact hO q g h hg
theorem tagsW_spec {ops : Array Oper} {sl : Nat → AVal} {k : Nat} {o : Oper} (hI : GInv ops sl k) (hl : lowL ops.toList 0 = true) (ho : ops[k]? = some o) (hgd : ∀ q, o.guard = some q → guardA ops sl q.1 q.2 = some true) (h : allP (tagsW ops k sl o)) : allP (tagsA sl o) := by
  have hO : ∀ q g, cvOwn ops k o.guard q = true → guardA ops sl q.1 q.2 = some g → g = true := fun q g hc hg => by
    unfold cvOwn at hc
    split at hc
    · rename_i q0 hq0
      have := lowL_spec hl (i := k) (by simpa using ho) hq0
      exact gcov_spec hI hl _ q0 q true g hc (by omega) (hgd q0 hq0) rfl hg
    · cases hc
  unfold tagsW at h
  unfold tagsA
  split at h
  · rename_i c a b ho'
    split at h
    · rename_i t hc
      obtain ⟨h1, h2⟩ := allP_append h
      obtain ⟨h2, h3⟩ := allP_append h2
      have t1 := tagW_spec hI (fun q g a b _ => hO q g a b) h1
      exact allP_append_iff.2 ⟨t1, allP_append_iff.2 ⟨tagW_spec hI (fun q g a b c => cvPick_spec hO hc t1 q g a b c) h2, tagW_spec hI (fun q g a b c => cvPick_spec hO hc t1 q g a b c) h3⟩⟩
    · trivial
  · trivial
  · rename_i q hgn hq
    rw [hgn] at hO
    generalize o.op.operands.toList = l at h
    induction l with
    | nil => trivial
    | cons x l ih =>
      rw [List.flatMap_cons] at h
      obtain ⟨h1, h2⟩ := allP_append h
      show allP (tagP True (evalA sl x) ++ tagsOf (evalA sl) l)
      exact allP_append_iff.2 ⟨tagW_spec hI (fun q g a b _ => hO q g a b) h1, ih h2⟩
theorem GInv.next {ops : Array Oper} {sl : Nat → AVal} {k : Nat} {o : Oper} {v : AVal} (hI : GInv ops sl k) (hl : lowL ops.toList 0 = true) (hd : distinctL ops.toList = true) (ho : ops[k]? = some o) (hv : ∀ q, o.guard = some q → ∃ g v', v = .opt g v' ∧ guardA ops sl q.1 q.2 = some g) (sl' : Nat → AVal)
    (hsl : ∀ t, sl' t = if o.dst = some t then v else sl t) : GInv ops sl' (k + 1) := by
  have hk : ∀ j want, j < k → guardA ops sl' j want = guardA ops sl j want := fun j want hj => by
    unfold guardA
    cases hjo : ops[j]? with
    | none => rfl
    | some oj =>
      simp only [Option.bind_some]
      cases hdj : oj.dst with
      | none => rfl
      | some t =>
        simp only
        rw [hsl t, if_neg (distinctL_spec hd hj (by simpa using hjo) (by simpa using ho) hdj)]
  intro i o' t q hi ho' ht hq
  have hlow := lowL_spec hl (i := i) (by simpa using ho') hq
  rcases Nat.lt_or_ge i k with hik | hik
  · obtain ⟨g, v', h1, h2⟩ := hI i o' t q hik ho' ht hq
    refine ⟨g, v', ?_, by rw [hk _ _ (by omega)]; exact h2⟩
    rw [hsl t, if_neg (distinctL_spec hd hik (by simpa using ho') (by simpa using ho) ht)]
    exact h1
  · have : i = k := by omega
    subst this
    rw [ho] at ho'; cases ho'
    obtain ⟨g, v', h1, h2⟩ := hv q hq
    exact ⟨g, v', by rw [hsl t, if_pos ht]; exact h1, by rw [hk _ _ (by omega)]; exact h2⟩
end Go.Sym

namespace Go.Sym
variable {P : Program} {B B' : Imm} {ι ι' : Nat → Pl} {H H' : Heap} {D : Nat → Prop} {w w' : World} {c : Ctx} {σ : AState} {Q : Exit → AState → Prop}
structure CallR where
  ids : List Nat
  val : AVal
  upd : List (Nat × HCell)
  pre : List Prop
abbrev Spec := List AVal → Heap → Nat → Option CallR
def SpecOk (P : Program) (g : FuncId) (s : Spec) : Prop := ∀ as H r x, s as H r = some x → allP x.pre → CallL P g as r (x.ids.map fun i => (i, H i)) x.val x.upd
def isNone : HCell → Bool
  | .none => true
  | _ => false
theorem isNone_eq {c : HCell} (h : isNone c = true) : c = .none := by cases c <;> first | rfl | cases h
def freshIn (H : Heap) (r : Nat) : Bool := (List.range 16).all fun i => isNone (H (r + i))
theorem freshIn_spec {r : Nat} (h : freshIn H r = true) : ∀ i, r ≤ i → i < r + 16 → H i = .none := fun i h1 h2 => by
  simp only [freshIn, List.all_eq_true, List.mem_range] at h
  have := isNone_eq (h (i - r) (by omega))
  rwa [show r + (i - r) = i by omega] at this
def dstOk (n : Nat) (o : Oper) : Bool := match o.dst with
  | some d => Nat.blt d n
  | none => true
theorem dstOk_spec {n : Nat} {o : Oper} (h : dstOk n o = true) : ∀ d, o.dst = some d → d < n := by
  intro d hd
  simpa [dstOk, hd] using h
structure Stp where
  val : AVal
  upd : List (Nat × HCell)
  touch : List Nat
  pre : List Prop
def callR (Γ : FuncId → Option Spec) (r : Nat) (f : AVal) (args : List AVal) (H : Heap) : Option CallR := match f with
  | .fn (.func g) first caps => match Γ g with
    | some s => s (first ++ args ++ caps) H r
    | none => none
  | _ => none
def gopB (P : Program) (r : Nat) (ρ : Operand → AVal) (H : Heap) (g : Bool) (op : Op) : Option (AVal × List Prop) := match op with
  | .pick c a b => match stripA (ρ c) with
    | .d (.v (.bool t)) => some (pickA t (stripA (ρ a)) (stripA (ρ b)), [])
    | _ => none
  | .buildSlice t len ps => match buildSliceA P r t len (ps.toList.map fun p => (p.1, stripA (ρ p.2))) with
    | some ⟨_, [(_, .live (.row k n get))], _⟩ => some (.d (.list k n get true), [])
    | _ => none
  | op => match opA P false r (fun x => stripA (ρ x)) H op with
    | some ⟨v, [], p⟩ => some (v, ifAny g p)
    | _ => none
def stepU (P : Program) (Γ : FuncId → Option Spec) (mt : Bool) (r : Nat) (σ : AState) : Op → Option Stp
  | .call ⟨.value f, args, _⟩ => match callR Γ r (evalA σ.sl f) (args.toList.map (evalA σ.sl)) σ.H with
    | some x => if freshIn σ.H r then some ⟨x.val, x.upd, x.ids ++ (List.range 16).map (r + ·), x.pre⟩ else none
    | none => none
  | .pick c a b => match evalA σ.sl c with
    | .d (.v (.bool t)) => if isNone (σ.H r) then some ⟨pickA t (stripA (evalA σ.sl a)) (stripA (evalA σ.sl b)), [], r :: footOf (evalA σ.sl) (.pick c a b), []⟩ else none
    | _ => none
  | op => match opA P mt r (evalA σ.sl) σ.H op with
    | some e => if isNone (σ.H r) then some ⟨e.val, e.upd, r :: footOf (evalA σ.sl) op, e.pre⟩ else none
    | none => none
def stepG (P : Program) (Γ : FuncId → Option Spec) (r : Nat) (σ : AState) (g : Bool) : Op → Option (AVal × List Nat × List Prop)
  | .call ⟨.value f, args, _⟩ => match callR Γ r (stripA (evalA σ.sl f)) (args.toList.map fun x => stripA (evalA σ.sl x)) σ.H with
    | some ⟨ids, v, [], p⟩ => if freshIn σ.H r then some (v, ids ++ (List.range 16).map (r + ·), ifAny g p) else none
    | _ => none
  | op => match gopB P r (evalA σ.sl) σ.H g op with
    | some (v, p) => if isNone (σ.H r) then some (v, r :: footOf (fun x => stripA (evalA σ.sl x)) op, p) else none
    | none => none
def stepR (P : Program) (Γ : FuncId → Option Spec) (mt : Bool) (ops : Array Oper) (r : Nat) (σ : AState) (o : Oper) : Option Stp := match o.guard with
  | none => stepU P Γ mt r σ o.op
  | some (j, want) => match guardA ops σ.sl j want with
    | some g => match stepG P Γ r σ g o.op with
      | some (v, touch, p) => some ⟨.opt g v, [], touch, p⟩
      | none => none
    | none => none
theorem ifAny_intro {g : Bool} {l : List Prop} (h : g = true → allP l) : allP (ifAny g l) := by
  cases l with
  | nil => trivial
  | cons => exact h
theorem pick_not {op : Op} (h : ∀ c a b, op = .pick c a b → False) (sl : Nat → AVal) (o : Oper) (ho : o.op = op) (q : Nat × Bool) (hq : o.guard = some q) : tagsA sl o = tagsOf (evalA sl) op.operands.toList := by
  unfold tagsA
  rw [ho, hq]
  cases op <;> first | rfl | exact (h _ _ _ rfl).elim
def GOk (P : Program) (Γ : FuncId → Option Spec) : Prop := ∀ g s, Γ g = some s → SpecOk P g s
theorem callR_spec {Γ : FuncId → Option Spec} (hΓ : GOk P Γ) {r : Nat} {f : AVal} {args : List AVal} {x : CallR} (h : callR Γ r f args H = some x) : ∃ g first caps, f = .fn (.func g) first caps ∧ (allP x.pre → CallL P g (first ++ args ++ caps) r (x.ids.map fun i => (i, H i)) x.val x.upd) := by
  unfold callR at h
  split at h
  · rename_i g first caps
    split at h
    · rename_i s hs
      exact ⟨g, first, caps, rfl, hΓ g s hs _ _ _ _ h⟩
    · cases h
  · cases h
theorem cells_true (l : List Nat) (H : Heap) : ∀ p ∈ l.map (fun i => (i, H i)), H p.1 = p.2 := fun p hp => by
  obtain ⟨i, _, rfl⟩ := List.mem_map.1 hp; rfl
theorem gopB_spec {r : Nat} {sl : Nat → AVal} {g : Bool} {o : Oper} {q : Nat × Bool} {v : AVal} {p : List Prop} (h : gopB P r (evalA sl) H g o.op = some (v, p)) (hq : o.guard = some q) (hp : allP p) (ht : g = true → allP (tagsA sl o)) : ∃ p', gopA P r (evalA sl) H g o.op = some (v, p') ∧ allP p' := by
  unfold gopB at h
  split at h
  · rename_i c a b ho
    split at h
    · rename_i t hc
      cases h
      refine ⟨ifAny g (tagP True (evalA sl c) ++ (tagP (t = true) (evalA sl a) ++ tagP (t = false) (evalA sl b))), by rw [ho]; simp only [gopA, hc], ifAny_intro fun hg => ?_⟩
      have := ht hg
      unfold tagsA at this
      rw [ho, hq] at this
      simp only [hc] at this
      exact this
    · cases h
  · rename_i t len ps ho
    split at h
    · rename_i hb
      cases h
      refine ⟨ifAny g (tagsOf (evalA sl) (Op.buildSlice t len ps).operands.toList), by rw [ho]; simp only [gopA, hb], ifAny_intro fun hg => ?_⟩
      have := ht hg
      rw [pick_not (fun _ _ _ h => by cases h) sl o ho _ hq] at this
      exact this
    · cases h
  · rename_i h1 h2
    split at h
    · rename_i e1 e2 ho
      cases h
      refine ⟨ifAny g (tagsOf (evalA sl) o.op.operands.toList ++ e2), ?_, ifAny_intro fun hg => ?_⟩
      · unfold gopA
        split
        · rename_i c a b hop; exact (h1 c a b hop).elim
        · rename_i t len ps hop; exact (h2 t len ps hop).elim
        · rw [ho]
      · have := ht hg
        rw [pick_not (fun c a b h => h1 c a b h) sl o rfl _ hq] at this
        exact allP_append_iff.2 ⟨this, ifAny_spec hp hg⟩
    · cases h
theorem stepR_guard {Γ : FuncId → Option Spec} {mt : Bool} {ops : Array Oper} {r : Nat} {o : Oper} {s : Stp} (h : stepR P Γ mt ops r σ o = some s) (q : Nat × Bool) (hq : o.guard = some q) : ∃ g v, s.val = .opt g v ∧ guardA ops σ.sl q.1 q.2 = some g := by
  unfold stepR at h
  rw [hq] at h
  simp only at h
  split at h
  · rename_i g hg
    split at h
    · cases h; exact ⟨g, _, rfl, hg⟩
    · cases h
  · cases h
theorem stepR_sound {Γ : FuncId → Option Spec} (hΓ : GOk P Γ) {mt : Bool} {ops : Array Oper} {r : Nat} {o : Oper} {s : Stp} (h : stepR P Γ mt ops r σ o = some s) (hp : allP s.pre) (ht : (∀ q, o.guard = some q → guardA ops σ.sl q.1 q.2 = some true) → allP (tagsA σ.sl o)) : StepO P mt ops r σ o s.val s.upd s.touch := by
  have mp : ∀ (l : List Nat), (l.map fun i => (i, σ.H i)).map (·.1) = l := fun l => by
    induction l with
    | nil => rfl
    | cons a l ih => simp only [List.map_cons, ih]
  have ht' : ∀ {j want g}, o.guard = some (j, want) → guardA ops σ.sl j want = some g → g = true → allP (tagsA σ.sl o) := fun hg hw hgt => ht fun q hq => by
    rw [hg] at hq; cases hq; rw [hw, hgt]
  unfold stepR at h
  split at h
  · rename_i hg
    unfold stepU at h
    split at h
    · rename_i f args ats ho
      split at h
      · rename_i x hx
        split at h
        · rename_i hf
          cases h
          obtain ⟨g, first, caps, he, hc⟩ := callR_spec hΓ hx
          have := StepO.call (mt := mt) (ops := ops) hg ho he (hc hp) (cells_true _ _) (freshIn_spec hf)
          rw [mp] at this; exact this
        · cases h
      · cases h
    · rename_i c a b ho
      split at h
      · rename_i t hc
        split at h
        · rename_i hf
          cases h
          have h0 := ht fun q hq => by rw [hg] at hq; cases hq
          have h1 : allP (tagP (t = true) (evalA σ.sl a) ++ tagP (t = false) (evalA σ.sl b)) := by
            unfold tagsA at h0
            rw [ho, hg] at h0
            simp only [hc, stripA, tagP, List.nil_append] at h0
            exact h0
          have := StepO.op (P := P) (mt := mt) (ops := ops) (r := r) (σ := σ) (o := o) (e := ⟨pickA t (stripA (evalA σ.sl a)) (stripA (evalA σ.sl b)), [], tagP (t = true) (evalA σ.sl a) ++ tagP (t = false) (evalA σ.sl b)⟩) hg (by rw [ho]; simp only [opA, hc]) h1 (isNone_eq hf)
          rw [ho] at this; exact this
        · cases h
      · cases h
    · split at h
      · rename_i e he
        split at h
        · rename_i hf
          cases h
          exact .op hg he hp (isNone_eq hf)
        · cases h
      · cases h
  · rename_i j want hg
    split at h
    · rename_i g hw
      split at h
      · rename_i v touch p hst
        cases h
        unfold stepG at hst
        split at hst
        · rename_i f args ats ho
          split at hst
          · rename_i ids v p hx
            split at hst
            · rename_i hf
              cases hst
              obtain ⟨g', first, caps, he, hc⟩ := callR_spec hΓ hx
              have := StepO.gcall (mt := mt) (ops := ops) (r := r) hg hw ho he (fun h => by
                have := ht' hg hw h
                rw [pick_not (fun _ _ _ h => by cases h) σ.sl o ho _ hg] at this
                rw [ho]; exact this) (fun h => hc (ifAny_spec hp h)) (cells_true _ _) (freshIn_spec hf)
              rw [mp] at this; exact this
            · cases hst
          · cases hst
        · split at hst
          · rename_i v p he
            split at hst
            · rename_i hf
              cases hst
              obtain ⟨p', h1, h2⟩ := gopB_spec (sl := σ.sl) (o := o) he hg hp (ht' hg hw)
              exact .gop hg hw h1 h2 (isNone_eq hf)
            · cases hst
          · cases hst
      · cases h
    · cases h
structure Run where
  st : AState
  pre : List Prop
  tab : List (List Nat × List Nat)
theorem putS_eq (sl : Nat → AVal) (dst : Option Tmp) (v : AVal) (t : Nat) : putS sl dst v t = if dst = some t then v else sl t := by
  cases dst with
  | none => simp [putS]
  | some d =>
    by_cases h : t = d
    · simp [putS, h]
    · simp [putS, h, Ne.symm h]
def tagC (ops : Array Oper) (k : Nat) (σ : AState) (o : Oper) : List Prop := match o.guard with
  | none => tagsW ops k σ.sl o
  | some (j, want) => match guardA ops σ.sl j want with
    | some g => ifAny g (tagsW ops k σ.sl o)
    | none => []
def runOps (P : Program) (Γ : FuncId → Option Spec) (mt : Bool) (ops : Array Oper) (base n : Nat) : List Oper → Nat → AState → Option Run
  | [], _, σ => some ⟨σ, [], []⟩
  | o :: l, k, σ => if dstOk n o then match stepR P Γ mt ops (base + 16 * k) σ o with
      | some s => match runOps P Γ mt ops base n l (k + 1) (σ.app o.dst s.val s.upd) with
        | some x => some ⟨x.st, tagC ops k σ o ++ (s.pre ++ x.pre), (s.touch, s.upd.map (·.1)) :: x.tab⟩
        | none => none
      | none => none
    else none
def tabOf (l : List (List Nat × List Nat)) : Table := fun k => l.getD k ([], [])
theorem tagC_spec {ops : Array Oper} {k : Nat} {o : Oper} (hI : GInv ops σ.sl k) (hl : lowL ops.toList 0 = true) (ho : ops[k]? = some o) (h : allP (tagC ops k σ o)) (hg : ∀ q, o.guard = some q → guardA ops σ.sl q.1 q.2 = some true) : allP (tagsA σ.sl o) := by
  refine tagsW_spec hI hl ho hg ?_
  unfold tagC at h
  split at h
  · exact h
  · rename_i j want hq
    have := hg _ hq
    simp only at this
    rw [this] at h
    exact ifAny_spec h rfl
theorem runOps_sound {Γ : FuncId → Option Spec} (hΓ : GOk P Γ) {mt : Bool} {ops : Array Oper} {base n : Nat} {K : AState → Prop} (hl : lowL ops.toList 0 = true) (hd : distinctL ops.toList = true) : ∀ (l : List Oper) (σ : AState) (x : Run) (T0 : List (List Nat × List Nat)), ops.toList.drop T0.length = l → GInv ops σ.sl T0.length → runOps P Γ mt ops base n l T0.length σ = some x → allP x.pre → K x.st →
    LexT P mt ops base n (tabOf (T0 ++ x.tab)) K l T0.length σ
  | [], σ, x, T0, _, _, h, _, hK => by simp only [runOps, Option.some.injEq] at h; subst h; exact hK
  | o :: l, σ, x, T0, hdr, hI, h, hp, hK => by
    simp only [runOps] at h
    have ho : ops[T0.length]? = some o := by
      have : (ops.toList.drop T0.length)[0]? = some o := by rw [hdr]; rfl
      simpa using this
    split at h
    · rename_i hdo
      split at h
      · rename_i s hs
        split at h
        · rename_i y hy
          cases h
          obtain ⟨hp0, hp1⟩ := allP_append hp
          obtain ⟨hp1, hp2⟩ := allP_append hp1
          have hI' : GInv ops (σ.app o.dst s.val s.upd).sl (T0.length + 1) := hI.next hl hd ho (fun q hq => stepR_guard hs q hq) _ (putS_eq _ _ _)
          have ih := runOps_sound hΓ hl hd l _ y (T0 ++ [(s.touch, s.upd.map (·.1))]) (by
            have := congrArg List.tail hdr
            simpa using this) (by simpa using hI') (by simpa using hy) hp2 hK
          have ht : tabOf (T0 ++ ((s.touch, s.upd.map (·.1)) :: y.tab)) T0.length = (s.touch, s.upd.map (·.1)) := by simp [tabOf]
          refine ⟨s.val, s.upd, s.touch, stepR_sound hΓ hs hp1 (tagC_spec hI hl ho hp0), dstOk_spec hdo, by rw [ht], by rw [ht], ?_⟩
          simpa using ih
        · cases h
      · cases h
    · cases h
theorem lexT_lexE {mt : Bool} {ops : Array Oper} {base n : Nat} {T : Table} {K : AState → Prop} : ∀ (l : List Oper) (k : Nat) (σ : AState), LexT P mt ops base n T K l k σ → LexE P mt ops base n K l k σ
  | [], _, _, h => h
  | o :: l, k, σ, h => by
    obtain ⟨val, upd, touch, h1, h2, _, _, h5⟩ := h
    exact ⟨val, upd, touch, h1, h2, lexT_lexE l (k + 1) _ h5⟩
def regionP (P : Program) (Γ : FuncId → Option Spec) (mt : Bool) (base n : Nat) (ops : Array Oper) (draw : Bool) (σ : AState) (K : AState → Prop) : Prop :=
  match runOps P Γ mt ops base n ops.toList 0 σ with
  | some x => if lowL ops.toList 0 && distinctL ops.toList && (!draw || lexFromT .any ops (tabOf x.tab) ops.size 0 (Array.replicate ops.size false)) then andK x.pre (K x.st) else False
  | none => False
theorem regionP_sound {Γ : FuncId → Option Spec} (hΓ : GOk P Γ) (hm : P.follows .mixedOrders = true) {mt : Bool} {base : Nat} {id : Nat} {ops : Array Oper} {draw : Bool} (h : regionP P Γ mt base c.n ops draw σ (Q .normal)) : CodeE P c (.region id ops draw) Q σ := by
  unfold regionP at h
  split at h
  · rename_i x hx
    split at h
    · rename_i hc
      simp only [Bool.and_eq_true] at hc
      obtain ⟨⟨hl, hd⟩, h1⟩ := hc
      obtain ⟨h2, h3⟩ := andK_spec h
      have hl := runOps_sound hΓ (K := Q .normal) hl hd ops.toList σ x [] (by simp) (fun i _ _ _ hi => by simp at hi) (by simpa using hx) h2 h3
      simp only [List.nil_append, List.length_nil] at hl
      cases draw with
      | false => exact region_lex (lexT_lexE _ _ _ hl)
      | true => exact region_draw hm (by simpa using h1) hl
    · exact h.elim
  · exact h.elim
end Go.Sym
