/- When a state tells less than another: a list of conditions on scalars. -/
import Derived.Test.YtonddbmhljelgaaSym6
set_option linter.unusedVariables false
set_option linter.unusedSimpArgs false
namespace Go.Sym
variable {P : Program} {B B' : Imm} {ι ι' : Nat -> Pl} {H H' : Heap} {D : Nat -> Prop} {w w' : World}
theorem CU {a b : Nat} : (Nat.beq a b = true) = (a = b) := propext ⟨Nat.eq_of_beq_eq_true, λ h => by subst h; exact Nat.beq_refl a⟩
def BU : Option (List Prop) -> Prop
 | some l => BK l
 | none => False
def OS : Option (List Prop) -> Option (List Prop) -> Option (List Prop)
 | some l, some m => some (l ++ m)
 | _, _ => none
def Pr : Value -> Value -> Option (List Prop)
 | .int k a, .int k' b => if k = k' then some [a = b] else none
 | .bool a, .bool b => some [a = b]
 | .string a, .string b => some [a = b]
 | x, y => some [x = y]
theorem BZ {a b : Option (List Prop)} (h : BU (OS a b)) : BU a /\ BU b := by
 cases a with
 | none => exact h.elim
 | some l => cases b with
  | none => exact h.elim
  | some m => exact AX h
theorem Lq (x : Value) : Rs x x := by
 unfold Rs; split <;> simp_all
theorem Ig {x y : Value} (h : BU (Pr x y)) : Rs x y := by
 unfold Pr at h
 split at h
 ·split at h
  ·rename_i hk; exact ⟨hk, h⟩
  ·exact h.elim
 ·exact h
 ·exact h
 ·have h : x = y := h
  subst h
  exact Lq x
mutual
def LD : DVal -> DVal -> Option (List Prop)
 | .v x, .v y => Pr x y
 | .agg xs, .agg ys => VH xs ys
 | .tup xs, .tup ys => VH xs ys
 | .list k n g e, .list k' n' g' e' => if Nat.beq k k' && (!e || e') then some [n = n', ∀ i, i < n -> BU (LD (g i) (g' i))] else if Nat.beq k' 0 && (!e || e') then some [n = n', n = 0] else none
 | .arr k n g, .arr k' n' g' => if Nat.beq k k' then some [n = n', ∀ i, i < n -> BU (LD (g i) (g' i))] else none
 | .eref x c, .eref y d => if Nat.beq c d then LD x y else none
 | _, _ => none
def VH : List DVal -> List DVal -> Option (List Prop)
 | [], [] => some []
 | x :: xs, y :: ys => OS (LD x y) (VH xs ys)
 | _, _ => none
end
mutual
theorem DG : ∀ (x y : DVal), BU (LD x y) -> CO x y
 | .v x, y, h => by cases y <;> simp only [LD] at h <;> first | exact (by simp only [CO]; exact Ig h) | exact h.elim
 | .agg xs, y, h => by cases y <;> simp only [LD] at h <;> first | exact (by simp only [CO]; exact PI _ _ h) | exact h.elim
 | .tup xs, y, h => by cases y <;> simp only [LD] at h <;> first | exact (by simp only [CO]; exact PI _ _ h) | exact h.elim
 | .list k n g e, y, h => by
  cases y <;> simp only [LD] at h <;> try exact h.elim
  split at h
  ·rename_i hc
   simp only [Bool.and_eq_true, CU, Bool.or_eq_true, Bool.not_eq_true'] at hc
   obtain ⟨h1, h2⟩ := DT.1 h
   simp only [CO]
   refine ⟨.inl hc.1, h1, λ he => ?_, λ i hi => DG _ _ (h2 i hi)⟩
   rcases hc.2 with h | h
   ·rw [he] at h; cases h
   ·exact h
  ·split at h
   ·rename_i hc
    simp only [Bool.and_eq_true, CU, Bool.or_eq_true, Bool.not_eq_true'] at hc
    obtain ⟨h1, h2⟩ := DT.1 h
    have h2 : n = 0 := h2
    simp only [CO]
    refine ⟨.inr h2, h1, λ he => ?_, λ i hi => by omega⟩
    rcases hc.2 with h | h
    ·rw [he] at h; cases h
    ·exact h
   ·exact h.elim
 | .arr k n g, y, h => by
  cases y <;> simp only [LD] at h <;> try exact h.elim
  split at h
  ·rename_i hc
   obtain ⟨h1, h2⟩ := DT.1 h
   simp only [CO]
   exact ⟨Nat.eq_of_beq_eq_true hc, h1, λ i hi => DG _ _ (h2 i hi)⟩
  ·exact h.elim
 | .eref x c, y, h => by
  cases y <;> simp only [LD] at h <;> try exact h.elim
  split at h
  ·rename_i hc
   simp only [CO]
   exact ⟨Nat.eq_of_beq_eq_true hc, DG _ _ h⟩
  ·exact h.elim
theorem PI : ∀ (x y : List DVal), BU (VH x y) -> HD x y
 | [], y, h => by cases y <;> simp only [VH] at h <;> first | trivial | exact h.elim
 | x :: xs, y, h => by
  cases y <;> simp only [VH] at h
  ·exact h.elim
  ·obtain ⟨h1, h2⟩ := BZ h
   simp only [HD]
   exact ⟨DG _ _ h1, PI _ _ h2⟩
end
abbrev Frz := Nat -> Option (Nat × Nat × (Nat -> DVal))
structure FrzRow (B' : Imm) (ι : Nat -> Pl) (id k m : Nat) (get : Nat -> DVal) (c : Array Value) : Prop where
 at' : B' (ι id).b = some c
 len : m <= (ι id).cap
 size : (ι id).cap * k <= c.size
 ok : ∀ i, i < m -> EOk k (get i)
 rel : ∀ (i j : Nat) (x : DVal) (y : Value), i < m -> (get i).cells1[j]? = some x -> c[i * k + j]? = some y -> DRel B' x y
def PY (B B' : Imm) (ι : Nat -> Pl) (F : Frz) : Prop :=
 (∀ b c, B b = some c -> B' b = some c) /\ ∀ id k m get, F id = some (k, m, get) -> ∃ c, FrzRow B' ι id k m get c
mutual
def LH (F : Frz) : DVal -> AVal -> Option (List Prop)
 | x, .d y => LD x y
 | .list k n g e, .own id k' i n' => match F id with
  | some (k2, m, get) => if Nat.beq k k' && Nat.beq k k2 && !e then some [n = n', i + n' <= m, ∀ j, j < n -> BU (LD (g j) (get (i + j)))] else none
  | none => none
 | .agg xs, .agg ys => HJ F xs ys
 | .tup xs, .tup ys => HJ F xs ys
 | _, _ => none
def HJ (F : Frz) : List DVal -> List AVal -> Option (List Prop)
 | [], [] => some []
 | x :: xs, y :: ys => OS (LH F x y) (HJ F xs ys)
 | _, _ => none
end
theorem PF {F : Frz} : ∀ {xs : List DVal} {ys : List AVal}, BU (HJ F xs ys) -> xs.length = ys.length
 | [], [], _ => rfl
 | x :: xs, y :: ys, h => by simp only [HJ] at h; simp [PF (BZ h).2]
 | [], _ :: _, h => by simp only [HJ] at h; exact h.elim
 | _ :: _, [], h => by simp only [HJ] at h; exact h.elim
theorem PN {F : Frz} : ∀ {xs : List DVal} {ys : List AVal}, BU (HJ F xs ys) -> ∀ {j : Nat} {x : DVal}, xs[j]? = some x -> ∃ y, ys[j]? = some y /\ BU (LH F x y)
 | [], [], _, j, x, hx => by simp at hx
 | a :: xs, b :: ys, h, 0, x, hx => by simp only [HJ] at h; simp at hx; subst hx; exact ⟨b, rfl, (BZ h).1⟩
 | a :: xs, b :: ys, h, j + 1, x, hx => by
  simp only [HJ] at h
  obtain ⟨y, hy, hs⟩ := PN (BZ h).2 (j := j) (by simpa using hx)
  exact ⟨y, by simpa using hy, hs⟩
 | [], _ :: _, h, _, _, _ => by simp only [HJ] at h; exact h.elim
 | _ :: _, [], h, _, _, _ => by simp only [HJ] at h; exact h.elim
theorem Aj {F : Frz} (hF : PY B B' ι F) {k n : Nat} {g : Nat -> DVal} {id i n' m : Nat} {get : Nat -> DVal} {v : Value} (hf : F id = some (k, m, get)) (hn : n = n') (hm : i + n' <= m) (hg : ∀ j, j < n -> CO (g j) (get (i + j))) (hv : VRel B ι D (.own id k i n') v) : DRel B' (.list k n g false) v := by
 obtain ⟨c, hc⟩ := hF.2 id k m get hf
 subst hn
 cases hv with
 | own hD hcap hq =>
  rcases Nat.eq_zero_or_pos n with rfl | hp
  ·exact .nil (λ h => by cases h) (.inr (by simp))
  ·have hsz : ∀ j, j < n -> (i + j + 1) * k <= c.size := λ j hj => by
    have h1 : (i + j + 1) * k <= (ι id).cap * k := Nat.mul_le_mul_right k (by have := hc.len; omega)
    have := hc.size
    omega
   refine .list hp hc.at' hcap (λ h => by cases h) (λ j hj => US (hg j hj) (hc.ok _ (by omega))) ?_ λ j l x y hj hx hy => ?_
   ·have h1 : (i + n) * k <= (ι id).cap * k := Nat.mul_le_mul_right k (by have := hc.len; omega)
    have h2 : (i + n) * k = i * k + n * k := Nat.add_mul i n k
    have := hc.size
    omega
   ·have e1 : (i + j) * k = i * k + j * k := Nat.add_mul i j k
    have e2 : (i + j + 1) * k = (i + j) * k + k := Nat.succ_mul _ k
    refine (VE (o := (i + j) * k) (hg j hj) (hc.ok _ (by omega)) (by have := hsz j hj; omega) (λ l x y hx hy => hc.rel (i + j) l x y (by omega) hx hy) (λ v hv => CM _ _ v (hg j hj) hv) l x y hx (by rw [e1]; exact hy))
mutual
theorem VD {F : Frz} (hF : PY B B' ι F) : ∀ (x : DVal) (y : AVal) (v : Value), BU (LH F x y) -> VRel B ι D y v -> DRel B' x v
 | .v x, y, v, h, hv => by
  cases y <;> simp only [LH] at h <;> try exact h.elim
  exact (CM _ _ v (DG _ _ h) hv.d_inv).mono hF.1
 | .eref x c, y, v, h, hv => by
  cases y <;> simp only [LH] at h <;> try exact h.elim
  exact (CM _ _ v (DG _ _ h) hv.d_inv).mono hF.1
 | .arr k n g, y, v, h, hv => by
  cases y <;> simp only [LH] at h <;> try exact h.elim
  exact (CM _ _ v (DG _ _ h) hv.d_inv).mono hF.1
 | .list k n g e, y, v, h, hv => by
  cases y <;> simp only [LH] at h <;> try exact h.elim
  ·exact (CM _ _ v (DG _ _ h) hv.d_inv).mono hF.1
  ·split at h
   ·rename_i k2 m get hf
    split at h
    ·rename_i hc
     simp only [Bool.and_eq_true, CU, Bool.not_eq_true'] at hc
     obtain ⟨⟨rfl, rfl⟩, rfl⟩ := hc
     obtain ⟨h1, h2⟩ := DT.1 h
     obtain ⟨h2, h3⟩ := DT.1 h2
     exact Aj hF hf h1 h2 (λ j hj => DG _ _ (h3 j hj)) hv
    ·exact h.elim
   ·exact h.elim
 | .agg xs, y, v, h, hv => by
  cases y <;> simp only [LH] at h <;> try exact h.elim
  ·exact (CM _ _ v (DG _ _ h) hv.d_inv).mono hF.1
  ·cases hv with
   | agg hl hr =>
    exact .agg (by rw [hl, PF h]) λ j x z hx hz => by
     obtain ⟨y, hy, hs⟩ := PN h hx
     exact LY hF xs j x y z hx hs (hr j y z hy hz)
 | .tup xs, y, v, h, hv => by
  cases y <;> simp only [LH] at h <;> try exact h.elim
  ·exact (CM _ _ v (DG _ _ h) hv.d_inv).mono hF.1
  ·cases hv with
   | tup hl hr =>
    exact .tup (by rw [hl, PF h]) λ j x z hx hz => by
     obtain ⟨y, hy, hs⟩ := PN h hx
     exact LY hF xs j x y z hx hs (hr j y z hy hz)
theorem LY {F : Frz} (hF : PY B B' ι F) : ∀ (l : List DVal) (j : Nat) (x : DVal) (y : AVal) (v : Value), l[j]? = some x -> BU (LH F x y) -> VRel B ι D y v -> DRel B' x v
 | [], j, x, y, v, hx, _, _ => by simp at hx
 | a :: l, 0, x, y, v, hx, h, hv => by simp at hx; subst hx; exact VD hF a y v h hv
 | a :: l, j + 1, x, y, v, hx, h, hv => LY hF l j x y v (by simpa using hx) h hv
end
def Ng : Fn -> Fn -> Option (List Prop)
 | .func a, .func b => if Nat.beq a b then some [] else none
 | f, g => some [f = g]
theorem Jp {f g : Fn} (h : BU (Ng f g)) : f = g := by
 unfold Ng at h
 split at h
 ·split at h
  ·rename_i hb; rw [Nat.eq_of_beq_eq_true hb]
  ·exact h.elim
 ·exact h
mutual
def HW (F : Frz) (ρ : Nat -> Nat) (p : Nat -> Bool) : AVal -> AVal -> Option (List Prop)
 | .any, _ => some []
 | .d x, y => LH F x y
 | .agg xs, .agg ys => EA F ρ p xs ys
 | .agg xs, .d (.agg ys) => EA F ρ p xs (ys.map .d)
 | .tup xs, .tup ys => EA F ρ p xs ys
 | .tup xs, .d (.tup ys) => EA F ρ p xs (ys.map .d)
 | .bptr i c, .bptr j d => if Nat.beq j (ρ i) && p i && Nat.beq c d then some [] else none
 | .rptr i k e c, .rptr j k' e' c' => if Nat.beq j (ρ i) && p i && Nat.beq k k' && Nat.beq c c' then some [e = e'] else none
 | .own i k e n, .own j k' e' n' => if Nat.beq j (ρ i) && p i && Nat.beq k k' then some [e = e', n = n'] else none
 | .fn f a b, .fn g c d => OS (Ng f g) (OS (EA F ρ p a c) (EA F ρ p b d))
 | .mref i, .mref j => if Nat.beq j (ρ i) && p i then some [] else none
 | .opt g a, .opt h b => OS (some [g = h]) (HW F ρ p a b)
 | _, _ => none
def EA (F : Frz) (ρ : Nat -> Nat) (p : Nat -> Bool) : List AVal -> List AVal -> Option (List Prop)
 | [], [] => some []
 | x :: xs, y :: ys => OS (HW F ρ p x y) (EA F ρ p xs ys)
 | _, _ => none
end
theorem GJ {F : Frz} {ρ : Nat -> Nat} {p : Nat -> Bool} : ∀ {xs ys : List AVal}, BU (EA F ρ p xs ys) -> xs.length = ys.length
 | [], [], _ => rfl
 | x :: xs, y :: ys, h => by simp only [EA] at h; simp [GJ (BZ h).2]
 | [], _ :: _, h => by simp only [EA] at h; exact h.elim
 | _ :: _, [], h => by simp only [EA] at h; exact h.elim
theorem GH {F : Frz} {ρ : Nat -> Nat} {p : Nat -> Bool} : ∀ {xs ys : List AVal}, BU (EA F ρ p xs ys) -> ∀ {j : Nat} {x : AVal}, xs[j]? = some x -> ∃ y, ys[j]? = some y /\ BU (HW F ρ p x y)
 | [], [], _, j, x, hx => by simp at hx
 | a :: xs, b :: ys, h, 0, x, hx => by simp only [EA] at h; simp at hx; subst hx; exact ⟨b, rfl, (BZ h).1⟩
 | a :: xs, b :: ys, h, j + 1, x, hx => by
  simp only [EA] at h
  obtain ⟨y, hy, hs⟩ := GH (BZ h).2 (j := j) (by simpa using hx)
  exact ⟨y, by simpa using hy, hs⟩
 | [], _ :: _, h, _, _, _ => by simp only [EA] at h; exact h.elim
 | _ :: _, [], h, _, _, _ => by simp only [EA] at h; exact h.elim
theorem Qq {ys : List DVal} {v : Value} (h : DRel B (.agg ys) v) : VRel B ι D (.agg (ys.map .d)) v := by
 cases h with
 | agg hl hr =>
  refine .agg (by simp [hl]) λ j x z hx hz => ?_
  rw [List.getElem?_map] at hx
  obtain ⟨x', h1, rfl⟩ := Option.map_eq_some_iff.1 hx
  exact .d (hr j x' z h1 hz)
theorem Ra {ys : List DVal} {v : Value} (h : DRel B (.tup ys) v) : VRel B ι D (.tup (ys.map .d)) v := by
 cases h with
 | tup hl hr =>
  refine .tup (by simp [hl]) λ j x z hx hz => ?_
  rw [List.getElem?_map] at hx
  obtain ⟨x', h1, rfl⟩ := Option.map_eq_some_iff.1 hx
  exact .d (hr j x' z h1 hz)
mutual
theorem JK {F : Frz} (hF : PY B B' ι F) {ρ : Nat -> Nat} {p : Nat -> Bool} {D' : Nat -> Prop} (hp : ∀ i, p i = true -> D' i) : ∀ (x y : AVal) (v : Value), BU (HW F ρ p x y) -> VRel B ι D y v -> VRel B' (λ i => ι (ρ i)) D' x v
 | .any, _, _, _, _ => .any
 | .d x, y, v, h, hv => .d (VD hF x y v (by simpa only [HW] using h) hv)
 | .agg xs, y, v, h, hv => by
  have fin : ∀ ys : List AVal, BU (EA F ρ p xs ys) -> VRel B ι D (.agg ys) v -> VRel B' (λ i => ι (ρ i)) D' (.agg xs) v := λ ys h hv => by
   cases hv with
   | agg hl hr =>
    exact .agg (by rw [hl, GJ h]) λ j x z hx hz => by
     obtain ⟨y, hy, hs⟩ := GH h hx
     exact GW hF hp xs j x y z hx hs (hr j y z hy hz)
  cases y <;> (try simp only [HW] at h) <;> try exact h.elim
  ·rename_i x
   cases x <;> (try simp only [HW] at h) <;> try exact h.elim
   exact fin _ h (Qq hv.d_inv)
  ·exact fin _ h hv
 | .tup xs, y, v, h, hv => by
  have fin : ∀ ys : List AVal, BU (EA F ρ p xs ys) -> VRel B ι D (.tup ys) v -> VRel B' (λ i => ι (ρ i)) D' (.tup xs) v := λ ys h hv => by
   cases hv with
   | tup hl hr =>
    exact .tup (by rw [hl, GJ h]) λ j x z hx hz => by
     obtain ⟨y, hy, hs⟩ := GH h hx
     exact GW hF hp xs j x y z hx hs (hr j y z hy hz)
  cases y <;> (try simp only [HW] at h) <;> try exact h.elim
  ·rename_i x
   cases x <;> (try simp only [HW] at h) <;> try exact h.elim
   exact fin _ h (Ra hv.d_inv)
  ·exact fin _ h hv
 | .bptr i c, y, v, h, hv => by
  cases y <;> simp only [HW] at h <;> try exact h.elim
  split at h
  ·rename_i hc
   simp only [Bool.and_eq_true, CU] at hc
   obtain ⟨⟨rfl, h2⟩, rfl⟩ := hc
   cases hv; exact VRel.bptr (ι := λ i => ι (ρ i)) (hp _ h2)
  ·exact h.elim
 | .rptr i k e c, y, v, h, hv => by
  cases y <;> simp only [HW] at h <;> try exact h.elim
  split at h
  ·rename_i hc
   simp only [Bool.and_eq_true, CU] at hc
   obtain ⟨⟨⟨rfl, h2⟩, rfl⟩, rfl⟩ := hc
   have h : e = _ := h
   subst h
   cases hv; exact VRel.rptr (ι := λ i => ι (ρ i)) (hp _ h2)
  ·exact h.elim
 | .own i k e n, y, v, h, hv => by
  cases y <;> simp only [HW] at h <;> try exact h.elim
  split at h
  ·rename_i hc
   simp only [Bool.and_eq_true, CU] at hc
   obtain ⟨⟨rfl, h2⟩, rfl⟩ := hc
   obtain ⟨h3, h4⟩ := DT.1 h
   have h4 : n = _ := h4
   subst h3; subst h4
   cases hv with
   | own _ h3 h4 => exact VRel.own (ι := λ i => ι (ρ i)) (hp _ h2) h3 h4
  ·exact h.elim
 | .fn f a b, y, v, h, hv => by
  cases y <;> simp only [HW] at h <;> try exact h.elim
  obtain ⟨h1, h2⟩ := BZ h
  obtain ⟨h2, h3⟩ := BZ h2
  have h1 := Jp h1
  subst h1
  cases hv with
  | fn h4 h5 h6 h7 =>
   exact .fn (by rw [h4, GJ h2]) (by rw [h5, GJ h3])
    (λ j x z hx hz => by
     obtain ⟨y, hy, hs⟩ := GH h2 hx
     exact GW hF hp a j x y z hx hs (h6 j y z hy hz))
    λ j x z hx hz => by
     obtain ⟨y, hy, hs⟩ := GH h3 hx
     exact GW hF hp b j x y z hx hs (h7 j y z hy hz)
 | .mref i, y, v, h, hv => by
  cases y <;> simp only [HW] at h <;> try exact h.elim
  split at h
  ·rename_i hc
   simp only [Bool.and_eq_true, CU] at hc
   obtain ⟨rfl, h2⟩ := hc
   cases hv; exact VRel.mref (ι := λ i => ι (ρ i)) (hp _ h2)
  ·exact h.elim
 | .opt g a, y, v, h, hv => by
  cases y <;> simp only [HW] at h <;> try exact h.elim
  obtain ⟨h1, h2⟩ := BZ h
  have h1 : g = _ := h1
  subst h1
  cases hv with
  | opt h3 h4 => exact .opt (λ hg => JK hF hp a _ v h2 (h3 hg)) h4
theorem GW {F : Frz} (hF : PY B B' ι F) {ρ : Nat -> Nat} {p : Nat -> Bool} {D' : Nat -> Prop} (hp : ∀ i, p i = true -> D' i) : ∀ (l : List AVal) (j : Nat) (x y : AVal) (v : Value), l[j]? = some x -> BU (HW F ρ p x y) -> VRel B ι D y v -> VRel B' (λ i => ι (ρ i)) D' x v
 | [], j, x, y, v, hx, _, _ => by simp at hx
 | a :: l, 0, x, y, v, hx, h, hv => by simp at hx; subst hx; exact JK hF hp a y v h hv
 | a :: l, j + 1, x, y, v, hx, h, hv => GW hF hp l j x y v (by simpa using hx) h hv
end
def MO (F : Frz) (ρ : Nat -> Nat) (p : Nat -> Bool) : AObj -> AObj -> Option (List Prop)
 | .row k n g, .row k' n' g' => if Nat.beq k k' then some [n = n', ∀ i, i < n -> BU (LD (g i) (g' i))] else none
 | .box es, .box es' => EA F ρ p es es'
 | .imap q z h g s none, .imap q' z' h' g' s' none => if q = q' then some [z = z', ∀ n, h n = h' n, ∀ n, s n = s' n, ∀ n, BU (LD (g n) (g' n))] else none
 | _, _ => none
theorem LQ {F : Frz} (hF : PY B B' ι F) {ρ : Nat -> Nat} {p : Nat -> Bool} {D' : Nat -> Prop} (hp : ∀ i, p i = true -> D' i) {q : Nat} {a b : AObj} {x : Option Obj} (h : BU (MO F ρ p a b)) (hb : ORel B ι D q b x) : ORel B' (λ i => ι (ρ i)) D' q a x := by
 cases a with
 | row k n g =>
  cases b <;> simp only [MO] at h <;> try exact h.elim
  split at h
  ·rename_i hc
   obtain ⟨h1, h2⟩ := DT.1 h
   have hs : Hn ρ p (.row k n g) (.row _ _ _) := ⟨Nat.eq_of_beq_eq_true hc, h1, λ i hi => DG _ _ (h2 i hi)⟩
   exact (SE hp hs hb).mono hF.1 λ i hi => ⟨hi, rfl⟩
  ·exact h.elim
 | box es =>
  cases b <;> simp only [MO] at h <;> try exact h.elim
  cases hb with
  | box hsz hr =>
   exact .box (by rw [hsz, GJ h]) λ j x z hx hz => by
    obtain ⟨y, hy, hs⟩ := GH h hx
    exact GW hF hp es j x y z hx hs (hr j y z hy hz)
 | imap q z hs g st pend =>
  cases pend with
  | some x => cases b <;> simp only [MO] at h <;> exact h.elim
  | none =>
  cases b <;> try (simp only [MO] at h; exact h.elim)
  rename_i q' z' hs' g' st' pend'
  cases pend' with
  | some x => simp only [MO] at h; exact h.elim
  | none =>
  simp only [MO] at h
  split at h
  ·rename_i hc
   obtain ⟨h1, h3⟩ := DT.1 h
   obtain ⟨h3, h4⟩ := DT.1 h3
   obtain ⟨h4, h5⟩ := DT.1 h4
   have hs : Hn ρ p (.imap q z hs g st none) (.imap _ _ _ _ _ _) := ⟨hc, h1, rfl, h3, h4, λ n => DG _ _ (h5 n)⟩
   exact (SE hp hs hb).mono hF.1 λ i hi => ⟨hi, rfl⟩
  ·exact h.elim
def BN (H : Heap) : List Nat -> Heap
 | [] => H
 | id :: r => match H id with
  | .live (.row _ _ _) => BN (BX H id .dead) r
  | _ => BN H r
def ED (H : Heap) (ids : List Nat) : Frz := λ id => if ids.contains id then match H id with
  | .live (.row k m get) => some (k, m, get)
  | _ => none
 else none
theorem GG : ∀ (ids : List Nat) {B : Imm} {H : Heap}, HRel B ι H w -> ∃ B', Moved B ι H w B' ι (BN H ids) w /\ PY B B' ι (ED H ids)
 | [], B, H, h => ⟨B, Moved.refl h, λ _ _ h => h, λ id k m get hf => by simp [ED] at hf⟩
 | id :: r, B, H, h => by
  simp only [BN]
  split
  ·rename_i k m get hid
   obtain ⟨c, e, h1, h2, h3, h4, h5, h6⟩ := Moved.freeze h hid
   obtain ⟨B', h7, h8⟩ := GG r h2.heap
   refine ⟨B', h2.trans h7, λ b c hb => h8.1 b c (h2.bm b c hb), λ id' k' m' get' hf => ?_⟩
   by_cases he : id' = id
   ·subst he
    simp only [ED, List.contains_cons, beq_self_eq_true, Bool.true_or, if_true, hid, Option.some.injEq, Prod.mk.injEq] at hf
    obtain ⟨rfl, rfl, rfl⟩ := hf
    exact ⟨c, h8.1 _ _ (by simp), h3, h4, h5, λ i j x y hi hx hy => (h6 i j x y hi hx hy).mono λ b c hb => h8.1 b c (h2.bm b c hb)⟩
   ·refine h8.2 id' k' m' get' ?_
    have e1 : (id' == id) = false := by simpa using he
    simp only [ED, List.contains_cons, e1, Bool.false_or] at hf
    simp only [ED, CT _ _ he]
    exact hf
  ·rename_i hn
   obtain ⟨B', h7, h8⟩ := GG r h
   refine ⟨B', h7, h8.1, λ id' k' m' get' hf => ?_⟩
   by_cases he : id' = id
   ·subst he
    simp only [ED, List.contains_cons, beq_self_eq_true, Bool.true_or, if_true] at hf
    first | cases hf | (split at hf; (rename_i hq; exact (hn _ _ _ hq).elim); cases hf)
   ·refine h8.2 id' k' m' get' ?_
    have e1 : (id' == id) = false := by simpa using he
    simp only [ED, List.contains_cons, e1, Bool.false_or] at hf
    exact hf
theorem IM : ∀ (ids : List Nat) {H : Heap} {i : Nat} {o : AObj}, BN H ids i = .live o -> H i = .live o
 | [], _, _, _, h => h
 | id :: r, H, i, o, h => by
  have key : ∀ H', (H' = H ∨ H' = BX H id .dead) -> BN H' r i = .live o -> H i = .live o := λ H' hH h => by
   have := IM r h
   rcases hH with rfl | rfl
   ·exact this
   ·by_cases he : i = id
    ·subst he; rw [CZ] at this; cases this
    ·rwa [CT _ _ he] at this
  simp only [BN] at h
  cases hq : H id with
  | live o' => cases o' with
   | row => simp only [hq] at h; exact key _ (.inr rfl) h
   | _ => simp only [hq] at h; exact key _ (.inl rfl) h
  | _ => simp only [hq] at h; exact key _ (.inl rfl) h
def XK (F : Frz) (ρ : Nat -> Nat) (p : Nat -> Bool) : HCell -> HCell -> Option (List Prop)
 | .live o, .live o' => MO F ρ p o o'
 | .dead, .live _ => some []
 | .dead, .dead => some []
 | _, _ => none
def Jf (F : Frz) (ρ : Nat -> Nat) (p : Nat -> Bool) (sl : Nat -> AVal) : List (Nat × AVal) -> Option (List Prop)
 | [] => some []
 | (t, v) :: r => OS (HW F ρ p v (sl t)) (Jf F ρ p sl r)
def Pt (F : Frz) (ρ : Nat -> Nat) (p : Nat -> Bool) (H : Heap) : List (Nat × HCell) -> Option (List Prop)
 | [] => some []
 | (i, c) :: r => OS (XK F ρ p c (H (ρ i))) (Pt F ρ p H r)
theorem ZV {F : Frz} {ρ : Nat -> Nat} {p : Nat -> Bool} {sl : Nat -> AVal} : ∀ {l : List (Nat × AVal)}, BU (Jf F ρ p sl l) -> ∀ t, BU (HW F ρ p (DQ l t) (sl t))
 | [], _, t => by simp only [DQ, HW]; trivial
 | (j, v) :: r, h, t => by
  obtain ⟨h1, h2⟩ := BZ h
  simp only [DQ]
  split
  ·rename_i e; subst e; exact h1
  ·exact ZV h2 t
theorem WN {F : Frz} {ρ : Nat -> Nat} {p : Nat -> Bool} {H : Heap} : ∀ {l : List (Nat × HCell)}, BU (Pt F ρ p H l) -> ∀ {i : Nat} {c : HCell}, (i, c) ∈ l -> BU (XK F ρ p c (H (ρ i)))
 | [], _, i, c, h => by cases h
 | (j, d) :: r, h, i, c, hm => by
  obtain ⟨h1, h2⟩ := BZ h
  rcases List.mem_cons.1 hm with hm | hm
  ·cases hm; exact h1
  ·exact WN h2 hm
def IA (E : List Nat) (fz : List Nat) (l : List (Nat × Nat)) (s : ST) (σ : AState) : Option (List Prop) :=
 if (nodup (s.H.map λ x => DJ l x.1) && E.all λ i => Nat.beq (DJ l i) i && (GQ s.H i).isSome) then
  OS (Jf (ED σ.H fz) (DJ l) (λ i => (GQ s.H i).isSome) σ.sl s.sl) (Pt (ED σ.H fz) (DJ l) (λ i => (GQ s.H i).isSome) (BN σ.H fz) s.H)
 else none
theorem Moved.subF {B0 : Imm} {ι0 : Nat -> Pl} {H0 : Heap} {w0 : World} {E fz : List Nat} {l : List (Nat × Nat)} {s : ST} {sl : Nat -> AVal} (hE : ∀ i, H0.dom i -> i ∈ E) (h : BU (IA E fz l s ⟨sl, H⟩)) (hm0 : Moved B0 ι0 H0 w0 B ι H w) :
  ∃ B', Moved B0 ι0 H0 w0 B' (λ i => ι (DJ l i)) (ML s.H) w /\ (∀ t v, VRel B ι H.dom (sl t) v -> VRel B' (λ i => ι (DJ l i)) (ML s.H).dom (DQ s.sl t) v) /\ (∀ i o, ML s.H i = .live o -> ∃ o', H (DJ l i) = .live o') /\
   (∀ b c, B b = some c -> B' b = some c) /\ ∀ i ∈ E, (ML s.H).dom i /\ DJ l i = i := by
 unfold IA at h
 split at h
 case isFalse => exact h.elim
 rename_i h3
 obtain ⟨h1, h2⟩ := BZ h
 simp only [Bool.and_eq_true, List.all_eq_true, CU] at h3
 obtain ⟨h3, h4⟩ := h3
 have hnd := FJ h3
 obtain ⟨B', hk, hF⟩ := GG fz hm0.heap
 have hm := hm0.trans hk
 have hdom : ∀ i, (λ i => (GQ s.H i).isSome) i = true -> (ML s.H).dom i := λ i hi => by
  obtain ⟨d, hd⟩ := Option.isSome_iff_exists.1 hi
  have := WN h2 (FQ hd)
  unfold Heap.dom
  show (GQ s.H i).getD .none ≠ .none
  rw [hd]
  intro he
  simp at he; subst he
  simp only [XK] at this; exact this
 have live : ∀ i o, ML s.H i = .live o -> (i, .live o) ∈ s.H /\ ∃ o', BN H fz (DJ l i) = .live o' /\ BU (MO (ED H fz) (DJ l) (λ i => (GQ s.H i).isSome) o o') := λ i o hi => by
  have hg : GQ s.H i = some (.live o) := by
   have : (GQ s.H i).getD .none = .live o := hi
   cases hq : GQ s.H i with
   | none => rw [hq] at this; cases this
   | some d => rw [hq] at this; simpa using this
  have hm := FQ hg
  have := WN h2 hm
  refine ⟨hm, ?_⟩
  cases hq : BN H fz (DJ l i) with
  | live o' => rw [hq] at this; exact ⟨o', rfl, this⟩
  | none => rw [hq] at this; simp only [XK] at this; exact this.elim
  | dead => rw [hq] at this; simp only [XK] at this; exact this.elim
 refine ⟨B', ?_, λ t v hv => JK hF hdom _ _ _ (ZV h1 t) hv, λ i o hi => by obtain ⟨_, o', ho, _⟩ := live i o hi; exact ⟨o', IM fz ho⟩, hF.1, λ i hi => ⟨hdom i (h4 i hi).2, (h4 i hi).1⟩⟩
 refine ⟨hm.bm, hm.bn, λ i hi => ?_, ⟨λ i o hi => ?_, λ i j o o' hi hj hij => ?_, λ i o hi => ?_, hm.heap.imm⟩, λ i o hi => ?_, hm.frame, hm.size, hm.calm⟩
 ·obtain ⟨h5, h6⟩ := h4 i (hE i hi)
  exact ⟨hdom i h6, by show ι (DJ l i) = _; rw [h5]; exact (hm.im i hi).2⟩
 ·obtain ⟨_, o', ho, hs⟩ := live i o hi
  exact LQ hF hdom hs (hm0.heap.obj _ _ (IM fz ho))
 ·obtain ⟨m1, o1, ho1, _⟩ := live i o hi
  obtain ⟨m2, o2, ho2, _⟩ := live j o' hj
  exact (TE hnd m1 m2 (hm.heap.inj _ _ _ _ ho1 ho2 hij)).1
 ·obtain ⟨_, o', ho, _⟩ := live i o hi
  exact hm.heap.sep _ _ ho
 ·obtain ⟨_, o', ho, _⟩ := live i o hi
  exact hm.own _ _ ho
theorem Rel.subF {c : Ctx} {E fz : List Nat} {l : List (Nat × Nat)} {s : ST} {σ : AState} {a : Act} (hE : ∀ i, c.H0.dom i -> i ∈ E) (h : BU (IA E fz l s σ)) (hR : Rel c B ι σ a w) : ∃ B', Rel c B' (λ i => ι (DJ l i)) s.st a w := by
 obtain ⟨B', h1, h2, h3, _⟩ := Moved.subF hE h hR.mv
 obtain ⟨Ds, d1, d0, d2, d3⟩ := hR.defers
 refine ⟨B', λ t => h2 t _ (hR.slots t), hR.size, ⟨Ds, d1, d0, d2, λ D hD => ⟨(d3 D hD).1, (d3 D hD).2.here, λ i o hi => ?_⟩⟩, h1⟩
 obtain ⟨o', ho⟩ := h3 i o hi
 exact (d3 D hD).2.sep _ _ ho
theorem CodeE.subF {c : Ctx} {E fz : List Nat} {l : List (Nat × Nat)} {s : ST} {σ : AState} {code : Code} {Q : Exit -> AState -> Prop} (hE : ∀ i, c.H0.dom i -> i ∈ E) (hs : BU (IA E fz l s σ)) (h : CodeE P c code Q s.st) : CodeE P c code Q σ :=
 λ _ _ a w hR => let ⟨B', hR'⟩ := Rel.subF hE hs hR; h B' _ a w hR'
def XN : List Prop -> Prop -> Prop
 | [], K => K
 | l, K => BK l /\ K
theorem FX {l : List Prop} {K : Prop} (h : XN l K) : BK l /\ K := by
 cases l with
 | nil => exact ⟨trivial, h⟩
 | cons => exact h
def Jw : Option (List Prop) -> Prop -> Prop
 | some l, K => XN l K
 | none, _ => False
theorem SU {l : Option (List Prop)} {K : Prop} (h : Jw l K) : BU l /\ K := by
 cases l with
 | none => exact h.elim
 | some l => exact FX h
end Go.Sym

namespace Go.Sym
theorem HL {a b : List Prop} : BK (a ++ b) ↔ BK a /\ BK b := by
 induction a with
 | nil => simp [BK]
 | cons p a ih => rw [List.cons_append, DT, DT, ih, and_assoc]
variable {P : Program} {B B' : Imm} {ι ι' : Nat -> Pl} {H H' : Heap} {D : Nat -> Prop} {w w' : World}
def Ff (o : Oper) (t : Nat) : Bool := match o.dst with
 | some d => Nat.beq d t
 | none => false
theorem Ie {o : Oper} {t : Nat} (h : Ff o t = true) : o.dst = some t := by
 unfold Ff at h
 split at h
 ·rename_i d hd; rw [hd, Nat.eq_of_beq_eq_true h]
 ·cases h
def KJ : List Oper -> Bool
 | [] => true
 | o :: l => (match o.dst with
  | some d => l.all λ o' => !Ff o' d
  | none => true) && KJ l
theorem OV {l : List Oper} (h : KJ l = true) {i k : Nat} {o o' : Oper} {t : Nat} (hik : i < k) (ho : l[i]? = some o) (ho' : l[k]? = some o') (ht : o.dst = some t) : o'.dst ≠ some t := by
 induction l generalizing i k with
 | nil => simp at ho
 | cons a l ih =>
  simp only [KJ, Bool.and_eq_true] at h
  cases k with
  | zero => omega
  | succ k =>
   rw [List.getElem?_cons_succ] at ho'
   cases i with
   | zero =>
    rw [List.getElem?_cons_zero] at ho
    cases ho
    have h1 := h.1
    rw [ht] at h1
    simp only [List.all_eq_true] at h1
    have := h1 o' (List.mem_of_getElem? ho')
    intro he
    simp [Ff, he] at this
   | succ i => exact ih h.2 (i := i) (k := k) (by omega) (by rw [List.getElem?_cons_succ] at ho; exact ho) ho'
def NO : List Oper -> Nat -> Bool
 | [], _ => true
 | o :: l, k => (match o.guard with
  | some q => Nat.blt q.1 k
  | none => true) && NO l (k + 1)
theorem RB : ∀ {l : List Oper} {k : Nat}, NO l k = true -> ∀ {i : Nat} {o : Oper} {q : Nat × Bool}, l[i]? = some o -> o.guard = some q -> q.1 < k + i
 | [], _, _, i, o, q, h, _ => by simp at h
 | a :: l, k, h, 0, o, q, ho, hq => by
  simp only [NO, Bool.and_eq_true] at h
  simp at ho; subst ho
  have h1 := h.1
  rw [hq] at h1
  simpa using h1
 | a :: l, k, h, i + 1, o, q, ho, hq => by
  simp only [NO, Bool.and_eq_true] at h
  have := RB h.2 (i := i) (by simpa using ho) hq
  omega
def wg : List Oper -> Nat -> Nat -> Option (Nat × Bool)
 | [], _, _ => none
 | _ :: _, 0, _ => none
 | o :: l, k + 1, t => if Ff o t then o.guard else wg l k t
theorem La : ∀ {l : List Oper} {k t : Nat} {q : Nat × Bool}, wg l k t = some q -> ∃ i o, i < k /\ l[i]? = some o /\ o.dst = some t /\ o.guard = some q
 | [], k, t, q, h => by simp [wg] at h
 | o :: l, 0, t, q, h => by simp [wg] at h
 | o :: l, k + 1, t, q, h => by
  simp only [wg] at h
  split at h
  ·rename_i hd; exact ⟨0, o, by omega, rfl, Ie hd, h⟩
  ·obtain ⟨i, o', h1, h2, h3⟩ := La h
   exact ⟨i + 1, o', by omega, by simpa using h2, h3⟩
def Nd (ops : Array Oper) : Nat -> Nat × Bool -> Nat × Bool -> Bool
 | 0, _, _ => false
 | f + 1, q, q' => (Nat.beq q.1 q'.1 && (q.2 == q'.2)) || match (ops[q.1]?).bind (·.guard) with
  | some q2 => Nd ops f q2 q'
  | none => false
def GInv (ops : Array Oper) (sl : Nat -> AVal) (k : Nat) : Prop :=
 ∀ i o t q, i < k -> ops[i]? = some o -> o.dst = some t -> o.guard = some q -> ∃ g v, sl t = .opt g v /\ CR ops sl q.1 q.2 = some g
theorem Io {ops : Array Oper} {sl : Nat -> AVal} {j : Nat} {want g gd : Bool} {t : Nat} {v : AVal} (ht : (ops[j]?).bind (·.dst) = some t) (hs : sl t = .opt gd v) (h : CR ops sl j want = some g) (hg : g = true) : gd = true := by
 unfold CR at h
 rw [ht] at h
 simp only [hs] at h
 split at h <;> simp_all
theorem Jj {ops : Array Oper} {sl : Nat -> AVal} {j : Nat} {want g : Bool} (h : CR ops sl j want = some g) : ∃ o t, ops[j]? = some o /\ o.dst = some t := by
 unfold CR at h
 split at h
 ·rename_i t ht
  cases hj : ops[j]? with
  | none => rw [hj] at ht; cases ht
  | some o => rw [hj] at ht; exact ⟨o, t, rfl, ht⟩
 ·cases h
theorem Cm {ops : Array Oper} {sl : Nat -> AVal} {k : Nat} (hI : GInv ops sl k) (hl : NO ops.toList 0 = true) : ∀ (f : Nat) (q q' : Nat × Bool) (g g' : Bool), Nd ops f q q' = true -> q.1 < k -> CR ops sl q.1 q.2 = some g -> g = true -> CR ops sl q'.1 q'.2 = some g' -> g' = true
 | 0, _, _, _, _, h, _, _, _, _ => by simp [Nd] at h
 | f + 1, q, q', g, g', h, hq, h1, hg, h2 => by
  simp only [Nd, Bool.or_eq_true, Bool.and_eq_true, CU, beq_iff_eq] at h
  rcases h with ⟨e1, e2⟩ | h
  ·rw [<- e1, <- e2, h1] at h2; cases h2; exact hg
  ·split at h
   ·rename_i q2 hq2
    obtain ⟨o, t, ho, ht⟩ := Jj h1
    have hgq : o.guard = some q2 := by rw [ho] at hq2; exact hq2
    obtain ⟨gd, v, hs, hgd⟩ := hI q.1 o t q2 hq ho ht hgq
    have := Io (by rw [ho]; exact ht) hs h1 hg
    have hlow := RB hl (i := q.1) (by simpa using ho) hgq
    exact Cm hI hl f q2 q' gd g' h (by omega) hgd this h2
   ·cases h
def Lt (cv : Nat × Bool -> Bool) (ops : Array Oper) (k : Nat) (c : Prop) (x : Operand) (a : AVal) : List Prop := match a with
 | .opt g _ => match x with
  | .tmp t => match wg ops.toList k t with
   | some q => if cv q then [] else [c -> g = true]
   | none => [c -> g = true]
  | _ => [c -> g = true]
 | _ => []
theorem QX {cv : Nat × Bool -> Bool} {ops : Array Oper} {sl : Nat -> AVal} {k : Nat} {c : Prop} {x : Operand} (hI : GInv ops sl k) (hcv : ∀ q g, cv q = true -> CR ops sl q.1 q.2 = some g -> c -> g = true) (h : BK (Lt cv ops k c x (AW sl x))) : BK (KQ c (AW sl x)) := by
 generalize ha : AW sl x = a at h
 cases a with
 | opt g v =>
  simp only [Lt] at h
  split at h
  ·rename_i t
   split at h
   ·rename_i q hq
    split at h
    ·rename_i hc
     obtain ⟨i, o, h1, h2, h3, h4⟩ := La hq
     obtain ⟨g', v', h5, h6⟩ := hI i o t q h1 (by simpa using h2) h3 h4
     have : sl t = .opt g v := ha
     rw [h5] at this; cases this
     exact λ c => hcv q _ hc h6 c
    ·exact h
   ·exact h
  ·exact h
 | _ => trivial
def cvOwn (ops : Array Oper) (k : Nat) (gd : Option (Nat × Bool)) (q : Nat × Bool) : Bool := match gd with
 | some g => Nd ops (k + 1) g q
 | none => false
def Fa (ops : Array Oper) (k : Nat) (gd : Option (Nat × Bool)) (c : Operand) (want : Bool) (q : Nat × Bool) : Bool :=
 (match c, (ops[q.1]?).bind (·.dst) with
  | .tmp tc, some t => Nat.beq t tc && (q.2 == want)
  | _, _ => false) || cvOwn ops k gd q
def Jz (ops : Array Oper) (k : Nat) (sl : Nat -> AVal) (o : Oper) : List Prop := match o.op, o.guard with
 | .pick c a b, gd => match BI (AW sl c) with
  | .d (.v (.bool t)) => Lt (cvOwn ops k gd) ops k True c (AW sl c) ++ (Lt (Fa ops k gd c true) ops k (t = true) a (AW sl a) ++ Lt (Fa ops k gd c false) ops k (t = false) b (AW sl b))
  | _ => []
 | _, none => []
 | op, some q => op.operands.toList.flatMap λ x => Lt (cvOwn ops k (some q)) ops k True x (AW sl x)
def ON (sl : Nat -> AVal) (o : Oper) : List Prop := match o.op, o.guard with
 | .pick c a b, _ => match BI (AW sl c) with
  | .d (.v (.bool t)) => KQ True (AW sl c) ++ (KQ (t = true) (AW sl a) ++ KQ (t = false) (AW sl b))
  | _ => []
 | _, none => []
 | op, some _ => HA (AW sl) op.operands.toList
theorem XD {ops : Array Oper} {sl : Nat -> AVal} {k : Nat} {gd : Option (Nat × Bool)} {c : Operand} {want t : Bool} (hO : ∀ q g, cvOwn ops k gd q = true -> CR ops sl q.1 q.2 = some g -> g = true) (hc : BI (AW sl c) = .d (.v (.bool t))) (ht : BK (KQ True (AW sl c))) (q : Nat × Bool) (g : Bool)
  (h : Fa ops k gd c want q = true) (hg : CR ops sl q.1 q.2 = some g) (hw : t = want) : g = true := by
 simp only [Fa, Bool.or_eq_true] at h
 rcases h with h | h
 ·split at h
  ·rename_i tc t' hd
   simp only [Bool.and_eq_true, CU, beq_iff_eq] at h
   obtain ⟨rfl, h2⟩ := h
   unfold CR at hg
   rw [hd] at hg
   simp only [AW] at hc ht
   subst hw
   rw [h2] at hg
   obtain ⟨v, hv⟩ : ∃ v, sl t' = v := ⟨_, rfl⟩
   simp only [hv] at hc ht hg
   cases v with
   | opt gc v' =>
    have : gc = true := ht trivial
    subst this
    simp only [BI] at hc; subst hc
    cases t <;> simp at hg <;> exact hg
   | d x => simp only [BI] at hc; cases hc; cases t <;> simp at hg <;> exact hg
   | _ => simp only [BI] at hc; cases hc
  ·cases h
 ·exact hO q g h hg
theorem Il {ops : Array Oper} {sl : Nat -> AVal} {k : Nat} {o : Oper} (hI : GInv ops sl k) (hl : NO ops.toList 0 = true) (ho : ops[k]? = some o) (hgd : ∀ q, o.guard = some q -> CR ops sl q.1 q.2 = some true) (h : BK (Jz ops k sl o)) : BK (ON sl o) := by
 have hO : ∀ q g, cvOwn ops k o.guard q = true -> CR ops sl q.1 q.2 = some g -> g = true := λ q g hc hg => by
  unfold cvOwn at hc
  split at hc
  ·rename_i q0 hq0
   have := RB hl (i := k) (by simpa using ho) hq0
   exact Cm hI hl _ q0 q true g hc (by omega) (hgd q0 hq0) rfl hg
  ·cases hc
 unfold Jz at h
 unfold ON
 split at h
 ·rename_i c a b ho'
  split at h
  ·rename_i t hc
   obtain ⟨h1, h2⟩ := AX h
   obtain ⟨h2, h3⟩ := AX h2
   have t1 := QX hI (λ q g a b _ => hO q g a b) h1
   exact HL.2 ⟨t1, HL.2 ⟨QX hI (λ q g a b c => XD hO hc t1 q g a b c) h2, QX hI (λ q g a b c => XD hO hc t1 q g a b c) h3⟩⟩
  ·trivial
 ·trivial
 ·rename_i q hgn hq
  rw [hgn] at hO
  generalize o.op.operands.toList = l at h
  induction l with
  | nil => trivial
  | cons x l ih =>
   rw [List.flatMap_cons] at h
   obtain ⟨h1, h2⟩ := AX h
   show BK (KQ True (AW sl x) ++ HA (AW sl) l)
   exact HL.2 ⟨QX hI (λ q g a b _ => hO q g a b) h1, ih h2⟩
theorem GInv.next {ops : Array Oper} {sl : Nat -> AVal} {k : Nat} {o : Oper} {v : AVal} (hI : GInv ops sl k) (hl : NO ops.toList 0 = true) (hd : KJ ops.toList = true) (ho : ops[k]? = some o) (hv : ∀ q, o.guard = some q -> ∃ g v', v = .opt g v' /\ CR ops sl q.1 q.2 = some g) (sl' : Nat -> AVal)
  (hsl : ∀ t, sl' t = if o.dst = some t then v else sl t) : GInv ops sl' (k + 1) := by
 have hk : ∀ j want, j < k -> CR ops sl' j want = CR ops sl j want := λ j want hj => by
  unfold CR
  cases hjo : ops[j]? with
  | none => rfl
  | some oj =>
   simp only [Option.bind_some]
   cases hdj : oj.dst with
   | none => rfl
   | some t =>
    simp only
    rw [hsl t, if_neg (OV hd hj (by simpa using hjo) (by simpa using ho) hdj)]
 intro i o' t q hi ho' ht hq
 have hlow := RB hl (i := i) (by simpa using ho') hq
 rcases Nat.lt_or_ge i k with hik | hik
 ·obtain ⟨g, v', h1, h2⟩ := hI i o' t q hik ho' ht hq
  refine ⟨g, v', ?_, by rw [hk _ _ (by omega)]; exact h2⟩
  rw [hsl t, if_neg (OV hd hik (by simpa using ho') (by simpa using ho) ht)]
  exact h1
 ·have : i = k := by omega
  subst this
  rw [ho] at ho'; cases ho'
  obtain ⟨g, v', h1, h2⟩ := hv q hq
  exact ⟨g, v', by rw [hsl t, if_pos ht]; exact h1, by rw [hk _ _ (by omega)]; exact h2⟩
end Go.Sym

namespace Go.Sym
variable {P : Program} {B B' : Imm} {ι ι' : Nat -> Pl} {H H' : Heap} {D : Nat -> Prop} {w w' : World} {c : Ctx} {σ : AState} {Q : Exit -> AState -> Prop}
structure CallR where
 ids : List Nat
 val : AVal
 upd : List (Nat × HCell)
 pre : List Prop
abbrev Spec := List AVal -> Heap -> Nat -> Option CallR
def AL (P : Program) (g : FuncId) (s : Spec) : Prop := ∀ as H r x, s as H r = some x -> BK x.pre -> Kf P g as r (x.ids.map λ i => (i, H i)) x.val x.upd
def isNone : HCell -> Bool
 | .none => true
 | _ => false
theorem KG {c : HCell} (h : isNone c = true) : c = .none := by cases c <;> first | rfl | cases h
def OG (H : Heap) (r : Nat) : Bool := (List.range 16).all λ i => isNone (H (r + i))
theorem NH {r : Nat} (h : OG H r = true) : ∀ i, r <= i -> i < r + 16 -> H i = .none := λ i h1 h2 => by
 simp only [OG, List.all_eq_true, List.mem_range] at h
 have := KG (h (i - r) (by omega))
 rwa [show r + (i - r) = i by omega] at this
def Gb (n : Nat) (o : Oper) : Bool := match o.dst with
 | some d => Nat.blt d n
 | none => true
theorem TJ {n : Nat} {o : Oper} (h : Gb n o = true) : ∀ d, o.dst = some d -> d < n := by
 intro d hd
 simpa [Gb, hd] using h
structure Stp where
 val : AVal
 upd : List (Nat × HCell)
 touch : List Nat
 pre : List Prop
def Fl (Γ : FuncId -> Option Spec) (r : Nat) (f : AVal) (args : List AVal) (H : Heap) : Option CallR := match f with
 | .fn (.func g) first caps => match Γ g with
  | some s => s (first ++ args ++ caps) H r
  | none => none
 | _ => none
def Ub (P : Program) (r : Nat) (ρ : Operand -> AVal) (H : Heap) (g : Bool) (op : Op) : Option (AVal × List Prop) := match op with
 | .pick c a b => match BI (ρ c) with
  | .d (.v (.bool t)) => some (Bc t (BI (ρ a)) (BI (ρ b)), [])
  | _ => none
 | .buildSlice t len ps => match GF P r t len (ps.toList.map λ p => (p.1, BI (ρ p.2))) with
  | some ⟨_, [(_, .live (.row k n get))], _⟩ => some (.d (.list k n get true), [])
  | _ => none
 | op => match Mk P false r (λ x => BI (ρ x)) H op with
  | some ⟨v, [], p⟩ => some (v, PV g p)
  | _ => none
def Sk (P : Program) (Γ : FuncId -> Option Spec) (mt : Bool) (r : Nat) (σ : AState) : Op -> Option Stp
 | .call ⟨.value f, args, _⟩ => match Fl Γ r (AW σ.sl f) (args.toList.map (AW σ.sl)) σ.H with
  | some x => if OG σ.H r then some ⟨x.val, x.upd, x.ids ++ (List.range 16).map (r + ·), x.pre⟩ else none
  | none => none
 | .pick c a b => match AW σ.sl c with
  | .d (.v (.bool t)) => if isNone (σ.H r) then some ⟨Bc t (BI (AW σ.sl a)) (BI (AW σ.sl b)), [], r :: LE (AW σ.sl) (.pick c a b), []⟩ else none
  | _ => none
 | op => match Mk P mt r (AW σ.sl) σ.H op with
  | some e => if isNone (σ.H r) then some ⟨e.val, e.upd, r :: LE (AW σ.sl) op, e.pre⟩ else none
  | none => none
def stepG (P : Program) (Γ : FuncId -> Option Spec) (r : Nat) (σ : AState) (g : Bool) : Op -> Option (AVal × List Nat × List Prop)
 | .call ⟨.value f, args, _⟩ => match Fl Γ r (BI (AW σ.sl f)) (args.toList.map λ x => BI (AW σ.sl x)) σ.H with
  | some ⟨ids, v, [], p⟩ => if OG σ.H r then some (v, ids ++ (List.range 16).map (r + ·), PV g p) else none
  | _ => none
 | op => match Ub P r (AW σ.sl) σ.H g op with
  | some (v, p) => if isNone (σ.H r) then some (v, r :: LE (λ x => BI (AW σ.sl x)) op, p) else none
  | none => none
def ZY (P : Program) (Γ : FuncId -> Option Spec) (mt : Bool) (ops : Array Oper) (r : Nat) (σ : AState) (o : Oper) : Option Stp := match o.guard with
 | none => Sk P Γ mt r σ o.op
 | some (j, want) => match CR ops σ.sl j want with
  | some g => match stepG P Γ r σ g o.op with
   | some (v, touch, p) => some ⟨.opt g v, [], touch, p⟩
   | none => none
  | none => none
theorem PE {g : Bool} {l : List Prop} (h : g = true -> BK l) : BK (PV g l) := by
 cases l with
 | nil => trivial
 | cons => exact h
theorem YN {op : Op} (h : ∀ c a b, op = .pick c a b -> False) (sl : Nat -> AVal) (o : Oper) (ho : o.op = op) (q : Nat × Bool) (hq : o.guard = some q) : ON sl o = HA (AW sl) op.operands.toList := by
 unfold ON
 rw [ho, hq]
 cases op <;> first | rfl | exact (h _ _ _ rfl).elim
def Er (P : Program) (Γ : FuncId -> Option Spec) : Prop := ∀ g s, Γ g = some s -> AL P g s
theorem TI {Γ : FuncId -> Option Spec} (hΓ : Er P Γ) {r : Nat} {f : AVal} {args : List AVal} {x : CallR} (h : Fl Γ r f args H = some x) : ∃ g first caps, f = .fn (.func g) first caps /\ (BK x.pre -> Kf P g (first ++ args ++ caps) r (x.ids.map λ i => (i, H i)) x.val x.upd) := by
 unfold Fl at h
 split at h
 ·rename_i g first caps
  split at h
  ·rename_i s hs
   exact ⟨g, first, caps, rfl, hΓ g s hs _ _ _ _ h⟩
  ·cases h
 ·cases h
theorem TH (l : List Nat) (H : Heap) : ∀ p ∈ l.map (λ i => (i, H i)), H p.1 = p.2 := λ p hp => by
 obtain ⟨i, _, rfl⟩ := List.mem_map.1 hp; rfl
theorem Ly {r : Nat} {sl : Nat -> AVal} {g : Bool} {o : Oper} {q : Nat × Bool} {v : AVal} {p : List Prop} (h : Ub P r (AW sl) H g o.op = some (v, p)) (hq : o.guard = some q) (hp : BK p) (ht : g = true -> BK (ON sl o)) : ∃ p', Bw P r (AW sl) H g o.op = some (v, p') /\ BK p' := by
 unfold Ub at h
 split at h
 ·rename_i c a b ho
  split at h
  ·rename_i t hc
   cases h
   refine ⟨PV g (KQ True (AW sl c) ++ (KQ (t = true) (AW sl a) ++ KQ (t = false) (AW sl b))), by rw [ho]; simp only [Bw, hc], PE λ hg => ?_⟩
   have := ht hg
   unfold ON at this
   rw [ho, hq] at this
   simp only [hc] at this
   exact this
  ·cases h
 ·rename_i t len ps ho
  split at h
  ·rename_i hb
   cases h
   refine ⟨PV g (HA (AW sl) (Op.buildSlice t len ps).operands.toList), by rw [ho]; simp only [Bw, hb], PE λ hg => ?_⟩
   have := ht hg
   rw [YN (λ _ _ _ h => by cases h) sl o ho _ hq] at this
   exact this
  ·cases h
 ·rename_i h1 h2
  split at h
  ·rename_i e1 e2 ho
   cases h
   refine ⟨PV g (HA (AW sl) o.op.operands.toList ++ e2), ?_, PE λ hg => ?_⟩
   ·unfold Bw
    split
    ·rename_i c a b hop; exact (h1 c a b hop).elim
    ·rename_i t len ps hop; exact (h2 t len ps hop).elim
    ·rw [ho]
   ·have := ht hg
    rw [YN (λ c a b h => h1 c a b h) sl o rfl _ hq] at this
    exact HL.2 ⟨this, IL hp hg⟩
  ·cases h
theorem Gu {Γ : FuncId -> Option Spec} {mt : Bool} {ops : Array Oper} {r : Nat} {o : Oper} {s : Stp} (h : ZY P Γ mt ops r σ o = some s) (q : Nat × Bool) (hq : o.guard = some q) : ∃ g v, s.val = .opt g v /\ CR ops σ.sl q.1 q.2 = some g := by
 unfold ZY at h
 rw [hq] at h
 simp only at h
 split at h
 ·rename_i g hg
  split at h
  ·cases h; exact ⟨g, _, rfl, hg⟩
  ·cases h
 ·cases h
theorem OU {Γ : FuncId -> Option Spec} (hΓ : Er P Γ) {mt : Bool} {ops : Array Oper} {r : Nat} {o : Oper} {s : Stp} (h : ZY P Γ mt ops r σ o = some s) (hp : BK s.pre) (ht : (∀ q, o.guard = some q -> CR ops σ.sl q.1 q.2 = some true) -> BK (ON σ.sl o)) : StepO P mt ops r σ o s.val s.upd s.touch := by
 have mp : ∀ (l : List Nat), (l.map λ i => (i, σ.H i)).map (·.1) = l := λ l => by
  induction l with
  | nil => rfl
  | cons a l ih => simp only [List.map_cons, ih]
 have ht' : ∀ {j want g}, o.guard = some (j, want) -> CR ops σ.sl j want = some g -> g = true -> BK (ON σ.sl o) := λ hg hw hgt => ht λ q hq => by
  rw [hg] at hq; cases hq; rw [hw, hgt]
 unfold ZY at h
 split at h
 ·rename_i hg
  unfold Sk at h
  split at h
  ·rename_i f args ats ho
   split at h
   ·rename_i x hx
    split at h
    ·rename_i hf
     cases h
     obtain ⟨g, first, caps, he, hc⟩ := TI hΓ hx
     have := StepO.call (mt := mt) (ops := ops) hg ho he (hc hp) (TH _ _) (NH hf)
     rw [mp] at this; exact this
    ·cases h
   ·cases h
  ·rename_i c a b ho
   split at h
   ·rename_i t hc
    split at h
    ·rename_i hf
     cases h
     have h0 := ht λ q hq => by rw [hg] at hq; cases hq
     have h1 : BK (KQ (t = true) (AW σ.sl a) ++ KQ (t = false) (AW σ.sl b)) := by
      unfold ON at h0
      rw [ho, hg] at h0
      simp only [hc, BI, KQ, List.nil_append] at h0
      exact h0
     have := StepO.op (P := P) (mt := mt) (ops := ops) (r := r) (σ := σ) (o := o) (e := ⟨Bc t (BI (AW σ.sl a)) (BI (AW σ.sl b)), [], KQ (t = true) (AW σ.sl a) ++ KQ (t = false) (AW σ.sl b)⟩) hg (by rw [ho]; simp only [Mk, hc]) h1 (KG hf)
     rw [ho] at this; exact this
    ·cases h
   ·cases h
  ·split at h
   ·rename_i e he
    split at h
    ·rename_i hf
     cases h
     exact .op hg he hp (KG hf)
    ·cases h
   ·cases h
 ·rename_i j want hg
  split at h
  ·rename_i g hw
   split at h
   ·rename_i v touch p hst
    cases h
    unfold stepG at hst
    split at hst
    ·rename_i f args ats ho
     split at hst
     ·rename_i ids v p hx
      split at hst
      ·rename_i hf
       cases hst
       obtain ⟨g', first, caps, he, hc⟩ := TI hΓ hx
       have := StepO.gcall (mt := mt) (ops := ops) (r := r) hg hw ho he (λ h => by
        have := ht' hg hw h
        rw [YN (λ _ _ _ h => by cases h) σ.sl o ho _ hg] at this
        rw [ho]; exact this) (λ h => hc (IL hp h)) (TH _ _) (NH hf)
       rw [mp] at this; exact this
      ·cases hst
     ·cases hst
    ·split at hst
     ·rename_i v p he
      split at hst
      ·rename_i hf
       cases hst
       obtain ⟨p', h1, h2⟩ := Ly (sl := σ.sl) (o := o) he hg hp (ht' hg hw)
       exact .gop hg hw h1 h2 (KG hf)
      ·cases hst
     ·cases hst
   ·cases h
  ·cases h
structure Run where
 st : AState
 pre : List Prop
 tab : List (List Nat × List Nat)
theorem YC (sl : Nat -> AVal) (dst : Option Tmp) (v : AVal) (t : Nat) : MG sl dst v t = if dst = some t then v else sl t := by
 cases dst with
 | none => simp [MG]
 | some d =>
  by_cases h : t = d
  ·simp [MG, h]
  ·simp [MG, h, Ne.symm h]
def Sz (ops : Array Oper) (k : Nat) (σ : AState) (o : Oper) : List Prop := match o.guard with
 | none => Jz ops k σ.sl o
 | some (j, want) => match CR ops σ.sl j want with
  | some g => PV g (Jz ops k σ.sl o)
  | none => []
def ZJ (P : Program) (Γ : FuncId -> Option Spec) (mt : Bool) (ops : Array Oper) (base n : Nat) : List Oper -> Nat -> AState -> Option Run
 | [], _, σ => some ⟨σ, [], []⟩
 | o :: l, k, σ => if Gb n o then match ZY P Γ mt ops (base + 16 * k) σ o with
   | some s => match ZJ P Γ mt ops base n l (k + 1) (σ.app o.dst s.val s.upd) with
    | some x => some ⟨x.st, Sz ops k σ o ++ (s.pre ++ x.pre), (s.touch, s.upd.map (·.1)) :: x.tab⟩
    | none => none
   | none => none
  else none
def Kc (l : List (List Nat × List Nat)) : Table := λ k => l.getD k ([], [])
theorem Lu {ops : Array Oper} {k : Nat} {o : Oper} (hI : GInv ops σ.sl k) (hl : NO ops.toList 0 = true) (ho : ops[k]? = some o) (h : BK (Sz ops k σ o)) (hg : ∀ q, o.guard = some q -> CR ops σ.sl q.1 q.2 = some true) : BK (ON σ.sl o) := by
 refine Il hI hl ho hg ?_
 unfold Sz at h
 split at h
 ·exact h
 ·rename_i j want hq
  have := hg _ hq
  simp only at this
  rw [this] at h
  exact IL h rfl
theorem UW {Γ : FuncId -> Option Spec} (hΓ : Er P Γ) {mt : Bool} {ops : Array Oper} {base n : Nat} {K : AState -> Prop} (hl : NO ops.toList 0 = true) (hd : KJ ops.toList = true) : ∀ (l : List Oper) (σ : AState) (x : Run) (T0 : List (List Nat × List Nat)), ops.toList.drop T0.length = l -> GInv ops σ.sl T0.length -> ZJ P Γ mt ops base n l T0.length σ = some x -> BK x.pre -> K x.st ->
  On P mt ops base n (Kc (T0 ++ x.tab)) K l T0.length σ
 | [], σ, x, T0, _, _, h, _, hK => by simp only [ZJ, Option.some.injEq] at h; subst h; exact hK
 | o :: l, σ, x, T0, hdr, hI, h, hp, hK => by
  simp only [ZJ] at h
  have ho : ops[T0.length]? = some o := by
   have : (ops.toList.drop T0.length)[0]? = some o := by rw [hdr]; rfl
   simpa using this
  split at h
  ·rename_i hdo
   split at h
   ·rename_i s hs
    split at h
    ·rename_i y hy
     cases h
     obtain ⟨hp0, hp1⟩ := AX hp
     obtain ⟨hp1, hp2⟩ := AX hp1
     have hI' : GInv ops (σ.app o.dst s.val s.upd).sl (T0.length + 1) := hI.next hl hd ho (λ q hq => Gu hs q hq) _ (YC _ _ _)
     have ih := UW hΓ hl hd l _ y (T0 ++ [(s.touch, s.upd.map (·.1))]) (by
      have := congrArg List.tail hdr
      simpa using this) (by simpa using hI') (by simpa using hy) hp2 hK
     have ht : Kc (T0 ++ ((s.touch, s.upd.map (·.1)) :: y.tab)) T0.length = (s.touch, s.upd.map (·.1)) := by simp [Kc]
     refine ⟨s.val, s.upd, s.touch, OU hΓ hs hp1 (Lu hI hl ho hp0), TJ hdo, by rw [ht], by rw [ht], ?_⟩
     simpa using ih
    ·cases h
   ·cases h
  ·cases h
theorem Cl {mt : Bool} {ops : Array Oper} {base n : Nat} {T : Table} {K : AState -> Prop} : ∀ (l : List Oper) (k : Nat) (σ : AState), On P mt ops base n T K l k σ -> Qh P mt ops base n K l k σ
 | [], _, _, h => h
 | o :: l, k, σ, h => by
  obtain ⟨val, upd, touch, h1, h2, _, _, h5⟩ := h
  exact ⟨val, upd, touch, h1, h2, Cl l (k + 1) _ h5⟩
def OB (P : Program) (Γ : FuncId -> Option Spec) (mt : Bool) (base n : Nat) (ops : Array Oper) (draw : Bool) (σ : AState) (K : AState -> Prop) : Prop :=
 match ZJ P Γ mt ops base n ops.toList 0 σ with
 | some x => if NO ops.toList 0 && KJ ops.toList && (!draw || lexFromT .any ops (Kc x.tab) ops.size 0 (Array.replicate ops.size false)) then XN x.pre (K x.st) else False
 | none => False
theorem RO {Γ : FuncId -> Option Spec} (hΓ : Er P Γ) (hm : P.follows .mixedOrders = true) {mt : Bool} {base : Nat} {id : Nat} {ops : Array Oper} {draw : Bool} (h : OB P Γ mt base c.n ops draw σ (Q .normal)) : CodeE P c (.region id ops draw) Q σ := by
 unfold OB at h
 split at h
 ·rename_i x hx
  split at h
  ·rename_i hc
   simp only [Bool.and_eq_true] at hc
   obtain ⟨⟨hl, hd⟩, h1⟩ := hc
   obtain ⟨h2, h3⟩ := FX h
   have hl := UW hΓ (K := Q .normal) hl hd ops.toList σ x [] (by simp) (λ i _ _ _ hi => by simp at hi) (by simpa using hx) h2 h3
   simp only [List.nil_append, List.length_nil] at hl
   cases draw with
   | false => exact Ht (Cl _ _ _ hl)
   | true => exact Ga hm (by simpa using h1) hl
  ·exact h.elim
 ·exact h.elim
end Go.Sym
