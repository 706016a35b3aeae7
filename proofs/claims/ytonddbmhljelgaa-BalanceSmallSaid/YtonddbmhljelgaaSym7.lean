/- When a state tells less than another: a list of conditions on scalars. -/
import Derived.Test.YtonddbmhljelgaaSym6
set_option linter.unusedVariables false
set_option linter.unusedSimpArgs false
namespace Go.Sym
variable {P : Program} {B B' : De} {ι ι' : Nat -> Pl} {H H' : Heap} {D : Nat -> Prop} {w w' : World}
theorem GV {a b : Nat} : (Nat.beq a b = true) = (a = b) := propext ⟨Nat.eq_of_beq_eq_true, λ h => by subst h; exact Nat.beq_refl a⟩
def ET : Option (List Prop) -> Prop
 | some l => DV l
 | none => False
def iE : Option (List Prop) -> Option (List Prop) -> Option (List Prop)
 | some l, some m => some (l ++ m)
 | _, _ => none
def BGH : Value -> Value -> Option (List Prop)
 | .int k a, .int k' b => if k = k' then some [a = b] else none
 | .bool a, .bool b => some [a = b]
 | .string a, .string b => some [a = b]
 | x, y => some [x = y]
theorem GL {a b : Option (List Prop)} (h : ET (iE a b)) : ET a /\ ET b := by
 cases a with
 | none => exact h.elim
 | some l => cases b with
  | none => exact h.elim
  | some m => exact BR h
theorem BDE (x : Value) : vEq x x := by
 unfold vEq; split <;> simp_all
theorem ATW {x y : Value} (h : ET (BGH x y)) : vEq x y := by
 unfold BGH at h
 split at h
 ·split at h
  ·rename_i hk; exact ⟨hk, h⟩
  ·exact h.elim
 ·exact h
 ·exact h
 ·have h : x = y := h
  subst h
  exact BDE x
mutual
def Re : DVal -> DVal -> Option (List Prop)
 | .v x, .v y => BGH x y
 | .agg xs, .agg ys => I0 xs ys
 | .tup xs, .tup ys => I0 xs ys
 | .list k n g e, .list k' n' g' e' => if Nat.beq k k' && (!e || e') then some [n = n', ∀ i, i < n -> ET (Re (g i) (g' i))] else if Nat.beq k' 0 && (!e || e') then some [n = n', n = 0] else none
 | .arr k n g, .arr k' n' g' => if Nat.beq k k' then some [n = n', ∀ i, i < n -> ET (Re (g i) (g' i))] else none
 | .eref x c, .eref y d => if Nat.beq c d then Re x y else none
 | _, _ => none
def I0 : List DVal -> List DVal -> Option (List Prop)
 | [], [] => some []
 | x :: xs, y :: ys => iE (Re x y) (I0 xs ys)
 | _, _ => none
end
mutual
theorem KP : ∀ (x y : DVal), ET (Re x y) -> IH x y
 | .v x, y, h => by cases y <;> simp only [Re] at h <;> first | exact (by simp only [IH]; exact ATW h) | exact h.elim
 | .agg xs, y, h => by cases y <;> simp only [Re] at h <;> first | exact (by simp only [IH]; exact mG _ _ h) | exact h.elim
 | .tup xs, y, h => by cases y <;> simp only [Re] at h <;> first | exact (by simp only [IH]; exact mG _ _ h) | exact h.elim
 | .list k n g e, y, h => by
  cases y <;> simp only [Re] at h <;> try exact h.elim
  split at h
  ·rename_i hc
   simp only [Bool.and_eq_true, GV, Bool.or_eq_true, Bool.not_eq_true'] at hc
   obtain ⟨h1, h2⟩ := MD.1 h
   simp only [IH]
   refine ⟨.inl hc.1, h1, λ he => ?_, λ i hi => KP _ _ (h2 i hi)⟩
   rcases hc.2 with h | h
   ·rw [he] at h; cases h
   ·exact h
  ·split at h
   ·rename_i hc
    simp only [Bool.and_eq_true, GV, Bool.or_eq_true, Bool.not_eq_true'] at hc
    obtain ⟨h1, h2⟩ := MD.1 h
    have h2 : n = 0 := h2
    simp only [IH]
    refine ⟨.inr h2, h1, λ he => ?_, λ i hi => by omega⟩
    rcases hc.2 with h | h
    ·rw [he] at h; cases h
    ·exact h
   ·exact h.elim
 | .arr k n g, y, h => by
  cases y <;> simp only [Re] at h <;> try exact h.elim
  split at h
  ·rename_i hc
   obtain ⟨h1, h2⟩ := MD.1 h
   simp only [IH]
   exact ⟨Nat.eq_of_beq_eq_true hc, h1, λ i hi => KP _ _ (h2 i hi)⟩
  ·exact h.elim
 | .eref x c, y, h => by
  cases y <;> simp only [Re] at h <;> try exact h.elim
  split at h
  ·rename_i hc
   simp only [IH]
   exact ⟨Nat.eq_of_beq_eq_true hc, KP _ _ h⟩
  ·exact h.elim
theorem mG : ∀ (x y : List DVal), ET (I0 x y) -> ZZ x y
 | [], y, h => by cases y <;> simp only [I0] at h <;> first | trivial | exact h.elim
 | x :: xs, y, h => by
  cases y <;> simp only [I0] at h
  ·exact h.elim
  ·obtain ⟨h1, h2⟩ := GL h
   simp only [ZZ]
   exact ⟨KP _ _ h1, mG _ _ h2⟩
end
abbrev oW := Nat -> Option (Nat × Nat × (Nat -> DVal))
structure FrzRow (B' : De) (ι : Nat -> Pl) (id k m : Nat) (get : Nat -> DVal) (c : Array Value) : Prop where
 at' : B' (ι id).b = some c
 len : m <= (ι id).cap
 size : (ι id).cap * k <= c.size
 ok : ∀ i, i < m -> EOk k (get i)
 rel : ∀ (i j : Nat) (x : DVal) (y : Value), i < m -> (get i).cells1[j]? = some x -> c[i * k + j]? = some y -> DRel B' x y
def mC (B B' : De) (ι : Nat -> Pl) (F : oW) : Prop :=
 (∀ b c, B b = some c -> B' b = some c) /\ ∀ id k m get, F id = some (k, m, get) -> ∃ c, FrzRow B' ι id k m get c
mutual
def Rx (F : oW) : DVal -> AVal -> Option (List Prop)
 | x, .d y => Re x y
 | .list k n g e, .own id k' i n' => match F id with
  | some (k2, m, get) => if Nat.beq k k' && Nat.beq k k2 && !e then some [n = n', i + n' <= m, ∀ j, j < n -> ET (Re (g j) (get (i + j)))] else none
  | none => none
 | .agg xs, .agg ys => Al F xs ys
 | .tup xs, .tup ys => Al F xs ys
 | _, _ => none
def Al (F : oW) : List DVal -> List AVal -> Option (List Prop)
 | [], [] => some []
 | x :: xs, y :: ys => iE (Rx F x y) (Al F xs ys)
 | _, _ => none
end
theorem nI {F : oW} : ∀ {xs : List DVal} {ys : List AVal}, ET (Al F xs ys) -> xs.length = ys.length
 | [], [], _ => rfl
 | x :: xs, y :: ys, h => by simp only [Al] at h; simp [nI (GL h).2]
 | [], _ :: _, h => by simp only [Al] at h; exact h.elim
 | _ :: _, [], h => by simp only [Al] at h; exact h.elim
theorem nT {F : oW} : ∀ {xs : List DVal} {ys : List AVal}, ET (Al F xs ys) -> ∀ {j : Nat} {x : DVal}, xs[j]? = some x -> ∃ y, ys[j]? = some y /\ ET (Rx F x y)
 | [], [], _, j, x, hx => by simp at hx
 | a :: xs, b :: ys, h, 0, x, hx => by simp only [Al] at h; simp at hx; subst hx; exact ⟨b, rfl, (GL h).1⟩
 | a :: xs, b :: ys, h, j + 1, x, hx => by
  simp only [Al] at h
  obtain ⟨y, hy, hs⟩ := nT (GL h).2 (j := j) (by simpa using hx)
  exact ⟨y, by simpa using hy, hs⟩
 | [], _ :: _, h, _, _, _ => by simp only [Al] at h; exact h.elim
 | _ :: _, [], h, _, _, _ => by simp only [Al] at h; exact h.elim
theorem AGW {F : oW} (hF : mC B B' ι F) {k n : Nat} {g : Nat -> DVal} {id i n' m : Nat} {get : Nat -> DVal} {v : Value} (hf : F id = some (k, m, get)) (hn : n = n') (hm : i + n' <= m) (hg : ∀ j, j < n -> IH (g j) (get (i + j))) (hv : VRel B ι D (.own id k i n') v) : DRel B' (.list k n g false) v := by
 obtain ⟨c, hc⟩ := hF.2 id k m get hf
 subst hn
 cases hv with
 | own hD hcap hq =>
  rcases Nat.eq_zero_or_pos n with rfl | hp
  ·exact .nil (λ h => by cases h) (.inr (by simp))
  ·have hsz : ∀ j, j < n -> (i + j + 1) * k <= c.size := λ j hj => by
    have h1 : (i + j + 1) * k <= (ι id).cap * k := Nat.mul_le_mul_right k (by have := hc.len; omega)
    have := hc.size
    omega
   refine .list hp hc.at' hcap (λ h => by cases h) (λ j hj => xT (hg j hj) (hc.ok _ (by omega))) ?_ λ j l x y hj hx hy => ?_
   ·have h1 : (i + n) * k <= (ι id).cap * k := Nat.mul_le_mul_right k (by have := hc.len; omega)
    have h2 : (i + n) * k = i * k + n * k := Nat.add_mul i n k
    have := hc.size
    omega
   ·have e1 : (i + j) * k = i * k + j * k := Nat.add_mul i j k
    have e2 : (i + j + 1) * k = (i + j) * k + k := Nat.succ_mul _ k
    refine (yY (o := (i + j) * k) (hg j hj) (hc.ok _ (by omega)) (by have := hsz j hj; omega) (λ l x y hx hy => hc.rel (i + j) l x y (by omega) hx hy) (λ v hv => IC _ _ v (hg j hj) hv) l x y hx (by rw [e1]; exact hy))
mutual
theorem yA {F : oW} (hF : mC B B' ι F) : ∀ (x : DVal) (y : AVal) (v : Value), ET (Rx F x y) -> VRel B ι D y v -> DRel B' x v
 | .v x, y, v, h, hv => by
  cases y <;> simp only [Rx] at h <;> try exact h.elim
  exact (IC _ _ v (KP _ _ h) hv.d_inv).mono hF.1
 | .eref x c, y, v, h, hv => by
  cases y <;> simp only [Rx] at h <;> try exact h.elim
  exact (IC _ _ v (KP _ _ h) hv.d_inv).mono hF.1
 | .arr k n g, y, v, h, hv => by
  cases y <;> simp only [Rx] at h <;> try exact h.elim
  exact (IC _ _ v (KP _ _ h) hv.d_inv).mono hF.1
 | .list k n g e, y, v, h, hv => by
  cases y <;> simp only [Rx] at h <;> try exact h.elim
  ·exact (IC _ _ v (KP _ _ h) hv.d_inv).mono hF.1
  ·split at h
   ·rename_i k2 m get hf
    split at h
    ·rename_i hc
     simp only [Bool.and_eq_true, GV, Bool.not_eq_true'] at hc
     obtain ⟨⟨rfl, rfl⟩, rfl⟩ := hc
     obtain ⟨h1, h2⟩ := MD.1 h
     obtain ⟨h2, h3⟩ := MD.1 h2
     exact AGW hF hf h1 h2 (λ j hj => KP _ _ (h3 j hj)) hv
    ·exact h.elim
   ·exact h.elim
 | .agg xs, y, v, h, hv => by
  cases y <;> simp only [Rx] at h <;> try exact h.elim
  ·exact (IC _ _ v (KP _ _ h) hv.d_inv).mono hF.1
  ·cases hv with
   | agg hl hr =>
    exact .agg (by rw [hl, nI h]) λ j x z hx hz => by
     obtain ⟨y, hy, hs⟩ := nT h hx
     exact Vm hF xs j x y z hx hs (hr j y z hy hz)
 | .tup xs, y, v, h, hv => by
  cases y <;> simp only [Rx] at h <;> try exact h.elim
  ·exact (IC _ _ v (KP _ _ h) hv.d_inv).mono hF.1
  ·cases hv with
   | tup hl hr =>
    exact .tup (by rw [hl, nI h]) λ j x z hx hz => by
     obtain ⟨y, hy, hs⟩ := nT h hx
     exact Vm hF xs j x y z hx hs (hr j y z hy hz)
theorem Vm {F : oW} (hF : mC B B' ι F) : ∀ (l : List DVal) (j : Nat) (x : DVal) (y : AVal) (v : Value), l[j]? = some x -> ET (Rx F x y) -> VRel B ι D y v -> DRel B' x v
 | [], j, x, y, v, hx, _, _ => by simp at hx
 | a :: l, 0, x, y, v, hx, h, hv => by simp at hx; subst hx; exact yA hF a y v h hv
 | a :: l, j + 1, x, y, v, hx, h, hv => Vm hF l j x y v (by simpa using hx) h hv
end
def BFL : Fn -> Fn -> Option (List Prop)
 | .func a, .func b => if Nat.beq a b then some [] else none
 | f, g => some [f = g]
theorem AXD {f g : Fn} (h : ET (BFL f g)) : f = g := by
 unfold BFL at h
 split at h
 ·split at h
  ·rename_i hb; rw [Nat.eq_of_beq_eq_true hb]
  ·exact h.elim
 ·exact h
mutual
def Df (F : oW) (ρ : Nat -> Nat) (p : Nat -> Bool) : AVal -> AVal -> Option (List Prop)
 | .any, _ => some []
 | .d x, y => Rx F x y
 | .agg xs, .agg ys => OS F ρ p xs ys
 | .agg xs, .d (.agg ys) => OS F ρ p xs (ys.map .d)
 | .tup xs, .tup ys => OS F ρ p xs ys
 | .tup xs, .d (.tup ys) => OS F ρ p xs (ys.map .d)
 | .bptr i c, .bptr j d => if Nat.beq j (ρ i) && p i && Nat.beq c d then some [] else none
 | .rptr i k e c, .rptr j k' e' c' => if Nat.beq j (ρ i) && p i && Nat.beq k k' && Nat.beq c c' then some [e = e'] else none
 | .own i k e n, .own j k' e' n' => if Nat.beq j (ρ i) && p i && Nat.beq k k' then some [e = e', n = n'] else none
 | .fn f a b, .fn g c d => iE (BFL f g) (iE (OS F ρ p a c) (OS F ρ p b d))
 | .mref i, .mref j => if Nat.beq j (ρ i) && p i then some [] else none
 | .opt g a, .opt h b => iE (some [g = h]) (Df F ρ p a b)
 | _, _ => none
def OS (F : oW) (ρ : Nat -> Nat) (p : Nat -> Bool) : List AVal -> List AVal -> Option (List Prop)
 | [], [] => some []
 | x :: xs, y :: ys => iE (Df F ρ p x y) (OS F ρ p xs ys)
 | _, _ => none
end
theorem WW {F : oW} {ρ : Nat -> Nat} {p : Nat -> Bool} : ∀ {xs ys : List AVal}, ET (OS F ρ p xs ys) -> xs.length = ys.length
 | [], [], _ => rfl
 | x :: xs, y :: ys, h => by simp only [OS] at h; simp [WW (GL h).2]
 | [], _ :: _, h => by simp only [OS] at h; exact h.elim
 | _ :: _, [], h => by simp only [OS] at h; exact h.elim
theorem WG {F : oW} {ρ : Nat -> Nat} {p : Nat -> Bool} : ∀ {xs ys : List AVal}, ET (OS F ρ p xs ys) -> ∀ {j : Nat} {x : AVal}, xs[j]? = some x -> ∃ y, ys[j]? = some y /\ ET (Df F ρ p x y)
 | [], [], _, j, x, hx => by simp at hx
 | a :: xs, b :: ys, h, 0, x, hx => by simp only [OS] at h; simp at hx; subst hx; exact ⟨b, rfl, (GL h).1⟩
 | a :: xs, b :: ys, h, j + 1, x, hx => by
  simp only [OS] at h
  obtain ⟨y, hy, hs⟩ := WG (GL h).2 (j := j) (by simpa using hx)
  exact ⟨y, by simpa using hy, hs⟩
 | [], _ :: _, h, _, _, _ => by simp only [OS] at h; exact h.elim
 | _ :: _, [], h, _, _, _ => by simp only [OS] at h; exact h.elim
theorem BKF {ys : List DVal} {v : Value} (h : DRel B (.agg ys) v) : VRel B ι D (.agg (ys.map .d)) v := by
 cases h with
 | agg hl hr =>
  refine .agg (by simp [hl]) λ j x z hx hz => ?_
  rw [List.getElem?_map] at hx
  obtain ⟨x', h1, rfl⟩ := Option.map_eq_some_iff.1 hx
  exact .d (hr j x' z h1 hz)
theorem BKN {ys : List DVal} {v : Value} (h : DRel B (.tup ys) v) : VRel B ι D (.tup (ys.map .d)) v := by
 cases h with
 | tup hl hr =>
  refine .tup (by simp [hl]) λ j x z hx hz => ?_
  rw [List.getElem?_map] at hx
  obtain ⟨x', h1, rfl⟩ := Option.map_eq_some_iff.1 hx
  exact .d (hr j x' z h1 hz)
mutual
theorem Lw {F : oW} (hF : mC B B' ι F) {ρ : Nat -> Nat} {p : Nat -> Bool} {D' : Nat -> Prop} (hp : ∀ i, p i = true -> D' i) : ∀ (x y : AVal) (v : Value), ET (Df F ρ p x y) -> VRel B ι D y v -> VRel B' (λ i => ι (ρ i)) D' x v
 | .any, _, _, _, _ => .any
 | .d x, y, v, h, hv => .d (yA hF x y v (by simpa only [Df] using h) hv)
 | .agg xs, y, v, h, hv => by
  have fin : ∀ ys : List AVal, ET (OS F ρ p xs ys) -> VRel B ι D (.agg ys) v -> VRel B' (λ i => ι (ρ i)) D' (.agg xs) v := λ ys h hv => by
   cases hv with
   | agg hl hr =>
    exact .agg (by rw [hl, WW h]) λ j x z hx hz => by
     obtain ⟨y, hy, hs⟩ := WG h hx
     exact XR hF hp xs j x y z hx hs (hr j y z hy hz)
  cases y <;> (try simp only [Df] at h) <;> try exact h.elim
  ·rename_i x
   cases x <;> (try simp only [Df] at h) <;> try exact h.elim
   exact fin _ h (BKF hv.d_inv)
  ·exact fin _ h hv
 | .tup xs, y, v, h, hv => by
  have fin : ∀ ys : List AVal, ET (OS F ρ p xs ys) -> VRel B ι D (.tup ys) v -> VRel B' (λ i => ι (ρ i)) D' (.tup xs) v := λ ys h hv => by
   cases hv with
   | tup hl hr =>
    exact .tup (by rw [hl, WW h]) λ j x z hx hz => by
     obtain ⟨y, hy, hs⟩ := WG h hx
     exact XR hF hp xs j x y z hx hs (hr j y z hy hz)
  cases y <;> (try simp only [Df] at h) <;> try exact h.elim
  ·rename_i x
   cases x <;> (try simp only [Df] at h) <;> try exact h.elim
   exact fin _ h (BKN hv.d_inv)
  ·exact fin _ h hv
 | .bptr i c, y, v, h, hv => by
  cases y <;> simp only [Df] at h <;> try exact h.elim
  split at h
  ·rename_i hc
   simp only [Bool.and_eq_true, GV] at hc
   obtain ⟨⟨rfl, h2⟩, rfl⟩ := hc
   cases hv; exact VRel.bptr (ι := λ i => ι (ρ i)) (hp _ h2)
  ·exact h.elim
 | .rptr i k e c, y, v, h, hv => by
  cases y <;> simp only [Df] at h <;> try exact h.elim
  split at h
  ·rename_i hc
   simp only [Bool.and_eq_true, GV] at hc
   obtain ⟨⟨⟨rfl, h2⟩, rfl⟩, rfl⟩ := hc
   have h : e = _ := h
   subst h
   cases hv; exact VRel.rptr (ι := λ i => ι (ρ i)) (hp _ h2)
  ·exact h.elim
 | .own i k e n, y, v, h, hv => by
  cases y <;> simp only [Df] at h <;> try exact h.elim
  split at h
  ·rename_i hc
   simp only [Bool.and_eq_true, GV] at hc
   obtain ⟨⟨rfl, h2⟩, rfl⟩ := hc
   obtain ⟨h3, h4⟩ := MD.1 h
   have h4 : n = _ := h4
   subst h3; subst h4
   cases hv with
   | own _ h3 h4 => exact VRel.own (ι := λ i => ι (ρ i)) (hp _ h2) h3 h4
  ·exact h.elim
 | .fn f a b, y, v, h, hv => by
  cases y <;> simp only [Df] at h <;> try exact h.elim
  obtain ⟨h1, h2⟩ := GL h
  obtain ⟨h2, h3⟩ := GL h2
  have h1 := AXD h1
  subst h1
  cases hv with
  | fn h4 h5 h6 h7 =>
   exact .fn (by rw [h4, WW h2]) (by rw [h5, WW h3])
    (λ j x z hx hz => by
     obtain ⟨y, hy, hs⟩ := WG h2 hx
     exact XR hF hp a j x y z hx hs (h6 j y z hy hz))
    λ j x z hx hz => by
     obtain ⟨y, hy, hs⟩ := WG h3 hx
     exact XR hF hp b j x y z hx hs (h7 j y z hy hz)
 | .mref i, y, v, h, hv => by
  cases y <;> simp only [Df] at h <;> try exact h.elim
  split at h
  ·rename_i hc
   simp only [Bool.and_eq_true, GV] at hc
   obtain ⟨rfl, h2⟩ := hc
   cases hv; exact VRel.mref (ι := λ i => ι (ρ i)) (hp _ h2)
  ·exact h.elim
 | .opt g a, y, v, h, hv => by
  cases y <;> simp only [Df] at h <;> try exact h.elim
  obtain ⟨h1, h2⟩ := GL h
  have h1 : g = _ := h1
  subst h1
  cases hv with
  | opt h3 h4 => exact .opt (λ hg => Lw hF hp a _ v h2 (h3 hg)) h4
theorem XR {F : oW} (hF : mC B B' ι F) {ρ : Nat -> Nat} {p : Nat -> Bool} {D' : Nat -> Prop} (hp : ∀ i, p i = true -> D' i) : ∀ (l : List AVal) (j : Nat) (x y : AVal) (v : Value), l[j]? = some x -> ET (Df F ρ p x y) -> VRel B ι D y v -> VRel B' (λ i => ι (ρ i)) D' x v
 | [], j, x, y, v, hx, _, _ => by simp at hx
 | a :: l, 0, x, y, v, hx, h, hv => by simp at hx; subst hx; exact Lw hF hp a y v h hv
 | a :: l, j + 1, x, y, v, hx, h, hv => XR hF hp l j x y v (by simpa using hx) h hv
end
def Zu (F : oW) (ρ : Nat -> Nat) (p : Nat -> Bool) : AObj -> AObj -> Option (List Prop)
 | .row k n g, .row k' n' g' => if Nat.beq k k' then some [n = n', ∀ i, i < n -> ET (Re (g i) (g' i))] else none
 | .box es, .box es' => OS F ρ p es es'
 | .imap q z h g s none, .imap q' z' h' g' s' none => if q = q' then some [z = z', ∀ n, h n = h' n, ∀ n, s n = s' n, ∀ n, ET (Re (g n) (g' n))] else none
 | _, _ => none
theorem Ul {F : oW} (hF : mC B B' ι F) {ρ : Nat -> Nat} {p : Nat -> Bool} {D' : Nat -> Prop} (hp : ∀ i, p i = true -> D' i) {q : Nat} {a b : AObj} {x : Option Obj} (h : ET (Zu F ρ p a b)) (hb : ORel B ι D q b x) : ORel B' (λ i => ι (ρ i)) D' q a x := by
 cases a with
 | row k n g =>
  cases b <;> simp only [Zu] at h <;> try exact h.elim
  split at h
  ·rename_i hc
   obtain ⟨h1, h2⟩ := MD.1 h
   have hs : osub ρ p (.row k n g) (.row _ _ _) := ⟨Nat.eq_of_beq_eq_true hc, h1, λ i hi => KP _ _ (h2 i hi)⟩
   exact (rL hp hs hb).mono hF.1 λ i hi => ⟨hi, rfl⟩
  ·exact h.elim
 | box es =>
  cases b <;> simp only [Zu] at h <;> try exact h.elim
  cases hb with
  | box hsz hr =>
   exact .box (by rw [hsz, WW h]) λ j x z hx hz => by
    obtain ⟨y, hy, hs⟩ := WG h hx
    exact XR hF hp es j x y z hx hs (hr j y z hy hz)
 | imap q z hs g st pend =>
  cases pend with
  | some x => cases b <;> simp only [Zu] at h <;> exact h.elim
  | none =>
  cases b <;> try (simp only [Zu] at h; exact h.elim)
  rename_i q' z' hs' g' st' pend'
  cases pend' with
  | some x => simp only [Zu] at h; exact h.elim
  | none =>
  simp only [Zu] at h
  split at h
  ·rename_i hc
   obtain ⟨h1, h3⟩ := MD.1 h
   obtain ⟨h3, h4⟩ := MD.1 h3
   obtain ⟨h4, h5⟩ := MD.1 h4
   have hs : osub ρ p (.imap q z hs g st none) (.imap _ _ _ _ _ _) := ⟨hc, h1, rfl, h3, h4, λ n => KP _ _ (h5 n)⟩
   exact (rL hp hs hb).mono hF.1 λ i hi => ⟨hi, rfl⟩
  ·exact h.elim
def EK (H : Heap) : List Nat -> Heap
 | [] => H
 | id :: r => match H id with
  | .live (.row _ _ _) => EK (FO H id .dead) r
  | _ => EK H r
def PP (H : Heap) (ids : List Nat) : oW := λ id => if ids.contains id then match H id with
  | .live (.row k m get) => some (k, m, get)
  | _ => none
 else none
theorem WI : ∀ (ids : List Nat) {B : De} {H : Heap}, HRel B ι H w -> ∃ B', Moved B ι H w B' ι (EK H ids) w /\ mC B B' ι (PP H ids)
 | [], B, H, h => ⟨B, Moved.refl h, λ _ _ h => h, λ id k m get hf => by simp [PP] at hf⟩
 | id :: r, B, H, h => by
  simp only [EK]
  split
  ·rename_i k m get hid
   obtain ⟨c, e, h1, h2, h3, h4, h5, h6⟩ := Moved.freeze h hid
   obtain ⟨B', h7, h8⟩ := WI r h2.heap
   refine ⟨B', h2.trans h7, λ b c hb => h8.1 b c (h2.bm b c hb), λ id' k' m' get' hf => ?_⟩
   by_cases he : id' = id
   ·subst he
    simp only [PP, List.contains_cons, beq_self_eq_true, Bool.true_or, if_true, hid, Option.some.injEq, Prod.mk.injEq] at hf
    obtain ⟨rfl, rfl, rfl⟩ := hf
    exact ⟨c, h8.1 _ _ (by simp), h3, h4, h5, λ i j x y hi hx hy => (h6 i j x y hi hx hy).mono λ b c hb => h8.1 b c (h2.bm b c hb)⟩
   ·refine h8.2 id' k' m' get' ?_
    have e1 : (id' == id) = false := by simpa using he
    simp only [PP, List.contains_cons, e1, Bool.false_or] at hf
    simp only [PP, JB _ _ he]
    exact hf
  ·rename_i hn
   obtain ⟨B', h7, h8⟩ := WI r h
   refine ⟨B', h7, h8.1, λ id' k' m' get' hf => ?_⟩
   by_cases he : id' = id
   ·subst he
    simp only [PP, List.contains_cons, beq_self_eq_true, Bool.true_or, if_true] at hf
    first | cases hf | (split at hf; (rename_i hq; exact (hn _ _ _ hq).elim); cases hf)
   ·refine h8.2 id' k' m' get' ?_
    have e1 : (id' == id) = false := by simpa using he
    simp only [PP, List.contains_cons, e1, Bool.false_or] at hf
    exact hf
theorem Ji : ∀ (ids : List Nat) {H : Heap} {i : Nat} {o : AObj}, EK H ids i = .live o -> H i = .live o
 | [], _, _, _, h => h
 | id :: r, H, i, o, h => by
  have key : ∀ H', (H' = H ∨ H' = FO H id .dead) -> EK H' r i = .live o -> H i = .live o := λ H' hH h => by
   have := Ji r h
   rcases hH with rfl | rfl
   ·exact this
   ·by_cases he : i = id
    ·subst he; rw [JQ] at this; cases this
    ·rwa [JB _ _ he] at this
  simp only [EK] at h
  cases hq : H id with
  | live o' => cases o' with
   | row => simp only [hq] at h; exact key _ (.inr rfl) h
   | _ => simp only [hq] at h; exact key _ (.inl rfl) h
  | _ => simp only [hq] at h; exact key _ (.inl rfl) h
def M6 (F : oW) (ρ : Nat -> Nat) (p : Nat -> Bool) : HCell -> HCell -> Option (List Prop)
 | .live o, .live o' => Zu F ρ p o o'
 | .dead, .live _ => some []
 | .dead, .dead => some []
 | _, _ => none
def AVP (F : oW) (ρ : Nat -> Nat) (p : Nat -> Bool) (sl : Nat -> AVal) : List (Nat × AVal) -> Option (List Prop)
 | [] => some []
 | (t, v) :: r => iE (Df F ρ p v (sl t)) (AVP F ρ p sl r)
def BEP (F : oW) (ρ : Nat -> Nat) (p : Nat -> Bool) (H : Heap) : List (Nat × HCell) -> Option (List Prop)
 | [] => some []
 | (i, c) :: r => iE (M6 F ρ p c (H (ρ i))) (BEP F ρ p H r)
theorem ACM {F : oW} {ρ : Nat -> Nat} {p : Nat -> Bool} {sl : Nat -> AVal} : ∀ {l : List (Nat × AVal)}, ET (AVP F ρ p sl l) -> ∀ t, ET (Df F ρ p (LU l t) (sl t))
 | [], _, t => by simp only [LU, Df]; trivial
 | (j, v) :: r, h, t => by
  obtain ⟨h1, h2⟩ := GL h
  simp only [LU]
  split
  ·rename_i e; subst e; exact h1
  ·exact ACM h2 t
theorem D9 {F : oW} {ρ : Nat -> Nat} {p : Nat -> Bool} {H : Heap} : ∀ {l : List (Nat × HCell)}, ET (BEP F ρ p H l) -> ∀ {i : Nat} {c : HCell}, (i, c) ∈ l -> ET (M6 F ρ p c (H (ρ i)))
 | [], _, i, c, h => by cases h
 | (j, d) :: r, h, i, c, hm => by
  obtain ⟨h1, h2⟩ := GL h
  rcases List.mem_cons.1 hm with hm | hm
  ·cases hm; exact h1
  ·exact D9 h2 hm
def XN (E : List Nat) (fz : List Nat) (l : List (Nat × Nat)) (s : ST) (σ : AState) : Option (List Prop) :=
 if (nodup (s.H.map λ x => KZ l x.1) && E.all λ i => Nat.beq (KZ l i) i && (XX s.H i).isSome) then
  iE (AVP (PP σ.H fz) (KZ l) (λ i => (XX s.H i).isSome) σ.sl s.sl) (BEP (PP σ.H fz) (KZ l) (λ i => (XX s.H i).isSome) (EK σ.H fz) s.H)
 else none
theorem Moved.subF {B0 : De} {ι0 : Nat -> Pl} {H0 : Heap} {w0 : World} {E fz : List Nat} {l : List (Nat × Nat)} {s : ST} {sl : Nat -> AVal} (hE : ∀ i, H0.dom i -> i ∈ E) (h : ET (XN E fz l s ⟨sl, H⟩)) (hm0 : Moved B0 ι0 H0 w0 B ι H w) :
  ∃ B', Moved B0 ι0 H0 w0 B' (λ i => ι (KZ l i)) (Uo s.H) w /\ (∀ t v, VRel B ι H.dom (sl t) v -> VRel B' (λ i => ι (KZ l i)) (Uo s.H).dom (LU s.sl t) v) /\ (∀ i o, Uo s.H i = .live o -> ∃ o', H (KZ l i) = .live o') /\
   (∀ b c, B b = some c -> B' b = some c) /\ ∀ i ∈ E, (Uo s.H).dom i /\ KZ l i = i := by
 unfold XN at h
 split at h
 case isFalse => exact h.elim
 rename_i h3
 obtain ⟨h1, h2⟩ := GL h
 simp only [Bool.and_eq_true, List.all_eq_true, GV] at h3
 obtain ⟨h3, h4⟩ := h3
 have hnd := RW h3
 obtain ⟨B', hk, hF⟩ := WI fz hm0.heap
 have hm := hm0.trans hk
 have hdom : ∀ i, (λ i => (XX s.H i).isSome) i = true -> (Uo s.H).dom i := λ i hi => by
  obtain ⟨d, hd⟩ := Option.isSome_iff_exists.1 hi
  have := D9 h2 (UP hd)
  unfold Heap.dom
  show (XX s.H i).getD .none ≠ .none
  rw [hd]
  intro he
  simp at he; subst he
  simp only [M6] at this; exact this
 have live : ∀ i o, Uo s.H i = .live o -> (i, .live o) ∈ s.H /\ ∃ o', EK H fz (KZ l i) = .live o' /\ ET (Zu (PP H fz) (KZ l) (λ i => (XX s.H i).isSome) o o') := λ i o hi => by
  have hg : XX s.H i = some (.live o) := by
   have : (XX s.H i).getD .none = .live o := hi
   cases hq : XX s.H i with
   | none => rw [hq] at this; cases this
   | some d => rw [hq] at this; simpa using this
  have hm := UP hg
  have := D9 h2 hm
  refine ⟨hm, ?_⟩
  cases hq : EK H fz (KZ l i) with
  | live o' => rw [hq] at this; exact ⟨o', rfl, this⟩
  | none => rw [hq] at this; simp only [M6] at this; exact this.elim
  | dead => rw [hq] at this; simp only [M6] at this; exact this.elim
 refine ⟨B', ?_, λ t v hv => Lw hF hdom _ _ _ (ACM h1 t) hv, λ i o hi => by obtain ⟨_, o', ho, _⟩ := live i o hi; exact ⟨o', Ji fz ho⟩, hF.1, λ i hi => ⟨hdom i (h4 i hi).2, (h4 i hi).1⟩⟩
 refine ⟨hm.bm, hm.bn, λ i hi => ?_, ⟨λ i o hi => ?_, λ i j o o' hi hj hij => ?_, λ i o hi => ?_, hm.heap.imm⟩, λ i o hi => ?_, hm.frame, hm.size, hm.calm⟩
 ·obtain ⟨h5, h6⟩ := h4 i (hE i hi)
  exact ⟨hdom i h6, by show ι (KZ l i) = _; rw [h5]; exact (hm.im i hi).2⟩
 ·obtain ⟨_, o', ho, hs⟩ := live i o hi
  exact Ul hF hdom hs (hm0.heap.obj _ _ (Ji fz ho))
 ·obtain ⟨m1, o1, ho1, _⟩ := live i o hi
  obtain ⟨m2, o2, ho2, _⟩ := live j o' hj
  exact (rS hnd m1 m2 (hm.heap.inj _ _ _ _ ho1 ho2 hij)).1
 ·obtain ⟨_, o', ho, _⟩ := live i o hi
  exact hm.heap.sep _ _ ho
 ·obtain ⟨_, o', ho, _⟩ := live i o hi
  exact hm.own _ _ ho
theorem Rel.subF {c : Ctx} {E fz : List Nat} {l : List (Nat × Nat)} {s : ST} {σ : AState} {a : Act} (hE : ∀ i, c.H0.dom i -> i ∈ E) (h : ET (XN E fz l s σ)) (hR : Rel c B ι σ a w) : ∃ B', Rel c B' (λ i => ι (KZ l i)) s.st a w := by
 obtain ⟨B', h1, h2, h3, _⟩ := Moved.subF hE h hR.mv
 obtain ⟨Ds, d1, d0, d2, d3⟩ := hR.defers
 refine ⟨B', λ t => h2 t _ (hR.slots t), hR.size, ⟨Ds, d1, d0, d2, λ D hD => ⟨(d3 D hD).1, (d3 D hD).2.here, λ i o hi => ?_⟩⟩, h1⟩
 obtain ⟨o', ho⟩ := h3 i o hi
 exact (d3 D hD).2.sep _ _ ho
theorem CodeE.subF {c : Ctx} {E fz : List Nat} {l : List (Nat × Nat)} {s : ST} {σ : AState} {code : Code} {Q : Exit -> AState -> Prop} (hE : ∀ i, c.H0.dom i -> i ∈ E) (hs : ET (XN E fz l s σ)) (h : CodeE P c code Q s.st) : CodeE P c code Q σ :=
 λ _ _ a w hR => let ⟨B', hR'⟩ := Rel.subF hE hs hR; h B' _ a w hR'
def R8 : List Prop -> Prop -> Prop
 | [], K => K
 | l, K => DV l /\ K
theorem UT {l : List Prop} {K : Prop} (h : R8 l K) : DV l /\ K := by
 cases l with
 | nil => exact ⟨trivial, h⟩
 | cons => exact h
def BCG : Option (List Prop) -> Prop -> Prop
 | some l, K => R8 l K
 | none, _ => False
theorem tM {l : Option (List Prop)} {K : Prop} (h : BCG l K) : ET l /\ K := by
 cases l with
 | none => exact h.elim
 | some l => exact UT h
end Go.Sym

namespace Go.Sym
theorem Ah {a b : List Prop} : DV (a ++ b) ↔ DV a /\ DV b := by
 induction a with
 | nil => simp [DV]
 | cons p a ih => rw [List.cons_append, MD, MD, ih, and_assoc]
variable {P : Program} {B B' : De} {ι ι' : Nat -> Pl} {H H' : Heap} {D : Nat -> Prop} {w w' : World}
def ARU (o : Oper) (t : Nat) : Bool := match o.dst with
 | some d => Nat.beq d t
 | none => false
theorem AWC {o : Oper} {t : Nat} (h : ARU o t = true) : o.dst = some t := by
 unfold ARU at h
 split at h
 ·rename_i d hd; rw [hd, Nat.eq_of_beq_eq_true h]
 ·cases h
def Pm : List Oper -> Bool
 | [] => true
 | o :: l => (match o.dst with
  | some d => l.all λ o' => !ARU o' d
  | none => true) && Pm l
theorem lX {l : List Oper} (h : Pm l = true) {i k : Nat} {o o' : Oper} {t : Nat} (hik : i < k) (ho : l[i]? = some o) (ho' : l[k]? = some o') (ht : o.dst = some t) : o'.dst ≠ some t := by
 induction l generalizing i k with
 | nil => simp at ho
 | cons a l ih =>
  simp only [Pm, Bool.and_eq_true] at h
  cases k with
  | zero => omega
  | succ k =>
   rw [List.getElem?_cons_succ] at ho'
   cases i with
   | zero =>
    rw [List.getElem?_cons_zero] at ho
    cases ho
    have h1 := h.1
    rw [ht] at h1
    simp only [List.all_eq_true] at h1
    have := h1 o' (List.mem_of_getElem? ho')
    intro he
    simp [ARU, he] at this
   | succ i => exact ih h.2 (i := i) (k := k) (by omega) (by rw [List.getElem?_cons_succ] at ho; exact ho) ho'
def YO : List Oper -> Nat -> Bool
 | [], _ => true
 | o :: l, k => (match o.guard with
  | some q => Nat.blt q.1 k
  | none => true) && YO l (k + 1)
theorem oU : ∀ {l : List Oper} {k : Nat}, YO l k = true -> ∀ {i : Nat} {o : Oper} {q : Nat × Bool}, l[i]? = some o -> o.guard = some q -> q.1 < k + i
 | [], _, _, i, o, q, h, _ => by simp at h
 | a :: l, k, h, 0, o, q, ho, hq => by
  simp only [YO, Bool.and_eq_true] at h
  simp at ho; subst ho
  have h1 := h.1
  rw [hq] at h1
  simpa using h1
 | a :: l, k, h, i + 1, o, q, ho, hq => by
  simp only [YO, Bool.and_eq_true] at h
  have := oU h.2 (i := i) (by simpa using ho) hq
  omega
def wg : List Oper -> Nat -> Nat -> Option (Nat × Bool)
 | [], _, _ => none
 | _ :: _, 0, _ => none
 | o :: l, k + 1, t => if ARU o t then o.guard else wg l k t
theorem AZR : ∀ {l : List Oper} {k t : Nat} {q : Nat × Bool}, wg l k t = some q -> ∃ i o, i < k /\ l[i]? = some o /\ o.dst = some t /\ o.guard = some q
 | [], k, t, q, h => by simp [wg] at h
 | o :: l, 0, t, q, h => by simp [wg] at h
 | o :: l, k + 1, t, q, h => by
  simp only [wg] at h
  split at h
  ·rename_i hd; exact ⟨0, o, by omega, rfl, AWC hd, h⟩
  ·obtain ⟨i, o', h1, h2, h3⟩ := AZR h
   exact ⟨i + 1, o', by omega, by simpa using h2, h3⟩
def gcov (ops : Array Oper) : Nat -> Nat × Bool -> Nat × Bool -> Bool
 | 0, _, _ => false
 | f + 1, q, q' => (Nat.beq q.1 q'.1 && (q.2 == q'.2)) || match (ops[q.1]?).bind (·.guard) with
  | some q2 => gcov ops f q2 q'
  | none => false
def GInv (ops : Array Oper) (sl : Nat -> AVal) (k : Nat) : Prop :=
 ∀ i o t q, i < k -> ops[i]? = some o -> o.dst = some t -> o.guard = some q -> ∃ g v, sl t = .opt g v /\ IQ ops sl q.1 q.2 = some g
theorem AVU {ops : Array Oper} {sl : Nat -> AVal} {j : Nat} {want g gd : Bool} {t : Nat} {v : AVal} (ht : (ops[j]?).bind (·.dst) = some t) (hs : sl t = .opt gd v) (h : IQ ops sl j want = some g) (hg : g = true) : gd = true := by
 unfold IQ at h
 rw [ht] at h
 simp only [hs] at h
 split at h <;> simp_all
theorem AXA {ops : Array Oper} {sl : Nat -> AVal} {j : Nat} {want g : Bool} (h : IQ ops sl j want = some g) : ∃ o t, ops[j]? = some o /\ o.dst = some t := by
 unfold IQ at h
 split at h
 ·rename_i t ht
  cases hj : ops[j]? with
  | none => rw [hj] at ht; cases ht
  | some o => rw [hj] at ht; exact ⟨o, t, rfl, ht⟩
 ·cases h
theorem AJL {ops : Array Oper} {sl : Nat -> AVal} {k : Nat} (hI : GInv ops sl k) (hl : YO ops.toList 0 = true) : ∀ (f : Nat) (q q' : Nat × Bool) (g g' : Bool), gcov ops f q q' = true -> q.1 < k -> IQ ops sl q.1 q.2 = some g -> g = true -> IQ ops sl q'.1 q'.2 = some g' -> g' = true
 | 0, _, _, _, _, h, _, _, _, _ => by simp [gcov] at h
 | f + 1, q, q', g, g', h, hq, h1, hg, h2 => by
  simp only [gcov, Bool.or_eq_true, Bool.and_eq_true, GV, beq_iff_eq] at h
  rcases h with ⟨e1, e2⟩ | h
  ·rw [<- e1, <- e2, h1] at h2; cases h2; exact hg
  ·split at h
   ·rename_i q2 hq2
    obtain ⟨o, t, ho, ht⟩ := AXA h1
    have hgq : o.guard = some q2 := by rw [ho] at hq2; exact hq2
    obtain ⟨gd, v, hs, hgd⟩ := hI q.1 o t q2 hq ho ht hgq
    have := AVU (by rw [ho]; exact ht) hs h1 hg
    have hlow := oU hl (i := q.1) (by simpa using ho) hgq
    exact AJL hI hl f q2 q' gd g' h (by omega) hgd this h2
   ·cases h
def tagW (cv : Nat × Bool -> Bool) (ops : Array Oper) (k : Nat) (c : Prop) (x : Operand) (a : AVal) : List Prop := match a with
 | .opt g _ => match x with
  | .tmp t => match wg ops.toList k t with
   | some q => if cv q then [] else [c -> g = true]
   | none => [c -> g = true]
  | _ => [c -> g = true]
 | _ => []
theorem oX {cv : Nat × Bool -> Bool} {ops : Array Oper} {sl : Nat -> AVal} {k : Nat} {c : Prop} {x : Operand} (hI : GInv ops sl k) (hcv : ∀ q g, cv q = true -> IQ ops sl q.1 q.2 = some g -> c -> g = true) (h : DV (tagW cv ops k c x (BP sl x))) : DV (Qr c (BP sl x)) := by
 generalize ha : BP sl x = a at h
 cases a with
 | opt g v =>
  simp only [tagW] at h
  split at h
  ·rename_i t
   split at h
   ·rename_i q hq
    split at h
    ·rename_i hc
     obtain ⟨i, o, h1, h2, h3, h4⟩ := AZR hq
     obtain ⟨g', v', h5, h6⟩ := hI i o t q h1 (by simpa using h2) h3 h4
     have : sl t = .opt g v := ha
     rw [h5] at this; cases this
     exact λ c => hcv q _ hc h6 c
    ·exact h
   ·exact h
  ·exact h
 | _ => trivial
def cvOwn (ops : Array Oper) (k : Nat) (gd : Option (Nat × Bool)) (q : Nat × Bool) : Bool := match gd with
 | some g => gcov ops (k + 1) g q
 | none => false
def AMB (ops : Array Oper) (k : Nat) (gd : Option (Nat × Bool)) (c : Operand) (want : Bool) (q : Nat × Bool) : Bool :=
 (match c, (ops[q.1]?).bind (·.dst) with
  | .tmp tc, some t => Nat.beq t tc && (q.2 == want)
  | _, _ => false) || cvOwn ops k gd q
def BBO (ops : Array Oper) (k : Nat) (sl : Nat -> AVal) (o : Oper) : List Prop := match o.op, o.guard with
 | .pick c a b, gd => match DO (BP sl c) with
  | .d (.v (.bool t)) => tagW (cvOwn ops k gd) ops k True c (BP sl c) ++ (tagW (AMB ops k gd c true) ops k (t = true) a (BP sl a) ++ tagW (AMB ops k gd c false) ops k (t = false) b (BP sl b))
  | _ => []
 | _, none => []
 | op, some q => op.operands.toList.flatMap λ x => tagW (cvOwn ops k (some q)) ops k True x (BP sl x)
def gZ (sl : Nat -> AVal) (o : Oper) : List Prop := match o.op, o.guard with
 | .pick c a b, _ => match DO (BP sl c) with
  | .d (.v (.bool t)) => Qr True (BP sl c) ++ (Qr (t = true) (BP sl a) ++ Qr (t = false) (BP sl b))
  | _ => []
 | _, none => []
 | op, some _ => YD (BP sl) op.operands.toList
theorem O2 {ops : Array Oper} {sl : Nat -> AVal} {k : Nat} {gd : Option (Nat × Bool)} {c : Operand} {want t : Bool} (hO : ∀ q g, cvOwn ops k gd q = true -> IQ ops sl q.1 q.2 = some g -> g = true) (hc : DO (BP sl c) = .d (.v (.bool t))) (ht : DV (Qr True (BP sl c))) (q : Nat × Bool) (g : Bool)
  (h : AMB ops k gd c want q = true) (hg : IQ ops sl q.1 q.2 = some g) (hw : t = want) : g = true := by
 simp only [AMB, Bool.or_eq_true] at h
 rcases h with h | h
 ·split at h
  ·rename_i tc t' hd
   simp only [Bool.and_eq_true, GV, beq_iff_eq] at h
   obtain ⟨rfl, h2⟩ := h
   unfold IQ at hg
   rw [hd] at hg
   simp only [BP] at hc ht
   subst hw
   rw [h2] at hg
   obtain ⟨v, hv⟩ : ∃ v, sl t' = v := ⟨_, rfl⟩
   simp only [hv] at hc ht hg
   cases v with
   | opt gc v' =>
    have : gc = true := ht trivial
    subst this
    simp only [DO] at hc; subst hc
    cases t <;> simp at hg <;> exact hg
   | d x => simp only [DO] at hc; cases hc; cases t <;> simp at hg <;> exact hg
   | _ => simp only [DO] at hc; cases hc
  ·cases h
 ·exact hO q g h hg
theorem AVF {ops : Array Oper} {sl : Nat -> AVal} {k : Nat} {o : Oper} (hI : GInv ops sl k) (hl : YO ops.toList 0 = true) (ho : ops[k]? = some o) (hgd : ∀ q, o.guard = some q -> IQ ops sl q.1 q.2 = some true) (h : DV (BBO ops k sl o)) : DV (gZ sl o) := by
 have hO : ∀ q g, cvOwn ops k o.guard q = true -> IQ ops sl q.1 q.2 = some g -> g = true := λ q g hc hg => by
  unfold cvOwn at hc
  split at hc
  ·rename_i q0 hq0
   have := oU hl (i := k) (by simpa using ho) hq0
   exact AJL hI hl _ q0 q true g hc (by omega) (hgd q0 hq0) rfl hg
  ·cases hc
 unfold BBO at h
 unfold gZ
 split at h
 ·rename_i c a b ho'
  split at h
  ·rename_i t hc
   obtain ⟨h1, h2⟩ := BR h
   obtain ⟨h2, h3⟩ := BR h2
   have t1 := oX hI (λ q g a b _ => hO q g a b) h1
   exact Ah.2 ⟨t1, Ah.2 ⟨oX hI (λ q g a b c => O2 hO hc t1 q g a b c) h2, oX hI (λ q g a b c => O2 hO hc t1 q g a b c) h3⟩⟩
  ·trivial
 ·trivial
 ·rename_i q hgn hq
  rw [hgn] at hO
  generalize o.op.operands.toList = l at h
  induction l with
  | nil => trivial
  | cons x l ih =>
   rw [List.flatMap_cons] at h
   obtain ⟨h1, h2⟩ := BR h
   show DV (Qr True (BP sl x) ++ YD (BP sl) l)
   exact Ah.2 ⟨oX hI (λ q g a b _ => hO q g a b) h1, ih h2⟩
theorem GInv.next {ops : Array Oper} {sl : Nat -> AVal} {k : Nat} {o : Oper} {v : AVal} (hI : GInv ops sl k) (hl : YO ops.toList 0 = true) (hd : Pm ops.toList = true) (ho : ops[k]? = some o) (hv : ∀ q, o.guard = some q -> ∃ g v', v = .opt g v' /\ IQ ops sl q.1 q.2 = some g) (sl' : Nat -> AVal)
  (hsl : ∀ t, sl' t = if o.dst = some t then v else sl t) : GInv ops sl' (k + 1) := by
 have hk : ∀ j want, j < k -> IQ ops sl' j want = IQ ops sl j want := λ j want hj => by
  unfold IQ
  cases hjo : ops[j]? with
  | none => rfl
  | some oj =>
   simp only [Option.bind_some]
   cases hdj : oj.dst with
   | none => rfl
   | some t =>
    simp only
    rw [hsl t, if_neg (lX hd hj (by simpa using hjo) (by simpa using ho) hdj)]
 intro i o' t q hi ho' ht hq
 have hlow := oU hl (i := i) (by simpa using ho') hq
 rcases Nat.lt_or_ge i k with hik | hik
 ·obtain ⟨g, v', h1, h2⟩ := hI i o' t q hik ho' ht hq
  refine ⟨g, v', ?_, by rw [hk _ _ (by omega)]; exact h2⟩
  rw [hsl t, if_neg (lX hd hik (by simpa using ho') (by simpa using ho) ht)]
  exact h1
 ·have : i = k := by omega
  subst this
  rw [ho] at ho'; cases ho'
  obtain ⟨g, v', h1, h2⟩ := hv q hq
  exact ⟨g, v', by rw [hsl t, if_pos ht]; exact h1, by rw [hk _ _ (by omega)]; exact h2⟩
end Go.Sym

namespace Go.Sym
variable {P : Program} {B B' : De} {ι ι' : Nat -> Pl} {H H' : Heap} {D : Nat -> Prop} {w w' : World} {c : Ctx} {σ : AState} {Q : Exit -> AState -> Prop}
structure CallR where
 ids : List Nat
 val : AVal
 upd : List (Nat × HCell)
 pre : List Prop
abbrev Spec := List AVal -> Heap -> Nat -> Option CallR
def AH (P : Program) (g : FuncId) (s : Spec) : Prop := ∀ as H r x, s as H r = some x -> DV x.pre -> AYC P g as r (x.ids.map λ i => (i, H i)) x.val x.upd
def isNone : HCell -> Bool
 | .none => true
 | _ => false
theorem Pq {c : HCell} (h : isNone c = true) : c = .none := by cases c <;> first | rfl | cases h
def aM (H : Heap) (r : Nat) : Bool := (List.range 16).all λ i => isNone (H (r + i))
theorem fK {r : Nat} (h : aM H r = true) : ∀ i, r <= i -> i < r + 16 -> H i = .none := λ i h1 h2 => by
 simp only [aM, List.all_eq_true, List.mem_range] at h
 have := Pq (h (i - r) (by omega))
 rwa [show r + (i - r) = i by omega] at this
def ASP (n : Nat) (o : Oper) : Bool := match o.dst with
 | some d => Nat.blt d n
 | none => true
theorem uY {n : Nat} {o : Oper} (h : ASP n o = true) : ∀ d, o.dst = some d -> d < n := by
 intro d hd
 simpa [ASP, hd] using h
structure Stp where
 val : AVal
 upd : List (Nat × HCell)
 touch : List Nat
 pre : List Prop
def AQR (Γ : FuncId -> Option Spec) (r : Nat) (f : AVal) (args : List AVal) (H : Heap) : Option CallR := match f with
 | .fn (.func g) first caps => match Γ g with
  | some s => s (first ++ args ++ caps) H r
  | none => none
 | _ => none
def gopB (P : Program) (r : Nat) (ρ : Operand -> AVal) (H : Heap) (g : Bool) (op : Op) : Option (AVal × List Prop) := match op with
 | .pick c a b => match DO (ρ c) with
  | .d (.v (.bool t)) => some (ACO t (DO (ρ a)) (DO (ρ b)), [])
  | _ => none
 | .buildSlice t len ps => match WF P r t len (ps.toList.map λ p => (p.1, DO (ρ p.2))) with
  | some ⟨_, [(_, .live (.row k n get))], _⟩ => some (.d (.list k n get true), [])
  | _ => none
 | op => match opA P false r (λ x => DO (ρ x)) H op with
  | some ⟨v, [], p⟩ => some (v, oD g p)
  | _ => none
def BMG (P : Program) (Γ : FuncId -> Option Spec) (mt : Bool) (r : Nat) (σ : AState) : Op -> Option Stp
 | .call ⟨.value f, args, _⟩ => match AQR Γ r (BP σ.sl f) (args.toList.map (BP σ.sl)) σ.H with
  | some x => if aM σ.H r then some ⟨x.val, x.upd, x.ids ++ (List.range 16).map (r + ·), x.pre⟩ else none
  | none => none
 | .pick c a b => match BP σ.sl c with
  | .d (.v (.bool t)) => if isNone (σ.H r) then some ⟨ACO t (DO (BP σ.sl a)) (DO (BP σ.sl b)), [], r :: Rw (BP σ.sl) (.pick c a b), []⟩ else none
  | _ => none
 | op => match opA P mt r (BP σ.sl) σ.H op with
  | some e => if isNone (σ.H r) then some ⟨e.val, e.upd, r :: Rw (BP σ.sl) op, e.pre⟩ else none
  | none => none
def stepG (P : Program) (Γ : FuncId -> Option Spec) (r : Nat) (σ : AState) (g : Bool) : Op -> Option (AVal × List Nat × List Prop)
 | .call ⟨.value f, args, _⟩ => match AQR Γ r (DO (BP σ.sl f)) (args.toList.map λ x => DO (BP σ.sl x)) σ.H with
  | some ⟨ids, v, [], p⟩ => if aM σ.H r then some (v, ids ++ (List.range 16).map (r + ·), oD g p) else none
  | _ => none
 | op => match gopB P r (BP σ.sl) σ.H g op with
  | some (v, p) => if isNone (σ.H r) then some (v, r :: Rw (λ x => DO (BP σ.sl x)) op, p) else none
  | none => none
def ADX (P : Program) (Γ : FuncId -> Option Spec) (mt : Bool) (ops : Array Oper) (r : Nat) (σ : AState) (o : Oper) : Option Stp := match o.guard with
 | none => BMG P Γ mt r σ o.op
 | some (j, want) => match IQ ops σ.sl j want with
  | some g => match stepG P Γ r σ g o.op with
   | some (v, touch, p) => some ⟨.opt g v, [], touch, p⟩
   | none => none
  | none => none
theorem kG {g : Bool} {l : List Prop} (h : g = true -> DV l) : DV (oD g l) := by
 cases l with
 | nil => trivial
 | cons => exact h
theorem AAR {op : Op} (h : ∀ c a b, op = .pick c a b -> False) (sl : Nat -> AVal) (o : Oper) (ho : o.op = op) (q : Nat × Bool) (hq : o.guard = some q) : gZ sl o = YD (BP sl) op.operands.toList := by
 unfold gZ
 rw [ho, hq]
 cases op <;> first | rfl | exact (h _ _ _ rfl).elim
def GOk (P : Program) (Γ : FuncId -> Option Spec) : Prop := ∀ g s, Γ g = some s -> AH P g s
theorem rW {Γ : FuncId -> Option Spec} (hΓ : GOk P Γ) {r : Nat} {f : AVal} {args : List AVal} {x : CallR} (h : AQR Γ r f args H = some x) : ∃ g first caps, f = .fn (.func g) first caps /\ (DV x.pre -> AYC P g (first ++ args ++ caps) r (x.ids.map λ i => (i, H i)) x.val x.upd) := by
 unfold AQR at h
 split at h
 ·rename_i g first caps
  split at h
  ·rename_i s hs
   exact ⟨g, first, caps, rfl, hΓ g s hs _ _ _ _ h⟩
  ·cases h
 ·cases h
theorem sW (l : List Nat) (H : Heap) : ∀ p ∈ l.map (λ i => (i, H i)), H p.1 = p.2 := λ p hp => by
 obtain ⟨i, _, rfl⟩ := List.mem_map.1 hp; rfl
theorem BDI {r : Nat} {sl : Nat -> AVal} {g : Bool} {o : Oper} {q : Nat × Bool} {v : AVal} {p : List Prop} (h : gopB P r (BP sl) H g o.op = some (v, p)) (hq : o.guard = some q) (hp : DV p) (ht : g = true -> DV (gZ sl o)) : ∃ p', gopA P r (BP sl) H g o.op = some (v, p') /\ DV p' := by
 unfold gopB at h
 split at h
 ·rename_i c a b ho
  split at h
  ·rename_i t hc
   cases h
   refine ⟨oD g (Qr True (BP sl c) ++ (Qr (t = true) (BP sl a) ++ Qr (t = false) (BP sl b))), by rw [ho]; simp only [gopA, hc], kG λ hg => ?_⟩
   have := ht hg
   unfold gZ at this
   rw [ho, hq] at this
   simp only [hc] at this
   exact this
  ·cases h
 ·rename_i t len ps ho
  split at h
  ·rename_i hb
   cases h
   refine ⟨oD g (YD (BP sl) (Op.buildSlice t len ps).operands.toList), by rw [ho]; simp only [gopA, hb], kG λ hg => ?_⟩
   have := ht hg
   rw [AAR (λ _ _ _ h => by cases h) sl o ho _ hq] at this
   exact this
  ·cases h
 ·rename_i h1 h2
  split at h
  ·rename_i e1 e2 ho
   cases h
   refine ⟨oD g (YD (BP sl) o.op.operands.toList ++ e2), ?_, kG λ hg => ?_⟩
   ·unfold gopA
    split
    ·rename_i c a b hop; exact (h1 c a b hop).elim
    ·rename_i t len ps hop; exact (h2 t len ps hop).elim
    ·rw [ho]
   ·have := ht hg
    rw [AAR (λ c a b h => h1 c a b h) sl o rfl _ hq] at this
    exact Ah.2 ⟨this, Ik hp hg⟩
  ·cases h
theorem ARH {Γ : FuncId -> Option Spec} {mt : Bool} {ops : Array Oper} {r : Nat} {o : Oper} {s : Stp} (h : ADX P Γ mt ops r σ o = some s) (q : Nat × Bool) (hq : o.guard = some q) : ∃ g v, s.val = .opt g v /\ IQ ops σ.sl q.1 q.2 = some g := by
 unfold ADX at h
 rw [hq] at h
 simp only at h
 split at h
 ·rename_i g hg
  split at h
  ·cases h; exact ⟨g, _, rfl, hg⟩
  ·cases h
 ·cases h
theorem kL {Γ : FuncId -> Option Spec} (hΓ : GOk P Γ) {mt : Bool} {ops : Array Oper} {r : Nat} {o : Oper} {s : Stp} (h : ADX P Γ mt ops r σ o = some s) (hp : DV s.pre) (ht : (∀ q, o.guard = some q -> IQ ops σ.sl q.1 q.2 = some true) -> DV (gZ σ.sl o)) : StepO P mt ops r σ o s.val s.upd s.touch := by
 have mp : ∀ (l : List Nat), (l.map λ i => (i, σ.H i)).map (·.1) = l := λ l => by
  induction l with
  | nil => rfl
  | cons a l ih => simp only [List.map_cons, ih]
 have ht' : ∀ {j want g}, o.guard = some (j, want) -> IQ ops σ.sl j want = some g -> g = true -> DV (gZ σ.sl o) := λ hg hw hgt => ht λ q hq => by
  rw [hg] at hq; cases hq; rw [hw, hgt]
 unfold ADX at h
 split at h
 ·rename_i hg
  unfold BMG at h
  split at h
  ·rename_i f args ats ho
   split at h
   ·rename_i x hx
    split at h
    ·rename_i hf
     cases h
     obtain ⟨g, first, caps, he, hc⟩ := rW hΓ hx
     have := StepO.call (mt := mt) (ops := ops) hg ho he (hc hp) (sW _ _) (fK hf)
     rw [mp] at this; exact this
    ·cases h
   ·cases h
  ·rename_i c a b ho
   split at h
   ·rename_i t hc
    split at h
    ·rename_i hf
     cases h
     have h0 := ht λ q hq => by rw [hg] at hq; cases hq
     have h1 : DV (Qr (t = true) (BP σ.sl a) ++ Qr (t = false) (BP σ.sl b)) := by
      unfold gZ at h0
      rw [ho, hg] at h0
      simp only [hc, DO, Qr, List.nil_append] at h0
      exact h0
     have := StepO.op (P := P) (mt := mt) (ops := ops) (r := r) (σ := σ) (o := o) (e := ⟨ACO t (DO (BP σ.sl a)) (DO (BP σ.sl b)), [], Qr (t = true) (BP σ.sl a) ++ Qr (t = false) (BP σ.sl b)⟩) hg (by rw [ho]; simp only [opA, hc]) h1 (Pq hf)
     rw [ho] at this; exact this
    ·cases h
   ·cases h
  ·split at h
   ·rename_i e he
    split at h
    ·rename_i hf
     cases h
     exact .op hg he hp (Pq hf)
    ·cases h
   ·cases h
 ·rename_i j want hg
  split at h
  ·rename_i g hw
   split at h
   ·rename_i v touch p hst
    cases h
    unfold stepG at hst
    split at hst
    ·rename_i f args ats ho
     split at hst
     ·rename_i ids v p hx
      split at hst
      ·rename_i hf
       cases hst
       obtain ⟨g', first, caps, he, hc⟩ := rW hΓ hx
       have := StepO.gcall (mt := mt) (ops := ops) (r := r) hg hw ho he (λ h => by
        have := ht' hg hw h
        rw [AAR (λ _ _ _ h => by cases h) σ.sl o ho _ hg] at this
        rw [ho]; exact this) (λ h => hc (Ik hp h)) (sW _ _) (fK hf)
       rw [mp] at this; exact this
      ·cases hst
     ·cases hst
    ·split at hst
     ·rename_i v p he
      split at hst
      ·rename_i hf
       cases hst
       obtain ⟨p', h1, h2⟩ := BDI (sl := σ.sl) (o := o) he hg hp (ht' hg hw)
       exact .gop hg hw h1 h2 (Pq hf)
      ·cases hst
     ·cases hst
   ·cases h
  ·cases h
structure Run where
 st : AState
 pre : List Prop
 tab : List (List Nat × List Nat)
theorem T7 (sl : Nat -> AVal) (dst : Option Tmp) (v : AVal) (t : Nat) : Ww sl dst v t = if dst = some t then v else sl t := by
 cases dst with
 | none => simp [Ww]
 | some d =>
  by_cases h : t = d
  ·simp [Ww, h]
  ·simp [Ww, h, Ne.symm h]
def tagC (ops : Array Oper) (k : Nat) (σ : AState) (o : Oper) : List Prop := match o.guard with
 | none => BBO ops k σ.sl o
 | some (j, want) => match IQ ops σ.sl j want with
  | some g => oD g (BBO ops k σ.sl o)
  | none => []
def X4 (P : Program) (Γ : FuncId -> Option Spec) (mt : Bool) (ops : Array Oper) (base n : Nat) : List Oper -> Nat -> AState -> Option Run
 | [], _, σ => some ⟨σ, [], []⟩
 | o :: l, k, σ => if ASP n o then match ADX P Γ mt ops (base + 16 * k) σ o with
   | some s => match X4 P Γ mt ops base n l (k + 1) (σ.app o.dst s.val s.upd) with
    | some x => some ⟨x.st, tagC ops k σ o ++ (s.pre ++ x.pre), (s.touch, s.upd.map (·.1)) :: x.tab⟩
    | none => none
   | none => none
  else none
def AZT (l : List (List Nat × List Nat)) : qD := λ k => l.getD k ([], [])
theorem BDG {ops : Array Oper} {k : Nat} {o : Oper} (hI : GInv ops σ.sl k) (hl : YO ops.toList 0 = true) (ho : ops[k]? = some o) (h : DV (tagC ops k σ o)) (hg : ∀ q, o.guard = some q -> IQ ops σ.sl q.1 q.2 = some true) : DV (gZ σ.sl o) := by
 refine AVF hI hl ho hg ?_
 unfold tagC at h
 split at h
 ·exact h
 ·rename_i j want hq
  have := hg _ hq
  simp only at this
  rw [this] at h
  exact Ik h rfl
theorem wO {Γ : FuncId -> Option Spec} (hΓ : GOk P Γ) {mt : Bool} {ops : Array Oper} {base n : Nat} {K : AState -> Prop} (hl : YO ops.toList 0 = true) (hd : Pm ops.toList = true) : ∀ (l : List Oper) (σ : AState) (x : Run) (T0 : List (List Nat × List Nat)), ops.toList.drop T0.length = l -> GInv ops σ.sl T0.length -> X4 P Γ mt ops base n l T0.length σ = some x -> DV x.pre -> K x.st ->
  LexT P mt ops base n (AZT (T0 ++ x.tab)) K l T0.length σ
 | [], σ, x, T0, _, _, h, _, hK => by simp only [X4, Option.some.injEq] at h; subst h; exact hK
 | o :: l, σ, x, T0, hdr, hI, h, hp, hK => by
  simp only [X4] at h
  have ho : ops[T0.length]? = some o := by
   have : (ops.toList.drop T0.length)[0]? = some o := by rw [hdr]; rfl
   simpa using this
  split at h
  ·rename_i hdo
   split at h
   ·rename_i s hs
    split at h
    ·rename_i y hy
     cases h
     obtain ⟨hp0, hp1⟩ := BR hp
     obtain ⟨hp1, hp2⟩ := BR hp1
     have hI' : GInv ops (σ.app o.dst s.val s.upd).sl (T0.length + 1) := hI.next hl hd ho (λ q hq => ARH hs q hq) _ (T7 _ _ _)
     have ih := wO hΓ hl hd l _ y (T0 ++ [(s.touch, s.upd.map (·.1))]) (by
      have := congrArg List.tail hdr
      simpa using this) (by simpa using hI') (by simpa using hy) hp2 hK
     have ht : AZT (T0 ++ ((s.touch, s.upd.map (·.1)) :: y.tab)) T0.length = (s.touch, s.upd.map (·.1)) := by simp [AZT]
     refine ⟨s.val, s.upd, s.touch, kL hΓ hs hp1 (BDG hI hl ho hp0), uY hdo, by rw [ht], by rw [ht], ?_⟩
     simpa using ih
    ·cases h
   ·cases h
  ·cases h
theorem AKD {mt : Bool} {ops : Array Oper} {base n : Nat} {T : qD} {K : AState -> Prop} : ∀ (l : List Oper) (k : Nat) (σ : AState), LexT P mt ops base n T K l k σ -> LexE P mt ops base n K l k σ
 | [], _, _, h => h
 | o :: l, k, σ, h => by
  obtain ⟨val, upd, touch, h1, h2, _, _, h5⟩ := h
  exact ⟨val, upd, touch, h1, h2, AKD l (k + 1) _ h5⟩
def aN (P : Program) (Γ : FuncId -> Option Spec) (mt : Bool) (base n : Nat) (ops : Array Oper) (draw : Bool) (σ : AState) (K : AState -> Prop) : Prop :=
 match X4 P Γ mt ops base n ops.toList 0 σ with
 | some x => if YO ops.toList 0 && Pm ops.toList && (!draw || lexFromT .any ops (AZT x.tab) ops.size 0 (Array.replicate ops.size false)) then R8 x.pre (K x.st) else False
 | none => False
theorem qJ {Γ : FuncId -> Option Spec} (hΓ : GOk P Γ) (hm : P.follows .mixedOrders = true) {mt : Bool} {base : Nat} {id : Nat} {ops : Array Oper} {draw : Bool} (h : aN P Γ mt base c.n ops draw σ (Q .normal)) : CodeE P c (.region id ops draw) Q σ := by
 unfold aN at h
 split at h
 ·rename_i x hx
  split at h
  ·rename_i hc
   simp only [Bool.and_eq_true] at hc
   obtain ⟨⟨hl, hd⟩, h1⟩ := hc
   obtain ⟨h2, h3⟩ := UT h
   have hl := wO hΓ (K := Q .normal) hl hd ops.toList σ x [] (by simp) (λ i _ _ _ hi => by simp at hi) (by simpa using hx) h2 h3
   simp only [List.nil_append, List.length_nil] at hl
   cases draw with
   | false => exact AWR (AKD _ _ _ hl)
   | true => exact ASD hm (by simpa using h1) hl
  ·exact h.elim
 ·exact h.elim
end Go.Sym
