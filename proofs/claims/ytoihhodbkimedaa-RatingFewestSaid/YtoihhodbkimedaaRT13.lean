/- Package rating: what knots prove (no program in sight). -/
import Derived.Test.YtoihhodbkimedaaRatZ
set_option linter.unusedVariables false
set_option linter.unusedSimpArgs false
namespace Go.Bal
open Go Go.Sym Go.Proofs
def fsS (s : List Gau) : Int := (gD s 0).st
def laS (s : List Gau) : Int := (gD s (s.length - 1)).st
structure SetOk (g s : List Gau) : Prop where
 sub : ∀ x ∈ s, x ∈ g
 len : 2 <= s.length /\ s.length <= 3
 rise : ∀ x ∈ s, fsS s <= x.st /\ x.st <= laS s
 lt : fsS s < laS s
theorem BQB {a b : Int} : decide (Lh a b < 0) = decide (a < b) := by
 by_cases h : a < b
 ·rw [decide_eq_true h, decide_eq_true (AWD.2 h)]
 ·rw [decide_eq_false h, decide_eq_false λ hc => h (AWD.1 hc)]
theorem CBF (x y : Gau) : nmB [x, y] = true ↔ x.st < y.st := by
 show (bif (bif decide (Lh y.st x.st < 0) then false else true) then decide (x.st < y.st) else false) = true ↔ _
 rw [BQB]
 by_cases h : y.st < x.st
 ·simp [h]; omega
 ·simp [h]
theorem BYK (x y z : Gau) : nmB [x, y, z] = true ↔ x.st <= y.st /\ y.st <= z.st /\ x.st < z.st := by
 show (bif (bif decide (Lh z.st y.st < 0) then false else bif decide (Lh y.st x.st < 0) then false else true) then decide (x.st < z.st) else false) = true ↔ _
 rw [BQB, BQB]
 by_cases h : z.st < y.st
 ·simp [h]; omega
 ·by_cases h2 : y.st < x.st
  ·simp [h, h2]; omega
  ·simp [h, h2]; omega
theorem CEG {a : GK} (h : (Vh a).2 = true) : bL a = true /\ nmB (Ij a) = true /\ Vh a = (Ij a, true) := by
 unfold Vh at h ⊢
 cases hc : bL a with
 | false => rw [hc] at h; cases h
 | true => rw [hc] at h; have h : nmB (Ij a) = true := h; exact ⟨rfl, h, by rw [h]; rfl⟩
theorem AYA {a : GK} (hl : a.g.length < 1073741824) (h : (Vh a).2 = true) : Vh a = (Ij a, true) /\ SetOk a.g (Ij a) := by
 obtain ⟨hok, hB, he⟩ := CEG h
 obtain ⟨h1, h2, h3⟩ := bZ hl hok
 refine ⟨he, ?_⟩
 have sub : ∀ x ∈ Ij a, x ∈ a.g := λ x hx => by
  obtain ⟨i, hi, rfl⟩ := List.mem_map.1 hx
  have := h3 i hi
  exact DU (by omega)
 obtain ⟨g, k⟩ := a
 rcases k with _ | ⟨p, _ | ⟨q, _ | ⟨r, _ | ⟨t, l⟩⟩⟩⟩
 ·simp at h1
 ·simp at h1
 ·have hB : (gD g p.toNat).st < (gD g q.toNat).st := (CBF _ _).1 hB
  refine ⟨sub, ⟨Nat.le_refl _, by show 2 <= 3; omega⟩, λ x hx => ?_, hB⟩
  show (gD g p.toNat).st <= x.st /\ x.st <= (gD g q.toNat).st
  rcases List.mem_cons.1 hx with rfl | hx
  ·show (gD g p.toNat).st <= (gD g p.toNat).st /\ (gD g p.toNat).st <= (gD g q.toNat).st; omega
  ·rw [List.mem_singleton.1 hx]; show (gD g p.toNat).st <= (gD g q.toNat).st /\ (gD g q.toNat).st <= (gD g q.toNat).st; omega
 ·obtain ⟨b1, b2, b3⟩ : (gD g p.toNat).st <= (gD g q.toNat).st /\ (gD g q.toNat).st <= (gD g r.toNat).st /\ (gD g p.toNat).st < (gD g r.toNat).st := (BYK _ _ _).1 hB
  refine ⟨sub, ⟨by show 2 <= 3; omega, Nat.le_refl _⟩, λ x hx => ?_, b3⟩
  show (gD g p.toNat).st <= x.st /\ x.st <= (gD g r.toNat).st
  rcases List.mem_cons.1 hx with rfl | hx
  ·show (gD g p.toNat).st <= (gD g p.toNat).st /\ (gD g p.toNat).st <= (gD g r.toNat).st; omega
  ·rcases List.mem_cons.1 hx with rfl | hx
   ·show (gD g p.toNat).st <= (gD g q.toNat).st /\ (gD g q.toNat).st <= (gD g r.toNat).st; omega
   ·rw [List.mem_singleton.1 hx]; show (gD g p.toNat).st <= (gD g r.toNat).st /\ (gD g r.toNat).st <= (gD g r.toNat).st; omega
 ·simp at h2
theorem CBU {g : List Gau} (hl : g.length < 1073741824) {x y : Int} (hx : 0 <= x /\ x < g.length) (hy : 0 <= y /\ y < g.length) (h : (gD g x.toNat).st < (gD g y.toNat).st) : (Vh ⟨g, [x, y]⟩).2 = true := by
 have e : wr ((g.length : Int) - 1) = (g.length : Int) - 1 := LS (by omega) (by omega)
 have hok : bL ⟨g, [x, y]⟩ = true := by
  unfold bL
  simp only [e, List.all_cons, List.all_nil, Bool.and_true]
  rw [show Cb x 0 ((g.length : Int) - 1) = true by unfold Cb; simp; omega, show Cb y 0 ((g.length : Int) - 1) = true by unfold Cb; simp; omega]
  rfl
 unfold Vh
 rw [hok]
 exact (CBF _ _).2 h
theorem AND {g : List Gau} (hl : g.length < 1073741824) {x y z : Int} (hx : 0 <= x /\ x < g.length) (hy : 0 <= y /\ y < g.length) (hz : 0 <= z /\ z < g.length) (h1 : (gD g x.toNat).st <= (gD g y.toNat).st) (h2 : (gD g y.toNat).st <= (gD g z.toNat).st) (h3 : (gD g x.toNat).st < (gD g z.toNat).st) : (Vh ⟨g, [x, y, z]⟩).2 = true := by
 have e : wr ((g.length : Int) - 1) = (g.length : Int) - 1 := LS (by omega) (by omega)
 have hok : bL ⟨g, [x, y, z]⟩ = true := by
  unfold bL
  simp only [e, List.all_cons, List.all_nil, Bool.and_true]
  rw [show Cb x 0 ((g.length : Int) - 1) = true by unfold Cb; simp; omega, show Cb y 0 ((g.length : Int) - 1) = true by unfold Cb; simp; omega, show Cb z 0 ((g.length : Int) - 1) = true by unfold Cb; simp; omega]
  rfl
 unfold Vh
 rw [hok]
 exact (BYK _ _ _).2 ⟨h1, h2, h3⟩
theorem ARM {a : GK} (hl : a.g.length < 1073741824) (ho : ∀ x ∈ a.g, XH x) : XU a = true ↔ (Vh a).2 = true /\ ¬Can (Ij a) := by
 unfold XU
 cases h : (Vh a).2 with
 | false => exact ⟨λ h => (by cases h), λ h => (by cases h.1)⟩
 | true =>
  obtain ⟨e, hs⟩ := AYA hl h
  rw [e]
  have hL := (lJ (s := Ij a) λ x hx => ho x (hs.sub x hx)).1
  cases hq : (CS (Ij a)).2 with
  | true => exact ⟨λ h => (by cases h), λ h => absurd (hL.1 hq) h.2⟩
  | false => exact ⟨λ _ => ⟨rfl, λ hc => by rw [hL.2 hc] at hq; cases hq⟩, λ _ => rfl⟩
theorem ASB {g : List Gau} {a b : Int} : ∀ (cs z : List Int), knt3 g a b cs = some z -> XU ⟨g, z⟩ = true /\ ∀ x ∈ z, x = a ∨ x = b ∨ x ∈ cs
 | [], z, h => by cases h
 | c :: cs, z, h => by
  rw [BGL] at h
  cases hc : XU ⟨g, [a, b, c]⟩ with
  | true => rw [hc] at h; cases h; exact ⟨hc, λ x hx => by simp at hx ⊢; rcases hx with h | h | h <;> simp [h]⟩
  | false =>
   rw [hc] at h
   obtain ⟨h1, h2⟩ := ASB cs z h
   exact ⟨h1, λ x hx => by rcases h2 x hx with h | h | h <;> simp [h]⟩
theorem BAD {x y : Option (List Int)} {z : List Int} (h : orO x y = some z) : x = some z ∨ y = some z := by
 cases x with
 | none => exact .inr h
 | some w => exact .inl h
theorem BAK {x y : Option (List Int)} (h : orO x y = none) : x = none /\ y = none := by
 cases x with
 | none => exact ⟨rfl, h⟩
 | some w => cases h
theorem ATM {g : List Gau} {a : Int} : ∀ (cs z : List Int), knt2 g a cs = some z -> XU ⟨g, z⟩ = true /\ ∀ x ∈ z, x = a ∨ x ∈ cs
 | [], z, h => by cases h
 | b :: cs, z, h => by
  rw [BGJ] at h
  cases hc : XU ⟨g, [a, b]⟩ with
  | true => rw [hc] at h; cases h; exact ⟨hc, λ x hx => by simp at hx ⊢; rcases hx with h | h <;> simp [h]⟩
  | false =>
   rw [hc] at h
   rcases BAD h with h | h
   ·obtain ⟨h1, h2⟩ := ASB cs z h
    exact ⟨h1, λ x hx => by rcases h2 x hx with h | h | h <;> simp [h]⟩
   ·obtain ⟨h1, h2⟩ := ATM cs z h
    exact ⟨h1, λ x hx => by rcases h2 x hx with h | h <;> simp [h]⟩
theorem ASV {g : List Gau} : ∀ (k z : List Int), jG g k = some z -> XU ⟨g, z⟩ = true /\ ∀ x ∈ z, x ∈ k
 | [], z, h => by cases h
 | a :: bs, z, h => by
  rw [BDZ] at h
  rcases BAD h with h | h
  ·obtain ⟨h1, h2⟩ := ATM bs z h
   exact ⟨h1, λ x hx => by rcases h2 x hx with h | h <;> simp [h]⟩
  ·obtain ⟨h1, h2⟩ := ASV bs z h
   exact ⟨h1, λ x hx => List.mem_cons_of_mem _ (h2 x hx)⟩
theorem ATA {g : List Gau} {a b : Int} : ∀ (cs : List Int), knt3 g a b cs = none -> ∀ i, i < cs.length -> XU ⟨g, [a, b, gD cs i]⟩ = false
 | [], h, i, hi => by simp at hi
 | c :: cs, h, i, hi => by
  rw [BGL] at h
  cases hc : XU ⟨g, [a, b, c]⟩ with
  | true => rw [hc] at h; cases h
  | false =>
   rw [hc] at h
   cases i with
   | zero => exact hc
   | succ i => exact ATA cs h i (by simpa using hi)
theorem ASW {g : List Gau} {a : Int} : ∀ (cs : List Int), knt2 g a cs = none -> ∀ i, i < cs.length -> XU ⟨g, [a, gD cs i]⟩ = false /\ ∀ j, i < j -> j < cs.length -> XU ⟨g, [a, gD cs i, gD cs j]⟩ = false
 | [], h, i, hi => by simp at hi
 | b :: cs, h, i, hi => by
  rw [BGJ] at h
  cases hc : XU ⟨g, [a, b]⟩ with
  | true => rw [hc] at h; cases h
  | false =>
   rw [hc] at h
   obtain ⟨h1, h2⟩ := BAK h
   cases i with
   | zero =>
    refine ⟨hc, λ j hj hl => ?_⟩
    cases j with
    | zero => omega
    | succ j => exact ATA cs h1 j (by simpa using hl)
   | succ i =>
    obtain ⟨h3, h4⟩ := ASW cs h2 i (by simpa using hi)
    refine ⟨h3, λ j hj hl => ?_⟩
    cases j with
    | zero => omega
    | succ j => exact h4 j (by omega) (by simpa using hl)
theorem AUM {g : List Gau} : ∀ (k : List Int), jG g k = none -> ∀ i j, i < j -> j < k.length -> XU ⟨g, [gD k i, gD k j]⟩ = false /\ ∀ m, j < m -> m < k.length -> XU ⟨g, [gD k i, gD k j, gD k m]⟩ = false
 | [], h, i, j, _, hi => by simp at hi
 | a :: bs, h, i, j, hij, hj => by
  rw [BDZ] at h
  obtain ⟨h1, h2⟩ := BAK h
  obtain ⟨j, rfl⟩ : ∃ q, j = q + 1 := ⟨j - 1, by omega⟩
  cases i with
  | zero =>
   obtain ⟨h3, h4⟩ := ASW bs h1 j (by simpa using hj)
   refine ⟨h3, λ m hm hl => ?_⟩
   obtain ⟨m, rfl⟩ : ∃ q, m = q + 1 := ⟨m - 1, by omega⟩
   exact h4 m (by omega) (by simpa using hl)
  | succ i =>
   obtain ⟨h3, h4⟩ := AUM bs h2 i j (by omega) (by simpa using hj)
   refine ⟨h3, λ m hm hl => ?_⟩
   obtain ⟨m, rfl⟩ : ∃ q, m = q + 1 := ⟨m - 1, by omega⟩
   exact h4 m (by omega) (by simpa using hl)
theorem ACU {o : List Int} {m n p : Nat} (hn : n <= o.length) (h1 : m <= p) (h2 : p < n) : gD ((o.take n).drop m) (p - m) = gD o p := by
 rw [Fh, show m + (p - m) = p by omega]
 simp [gD, List.getD_eq_getElem?_getD, List.getElem?_take, h2]
theorem BWM {o : List Int} {m n : Nat} (hn : n <= o.length) {x : Int} (h : x ∈ (o.take n).drop m) : ∃ p, m <= p /\ p < n /\ gD o p = x := by
 obtain ⟨i, hi, rfl⟩ := YL h
 rw [List.length_drop, List.length_take] at hi
 refine ⟨m + i, by omega, by omega, ?_⟩
 have := ACU (o := o) (m := m) (n := n) (p := m + i) hn (by omega) (by omega)
 rw [show m + i - m = i by omega] at this; exact this.symm
theorem BNW {g : List Gau} (hc : AZ g = 0) (h1 : ∀ x ∈ g, Can (g.filter λ y => y.st == x.st)) {m n : Nat} (hn : n <= g.length) (h : jG g (((AM g).take n).drop m) = none) : Can (sS g (AM g) m n) := by
 obtain ⟨⟨hl1, hl2⟩, ho⟩ := MP hc
 have hN := AUM _ h
 have hol : (AM g).length = g.length := AN g
 have hlen : (((AM g).take n).drop m).length = n - m := by rw [List.length_drop, List.length_take]; omega
 have pair : ∀ i k, m <= i -> i < k -> k < n -> iK g i < iK g k -> Can [Jc g i, Jc g k] := λ i k a1 a2 a3 hs => by
  have := (hN (i - m) (k - m) (by omega) (by omega)).1
  rw [ACU (by omega) a1 (by omega), ACU (by omega) (by omega) a3] at this
  refine Classical.byContradiction λ hcn => ?_
  have ht := (ARM (a := ⟨g, [gD (AM g) i, gD (AM g) k]⟩) (show g.length < 1073741824 by omega) ho).2 ⟨CBU (by omega) (YD (by omega)) (YD (by omega)) hs, hcn⟩
  rw [this] at ht; cases ht
 have core : ∀ i j k, m <= i -> i <= j -> j <= k -> k < n -> Can [Jc g i, Jc g j, Jc g k] := λ i j k a1 a2 a3 a4 => by
  have s1 : iK g i <= iK g j := Fb a2 (by omega)
  have s2 : iK g j <= iK g k := Fb a3 (by omega)
  by_cases hs : iK g i = iK g k
  ·refine (h1 _ (Ry (g := g) (i := i) (by omega))).mono λ x hx => ?_
   have q : ∀ p, p < n -> iK g p = iK g i -> Jc g p ∈ g.filter λ y => y.st == (Jc g i).st := λ p hp he => List.mem_filter.2 ⟨Ry (by omega), beq_iff_eq.2 he⟩
   simp only [List.mem_cons, List.not_mem_nil, or_false] at hx
   rcases hx with rfl | rfl | rfl
   ·exact q i (by omega) rfl
   ·exact q j (by omega) (by omega)
   ·exact q k (by omega) (by omega)
  ·by_cases e1 : i = j
   ·subst e1
    exact (pair i k a1 (by have : i ≠ k := λ e => hs (by rw [e]); omega) a4 (by omega)).mono λ x hx => by simp at hx ⊢; rcases hx with h | h <;> simp [h]
   ·by_cases e2 : j = k
    ·subst e2
     exact (pair i j a1 (by omega) a4 (by omega)).mono λ x hx => by simp at hx ⊢; rcases hx with h | h <;> simp [h]
    ·have := (hN (i - m) (j - m) (by omega) (by omega)).2 (k - m) (by omega) (by omega)
     rw [ACU (by omega) a1 (by omega), ACU (by omega) (by omega) (by omega), ACU (by omega) (by omega) a4] at this
     refine Classical.byContradiction λ hcn => ?_
     have ht := (ARM (a := ⟨g, [gD (AM g) i, gD (AM g) j, gD (AM g) k]⟩) (show g.length < 1073741824 by omega) ho).2 ⟨AND (by omega) (YD (by omega)) (YD (by omega)) (YD (by omega)) s1 s2 (show iK g i < iK g k by omega), hcn⟩
     rw [this] at ht; cases ht
 refine CAB (ANY ho hn) λ a b c ha hb hc => ?_
 obtain ⟨i, i1, i2, rfl⟩ := (tC hn).1 ha
 obtain ⟨j, j1, j2, rfl⟩ := (tC hn).1 hb
 obtain ⟨k, k1, k2, rfl⟩ := (tC hn).1 hc
 have fin : ∀ {p q r : Nat}, Can [Jc g p, Jc g q, Jc g r] -> (∀ x ∈ [Jc g i, Jc g j, Jc g k], x ∈ [Jc g p, Jc g q, Jc g r]) -> Can [Jc g i, Jc g j, Jc g k] := λ h hs => h.mono hs
 rcases Nat.le_total i j with h1 | h1 <;> rcases Nat.le_total j k with h2 | h2 <;> rcases Nat.le_total i k with h3 | h3
 ·exact core i j k i1 h1 h2 k2
 ·exact core i j k i1 h1 h2 k2
 ·exact fin (core i k j i1 h3 h2 j2) λ x hx => by simp at hx ⊢; rcases hx with h | h | h <;> simp [h]
 ·exact fin (core k i j k1 h3 h1 j2) λ x hx => by simp at hx ⊢; rcases hx with h | h | h <;> simp [h]
 ·exact fin (core j i k j1 h1 h3 k2) λ x hx => by simp at hx ⊢; rcases hx with h | h | h <;> simp [h]
 ·exact fin (core j k i j1 h2 h3 i2) λ x hx => by simp at hx ⊢; rcases hx with h | h | h <;> simp [h]
 ·exact fin (core k j i k1 h2 h1 i2) λ x hx => by simp at hx ⊢; rcases hx with h | h | h <;> simp [h]
 ·exact fin (core k j i k1 h2 h1 i2) λ x hx => by simp at hx ⊢; rcases hx with h | h | h <;> simp [h]
structure KnotAt (g : List Gau) (b : List Int) (z : List Int) (i : Nat) : Prop where
 tied : XU ⟨g, z⟩ = true
 nm : (Vh ⟨g, z⟩).2 = true
 set : SetOk g (Ij ⟨g, z⟩)
 no : ¬Can (Ij ⟨g, z⟩)
 lo : i ≠ 0 -> gD b (i - 1) <= fsS (Ij ⟨g, z⟩)
 hi : laS (Ij ⟨g, z⟩) <= gD b i
theorem Few.knot {g : List Gau} {b : List Int} {l : List Ln} {k : List (List Int)} (W : Few g b l k) (hc : AZ g = 0) {i : Nat} (hi : i < b.length) : KnotAt g b (gD k i) i := by
 obtain ⟨⟨hl1, hl2⟩, ho⟩ := MP hc
 obtain ⟨P, hp⟩ := W.parts
 obtain ⟨a1, a2, a3, a4⟩ := hp.up i hi
 obtain ⟨n1, n2⟩ := ABG a2
 obtain ⟨b1, b2⟩ := BHM a2
 have hol : (AM g).length = g.length := AN g
 have e := hp.knot i hi
 cases hk : jG g (((AM g).take (In g (AM g) (gD P (i + 1)))).drop (gD P i)) with
 | none => exact absurd (BNW hc W.one n2 hk) (hp.bad i hi)
 | some z =>
  have ez : gD k i = z := by rw [e]; unfold Hk; rw [hk]; rfl
  rw [ez]
  obtain ⟨h1, h2⟩ := ASV _ _ hk
  obtain ⟨t1, t2⟩ := (ARM (a := ⟨g, z⟩) (show g.length < 1073741824 by omega) ho).1 h1
  obtain ⟨s1, s2⟩ := AYA (a := ⟨g, z⟩) (show g.length < 1073741824 by omega) t1
  have hin : ∀ x ∈ Ij ⟨g, z⟩, (i ≠ 0 -> gD b (i - 1) <= x.st) /\ x.st <= gD b i := λ x hx => by
   obtain ⟨y, hy, rfl⟩ := List.mem_map.1 hx
   obtain ⟨p, p1, p2, rfl⟩ := BWM (by omega) (h2 y hy)
   refine ⟨λ h0 => ?_, ?_⟩
   ·have e2 := (hp.up (i - 1) (by omega)).2.2.2
    rw [show i - 1 + 1 = i by omega] at e2
    rw [e2]
    exact Fb p1 (by omega)
   ·show iK g p <= _
    rw [a4]
    by_cases hj : p <= gD P (i + 1)
    ·exact Fb hj a2
    ·rw [b2 p (by omega) p2]; exact Int.le_refl _
  have hlen := s2.len
  exact ⟨h1, t1, s2, t2, (hin _ (DU (by omega))).1, (hin _ (DU (by omega))).2⟩
theorem AOY {g s : List Gau} {b : List Int} (hs : SetOk g s) (hn : ¬Can s) (hb : ∀ i : Nat, i <= b.length -> Can (NM g b i)) : Tl b (fsS s) + 1 <= Tl b (laS s) := by
 refine Classical.byContradiction λ hc => hn ?_
 have h1 := Ym b (Int.le_of_lt hs.lt)
 refine (hb (Tl b (fsS s)) (tK _ _)).mono λ x hx => ?_
 have h2 := Ym b (hs.rise x hx).1
 have h3 := Ym b (hs.rise x hx).2
 exact ZS.2 ⟨hs.sub x hx, by omega⟩
theorem BLW {g : List Gau} {b : List Int} {S : List (List Gau)} (hb : ∀ i : Nat, i <= b.length -> Can (NM g b i)) (hs : ∀ s ∈ S, SetOk g s /\ ¬Can s) (hd : ∀ i, i + 1 < S.length -> laS (gD S i) <= fsS (gD S (i + 1))) : S.length <= b.length := by
 have key : ∀ n, n < S.length -> n + 1 <= Tl b (laS (gD S n)) := λ n => by
  induction n with
  | zero => exact λ h => by have := hs _ (DU h); have := AOY this.1 this.2 hb; omega
  | succ n ih =>
   intro h
   have h1 := ih (by omega)
   have h2 := Ym b (hd n h)
   have := hs _ (DU h)
   have := AOY this.1 this.2 hb
   omega
 by_cases hz : S.length = 0
 ·omega
 ·have := key (S.length - 1) (by omega)
  have := tK b (laS (gD S (S.length - 1)))
  omega
def BEH (s t : List Gau) : Prop := laS s <= fsS t ∨ laS t <= fsS s
theorem AYD {S T : List (List Gau)} (hp : S.Perm T) (hT : T.Pairwise BEH) (hl : ∀ s ∈ T, fsS s < laS s) (hs : ∀ i, i + 1 < S.length -> fsS (gD S i) <= fsS (gD S (i + 1))) : ∀ i, i + 1 < S.length -> laS (gD S i) <= fsS (gD S (i + 1)) := λ i hi => by
 have h1 : S.Pairwise BEH := (hp.pairwise_iff (λ {a b} h => Or.symm h)).2 hT
 have h2 := List.pairwise_iff_getElem.1 h1 i (i + 1) (by omega) hi (by omega)
 have e1 : S[i] = gD S i := by simp [gD, List.getD_eq_getElem?_getD, show i < S.length by omega]
 have e2 : S[i + 1] = gD S (i + 1) := by simp [gD, List.getD_eq_getElem?_getD, hi]
 rw [e1, e2] at h2
 have h3 := hs i hi
 have h4 := hl _ (hp.mem_iff.1 (DU hi))
 rcases h2 with h2 | h2 <;> omega
theorem Few.apart {g : List Gau} {b : List Int} {l : List Ln} {k : List (List Int)} (W : Few g b l k) (hc : AZ g = 0) : (k.map λ z => Ij ⟨g, z⟩).Pairwise BEH := by
 rw [List.pairwise_map]
 refine List.pairwise_iff_getElem.2 λ i j hi hj hij => .inl ?_
 have e1 : k[i] = gD k i := by simp [gD, List.getD_eq_getElem?_getD, hi]
 have e2 : k[j] = gD k j := by simp [gD, List.getD_eq_getElem?_getD, hj]
 rw [e1, e2]
 have hk := W.lenk
 have h1 := (W.knot hc (i := i) (by omega)).hi
 have h2 := (W.knot hc (i := j) (by omega)).lo (by omega)
 have h3 : gD b i <= gD b (j - 1) := by
  by_cases he : i = j - 1
  ·rw [<- he]; exact Int.le_refl _
  ·exact Int.le_of_lt (We W.asc (by omega) (by omega))
 omega
theorem BXV {g : List Gau} (hc : AZ g = 0) (h : (EK g).e ≠ 0) : (EK g).e = 6 /\ ∃ i j, j < i /\ i < g.length /\ (gD g i).st = (gD g j).st /\ ((gD g i).lo > (gD g j).hi ∨ (gD g j).lo > (gD g i).hi) := by
 obtain ⟨hl, ho⟩ := MP hc
 rcases BFR hc with ⟨h1, x, hx, h2⟩ | ⟨h1, _⟩
 ·refine ⟨h1, Classical.byContradiction λ hn => h2 ?_⟩
  have all : ∀ y z, y ∈ g -> z ∈ g -> y.st = z.st -> y.lo <= z.hi := λ y z hy hz he => by
   obtain ⟨i, hi, rfl⟩ := YL hy
   obtain ⟨j, hj, rfl⟩ := YL hz
   by_cases e : i = j
   ·subst e; exact (ho _ hy).2.2.2.1
   ·refine Classical.byContradiction λ hlt => hn ?_
    rcases Nat.lt_or_ge i j with hij | hij
    ·exact ⟨j, i, hij, hj, he.symm, .inr (by omega)⟩
    ·exact ⟨i, j, by omega, hi, he, .inl (by omega)⟩
  have hf : ∀ y ∈ g.filter (λ y => y.st == x.st), y ∈ g /\ y.st = x.st := λ y hy => by
   obtain ⟨y1, y2⟩ := List.mem_filter.1 hy
   exact ⟨y1, eq_of_beq y2⟩
  have hof : ∀ y ∈ g.filter (λ y => y.st == x.st), XH y := λ y hy => ho y (hf y hy).1
  refine CAB hof λ a b c ha hb hcc => ?_
  have q : ∀ y z, y ∈ g.filter (λ y => y.st == x.st) -> z ∈ g.filter (λ y => y.st == x.st) -> y.lo <= z.hi := λ y z hy hz => all y z (hf y hy).1 (hf z hz).1 (by rw [(hf y hy).2, (hf z hz).2])
  refine BRN (f := ⟨max a.lo (max b.lo c.lo), 0, 1⟩) (λ y hy => ?_) ⟨Int.one_pos, Int.le_refl _⟩ λ y hy => ?_
  ·simp only [List.mem_cons, List.not_mem_nil, or_false] at hy
   rcases hy with rfl | rfl | rfl
   ·exact hof _ ha
   ·exact hof _ hb
   ·exact hof _ hcc
  ·have q1 := q a a ha ha
   have q2 := q a b ha hb
   have q3 := q a c ha hcc
   have q4 := q b a hb ha
   have q5 := q b b hb hb
   have q6 := q b c hb hcc
   have q7 := q c a hcc ha
   have q8 := q c b hcc hb
   have q9 := q c c hcc hcc
   simp only [List.mem_cons, List.not_mem_nil, or_false] at hy
   unfold Rl.pass Rl.num
   simp only [Int.zero_mul, Int.mul_one, Int.add_zero]
   rcases hy with rfl | rfl | rfl <;> omega
 ·exact absurd h1 h
end Go.Bal
