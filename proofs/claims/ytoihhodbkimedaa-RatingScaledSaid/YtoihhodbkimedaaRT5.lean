/- Package rating: the fewest parts (no program in sight). -/
import Derived.Test.YtoihhodbkimedaaRT4
set_option linter.unusedVariables false
set_option linter.unusedSimpArgs false
namespace Go.Bal
open Go Go.Sym Go.Proofs
def Can (s : List Gau) : Prop := ∃ x, DS x /\ (DD x).passes s
theorem Can.mono {s t : List Gau} (h : Can t) (hs : ∀ g ∈ s, g ∈ t) : Can s := by
 obtain ⟨x, h1, h2⟩ := h
 exact ⟨x, h1, λ g hg => h2 g (hs g hg)⟩
theorem AGI {s : List Gau} (hs : ∀ g ∈ s, GY g) : ((BH s).2 = true ↔ Can s) /\ ((BH s).2 = true -> DS (BH s).1 /\ (DD (BH s).1).passes s) := by
 unfold BH
 by_cases h0 : s.length = 0
 ·rw [if_pos h0]
  have hn := List.eq_nil_of_length_eq_zero h0
  have ho : DS (AL ⟨0, 0⟩) := VS ⟨Int.le_refl _, by show (0 : Int) <= 2000; omega, Int.le_refl _, by show (0 : Int) <= 200000; omega⟩
  subst hn
  exact ⟨⟨λ _ => ⟨_, ho, λ g hg => by cases hg⟩, λ _ => rfl⟩, λ _ => ⟨ho, λ g hg => by cases hg⟩⟩
 ·rw [if_neg h0]
  have hne : s ≠ [] := λ h => h0 (by rw [h]; rfl)
  cases hf : (LN s).find? (JC s) with
  | some x =>
   have h1 := List.find?_some hf
   have h2 := BSM hs x (List.mem_of_find?_eq_some hf)
   have h3 := (AHK h2).1 h1
   exact ⟨⟨λ _ => ⟨x, h2, h3⟩, λ _ => rfl⟩, λ _ => ⟨h2, h3⟩⟩
  | none =>
   refine ⟨⟨λ h => (by cases h), λ h => ?_⟩, λ h => (by cases h)⟩
   obtain ⟨x, h1, h2⟩ := h
   exfalso
   have := BXR hs (AX h1) h2 hne
   refine this (List.filter_eq_nil_iff.2 λ y hy => ?_)
   have := List.find?_eq_none.1 hf y hy
   exact this
def gauO (g : List Gau) (i : Nat) : Gau := gD g (gD (AH g) i).toNat
def yJ (g : List Gau) (i : Nat) : Int := CR g (gD (AH g) i)
theorem ZM {g : List Gau} {i j : Nat} (h : i <= j) (hj : j < g.length) : yJ g i <= yJ g j := by
 by_cases he : i = j
 ·rw [he]; exact Int.le_refl _
 ·have := BPD (CR g) (WB g.length) i j (by omega) (by rw [QI]; omega)
  exact this
theorem ZA {g : List Gau} {i : Nat} (h : i < g.length) : gauO g i ∈ g := by
 have := kA h
 exact BZ (by omega)
theorem AZF {g : List Gau} {x : Gau} (h : x ∈ g) : ∃ i, i < g.length /\ gauO g i = x := by
 obtain ⟨j, hj, rfl⟩ := TD h
 have h1 : (j : Int) ∈ WB g.length := List.mem_map.2 ⟨j, List.mem_range.2 hj, rfl⟩
 have h2 := (ARL g).mem_iff.2 h1
 obtain ⟨i, hi, he⟩ := TD h2
 exact ⟨i, by rw [AQ] at hi; exact hi, by unfold gauO; rw [he]; rfl⟩
theorem ALE {g : List Gau} {a b : Nat} (hb : b <= g.length) {x : Gau} : x ∈ yK g (AH g) a b ↔ ∃ i, a <= i /\ i < b /\ gauO g i = x := by
 have hl : ((AH g).take b).length = b := by rw [List.length_take, AQ]; omega
 unfold yK pkM
 rw [List.mem_map]
 show (∃ y, y ∈ (((AH g).take b).drop a) /\ _) ↔ _
 constructor
 ·rintro ⟨y, hy, rfl⟩
  obtain ⟨i, hi, rfl⟩ := TD hy
  rw [List.length_drop, hl] at hi
  refine ⟨a + i, by omega, by omega, ?_⟩
  unfold gauO
  rw [QB]
  simp [gD, List.getD_eq_getElem?_getD, List.getElem?_take, show a + i < b by omega]
 ·rintro ⟨i, h1, h2, rfl⟩
  refine ⟨gD (((AH g).take b).drop a) (i - a), BZ (by rw [List.length_drop, hl]; omega), ?_⟩
  unfold gauO
  rw [QB, show a + (i - a) = i by omega]
  simp [gD, List.getD_eq_getElem?_getD, List.getElem?_take, h2]
theorem BIQ {g : List Gau} (h : ∀ x ∈ g, GY x) {a b : Nat} (hb : b <= g.length) : ∀ x ∈ yK g (AH g) a b, GY x := λ x hx => by
 obtain ⟨i, _, h2, rfl⟩ := (ALE hb).1 hx
 exact h _ (ZA (by omega))
def bdO (g : List Gau) (t : Nat) : Prop := ∀ i j, i < t -> t <= j -> j < g.length -> yJ g i < yJ g j
theorem BRP {g : List Gau} {t : Nat} : ∀ (n k : Nat), t <= k -> k + n = g.length -> (∀ j, t <= j -> j < k -> yJ g j = yJ g t) -> (∀ j, t <= j -> j < nxK g (AH g) t n k -> yJ g j = yJ g t) /\ (nxK g (AH g) t n k < g.length -> yJ g (nxK g (AH g) t n k) ≠ yJ g t)
 | 0, k, _, hk, h => ⟨h, λ hc => by have : k < g.length := hc; omega⟩
 | n + 1, k, ht, hk, h => by
  by_cases hc : CR g (gD (AH g) k) = CR g (gD (AH g) t)
  ·have e : nxK g (AH g) t (n + 1) k = nxK g (AH g) t n (k + 1) := by
    conv => lhs; unfold nxK
    rw [show (CR g (gD (AH g) k) == CR g (gD (AH g) t)) = true by rw [hc]; simp]; rfl
   rw [e]
   exact BRP n (k + 1) (by omega) (by omega) (λ j a b => by
    by_cases hj : j = k
    ·rw [hj]; exact hc
    ·exact h j a (by omega))
  ·have e : nxK g (AH g) t (n + 1) k = k := by
    unfold nxK
    rw [show (CR g (gD (AH g) k) == CR g (gD (AH g) t)) = false by simpa using hc]; rfl
   rw [e]
   exact ⟨h, λ _ => hc⟩
theorem BXI {g : List Gau} {t : Nat} (h : t < g.length) : bdO g (QK g (AH g) t) /\ ∀ j, t <= j -> j < QK g (AH g) t -> yJ g j = yJ g t := by
 obtain ⟨h1, h2⟩ := AFB h
 have hs := BRP (g := g) (t := t) (g.length - t) t (Nat.le_refl _) (by omega) (λ j a b => by omega)
 have e : nxK g (AH g) t (g.length - t) t = QK g (AH g) t := by unfold QK; rw [AQ]
 rw [e] at hs
 refine ⟨λ i j hi hj hj2 => ?_, hs.1⟩
 have h3 := hs.2 (by omega)
 have h4 : yJ g t <= yJ g (QK g (AH g) t) := ZM (by omega) (by omega)
 have h5 := ZM hj hj2
 have h6 : yJ g i <= yJ g t := by
  by_cases hit : i <= t
  ·exact ZM hit h
  ·rw [hs.1 i (by omega) hi]; exact Int.le_refl _
 omega
structure PartsO (g : List Gau) (P : List Nat) (b : List Int) (l : List Ln) (k : List (List Int)) : Prop where
 lenP : P.length = b.length + 1
 lenl : l.length = b.length
 lenk : k.length = b.length
 zero : gD P 0 = 0
 up : ∀ i, i < b.length -> gD P i < gD P (i + 1) /\ gD P (i + 1) < g.length /\ bdO g (gD P (i + 1)) /\ gD b i = yJ g (gD P (i + 1))
 line : ∀ i, i < b.length -> DS (gD l i) /\ ∀ j, gD P i <= j -> j < gD P (i + 1) -> (DD (gD l i)).pass (gauO g j)
 bad : ∀ i, i < b.length -> ¬Can (yK g (AH g) (gD P i) (QK g (AH g) (gD P (i + 1))))
 knot : ∀ i, i < b.length -> gD k i = VV ⟨g, ((AH g).take (QK g (AH g) (gD P (i + 1)))).drop (gD P i)⟩
def oneS (g : List Gau) (t : Nat) : Prop := ∀ j, j < t -> Can (g.filter λ x => x.st == yJ g j)
structure StO (g : List Gau) (P : List Nat) (s : FS) : Prop where
 parts : PartsO g P s.b s.l s.k
 last : gD P s.b.length = s.fr
 le : s.fr <= s.to /\ s.to <= g.length
 bd : bdO g s.to
 line : DS s.ln /\ ∀ j, s.fr <= j -> j < s.to -> (DD s.ln).pass (gauO g j)
 one : oneS g s.to
theorem HP {α : Type} [Inhabited α] (l : List α) (x : α) (i : Nat) : gD (l ++ [x]) i = if i < l.length then gD l i else if i = l.length then x else default := by
 rw [Rn]
 split
 ·rfl
 ·split
  ·rename_i h1 h2; rw [h2, Nat.sub_self]; rfl
  ·rename_i h1 h2
   obtain ⟨m, hm⟩ : ∃ m, i - l.length = m + 1 := ⟨i - l.length - 1, by omega⟩
   rw [hm]; rfl
theorem StO.go {g : List Gau} {P : List Nat} {s : FS} (h : StO g P s) (ho : ∀ x ∈ g, GY x) (ht : s.to < g.length) (hq : (BH (yK g (AH g) s.to (QK g (AH g) s.to))).2 = true) (hr : (BH (yK g (AH g) s.fr (QK g (AH g) s.to))).2 = true) : StO g P (goF g (AH g) s) := by
 obtain ⟨n1, n2⟩ := AFB ht
 obtain ⟨b1, b2⟩ := BXI ht
 have hl := (AGI (BIQ ho n2 (a := s.fr))).2 hr
 have hq2 := (AGI (BIQ ho n2 (a := s.to))).1.1 hq
 refine ⟨h.parts, h.last, ⟨by show s.fr <= QK _ _ _; have := h.le; omega, n2⟩, b1, ⟨hl.1, λ j a c => hl.2 _ ((ALE n2).2 ⟨j, a, c, rfl⟩)⟩, λ j hj => ?_⟩
 have hj : j < QK g (AH g) s.to := hj
 by_cases hjt : j < s.to
 ·exact h.one j hjt
 ·rw [b2 j (by omega) hj]
  refine hq2.mono λ x hx => ?_
  obtain ⟨hx1, hx2⟩ := List.mem_filter.1 hx
  obtain ⟨i, hi, rfl⟩ := AZF hx1
  have hx2 : yJ g i = yJ g s.to := eq_of_beq hx2
  refine (ALE n2).2 ⟨i, ?_, ?_, rfl⟩
  ·refine Classical.byContradiction λ hc => ?_
   have := h.bd i s.to (by omega) (Nat.le_refl _) ht; omega
  ·refine Classical.byContradiction λ hc => ?_
   have := b1 s.to i (by omega) (by omega) hi; omega
theorem StO.brk {g : List Gau} {P : List Nat} {s : FS} (h : StO g P s) (ho : ∀ x ∈ g, GY x) (ht : s.to < g.length) (hq : (BH (yK g (AH g) s.to (QK g (AH g) s.to))).2 = true) (hr : (BH (yK g (AH g) s.fr (QK g (AH g) s.to))).2 = false) : StO g (P ++ [s.to]) (Jj g (AH g) s) := by
 obtain ⟨n1, n2⟩ := AFB ht
 have hne : s.fr ≠ s.to := λ he => by rw [he, hq] at hr; cases hr
 have hbad : ¬Can (yK g (AH g) s.fr (QK g (AH g) s.to)) := λ hc => by
  rw [(AGI (BIQ ho n2 (a := s.fr))).1.2 hc] at hr; cases hr
 have hle := h.le
 obtain ⟨p1, p2, p3, p4, p5, p6, p7, p8⟩ := h.parts
 have hlast := h.last
 have eP : ∀ i, i <= s.b.length -> gD (P ++ [s.to]) i = gD P i := λ i hi => by rw [HP, if_pos (by omega)]
 have eP2 : gD (P ++ [s.to]) (s.b.length + 1) = s.to := by rw [HP, if_neg (by omega), if_pos (by omega)]
 have eb : ∀ i, i < s.b.length -> gD (s.b ++ [CR g (gD (AH g) s.to)]) i = gD s.b i := λ i hi => by rw [HP, if_pos hi]
 have eb2 : gD (s.b ++ [CR g (gD (AH g) s.to)]) s.b.length = yJ g s.to := by rw [HP, if_neg (by omega), if_pos rfl]; rfl
 have el : ∀ i, i < s.b.length -> gD (s.l ++ [s.ln]) i = gD s.l i := λ i hi => by rw [HP, if_pos (by omega)]
 have el2 : gD (s.l ++ [s.ln]) s.b.length = s.ln := by rw [HP, if_neg (by omega), if_pos (by omega)]
 have ek : ∀ (z : List Int) i, i < s.b.length -> gD (s.k ++ [z]) i = gD s.k i := λ z i hi => by rw [HP, if_pos (by omega)]
 have ek2 : ∀ z : List Int, gD (s.k ++ [z]) s.b.length = z := λ z => by rw [HP, if_neg (by omega), if_pos (by omega)]
 have elen : (s.b ++ [CR g (gD (AH g) s.to)]).length = s.b.length + 1 := by simp
 refine ⟨⟨?_, ?_, ?_, ?_, ?_, ?_, ?_, ?_⟩, ?_, ⟨Nat.le_refl _, hle.2⟩, h.bd, ⟨h.line.1, λ j a c => by have a : s.to <= j := a; have c : j < s.to := c; omega⟩, h.one⟩
 ·show (P ++ [s.to]).length = (s.b ++ [_]).length + 1; rw [elen]; simp; omega
 ·show (s.l ++ [s.ln]).length = (s.b ++ [_]).length; rw [elen]; simp; omega
 ·show (s.k ++ [_]).length = (s.b ++ [_]).length; rw [elen]; simp; omega
 ·rw [eP 0 (Nat.zero_le _)]; exact p4
 ·intro i hi
  have hi : i < s.b.length + 1 := by have hi : i < (s.b ++ [_]).length := hi; rw [elen] at hi; exact hi
  show gD (P ++ [s.to]) i < gD (P ++ [s.to]) (i + 1) /\ gD (P ++ [s.to]) (i + 1) < g.length /\ bdO g (gD (P ++ [s.to]) (i + 1)) /\ gD (s.b ++ [CR g (gD (AH g) s.to)]) i = yJ g (gD (P ++ [s.to]) (i + 1))
  by_cases hl : i < s.b.length
  ·rw [eP i (by omega), eP (i + 1) (by omega), eb i hl]; exact p5 i hl
  ·have : i = s.b.length := by omega
   subst this
   rw [eP _ (Nat.le_refl _), eP2, eb2, hlast]
   exact ⟨by omega, ht, h.bd, rfl⟩
 ·intro i hi
  have hi : i < s.b.length + 1 := by have hi : i < (s.b ++ [_]).length := hi; rw [elen] at hi; exact hi
  show DS (gD (s.l ++ [s.ln]) i) /\ ∀ j, gD (P ++ [s.to]) i <= j -> j < gD (P ++ [s.to]) (i + 1) -> (DD (gD (s.l ++ [s.ln]) i)).pass (gauO g j)
  by_cases hl : i < s.b.length
  ·rw [eP i (by omega), eP (i + 1) (by omega), el i hl]; exact p6 i hl
  ·have : i = s.b.length := by omega
   subst this
   rw [eP _ (Nat.le_refl _), eP2, el2, hlast]
   exact h.line
 ·intro i hi
  have hi : i < s.b.length + 1 := by have hi : i < (s.b ++ [_]).length := hi; rw [elen] at hi; exact hi
  by_cases hl : i < s.b.length
  ·rw [eP i (by omega), eP (i + 1) (by omega)]; exact p7 i hl
  ·have : i = s.b.length := by omega
   subst this
   rw [eP _ (Nat.le_refl _), eP2, hlast]
   exact hbad
 ·intro i hi
  have hi : i < s.b.length + 1 := by have hi : i < (s.b ++ [_]).length := hi; rw [elen] at hi; exact hi
  show gD (s.k ++ [_]) i = _
  by_cases hl : i < s.b.length
  ·rw [eP i (by omega), eP (i + 1) (by omega), ek _ i hl]; exact p8 i hl
  ·have : i = s.b.length := by omega
   subst this
   rw [eP _ (Nat.le_refl _), eP2, hlast, ek2]
 ·show gD (P ++ [s.to]) (s.b ++ [_]).length = s.to
  rw [elen]; exact eP2
theorem BJB {g : List Gau} (ho : ∀ x ∈ g, GY x) : ∀ (n : Nat) (s : FS) (P : List Nat), StO g P s -> VZ (AH g) s + 1 <= n -> ((SH g (AH g) n s).e = 6 /\ ∃ i, i < g.length /\ ¬Can (g.filter λ x => x.st == yJ g i)) ∨ ((SH g (AH g) n s).e = 0 /\ ∃ P ln, StO g P ⟨gD P (SH g (AH g) n s).r.b.length, g.length, ln, (SH g (AH g) n s).r.b, (SH g (AH g) n s).r.l.dropLast, (SH g (AH g) n s).k⟩ /\ (SH g (AH g) n s).r.l = (SH g (AH g) n s).r.l.dropLast ++ [ln])
 | 0, s, P, _, h => by omega
 | n + 1, s, P, h, hm => by
  rw [BPA]
  have hle := h.le
  by_cases ht : s.to < g.length
  ·rw [decide_eq_true (show s.to < (AH g).length by rw [AQ]; exact ht)]
   obtain ⟨n1, n2⟩ := AFB ht
   obtain ⟨b1, b2⟩ := BXI ht
   have hms : VZ (AH g) s = 2 * (g.length - s.to) + (if s.fr < s.to then 1 else 0) := by unfold VZ; rw [AQ]
   cases hq : (BH (yK g (AH g) s.to (QK g (AH g) s.to))).2 with
   | false =>
    refine .inl ⟨rfl, s.to, ht, λ hc => ?_⟩
    have : Can (yK g (AH g) s.to (QK g (AH g) s.to)) := hc.mono λ x hx => by
     obtain ⟨i, a, c, rfl⟩ := (ALE n2).1 hx
     refine List.mem_filter.2 ⟨ZA (by omega), ?_⟩
     exact beq_iff_eq.2 (b2 i a c)
    rw [(AGI (BIQ ho n2 (a := s.to))).1.2 this] at hq; cases hq
   | true =>
    cases hr : (BH (yK g (AH g) s.fr (QK g (AH g) s.to))).2 with
    | true =>
     exact BJB ho n (goF g (AH g) s) P (h.go ho ht hq hr) (by
      have : VZ (AH g) (goF g (AH g) s) < VZ (AH g) s := by unfold VZ goF; rw [AQ]; simp only []; split <;> split <;> omega
      omega)
    | false =>
     have hne : s.fr ≠ s.to := λ he => by rw [he, hq] at hr; cases hr
     exact BJB ho n (Jj g (AH g) s) (P ++ [s.to]) (h.brk ho ht hq hr) (by
      have : VZ (AH g) (Jj g (AH g) s) < VZ (AH g) s := by unfold VZ Jj; rw [AQ]; simp only [Nat.lt_irrefl, if_false]; rw [if_pos (by omega)]; omega
      omega)
  ·rw [decide_eq_false (show ¬s.to < (AH g).length by rw [AQ]; exact ht)]
   have e : s.to = g.length := by omega
   refine .inr ⟨rfl, P, s.ln, ?_, ?_⟩
   ·show StO g P ⟨gD P s.b.length, g.length, s.ln, s.b, (s.l ++ [s.ln]).dropLast, s.k⟩
    rw [List.dropLast_concat, h.last, <- e]
    exact h
   ·show s.l ++ [s.ln] = (s.l ++ [s.ln]).dropLast ++ [s.ln]
    rw [List.dropLast_concat]
end Go.Bal
