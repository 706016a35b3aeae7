/- Package rating: the fewest parts (no program in sight). -/
import Derived.Test.YtoihhodbkimedaaRT3
set_option linter.unusedVariables false
set_option linter.unusedSimpArgs false
namespace Go.Bal
open Go Go.Sym Go.Proofs
def Can (s : List Gau) : Prop := ∃ x, NJ x /\ (OJ x).passes s
theorem Can.mono {s t : List Gau} (h : Can t) (hs : ∀ g ∈ s, g ∈ t) : Can s := by
 obtain ⟨x, h1, h2⟩ := h
 exact ⟨x, h1, λ g hg => h2 g (hs g hg)⟩
theorem lJ {s : List Gau} (hs : ∀ g ∈ s, XH g) : ((CS s).2 = true ↔ Can s) /\ ((CS s).2 = true -> NJ (CS s).1 /\ (OJ (CS s).1).passes s) := by
 unfold CS
 by_cases h0 : s.length = 0
 ·rw [if_pos h0]
  have hn := List.eq_nil_of_length_eq_zero h0
  have ho : NJ (BP ⟨0, 0⟩) := dJ ⟨Int.le_refl _, by show (0 : Int) <= 2000; omega, Int.le_refl _, by show (0 : Int) <= 200000; omega⟩
  subst hn
  exact ⟨⟨λ _ => ⟨_, ho, λ g hg => by cases hg⟩, λ _ => rfl⟩, λ _ => ⟨ho, λ g hg => by cases hg⟩⟩
 ·rw [if_neg h0]
  have hne : s ≠ [] := λ h => h0 (by rw [h]; rfl)
  cases hf : (Lu s).find? (Fd s) with
  | some x =>
   have h1 := List.find?_some hf
   have h2 := BJS hs x (List.mem_of_find?_eq_some hf)
   have h3 := (ALF h2).1 h1
   exact ⟨⟨λ _ => ⟨x, h2, h3⟩, λ _ => rfl⟩, λ _ => ⟨h2, h3⟩⟩
  | none =>
   refine ⟨⟨λ h => (by cases h), λ h => ?_⟩, λ h => (by cases h)⟩
   obtain ⟨x, h1, h2⟩ := h
   exfalso
   have := BOE hs (LB h1) h2 hne
   refine this (List.filter_eq_nil_iff.2 λ y hy => ?_)
   have := List.find?_eq_none.1 hf y hy
   exact this
def Jc (g : List Gau) (i : Nat) : Gau := gD g (gD (AM g) i).toNat
def iK (g : List Gau) (i : Nat) : Int := MI g (gD (AM g) i)
theorem Fb {g : List Gau} {i j : Nat} (h : i <= j) (hj : j < g.length) : iK g i <= iK g j := by
 by_cases he : i = j
 ·rw [he]; exact Int.le_refl _
 ·have := AMB (MI g) (fB g.length) i j (by omega) (by rw [OE]; omega)
  exact this
theorem Ry {g : List Gau} {i : Nat} (h : i < g.length) : Jc g i ∈ g := by
 have := YD h
 exact DU (by omega)
theorem AOB {g : List Gau} {x : Gau} (h : x ∈ g) : ∃ i, i < g.length /\ Jc g i = x := by
 obtain ⟨j, hj, rfl⟩ := YL h
 have h1 : (j : Int) ∈ fB g.length := List.mem_map.2 ⟨j, List.mem_range.2 hj, rfl⟩
 have h2 := (AQN g).mem_iff.2 h1
 obtain ⟨i, hi, he⟩ := YL h2
 exact ⟨i, by rw [AN] at hi; exact hi, by unfold Jc; rw [he]; rfl⟩
theorem tC {g : List Gau} {a b : Nat} (hb : b <= g.length) {x : Gau} : x ∈ sS g (AM g) a b ↔ ∃ i, a <= i /\ i < b /\ Jc g i = x := by
 have hl : ((AM g).take b).length = b := by rw [List.length_take, AN]; omega
 unfold sS pkM
 rw [List.mem_map]
 show (∃ y, y ∈ (((AM g).take b).drop a) /\ _) ↔ _
 constructor
 ·rintro ⟨y, hy, rfl⟩
  obtain ⟨i, hi, rfl⟩ := YL hy
  rw [List.length_drop, hl] at hi
  refine ⟨a + i, by omega, by omega, ?_⟩
  unfold Jc
  rw [Fh]
  simp [gD, List.getD_eq_getElem?_getD, List.getElem?_take, show a + i < b by omega]
 ·rintro ⟨i, h1, h2, rfl⟩
  refine ⟨gD (((AM g).take b).drop a) (i - a), DU (by rw [List.length_drop, hl]; omega), ?_⟩
  unfold Jc
  rw [Fh, show a + (i - a) = i by omega]
  simp [gD, List.getD_eq_getElem?_getD, List.getElem?_take, h2]
theorem ANY {g : List Gau} (h : ∀ x ∈ g, XH x) {a b : Nat} (hb : b <= g.length) : ∀ x ∈ sS g (AM g) a b, XH x := λ x hx => by
 obtain ⟨i, _, h2, rfl⟩ := (tC hb).1 hx
 exact h _ (Ry (by omega))
def bdO (g : List Gau) (t : Nat) : Prop := ∀ i j, i < t -> t <= j -> j < g.length -> iK g i < iK g j
theorem BIH {g : List Gau} {t : Nat} : ∀ (n k : Nat), t <= k -> k + n = g.length -> (∀ j, t <= j -> j < k -> iK g j = iK g t) -> (∀ j, t <= j -> j < nxK g (AM g) t n k -> iK g j = iK g t) /\ (nxK g (AM g) t n k < g.length -> iK g (nxK g (AM g) t n k) ≠ iK g t)
 | 0, k, _, hk, h => ⟨h, λ hc => by have : k < g.length := hc; omega⟩
 | n + 1, k, ht, hk, h => by
  by_cases hc : MI g (gD (AM g) k) = MI g (gD (AM g) t)
  ·have e : nxK g (AM g) t (n + 1) k = nxK g (AM g) t n (k + 1) := by
    conv => lhs; unfold nxK
    rw [show (MI g (gD (AM g) k) == MI g (gD (AM g) t)) = true by rw [hc]; simp]; rfl
   rw [e]
   exact BIH n (k + 1) (by omega) (by omega) (λ j a b => by
    by_cases hj : j = k
    ·rw [hj]; exact hc
    ·exact h j a (by omega))
  ·have e : nxK g (AM g) t (n + 1) k = k := by
    unfold nxK
    rw [show (MI g (gD (AM g) k) == MI g (gD (AM g) t)) = false by simpa using hc]; rfl
   rw [e]
   exact ⟨h, λ _ => hc⟩
theorem BHM {g : List Gau} {t : Nat} (h : t < g.length) : bdO g (In g (AM g) t) /\ ∀ j, t <= j -> j < In g (AM g) t -> iK g j = iK g t := by
 obtain ⟨h1, h2⟩ := ABG h
 have hs := BIH (g := g) (t := t) (g.length - t) t (Nat.le_refl _) (by omega) (λ j a b => by omega)
 have e : nxK g (AM g) t (g.length - t) t = In g (AM g) t := by unfold In; rw [AN]
 rw [e] at hs
 refine ⟨λ i j hi hj hj2 => ?_, hs.1⟩
 have h3 := hs.2 (by omega)
 have h4 : iK g t <= iK g (In g (AM g) t) := Fb (by omega) (by omega)
 have h5 := Fb hj hj2
 have h6 : iK g i <= iK g t := by
  by_cases hit : i <= t
  ·exact Fb hit h
  ·rw [hs.1 i (by omega) hi]; exact Int.le_refl _
 omega
structure PartsO (g : List Gau) (P : List Nat) (b : List Int) (l : List Ln) (k : List (List Int)) : Prop where
 lenP : P.length = b.length + 1
 lenl : l.length = b.length
 lenk : k.length = b.length
 zero : gD P 0 = 0
 up : ∀ i, i < b.length -> gD P i < gD P (i + 1) /\ gD P (i + 1) < g.length /\ bdO g (gD P (i + 1)) /\ gD b i = iK g (gD P (i + 1))
 line : ∀ i, i < b.length -> NJ (gD l i) /\ ∀ j, gD P i <= j -> j < gD P (i + 1) -> (OJ (gD l i)).pass (Jc g j)
 bad : ∀ i, i < b.length -> ¬Can (sS g (AM g) (gD P i) (In g (AM g) (gD P (i + 1))))
 knot : ∀ i, i < b.length -> gD k i = Hk ⟨g, ((AM g).take (In g (AM g) (gD P (i + 1)))).drop (gD P i)⟩
def oneS (g : List Gau) (t : Nat) : Prop := ∀ j, j < t -> Can (g.filter λ x => x.st == iK g j)
structure StO (g : List Gau) (P : List Nat) (s : FS) : Prop where
 parts : PartsO g P s.b s.l s.k
 last : gD P s.b.length = s.fr
 le : s.fr <= s.to /\ s.to <= g.length
 bd : bdO g s.to
 line : NJ s.ln /\ ∀ j, s.fr <= j -> j < s.to -> (OJ s.ln).pass (Jc g j)
 one : oneS g s.to
theorem Ex {α : Type} [Inhabited α] (l : List α) (x : α) (i : Nat) : gD (l ++ [x]) i = if i < l.length then gD l i else if i = l.length then x else default := by
 rw [jI]
 split
 ·rfl
 ·split
  ·rename_i h1 h2; rw [h2, Nat.sub_self]; rfl
  ·rename_i h1 h2
   obtain ⟨m, hm⟩ : ∃ m, i - l.length = m + 1 := ⟨i - l.length - 1, by omega⟩
   rw [hm]; rfl
theorem StO.go {g : List Gau} {P : List Nat} {s : FS} (h : StO g P s) (ho : ∀ x ∈ g, XH x) (ht : s.to < g.length) (hq : (CS (sS g (AM g) s.to (In g (AM g) s.to))).2 = true) (hr : (CS (sS g (AM g) s.fr (In g (AM g) s.to))).2 = true) : StO g P (goF g (AM g) s) := by
 obtain ⟨n1, n2⟩ := ABG ht
 obtain ⟨b1, b2⟩ := BHM ht
 have hl := (lJ (ANY ho n2 (a := s.fr))).2 hr
 have hq2 := (lJ (ANY ho n2 (a := s.to))).1.1 hq
 refine ⟨h.parts, h.last, ⟨by show s.fr <= In _ _ _; have := h.le; omega, n2⟩, b1, ⟨hl.1, λ j a c => hl.2 _ ((tC n2).2 ⟨j, a, c, rfl⟩)⟩, λ j hj => ?_⟩
 have hj : j < In g (AM g) s.to := hj
 by_cases hjt : j < s.to
 ·exact h.one j hjt
 ·rw [b2 j (by omega) hj]
  refine hq2.mono λ x hx => ?_
  obtain ⟨hx1, hx2⟩ := List.mem_filter.1 hx
  obtain ⟨i, hi, rfl⟩ := AOB hx1
  have hx2 : iK g i = iK g s.to := eq_of_beq hx2
  refine (tC n2).2 ⟨i, ?_, ?_, rfl⟩
  ·refine Classical.byContradiction λ hc => ?_
   have := h.bd i s.to (by omega) (Nat.le_refl _) ht; omega
  ·refine Classical.byContradiction λ hc => ?_
   have := b1 s.to i (by omega) (by omega) hi; omega
theorem StO.brk {g : List Gau} {P : List Nat} {s : FS} (h : StO g P s) (ho : ∀ x ∈ g, XH x) (ht : s.to < g.length) (hq : (CS (sS g (AM g) s.to (In g (AM g) s.to))).2 = true) (hr : (CS (sS g (AM g) s.fr (In g (AM g) s.to))).2 = false) : StO g (P ++ [s.to]) (cX g (AM g) s) := by
 obtain ⟨n1, n2⟩ := ABG ht
 have hne : s.fr ≠ s.to := λ he => by rw [he, hq] at hr; cases hr
 have hbad : ¬Can (sS g (AM g) s.fr (In g (AM g) s.to)) := λ hc => by
  rw [(lJ (ANY ho n2 (a := s.fr))).1.2 hc] at hr; cases hr
 have hle := h.le
 obtain ⟨p1, p2, p3, p4, p5, p6, p7, p8⟩ := h.parts
 have hlast := h.last
 have eP : ∀ i, i <= s.b.length -> gD (P ++ [s.to]) i = gD P i := λ i hi => by rw [Ex, if_pos (by omega)]
 have eP2 : gD (P ++ [s.to]) (s.b.length + 1) = s.to := by rw [Ex, if_neg (by omega), if_pos (by omega)]
 have eb : ∀ i, i < s.b.length -> gD (s.b ++ [MI g (gD (AM g) s.to)]) i = gD s.b i := λ i hi => by rw [Ex, if_pos hi]
 have eb2 : gD (s.b ++ [MI g (gD (AM g) s.to)]) s.b.length = iK g s.to := by rw [Ex, if_neg (by omega), if_pos rfl]; rfl
 have el : ∀ i, i < s.b.length -> gD (s.l ++ [s.ln]) i = gD s.l i := λ i hi => by rw [Ex, if_pos (by omega)]
 have el2 : gD (s.l ++ [s.ln]) s.b.length = s.ln := by rw [Ex, if_neg (by omega), if_pos (by omega)]
 have ek : ∀ (z : List Int) i, i < s.b.length -> gD (s.k ++ [z]) i = gD s.k i := λ z i hi => by rw [Ex, if_pos (by omega)]
 have ek2 : ∀ z : List Int, gD (s.k ++ [z]) s.b.length = z := λ z => by rw [Ex, if_neg (by omega), if_pos (by omega)]
 have elen : (s.b ++ [MI g (gD (AM g) s.to)]).length = s.b.length + 1 := by simp
 refine ⟨⟨?_, ?_, ?_, ?_, ?_, ?_, ?_, ?_⟩, ?_, ⟨Nat.le_refl _, hle.2⟩, h.bd, ⟨h.line.1, λ j a c => by have a : s.to <= j := a; have c : j < s.to := c; omega⟩, h.one⟩
 ·show (P ++ [s.to]).length = (s.b ++ [_]).length + 1; rw [elen]; simp; omega
 ·show (s.l ++ [s.ln]).length = (s.b ++ [_]).length; rw [elen]; simp; omega
 ·show (s.k ++ [_]).length = (s.b ++ [_]).length; rw [elen]; simp; omega
 ·rw [eP 0 (Nat.zero_le _)]; exact p4
 ·intro i hi
  have hi : i < s.b.length + 1 := by have hi : i < (s.b ++ [_]).length := hi; rw [elen] at hi; exact hi
  show gD (P ++ [s.to]) i < gD (P ++ [s.to]) (i + 1) /\ gD (P ++ [s.to]) (i + 1) < g.length /\ bdO g (gD (P ++ [s.to]) (i + 1)) /\ gD (s.b ++ [MI g (gD (AM g) s.to)]) i = iK g (gD (P ++ [s.to]) (i + 1))
  by_cases hl : i < s.b.length
  ·rw [eP i (by omega), eP (i + 1) (by omega), eb i hl]; exact p5 i hl
  ·have : i = s.b.length := by omega
   subst this
   rw [eP _ (Nat.le_refl _), eP2, eb2, hlast]
   exact ⟨by omega, ht, h.bd, rfl⟩
 ·intro i hi
  have hi : i < s.b.length + 1 := by have hi : i < (s.b ++ [_]).length := hi; rw [elen] at hi; exact hi
  show NJ (gD (s.l ++ [s.ln]) i) /\ ∀ j, gD (P ++ [s.to]) i <= j -> j < gD (P ++ [s.to]) (i + 1) -> (OJ (gD (s.l ++ [s.ln]) i)).pass (Jc g j)
  by_cases hl : i < s.b.length
  ·rw [eP i (by omega), eP (i + 1) (by omega), el i hl]; exact p6 i hl
  ·have : i = s.b.length := by omega
   subst this
   rw [eP _ (Nat.le_refl _), eP2, el2, hlast]
   exact h.line
 ·intro i hi
  have hi : i < s.b.length + 1 := by have hi : i < (s.b ++ [_]).length := hi; rw [elen] at hi; exact hi
  by_cases hl : i < s.b.length
  ·rw [eP i (by omega), eP (i + 1) (by omega)]; exact p7 i hl
  ·have : i = s.b.length := by omega
   subst this
   rw [eP _ (Nat.le_refl _), eP2, hlast]
   exact hbad
 ·intro i hi
  have hi : i < s.b.length + 1 := by have hi : i < (s.b ++ [_]).length := hi; rw [elen] at hi; exact hi
  show gD (s.k ++ [_]) i = _
  by_cases hl : i < s.b.length
  ·rw [eP i (by omega), eP (i + 1) (by omega), ek _ i hl]; exact p8 i hl
  ·have : i = s.b.length := by omega
   subst this
   rw [eP _ (Nat.le_refl _), eP2, hlast, ek2]
 ·show gD (P ++ [s.to]) (s.b ++ [_]).length = s.to
  rw [elen]; exact eP2
theorem AWT {g : List Gau} (ho : ∀ x ∈ g, XH x) : ∀ (n : Nat) (s : FS) (P : List Nat), StO g P s -> gU (AM g) s + 1 <= n -> ((Sp g (AM g) n s).e = 6 /\ ∃ i, i < g.length /\ ¬Can (g.filter λ x => x.st == iK g i)) ∨ ((Sp g (AM g) n s).e = 0 /\ ∃ P ln, StO g P ⟨gD P (Sp g (AM g) n s).r.b.length, g.length, ln, (Sp g (AM g) n s).r.b, (Sp g (AM g) n s).r.l.dropLast, (Sp g (AM g) n s).k⟩ /\ (Sp g (AM g) n s).r.l = (Sp g (AM g) n s).r.l.dropLast ++ [ln])
 | 0, s, P, _, h => by omega
 | n + 1, s, P, h, hm => by
  rw [BDC]
  have hle := h.le
  by_cases ht : s.to < g.length
  ·rw [decide_eq_true (show s.to < (AM g).length by rw [AN]; exact ht)]
   obtain ⟨n1, n2⟩ := ABG ht
   obtain ⟨b1, b2⟩ := BHM ht
   have hms : gU (AM g) s = 2 * (g.length - s.to) + (if s.fr < s.to then 1 else 0) := by unfold gU; rw [AN]
   cases hq : (CS (sS g (AM g) s.to (In g (AM g) s.to))).2 with
   | false =>
    refine .inl ⟨rfl, s.to, ht, λ hc => ?_⟩
    have : Can (sS g (AM g) s.to (In g (AM g) s.to)) := hc.mono λ x hx => by
     obtain ⟨i, a, c, rfl⟩ := (tC n2).1 hx
     refine List.mem_filter.2 ⟨Ry (by omega), ?_⟩
     exact beq_iff_eq.2 (b2 i a c)
    rw [(lJ (ANY ho n2 (a := s.to))).1.2 this] at hq; cases hq
   | true =>
    cases hr : (CS (sS g (AM g) s.fr (In g (AM g) s.to))).2 with
    | true =>
     exact AWT ho n (goF g (AM g) s) P (h.go ho ht hq hr) (by
      have : gU (AM g) (goF g (AM g) s) < gU (AM g) s := by unfold gU goF; rw [AN]; simp only []; split <;> split <;> omega
      omega)
    | false =>
     have hne : s.fr ≠ s.to := λ he => by rw [he, hq] at hr; cases hr
     exact AWT ho n (cX g (AM g) s) (P ++ [s.to]) (h.brk ho ht hq hr) (by
      have : gU (AM g) (cX g (AM g) s) < gU (AM g) s := by unfold gU cX; rw [AN]; simp only [Nat.lt_irrefl, if_false]; rw [if_pos (by omega)]; omega
      omega)
  ·rw [decide_eq_false (show ¬s.to < (AM g).length by rw [AN]; exact ht)]
   have e : s.to = g.length := by omega
   refine .inr ⟨rfl, P, s.ln, ?_, ?_⟩
   ·show StO g P ⟨gD P s.b.length, g.length, s.ln, s.b, (s.l ++ [s.ln]).dropLast, s.k⟩
    rw [List.dropLast_concat, h.last, <- e]
    exact h
   ·show s.l ++ [s.ln] = (s.l ++ [s.ln]).dropLast ++ [s.ln]
    rw [List.dropLast_concat]
end Go.Bal

namespace Go.Bal
open Go Go.Sym Go.Proofs
def BMZ (g : List Gau) (b : List Int) (i : Nat) : List Gau := g.filter λ x => (decide (i = 0) || decide (gD b (i - 1) <= x.st)) && decide (x.st <= gD b i)
theorem ACO {g : List Gau} {b : List Int} {i : Nat} {x : Gau} : x ∈ BMZ g b i ↔ x ∈ g /\ (i ≠ 0 -> gD b (i - 1) <= x.st) /\ x.st <= gD b i := by
 unfold BMZ
 rw [List.mem_filter, Bool.and_eq_true, Bool.or_eq_true, decide_eq_true_eq, decide_eq_true_eq, decide_eq_true_eq]
 constructor
 ·rintro ⟨h1, h2, h3⟩; exact ⟨h1, λ h => h2.resolve_left h, h3⟩
 ·rintro ⟨h1, h2, h3⟩
  refine ⟨h1, ?_, h3⟩
  by_cases h : i = 0
  ·exact .inl h
  ·exact .inr (h2 h)
structure Few (g : List Gau) (b : List Int) (l : List Ln) (k : List (List Int)) : Prop where
 lenl : l.length = b.length + 1
 lenk : k.length = b.length
 asc : asc b
 brk : ∀ x ∈ b, 1 <= x /\ x <= 2000
 few : b.length <= 24
 pass : ∀ i, i <= b.length -> NJ (gD l i) /\ (OJ (gD l i)).passes (NM g b i)
 bad : ∀ i, i < b.length -> ¬Can (BMZ g b i)
 rise : ∀ x ∈ l, NJ x
 parts : ∃ P : List Nat, PartsO g P b l.dropLast k
 one : ∀ x ∈ g, Can (g.filter λ y => y.st == x.st)
theorem AAL {g : List Gau} {P : List Nat} {b : List Int} {l : List Ln} {k : List (List Int)} (h : PartsO g P b l k) : ∀ (j i : Nat), i < j -> j <= b.length -> gD P i < gD P j
 | 0, i, h1, _ => by omega
 | j + 1, i, h1, h2 => by
  have := (h.up j (by omega)).1
  by_cases he : i = j
  ·rw [he]; exact this
  ·have := AAL h j i (by omega) (by omega); omega
theorem BCR {g : List Gau} {P : List Nat} {b : List Int} {l : List Ln} {k : List (List Int)} (h : PartsO g P b l k) : ∀ (m i : Nat), m <= b.length -> ∃ j, j <= m /\ gD P j <= i /\ (j < m -> i < gD P (j + 1))
 | 0, i, _ => ⟨0, Nat.le_refl _, by rw [h.zero]; omega, λ h => by omega⟩
 | m + 1, i, hm => by
  by_cases hc : gD P (m + 1) <= i
  ·exact ⟨m + 1, Nat.le_refl _, hc, λ h => by omega⟩
  ·obtain ⟨j, h1, h2, h3⟩ := BCR h m i (by omega)
   refine ⟨j, by omega, h2, λ _ => ?_⟩
   by_cases hj : j < m
   ·exact h3 hj
   ·have : j = m := by omega
    rw [this]; omega
theorem BLC {g : List Gau} {P : List Nat} {b : List Int} {l : List Ln} {k : List (List Int)} (h : PartsO g P b l k) {i j : Nat} (hi : i < g.length) (hj : j <= b.length) (h1 : gD P j <= i) (h2 : j < b.length -> i < gD P (j + 1)) : Tl b (iK g i) = j := by
 unfold Tl
 refine X9 hj (λ q hq => decide_eq_true ?_) (λ q hq hq2 => decide_eq_false ?_)
 ·obtain ⟨a1, a2, a3, a4⟩ := h.up q (by omega)
  rw [a4]
  refine Fb ?_ hi
  by_cases he : q + 1 = j
  ·rw [he]; exact h1
  ·have := AAL h j (q + 1) (by omega) hj; omega
 ·obtain ⟨a1, a2, a3, a4⟩ := h.up q hq2
  rw [a4]
  have h3 := h2 (by omega)
  have h4 : i < gD P (q + 1) := by
   by_cases he : j = q
   ·rw [<- he]; exact h3
   ·have := AAL h (q + 1) (j + 1) (by omega) (by omega); omega
  have := a3 i (gD P (q + 1)) h4 (Nat.le_refl _) a2
  omega
theorem BFR {g : List Gau} (hc : AZ g = 0) : ((EK g).e = 6 /\ ∃ x ∈ g, ¬Can (g.filter λ y => y.st == x.st)) ∨ ((EK g).e = 0 /\ Few g (EK g).r.b (EK g).r.l (EK g).k) := by
 obtain ⟨⟨hn1, hn2⟩, ho⟩ := MP hc
 have e : EK g = Sp g (AM g) (2 * g.length + 2) ini0 := by unfold EK; rw [hc]; rfl
 have h0 : StO g [0] ini0 := ⟨⟨rfl, rfl, rfl, rfl, λ i hi => by have : i < 0 := hi; omega, λ i hi => by have : i < 0 := hi; omega, λ i hi => by have : i < 0 := hi; omega, λ i hi => by have : i < 0 := hi; omega⟩, rfl, ⟨Nat.le_refl _, Nat.zero_le _⟩, λ i j hi => by have : i < 0 := hi; omega, ⟨dJ ⟨Int.le_refl _, by show (0 : Int) <= 2000; omega, Int.le_refl _, by show (0 : Int) <= 200000; omega⟩, λ j _ hj => by have : j < 0 := hj; omega⟩, λ j hj => by have : j < 0 := hj; omega⟩
 have hr := AWT ho (2 * g.length + 2) ini0 [0] h0 (by unfold gU ini0; rw [AN]; simp)
 rw [<- e] at hr
 rcases hr with ⟨h1, i, hi, h2⟩ | ⟨h1, P, ln, hS, hl⟩
 ·exact .inl ⟨h1, Jc g i, Ry hi, h2⟩
 ·refine .inr ⟨h1, ?_⟩
  generalize hb : (EK g).r.b = b at *
  generalize hk : (EK g).k = k at *
  generalize hdl : (EK g).r.l = L at *
  generalize hd : L.dropLast = d at *
  have hp : PartsO g P b d k := hS.parts
  have hle : gD P b.length <= g.length := hS.le.1
  have hln : NJ ln /\ ∀ j, gD P b.length <= j -> j < g.length -> (OJ ln).pass (Jc g j) := hS.line
  have hlen : L.length = b.length + 1 := by rw [hl, List.length_append, hp.lenl]; rfl
  have hgd : ∀ i, i < b.length -> gD L i = gD d i := λ i hi => by rw [hl, Ex, if_pos (by rw [hp.lenl]; exact hi)]
  have hgl : gD L b.length = ln := by rw [hl, Ex, if_neg (by rw [hp.lenl]; omega), if_pos hp.lenl.symm]
  have bval : ∀ i, i < b.length -> 1 <= gD b i /\ gD b i <= 2000 := λ i hi => by
   obtain ⟨a1, a2, a3, a4⟩ := hp.up i hi
   have h3 := a3 0 (gD P (i + 1)) (by omega) (Nat.le_refl _) a2
   have h4 := ho _ (Ry (g := g) (i := 0) (by omega))
   have h5 := ho _ (Ry a2)
   have h6 : 0 <= iK g 0 := h4.1
   have h7 : iK g (gD P (i + 1)) <= 2000 := h5.2.1
   rw [a4]; omega
  have mlt : b.length < g.length ∨ b.length = 0 := by
   by_cases hz : b.length = 0
   ·exact .inr hz
   ·have key : ∀ j, j <= b.length -> j <= gD P j := λ j => by
     induction j with
     | zero => exact λ _ => Nat.zero_le _
     | succ j ih => exact λ hj => by have := ih (by omega); have := (hp.up j (by omega)).1; omega
    have := key b.length (Nat.le_refl _)
    have h9 := (hp.up (b.length - 1) (by omega)).2.1
    rw [show b.length - 1 + 1 = b.length by omega] at h9
    exact .inl (by omega)
  have hpass : ∀ i, i <= b.length -> NJ (gD L i) /\ (OJ (gD L i)).passes (NM g b i) := λ i hi => by
   refine ⟨?_, λ x hx => ?_⟩
   ·by_cases hl2 : i < b.length
    ·rw [hgd i hl2]; exact (hp.line i hl2).1
    ·rw [show i = b.length by omega, hgl]; exact hln.1
   ·obtain ⟨hx1, hx2⟩ := ZS.1 hx
    obtain ⟨j, hj, rfl⟩ := AOB hx1
    obtain ⟨q, q1, q2, q3⟩ := BCR hp b.length j (Nat.le_refl _)
    have := BLC hp hj q1 q2 q3
    have hx2 : (Tl b (iK g j) : Int) = i := hx2
    have hqi : q = i := by omega
    subst hqi
    by_cases hl2 : q < b.length
    ·rw [hgd q hl2]; exact (hp.line q hl2).2 j q2 (q3 hl2)
    ·have hqb : q = b.length := by omega
     rw [hqb, hgl]; exact hln.2 j (hqb ▸ q2) hj
  refine ⟨hlen, hp.lenk, ?_, λ x hx => by obtain ⟨i, hi, rfl⟩ := YL hx; exact bval i hi, by omega, hpass, λ i hi hcan => ?_, λ x hx => ?_, ⟨P, hd ▸ hp⟩, λ x hx => ?_⟩
  ·refine List.pairwise_iff_getElem.2 λ i j hi hj hij => ?_
   obtain ⟨a1, a2, a3, a4⟩ := hp.up i hi
   obtain ⟨c1, c2, c3, c4⟩ := hp.up j hj
   have e1 : b[i] = gD b i := by simp [gD, List.getD_eq_getElem?_getD, hi]
   have e2 : b[j] = gD b j := by simp [gD, List.getD_eq_getElem?_getD, hj]
   rw [e1, e2, a4, c4]
   exact c3 _ _ (AAL hp (j + 1) (i + 1) (by omega) (by omega)) (Nat.le_refl _) c2
  ·obtain ⟨a1, a2, a3, a4⟩ := hp.up i hi
   obtain ⟨n1, n2⟩ := ABG a2
   obtain ⟨b1, b2⟩ := BHM a2
   refine hp.bad i hi (hcan.mono λ x hx => ?_)
   obtain ⟨j, j1, j2, rfl⟩ := (tC n2).1 hx
   refine ACO.2 ⟨Ry (by omega), λ h0 => ?_, ?_⟩
   ·have e2 := (hp.up (i - 1) (by omega)).2.2.2
    rw [show i - 1 + 1 = i by omega] at e2
    rw [e2]
    exact Fb j1 (by omega)
   ·show iK g j <= _
    rw [a4]
    by_cases hj : j <= gD P (i + 1)
    ·exact Fb hj a2
    ·rw [b2 j (by omega) j2]; exact Int.le_refl _
  ·obtain ⟨i, hi, rfl⟩ := YL hx
   exact (hpass i (by omega)).1
  ·obtain ⟨j, hj, rfl⟩ := AOB hx
   exact hS.one j hj
theorem Ym (b : List Int) {t u : Int} (h : t <= u) : Tl b t <= Tl b u := List.countP_mono_left λ x _ hx => by
 rw [decide_eq_true_eq] at *; omega
theorem Few.least {g : List Gau} {b : List Int} {l : List Ln} {k : List (List Int)} (h : Few g b l k) {c : List Int} (hc : ∀ i : Nat, i <= c.length -> Can (NM g c i)) : b.length <= c.length := by
 have key : ∀ i, i < b.length -> i + 1 <= Tl c (gD b i) := λ i => by
  induction i with
  | zero =>
   intro hi
   refine Classical.byContradiction λ hz => ?_
   refine h.bad 0 hi ((hc 0 (Nat.zero_le _)).mono λ x hx => ?_)
   obtain ⟨h1, _, h3⟩ := ACO.1 hx
   have := Ym c h3
   exact ZS.2 ⟨h1, by omega⟩
  | succ i ih =>
   intro hi
   have h0 := ih (by omega)
   refine Classical.byContradiction λ hz => ?_
   refine h.bad (i + 1) hi ((hc (i + 1) (by have := tK c (gD b i); omega)).mono λ x hx => ?_)
   obtain ⟨h1, h2, h3⟩ := ACO.1 hx
   have h2 := h2 (by omega)
   rw [show i + 1 - 1 = i by omega] at h2
   have a1 := Ym c h2
   have a2 := Ym c h3
   exact ZS.2 ⟨h1, by omega⟩
 by_cases hz : b.length = 0
 ·omega
 ·have := key (b.length - 1) (by omega)
  have := tK c (gD b (b.length - 1))
  omega
theorem Few.thru {g : List Gau} {b : List Int} {l : List Ln} {k : List (List Int)} (h : Few g b l k) (hc : AZ g = 0) : Thru g b :=
 ⟨(MP hc).1, (MP hc).2, h.asc, h.brk, h.few, λ i hi => ⟨_, (h.pass i hi).1, (h.pass i hi).2⟩⟩
theorem Thru.can {g : List Gau} {b : List Int} (h : Thru g b) : ∀ i : Nat, i <= b.length -> Can (NM g b i) := h.thru
end Go.Bal
