/- Package rating: the fewest parts (no program in sight). -/
import Derived.Test.YtoihhodbkimedaaRT4
set_option linter.unusedVariables false
set_option linter.unusedSimpArgs false
namespace Go.Bal
open Go Go.Sym Go.Proofs
def Can (s : List Gau) : Prop := ∃ x, okL x /\ (rlL x).passes s
theorem Can.mono {s t : List Gau} (h : Can t) (hs : ∀ g ∈ s, g ∈ t) : Can s := by
 obtain ⟨x, h1, h2⟩ := h
 exact ⟨x, h1, λ g hg => h2 g (hs g hg)⟩
theorem line_ok {s : List Gau} (hs : ∀ g ∈ s, okG g) : ((lineM s).2 = true ↔ Can s) /\ ((lineM s).2 = true -> okL (lineM s).1 /\ (rlL (lineM s).1).passes s) := by
 unfold lineM
 by_cases h0 : s.length = 0
 ·rw [if_pos h0]
  have hn := List.eq_nil_of_length_eq_zero h0
  have ho : okL (levM ⟨0, 0⟩) := lev_ok ⟨Int.le_refl _, by show (0 : Int) <= 2000; omega, Int.le_refl _, by show (0 : Int) <= 200000; omega⟩
  subst hn
  exact ⟨⟨λ _ => ⟨_, ho, λ g hg => by cases hg⟩, λ _ => rfl⟩, λ _ => ⟨ho, λ g hg => by cases hg⟩⟩
 ·rw [if_neg h0]
  have hne : s ≠ [] := λ h => h0 (by rw [h]; rfl)
  cases hf : (thruM s).find? (paM s) with
  | some x =>
   have h1 := List.find?_some hf
   have h2 := thru_ok hs x (List.mem_of_find?_eq_some hf)
   have h3 := (paM_iff h2).1 h1
   exact ⟨⟨λ _ => ⟨x, h2, h3⟩, λ _ => rfl⟩, λ _ => ⟨h2, h3⟩⟩
  | none =>
   refine ⟨⟨λ h => (by cases h), λ h => ?_⟩, λ h => (by cases h)⟩
   obtain ⟨x, h1, h2⟩ := h
   exfalso
   have := fl_ne hs (rlL_ok h1) h2 hne
   refine this (List.filter_eq_nil_iff.2 λ y hy => ?_)
   have := List.find?_eq_none.1 hf y hy
   exact this
def gauO (g : List Gau) (i : Nat) : Gau := gD g (gD (ordM g) i).toNat
def stO (g : List Gau) (i : Nat) : Int := keyG g (gD (ordM g) i)
theorem stO_mono {g : List Gau} {i j : Nat} (h : i <= j) (hj : j < g.length) : stO g i <= stO g j := by
 by_cases he : i = j
 ·rw [he]; exact Int.le_refl _
 ·have := stM_sorted (keyG g) (iotI g.length) i j (by omega) (by rw [iot_len]; omega)
  exact this
theorem gauO_mem {g : List Gau} {i : Nat} (h : i < g.length) : gauO g i ∈ g := by
 have := ord_gD h
 exact gD_mem (by omega)
theorem gauO_all {g : List Gau} {x : Gau} (h : x ∈ g) : ∃ i, i < g.length /\ gauO g i = x := by
 obtain ⟨j, hj, rfl⟩ := mem_gD h
 have h1 : (j : Int) ∈ iotI g.length := List.mem_map.2 ⟨j, List.mem_range.2 hj, rfl⟩
 have h2 := (ord_perm g).mem_iff.2 h1
 obtain ⟨i, hi, he⟩ := mem_gD h2
 exact ⟨i, by rw [ord_len] at hi; exact hi, by unfold gauO; rw [he]; rfl⟩
theorem pk_mem {g : List Gau} {a b : Nat} (hb : b <= g.length) {x : Gau} : x ∈ pkR g (ordM g) a b ↔ ∃ i, a <= i /\ i < b /\ gauO g i = x := by
 have hl : ((ordM g).take b).length = b := by rw [List.length_take, ord_len]; omega
 unfold pkR pkM
 rw [List.mem_map]
 show (∃ y, y ∈ (((ordM g).take b).drop a) /\ _) ↔ _
 constructor
 ·rintro ⟨y, hy, rfl⟩
  obtain ⟨i, hi, rfl⟩ := mem_gD hy
  rw [List.length_drop, hl] at hi
  refine ⟨a + i, by omega, by omega, ?_⟩
  unfold gauO
  rw [gD_drop]
  simp [gD, List.getD_eq_getElem?_getD, List.getElem?_take, show a + i < b by omega]
 ·rintro ⟨i, h1, h2, rfl⟩
  refine ⟨gD (((ordM g).take b).drop a) (i - a), gD_mem (by rw [List.length_drop, hl]; omega), ?_⟩
  unfold gauO
  rw [gD_drop, show a + (i - a) = i by omega]
  simp [gD, List.getD_eq_getElem?_getD, List.getElem?_take, h2]
theorem pk_okG {g : List Gau} (h : ∀ x ∈ g, okG x) {a b : Nat} (hb : b <= g.length) : ∀ x ∈ pkR g (ordM g) a b, okG x := λ x hx => by
 obtain ⟨i, _, h2, rfl⟩ := (pk_mem hb).1 hx
 exact h _ (gauO_mem (by omega))
def bdO (g : List Gau) (t : Nat) : Prop := ∀ i j, i < t -> t <= j -> j < g.length -> stO g i < stO g j
theorem nx_spec {g : List Gau} {t : Nat} : ∀ (n k : Nat), t <= k -> k + n = g.length -> (∀ j, t <= j -> j < k -> stO g j = stO g t) -> (∀ j, t <= j -> j < nxK g (ordM g) t n k -> stO g j = stO g t) /\ (nxK g (ordM g) t n k < g.length -> stO g (nxK g (ordM g) t n k) ≠ stO g t)
 | 0, k, _, hk, h => ⟨h, λ hc => by have : k < g.length := hc; omega⟩
 | n + 1, k, ht, hk, h => by
  by_cases hc : keyG g (gD (ordM g) k) = keyG g (gD (ordM g) t)
  ·have e : nxK g (ordM g) t (n + 1) k = nxK g (ordM g) t n (k + 1) := by
    conv => lhs; unfold nxK
    rw [show (keyG g (gD (ordM g) k) == keyG g (gD (ordM g) t)) = true by rw [hc]; simp]; rfl
   rw [e]
   exact nx_spec n (k + 1) (by omega) (by omega) (λ j a b => by
    by_cases hj : j = k
    ·rw [hj]; exact hc
    ·exact h j a (by omega))
  ·have e : nxK g (ordM g) t (n + 1) k = k := by
    unfold nxK
    rw [show (keyG g (gD (ordM g) k) == keyG g (gD (ordM g) t)) = false by simpa using hc]; rfl
   rw [e]
   exact ⟨h, λ _ => hc⟩
theorem nx_bd {g : List Gau} {t : Nat} (h : t < g.length) : bdO g (nxM g (ordM g) t) /\ ∀ j, t <= j -> j < nxM g (ordM g) t -> stO g j = stO g t := by
 obtain ⟨h1, h2⟩ := nx_in h
 have hs := nx_spec (g := g) (t := t) (g.length - t) t (Nat.le_refl _) (by omega) (λ j a b => by omega)
 have e : nxK g (ordM g) t (g.length - t) t = nxM g (ordM g) t := by unfold nxM; rw [ord_len]
 rw [e] at hs
 refine ⟨λ i j hi hj hj2 => ?_, hs.1⟩
 have h3 := hs.2 (by omega)
 have h4 : stO g t <= stO g (nxM g (ordM g) t) := stO_mono (by omega) (by omega)
 have h5 := stO_mono hj hj2
 have h6 : stO g i <= stO g t := by
  by_cases hit : i <= t
  ·exact stO_mono hit h
  ·rw [hs.1 i (by omega) hi]; exact Int.le_refl _
 omega
structure PartsO (g : List Gau) (P : List Nat) (b : List Int) (l : List Ln) (k : List (List Int)) : Prop where
 lenP : P.length = b.length + 1
 lenl : l.length = b.length
 lenk : k.length = b.length
 zero : gD P 0 = 0
 up : ∀ i, i < b.length -> gD P i < gD P (i + 1) /\ gD P (i + 1) < g.length /\ bdO g (gD P (i + 1)) /\ gD b i = stO g (gD P (i + 1))
 line : ∀ i, i < b.length -> okL (gD l i) /\ ∀ j, gD P i <= j -> j < gD P (i + 1) -> (rlL (gD l i)).pass (gauO g j)
 bad : ∀ i, i < b.length -> ¬Can (pkR g (ordM g) (gD P i) (nxM g (ordM g) (gD P (i + 1))))
 knot : ∀ i, i < b.length -> gD k i = kntM ⟨g, ((ordM g).take (nxM g (ordM g) (gD P (i + 1)))).drop (gD P i)⟩
def oneS (g : List Gau) (t : Nat) : Prop := ∀ j, j < t -> Can (g.filter λ x => x.st == stO g j)
structure StO (g : List Gau) (P : List Nat) (s : FS) : Prop where
 parts : PartsO g P s.b s.l s.k
 last : gD P s.b.length = s.fr
 le : s.fr <= s.to /\ s.to <= g.length
 bd : bdO g s.to
 line : okL s.ln /\ ∀ j, s.fr <= j -> j < s.to -> (rlL s.ln).pass (gauO g j)
 one : oneS g s.to
theorem gD_snocN {α : Type} [Inhabited α] (l : List α) (x : α) (i : Nat) : gD (l ++ [x]) i = if i < l.length then gD l i else if i = l.length then x else default := by
 rw [gD_append]
 split
 ·rfl
 ·split
  ·rename_i h1 h2; rw [h2, Nat.sub_self]; rfl
  ·rename_i h1 h2
   obtain ⟨m, hm⟩ : ∃ m, i - l.length = m + 1 := ⟨i - l.length - 1, by omega⟩
   rw [hm]; rfl
theorem StO.go {g : List Gau} {P : List Nat} {s : FS} (h : StO g P s) (ho : ∀ x ∈ g, okG x) (ht : s.to < g.length) (hq : (lineM (pkR g (ordM g) s.to (nxM g (ordM g) s.to))).2 = true) (hr : (lineM (pkR g (ordM g) s.fr (nxM g (ordM g) s.to))).2 = true) : StO g P (goF g (ordM g) s) := by
 obtain ⟨n1, n2⟩ := nx_in ht
 obtain ⟨b1, b2⟩ := nx_bd ht
 have hl := (line_ok (pk_okG ho n2 (a := s.fr))).2 hr
 have hq2 := (line_ok (pk_okG ho n2 (a := s.to))).1.1 hq
 refine ⟨h.parts, h.last, ⟨by show s.fr <= nxM _ _ _; have := h.le; omega, n2⟩, b1, ⟨hl.1, λ j a c => hl.2 _ ((pk_mem n2).2 ⟨j, a, c, rfl⟩)⟩, λ j hj => ?_⟩
 have hj : j < nxM g (ordM g) s.to := hj
 by_cases hjt : j < s.to
 ·exact h.one j hjt
 ·rw [b2 j (by omega) hj]
  refine hq2.mono λ x hx => ?_
  obtain ⟨hx1, hx2⟩ := List.mem_filter.1 hx
  obtain ⟨i, hi, rfl⟩ := gauO_all hx1
  have hx2 : stO g i = stO g s.to := eq_of_beq hx2
  refine (pk_mem n2).2 ⟨i, ?_, ?_, rfl⟩
  ·refine Classical.byContradiction λ hc => ?_
   have := h.bd i s.to (by omega) (Nat.le_refl _) ht; omega
  ·refine Classical.byContradiction λ hc => ?_
   have := b1 s.to i (by omega) (by omega) hi; omega
theorem StO.brk {g : List Gau} {P : List Nat} {s : FS} (h : StO g P s) (ho : ∀ x ∈ g, okG x) (ht : s.to < g.length) (hq : (lineM (pkR g (ordM g) s.to (nxM g (ordM g) s.to))).2 = true) (hr : (lineM (pkR g (ordM g) s.fr (nxM g (ordM g) s.to))).2 = false) : StO g (P ++ [s.to]) (brkF g (ordM g) s) := by
 obtain ⟨n1, n2⟩ := nx_in ht
 have hne : s.fr ≠ s.to := λ he => by rw [he, hq] at hr; cases hr
 have hbad : ¬Can (pkR g (ordM g) s.fr (nxM g (ordM g) s.to)) := λ hc => by
  rw [(line_ok (pk_okG ho n2 (a := s.fr))).1.2 hc] at hr; cases hr
 have hle := h.le
 obtain ⟨p1, p2, p3, p4, p5, p6, p7, p8⟩ := h.parts
 have hlast := h.last
 have eP : ∀ i, i <= s.b.length -> gD (P ++ [s.to]) i = gD P i := λ i hi => by rw [gD_snocN, if_pos (by omega)]
 have eP2 : gD (P ++ [s.to]) (s.b.length + 1) = s.to := by rw [gD_snocN, if_neg (by omega), if_pos (by omega)]
 have eb : ∀ i, i < s.b.length -> gD (s.b ++ [keyG g (gD (ordM g) s.to)]) i = gD s.b i := λ i hi => by rw [gD_snocN, if_pos hi]
 have eb2 : gD (s.b ++ [keyG g (gD (ordM g) s.to)]) s.b.length = stO g s.to := by rw [gD_snocN, if_neg (by omega), if_pos rfl]; rfl
 have el : ∀ i, i < s.b.length -> gD (s.l ++ [s.ln]) i = gD s.l i := λ i hi => by rw [gD_snocN, if_pos (by omega)]
 have el2 : gD (s.l ++ [s.ln]) s.b.length = s.ln := by rw [gD_snocN, if_neg (by omega), if_pos (by omega)]
 have ek : ∀ (z : List Int) i, i < s.b.length -> gD (s.k ++ [z]) i = gD s.k i := λ z i hi => by rw [gD_snocN, if_pos (by omega)]
 have ek2 : ∀ z : List Int, gD (s.k ++ [z]) s.b.length = z := λ z => by rw [gD_snocN, if_neg (by omega), if_pos (by omega)]
 have elen : (s.b ++ [keyG g (gD (ordM g) s.to)]).length = s.b.length + 1 := by simp
 refine ⟨⟨?_, ?_, ?_, ?_, ?_, ?_, ?_, ?_⟩, ?_, ⟨Nat.le_refl _, hle.2⟩, h.bd, ⟨h.line.1, λ j a c => by have a : s.to <= j := a; have c : j < s.to := c; omega⟩, h.one⟩
 ·show (P ++ [s.to]).length = (s.b ++ [_]).length + 1; rw [elen]; simp; omega
 ·show (s.l ++ [s.ln]).length = (s.b ++ [_]).length; rw [elen]; simp; omega
 ·show (s.k ++ [_]).length = (s.b ++ [_]).length; rw [elen]; simp; omega
 ·rw [eP 0 (Nat.zero_le _)]; exact p4
 ·intro i hi
  have hi : i < s.b.length + 1 := by have hi : i < (s.b ++ [_]).length := hi; rw [elen] at hi; exact hi
  show gD (P ++ [s.to]) i < gD (P ++ [s.to]) (i + 1) /\ gD (P ++ [s.to]) (i + 1) < g.length /\ bdO g (gD (P ++ [s.to]) (i + 1)) /\ gD (s.b ++ [keyG g (gD (ordM g) s.to)]) i = stO g (gD (P ++ [s.to]) (i + 1))
  by_cases hl : i < s.b.length
  ·rw [eP i (by omega), eP (i + 1) (by omega), eb i hl]; exact p5 i hl
  ·have : i = s.b.length := by omega
   subst this
   rw [eP _ (Nat.le_refl _), eP2, eb2, hlast]
   exact ⟨by omega, ht, h.bd, rfl⟩
 ·intro i hi
  have hi : i < s.b.length + 1 := by have hi : i < (s.b ++ [_]).length := hi; rw [elen] at hi; exact hi
  show okL (gD (s.l ++ [s.ln]) i) /\ ∀ j, gD (P ++ [s.to]) i <= j -> j < gD (P ++ [s.to]) (i + 1) -> (rlL (gD (s.l ++ [s.ln]) i)).pass (gauO g j)
  by_cases hl : i < s.b.length
  ·rw [eP i (by omega), eP (i + 1) (by omega), el i hl]; exact p6 i hl
  ·have : i = s.b.length := by omega
   subst this
   rw [eP _ (Nat.le_refl _), eP2, el2, hlast]
   exact h.line
 ·intro i hi
  have hi : i < s.b.length + 1 := by have hi : i < (s.b ++ [_]).length := hi; rw [elen] at hi; exact hi
  by_cases hl : i < s.b.length
  ·rw [eP i (by omega), eP (i + 1) (by omega)]; exact p7 i hl
  ·have : i = s.b.length := by omega
   subst this
   rw [eP _ (Nat.le_refl _), eP2, hlast]
   exact hbad
 ·intro i hi
  have hi : i < s.b.length + 1 := by have hi : i < (s.b ++ [_]).length := hi; rw [elen] at hi; exact hi
  show gD (s.k ++ [_]) i = _
  by_cases hl : i < s.b.length
  ·rw [eP i (by omega), eP (i + 1) (by omega), ek _ i hl]; exact p8 i hl
  ·have : i = s.b.length := by omega
   subst this
   rw [eP _ (Nat.le_refl _), eP2, hlast, ek2]
 ·show gD (P ++ [s.to]) (s.b ++ [_]).length = s.to
  rw [elen]; exact eP2
theorem few_run {g : List Gau} (ho : ∀ x ∈ g, okG x) : ∀ (n : Nat) (s : FS) (P : List Nat), StO g P s -> msF (ordM g) s + 1 <= n -> ((fewR g (ordM g) n s).e = 6 /\ ∃ i, i < g.length /\ ¬Can (g.filter λ x => x.st == stO g i)) ∨ ((fewR g (ordM g) n s).e = 0 /\ ∃ P ln, StO g P ⟨gD P (fewR g (ordM g) n s).r.b.length, g.length, ln, (fewR g (ordM g) n s).r.b, (fewR g (ordM g) n s).r.l.dropLast, (fewR g (ordM g) n s).k⟩ /\ (fewR g (ordM g) n s).r.l = (fewR g (ordM g) n s).r.l.dropLast ++ [ln])
 | 0, s, P, _, h => by omega
 | n + 1, s, P, h, hm => by
  rw [fewR_s]
  have hle := h.le
  by_cases ht : s.to < g.length
  ·rw [decide_eq_true (show s.to < (ordM g).length by rw [ord_len]; exact ht)]
   obtain ⟨n1, n2⟩ := nx_in ht
   obtain ⟨b1, b2⟩ := nx_bd ht
   have hms : msF (ordM g) s = 2 * (g.length - s.to) + (if s.fr < s.to then 1 else 0) := by unfold msF; rw [ord_len]
   cases hq : (lineM (pkR g (ordM g) s.to (nxM g (ordM g) s.to))).2 with
   | false =>
    refine .inl ⟨rfl, s.to, ht, λ hc => ?_⟩
    have : Can (pkR g (ordM g) s.to (nxM g (ordM g) s.to)) := hc.mono λ x hx => by
     obtain ⟨i, a, c, rfl⟩ := (pk_mem n2).1 hx
     refine List.mem_filter.2 ⟨gauO_mem (by omega), ?_⟩
     exact beq_iff_eq.2 (b2 i a c)
    rw [(line_ok (pk_okG ho n2 (a := s.to))).1.2 this] at hq; cases hq
   | true =>
    cases hr : (lineM (pkR g (ordM g) s.fr (nxM g (ordM g) s.to))).2 with
    | true =>
     exact few_run ho n (goF g (ordM g) s) P (h.go ho ht hq hr) (by
      have : msF (ordM g) (goF g (ordM g) s) < msF (ordM g) s := by unfold msF goF; rw [ord_len]; simp only []; split <;> split <;> omega
      omega)
    | false =>
     have hne : s.fr ≠ s.to := λ he => by rw [he, hq] at hr; cases hr
     exact few_run ho n (brkF g (ordM g) s) (P ++ [s.to]) (h.brk ho ht hq hr) (by
      have : msF (ordM g) (brkF g (ordM g) s) < msF (ordM g) s := by unfold msF brkF; rw [ord_len]; simp only [Nat.lt_irrefl, if_false]; rw [if_pos (by omega)]; omega
      omega)
  ·rw [decide_eq_false (show ¬s.to < (ordM g).length by rw [ord_len]; exact ht)]
   have e : s.to = g.length := by omega
   refine .inr ⟨rfl, P, s.ln, ?_, ?_⟩
   ·show StO g P ⟨gD P s.b.length, g.length, s.ln, s.b, (s.l ++ [s.ln]).dropLast, s.k⟩
    rw [List.dropLast_concat, h.last, <- e]
    exact h
   ·show s.l ++ [s.ln] = (s.l ++ [s.ln]).dropLast ++ [s.ln]
    rw [List.dropLast_concat]
end Go.Bal
