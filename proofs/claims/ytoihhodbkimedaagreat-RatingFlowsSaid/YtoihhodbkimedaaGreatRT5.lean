/- Package rating: the fewest parts (no program in sight). -/
import Derived.Test.YtoihhodbkimedaaGreatRT4
set_option linter.unusedVariables false
set_option linter.unusedSimpArgs false
namespace Go.Bal
open Go Go.Sym Go.Proofs
def Can (s : List Gau) : Prop := ∃ x, DR x /\ (CH x).passes s
theorem Can.mono {s t : List Gau} (h : Can t) (hs : ∀ g ∈ s, g ∈ t) : Can s := by
 obtain ⟨x, h1, h2⟩ := h
 exact ⟨x, h1, λ g hg => h2 g (hs g hg)⟩
theorem AJL {s : List Gau} (hs : ∀ g ∈ s, DJ g) : ((BG s).2 = true ↔ Can s) /\ ((BG s).2 = true -> DR (BG s).1 /\ (CH (BG s).1).passes s) := by
 unfold BG
 by_cases h0 : s.length = 0
 ·rw [if_pos h0]
  have hn := List.eq_nil_of_length_eq_zero h0
  have ho : DR (AL ⟨0, 0⟩) := Da ⟨Int.le_refl _, by show (0 : Int) <= 2000; omega, Int.le_refl _, by show (0 : Int) <= 200000; omega⟩
  subst hn
  exact ⟨⟨λ _ => ⟨_, ho, λ g hg => by cases hg⟩, λ _ => rfl⟩, λ _ => ⟨ho, λ g hg => by cases hg⟩⟩
 ·rw [if_neg h0]
  have hne : s ≠ [] := λ h => h0 (by rw [h]; rfl)
  cases hf : (LQ s).find? (JO s) with
  | some x =>
   have h1 := List.find?_some hf
   have h2 := BVM hs x (List.mem_of_find?_eq_some hf)
   have h3 := (AHA h2).1 h1
   exact ⟨⟨λ _ => ⟨x, h2, h3⟩, λ _ => rfl⟩, λ _ => ⟨h2, h3⟩⟩
  | none =>
   refine ⟨⟨λ h => (by cases h), λ h => ?_⟩, λ h => (by cases h)⟩
   obtain ⟨x, h1, h2⟩ := h
   exfalso
   have := CCQ hs (BO h1) h2 hne
   refine this (List.filter_eq_nil_iff.2 λ y hy => ?_)
   have := List.find?_eq_none.1 hf y hy
   exact this
def gauO (g : List Gau) (i : Nat) : Gau := gD g (gD (AJ g) i).toNat
def stO (g : List Gau) (i : Nat) : Int := CP g (gD (AJ g) i)
theorem ATV {g : List Gau} {i j : Nat} (h : i <= j) (hj : j < g.length) : stO g i <= stO g j := by
 by_cases he : i = j
 ·rw [he]; exact Int.le_refl _
 ·have := BSS (CP g) (WI g.length) i j (by omega) (by rw [QN]; omega)
  exact this
theorem CBA {g : List Gau} {i : Nat} (h : i < g.length) : gauO g i ∈ g := by
 have := lU h
 exact BM (by omega)
theorem CBU {g : List Gau} {x : Gau} (h : x ∈ g) : ∃ i, i < g.length /\ gauO g i = x := by
 obtain ⟨j, hj, rfl⟩ := HM h
 have h1 : (j : Int) ∈ WI g.length := List.mem_map.2 ⟨j, List.mem_range.2 hj, rfl⟩
 have h2 := (ART g).mem_iff.2 h1
 obtain ⟨i, hi, he⟩ := HM h2
 exact ⟨i, by rw [AT] at hi; exact hi, by unfold gauO; rw [he]; rfl⟩
theorem BSR {g : List Gau} {a b : Nat} (hb : b <= g.length) {x : Gau} : x ∈ pkR g (AJ g) a b ↔ ∃ i, a <= i /\ i < b /\ gauO g i = x := by
 have hl : ((AJ g).take b).length = b := by rw [List.length_take, AT]; omega
 unfold pkR pkM
 rw [List.mem_map]
 show (∃ y, y ∈ (((AJ g).take b).drop a) /\ _) ↔ _
 constructor
 ·rintro ⟨y, hy, rfl⟩
  obtain ⟨i, hi, rfl⟩ := HM hy
  rw [List.length_drop, hl] at hi
  refine ⟨a + i, by omega, by omega, ?_⟩
  unfold gauO
  rw [QV]
  simp [gD, List.getD_eq_getElem?_getD, List.getElem?_take, show a + i < b by omega]
 ·rintro ⟨i, h1, h2, rfl⟩
  refine ⟨gD (((AJ g).take b).drop a) (i - a), BM (by rw [List.length_drop, hl]; omega), ?_⟩
  unfold gauO
  rw [QV, show a + (i - a) = i by omega]
  simp [gD, List.getD_eq_getElem?_getD, List.getElem?_take, h2]
theorem BPB {g : List Gau} (h : ∀ x ∈ g, DJ x) {a b : Nat} (hb : b <= g.length) : ∀ x ∈ pkR g (AJ g) a b, DJ x := λ x hx => by
 obtain ⟨i, _, h2, rfl⟩ := (BSR hb).1 hx
 exact h _ (CBA (by omega))
def bdO (g : List Gau) (t : Nat) : Prop := ∀ i j, i < t -> t <= j -> j < g.length -> stO g i < stO g j
theorem BVE {g : List Gau} {t : Nat} : ∀ (n k : Nat), t <= k -> k + n = g.length -> (∀ j, t <= j -> j < k -> stO g j = stO g t) -> (∀ j, t <= j -> j < nxK g (AJ g) t n k -> stO g j = stO g t) /\ (nxK g (AJ g) t n k < g.length -> stO g (nxK g (AJ g) t n k) ≠ stO g t)
 | 0, k, _, hk, h => ⟨h, λ hc => by have : k < g.length := hc; omega⟩
 | n + 1, k, ht, hk, h => by
  by_cases hc : CP g (gD (AJ g) k) = CP g (gD (AJ g) t)
  ·have e : nxK g (AJ g) t (n + 1) k = nxK g (AJ g) t n (k + 1) := by
    conv => lhs; unfold nxK
    rw [show (CP g (gD (AJ g) k) == CP g (gD (AJ g) t)) = true by rw [hc]; simp]; rfl
   rw [e]
   exact BVE n (k + 1) (by omega) (by omega) (λ j a b => by
    by_cases hj : j = k
    ·rw [hj]; exact hc
    ·exact h j a (by omega))
  ·have e : nxK g (AJ g) t (n + 1) k = k := by
    unfold nxK
    rw [show (CP g (gD (AJ g) k) == CP g (gD (AJ g) t)) = false by simpa using hc]; rfl
   rw [e]
   exact ⟨h, λ _ => hc⟩
theorem CVD {g : List Gau} {t : Nat} (h : t < g.length) : bdO g (UT g (AJ g) t) /\ ∀ j, t <= j -> j < UT g (AJ g) t -> stO g j = stO g t := by
 obtain ⟨h1, h2⟩ := BCM h
 have hs := BVE (g := g) (t := t) (g.length - t) t (Nat.le_refl _) (by omega) (λ j a b => by omega)
 have e : nxK g (AJ g) t (g.length - t) t = UT g (AJ g) t := by unfold UT; rw [AT]
 rw [e] at hs
 refine ⟨λ i j hi hj hj2 => ?_, hs.1⟩
 have h3 := hs.2 (by omega)
 have h4 : stO g t <= stO g (UT g (AJ g) t) := ATV (by omega) (by omega)
 have h5 := ATV hj hj2
 have h6 : stO g i <= stO g t := by
  by_cases hit : i <= t
  ·exact ATV hit h
  ·rw [hs.1 i (by omega) hi]; exact Int.le_refl _
 omega
structure PartsO (g : List Gau) (P : List Nat) (b : List Int) (l : List Ln) (k : List (List Int)) : Prop where
 lenP : P.length = b.length + 1
 lenl : l.length = b.length
 lenk : k.length = b.length
 zero : gD P 0 = 0
 up : ∀ i, i < b.length -> gD P i < gD P (i + 1) /\ gD P (i + 1) < g.length /\ bdO g (gD P (i + 1)) /\ gD b i = stO g (gD P (i + 1))
 line : ∀ i, i < b.length -> DR (gD l i) /\ ∀ j, gD P i <= j -> j < gD P (i + 1) -> (CH (gD l i)).pass (gauO g j)
 bad : ∀ i, i < b.length -> ¬Can (pkR g (AJ g) (gD P i) (UT g (AJ g) (gD P (i + 1))))
 knot : ∀ i, i < b.length -> gD k i = WF ⟨g, ((AJ g).take (UT g (AJ g) (gD P (i + 1)))).drop (gD P i)⟩
def oneS (g : List Gau) (t : Nat) : Prop := ∀ j, j < t -> Can (g.filter λ x => x.st == stO g j)
structure StO (g : List Gau) (P : List Nat) (s : FS) : Prop where
 parts : PartsO g P s.b s.l s.k
 last : gD P s.b.length = s.fr
 le : s.fr <= s.to /\ s.to <= g.length
 bd : bdO g s.to
 line : DR s.ln /\ ∀ j, s.fr <= j -> j < s.to -> (CH s.ln).pass (gauO g j)
 one : oneS g s.to
theorem PU {α : Type} [Inhabited α] (l : List α) (x : α) (i : Nat) : gD (l ++ [x]) i = if i < l.length then gD l i else if i = l.length then x else default := by
 rw [XI]
 split
 ·rfl
 ·split
  ·rename_i h1 h2; rw [h2, Nat.sub_self]; rfl
  ·rename_i h1 h2
   obtain ⟨m, hm⟩ : ∃ m, i - l.length = m + 1 := ⟨i - l.length - 1, by omega⟩
   rw [hm]; rfl
theorem StO.go {g : List Gau} {P : List Nat} {s : FS} (h : StO g P s) (ho : ∀ x ∈ g, DJ x) (ht : s.to < g.length) (hq : (BG (pkR g (AJ g) s.to (UT g (AJ g) s.to))).2 = true) (hr : (BG (pkR g (AJ g) s.fr (UT g (AJ g) s.to))).2 = true) : StO g P (goF g (AJ g) s) := by
 obtain ⟨n1, n2⟩ := BCM ht
 obtain ⟨b1, b2⟩ := CVD ht
 have hl := (AJL (BPB ho n2 (a := s.fr))).2 hr
 have hq2 := (AJL (BPB ho n2 (a := s.to))).1.1 hq
 refine ⟨h.parts, h.last, ⟨by show s.fr <= UT _ _ _; have := h.le; omega, n2⟩, b1, ⟨hl.1, λ j a c => hl.2 _ ((BSR n2).2 ⟨j, a, c, rfl⟩)⟩, λ j hj => ?_⟩
 have hj : j < UT g (AJ g) s.to := hj
 by_cases hjt : j < s.to
 ·exact h.one j hjt
 ·rw [b2 j (by omega) hj]
  refine hq2.mono λ x hx => ?_
  obtain ⟨hx1, hx2⟩ := List.mem_filter.1 hx
  obtain ⟨i, hi, rfl⟩ := CBU hx1
  have hx2 : stO g i = stO g s.to := eq_of_beq hx2
  refine (BSR n2).2 ⟨i, ?_, ?_, rfl⟩
  ·refine Classical.byContradiction λ hc => ?_
   have := h.bd i s.to (by omega) (Nat.le_refl _) ht; omega
  ·refine Classical.byContradiction λ hc => ?_
   have := b1 s.to i (by omega) (by omega) hi; omega
theorem StO.brk {g : List Gau} {P : List Nat} {s : FS} (h : StO g P s) (ho : ∀ x ∈ g, DJ x) (ht : s.to < g.length) (hq : (BG (pkR g (AJ g) s.to (UT g (AJ g) s.to))).2 = true) (hr : (BG (pkR g (AJ g) s.fr (UT g (AJ g) s.to))).2 = false) : StO g (P ++ [s.to]) (sX g (AJ g) s) := by
 obtain ⟨n1, n2⟩ := BCM ht
 have hne : s.fr ≠ s.to := λ he => by rw [he, hq] at hr; cases hr
 have hbad : ¬Can (pkR g (AJ g) s.fr (UT g (AJ g) s.to)) := λ hc => by
  rw [(AJL (BPB ho n2 (a := s.fr))).1.2 hc] at hr; cases hr
 have hle := h.le
 obtain ⟨p1, p2, p3, p4, p5, p6, p7, p8⟩ := h.parts
 have hlast := h.last
 have eP : ∀ i, i <= s.b.length -> gD (P ++ [s.to]) i = gD P i := λ i hi => by rw [PU, if_pos (by omega)]
 have eP2 : gD (P ++ [s.to]) (s.b.length + 1) = s.to := by rw [PU, if_neg (by omega), if_pos (by omega)]
 have eb : ∀ i, i < s.b.length -> gD (s.b ++ [CP g (gD (AJ g) s.to)]) i = gD s.b i := λ i hi => by rw [PU, if_pos hi]
 have eb2 : gD (s.b ++ [CP g (gD (AJ g) s.to)]) s.b.length = stO g s.to := by rw [PU, if_neg (by omega), if_pos rfl]; rfl
 have el : ∀ i, i < s.b.length -> gD (s.l ++ [s.ln]) i = gD s.l i := λ i hi => by rw [PU, if_pos (by omega)]
 have el2 : gD (s.l ++ [s.ln]) s.b.length = s.ln := by rw [PU, if_neg (by omega), if_pos (by omega)]
 have ek : ∀ (z : List Int) i, i < s.b.length -> gD (s.k ++ [z]) i = gD s.k i := λ z i hi => by rw [PU, if_pos (by omega)]
 have ek2 : ∀ z : List Int, gD (s.k ++ [z]) s.b.length = z := λ z => by rw [PU, if_neg (by omega), if_pos (by omega)]
 have elen : (s.b ++ [CP g (gD (AJ g) s.to)]).length = s.b.length + 1 := by simp
 refine ⟨⟨?_, ?_, ?_, ?_, ?_, ?_, ?_, ?_⟩, ?_, ⟨Nat.le_refl _, hle.2⟩, h.bd, ⟨h.line.1, λ j a c => by have a : s.to <= j := a; have c : j < s.to := c; omega⟩, h.one⟩
 ·show (P ++ [s.to]).length = (s.b ++ [_]).length + 1; rw [elen]; simp; omega
 ·show (s.l ++ [s.ln]).length = (s.b ++ [_]).length; rw [elen]; simp; omega
 ·show (s.k ++ [_]).length = (s.b ++ [_]).length; rw [elen]; simp; omega
 ·rw [eP 0 (Nat.zero_le _)]; exact p4
 ·intro i hi
  have hi : i < s.b.length + 1 := by have hi : i < (s.b ++ [_]).length := hi; rw [elen] at hi; exact hi
  show gD (P ++ [s.to]) i < gD (P ++ [s.to]) (i + 1) /\ gD (P ++ [s.to]) (i + 1) < g.length /\ bdO g (gD (P ++ [s.to]) (i + 1)) /\ gD (s.b ++ [CP g (gD (AJ g) s.to)]) i = stO g (gD (P ++ [s.to]) (i + 1))
  by_cases hl : i < s.b.length
  ·rw [eP i (by omega), eP (i + 1) (by omega), eb i hl]; exact p5 i hl
  ·have : i = s.b.length := by omega
   subst this
   rw [eP _ (Nat.le_refl _), eP2, eb2, hlast]
   exact ⟨by omega, ht, h.bd, rfl⟩
 ·intro i hi
  have hi : i < s.b.length + 1 := by have hi : i < (s.b ++ [_]).length := hi; rw [elen] at hi; exact hi
  show DR (gD (s.l ++ [s.ln]) i) /\ ∀ j, gD (P ++ [s.to]) i <= j -> j < gD (P ++ [s.to]) (i + 1) -> (CH (gD (s.l ++ [s.ln]) i)).pass (gauO g j)
  by_cases hl : i < s.b.length
  ·rw [eP i (by omega), eP (i + 1) (by omega), el i hl]; exact p6 i hl
  ·have : i = s.b.length := by omega
   subst this
   rw [eP _ (Nat.le_refl _), eP2, el2, hlast]
   exact h.line
 ·intro i hi
  have hi : i < s.b.length + 1 := by have hi : i < (s.b ++ [_]).length := hi; rw [elen] at hi; exact hi
  by_cases hl : i < s.b.length
  ·rw [eP i (by omega), eP (i + 1) (by omega)]; exact p7 i hl
  ·have : i = s.b.length := by omega
   subst this
   rw [eP _ (Nat.le_refl _), eP2, hlast]
   exact hbad
 ·intro i hi
  have hi : i < s.b.length + 1 := by have hi : i < (s.b ++ [_]).length := hi; rw [elen] at hi; exact hi
  show gD (s.k ++ [_]) i = _
  by_cases hl : i < s.b.length
  ·rw [eP i (by omega), eP (i + 1) (by omega), ek _ i hl]; exact p8 i hl
  ·have : i = s.b.length := by omega
   subst this
   rw [eP _ (Nat.le_refl _), eP2, hlast, ek2]
 ·show gD (P ++ [s.to]) (s.b ++ [_]).length = s.to
  rw [elen]; exact eP2
end Go.Bal

namespace Go.Bal
open Go Go.Sym Go.Proofs
def CUU (g : List Gau) (b : List Int) (i : Nat) : List Gau := g.filter λ x => (decide (i = 0) || decide (gD b (i - 1) <= x.st)) && decide (x.st <= gD b i)
structure Few (g : List Gau) (b : List Int) (l : List Ln) (k : List (List Int)) : Prop where
 lenl : l.length = b.length + 1
 lenk : k.length = b.length
 asc : asc b
 brk : ∀ x ∈ b, 1 <= x /\ x <= 2000
 few : b.length <= 24
 pass : ∀ i, i <= b.length -> DR (gD l i) /\ (CH (gD l i)).passes (BE g b i)
 bad : ∀ i, i < b.length -> ¬Can (CUU g b i)
 rise : ∀ x ∈ l, DR x
 parts : ∃ P : List Nat, PartsO g P b l.dropLast k
 one : ∀ x ∈ g, Can (g.filter λ y => y.st == x.st)
theorem Few.thru {g : List Gau} {b : List Int} {l : List Ln} {k : List (List Int)} (h : Few g b l k) (hc : AQ g = 0) : Thru g b :=
 ⟨(Ci hc).1, (Ci hc).2, h.asc, h.brk, h.few, λ i hi => ⟨_, (h.pass i hi).1, (h.pass i hi).2⟩⟩
theorem Thru.can {g : List Gau} {b : List Int} (h : Thru g b) : ∀ i : Nat, i <= b.length -> Can (BE g b i) := h.thru
end Go.Bal

namespace Go.Bal
open Go Go.Sym Go.Proofs
def sR (r : Rt) : Prop := 0 < r.d /\ Nat.gcd r.n.natAbs r.d.natAbs = 1
theorem BWL {n d : Int} (h : 0 < d) : sR (FD n d) := by
 refine ⟨(iE h).1, ?_⟩
 have hp : 0 < Nat.gcd n.natAbs d.natAbs := Nat.gcd_pos_of_pos_right _ (by omega)
 show Nat.gcd (n.tdiv (Nat.gcd n.natAbs d.natAbs : Nat)).natAbs (d.tdiv (Nat.gcd n.natAbs d.natAbs : Nat)).natAbs = 1
 rw [Int.natAbs_tdiv, Int.natAbs_tdiv]
 show Nat.gcd (n.natAbs / Nat.gcd n.natAbs d.natAbs) (d.natAbs / Nat.gcd n.natAbs d.natAbs) = 1
 rw [Nat.gcd_div (Nat.gcd_dvd_left _ _) (Nat.gcd_dvd_right _ _)]
 exact Nat.div_self hp
theorem BOG {x : Ln} {t : Int} (h : DR x) : sR (BT x t) := by
 unfold BT CT
 split
 ·exact ⟨Int.one_pos, rfl⟩
 ·split
  ·exact ⟨Int.one_pos, rfl⟩
  ·rw [AJN]; exact BWL (BO h).1
theorem CUK {a b : Rt} (ha : sR a) (hb : sR b) (h : a.n * b.d = b.n * a.d) : a = b := by
 obtain ⟨a1, a2⟩ := ha
 obtain ⟨b1, b2⟩ := hb
 have h2 : a.n.natAbs * b.d.natAbs = b.n.natAbs * a.d.natAbs := by
  rw [<- Int.natAbs_mul, <- Int.natAbs_mul, h]
 have d1 : a.d.natAbs ∣ b.d.natAbs := by
  have : a.d.natAbs ∣ b.d.natAbs * a.n.natAbs := ⟨b.n.natAbs, by rw [Nat.mul_comm, h2, Nat.mul_comm]⟩
  exact Nat.Coprime.dvd_of_dvd_mul_right (Nat.Coprime.symm a2) this
 have d2 : b.d.natAbs ∣ a.d.natAbs := by
  have : b.d.natAbs ∣ a.d.natAbs * b.n.natAbs := ⟨a.n.natAbs, by rw [Nat.mul_comm, <- h2, Nat.mul_comm]⟩
  exact Nat.Coprime.dvd_of_dvd_mul_right (Nat.Coprime.symm b2) this
 have hd : a.d = b.d := by have := Nat.dvd_antisymm d1 d2; omega
 have hn : a.n = b.n := by
  rw [hd] at h
  exact Int.eq_of_mul_eq_mul_right (by omega) h
 cases a; cases b; simp_all
theorem BDV {a b : Rt} (ha : sR a) (hb : sR b) (h1 : HC a b) (h2 : HC b a) : a = b := CUK ha hb (Int.le_antisymm h1 h2)
theorem BDD {s : List Gau} {t : Int} (hs : ∀ g ∈ s, DJ g) (h : CR s t ≠ []) : sR (FU s t).lo /\ sR (FU s t).hi := by
 obtain ⟨⟨z, oz, pz, ez⟩, y, oy, py, ey⟩ := IC hs h
 rw [ez, ey]; exact ⟨BOG oz, BOG oy⟩
theorem CFW {a b : Bnd} (h1 : a.lo = b.lo) (h2 : a.hi = b.hi) : a = b := by cases a; cases b; simp_all
theorem CFG {s u : List Gau} {t v : Int} (hs : ∀ g ∈ s, DJ g) (hu : ∀ g ∈ u, DJ g) (ht : 0 <= t /\ t <= 2000) (hv : 0 <= v /\ v <= 2000) (f1 : ∀ f : Rl, f.ok -> f.passes s -> ∃ g : Rl, g.ok /\ g.passes u /\ g.num v = f.num t /\ g.w = f.w) (f2 : ∀ f : Rl, f.ok -> f.passes u -> ∃ g : Rl, g.ok /\ g.passes s /\ g.num t = f.num v /\ g.w = f.w) (hne : CR s t ≠ []) : CR u v ≠ [] /\ FU u v = FU s t := by
 obtain ⟨⟨z, oz, pz, ez⟩, y, oy, py, ey⟩ := IC hs hne
 obtain ⟨gz, g1, g2, g3, g4⟩ := f1 _ (BO oz) pz
 obtain ⟨gy, k1, k2, k3, k4⟩ := f1 _ (BO oy) py
 have hne2 : CR u v ≠ [] := Ge hu hv g1 g2
 obtain ⟨⟨z', oz', pz', ez'⟩, y', oy', py', ey'⟩ := IC hu hne2
 obtain ⟨hz, l1, l2, l3, l4⟩ := f2 _ (BO oz') pz'
 obtain ⟨hy, m1, m2, m3, m4⟩ := f2 _ (BO oy') py'
 have cl : ∀ {f g : Rl} {a b : Int}, g.num b = f.num a -> g.w = f.w -> BS g b = BS f a := λ {f g a b} e1 e2 => by unfold BS; rw [e1, e2]
 have i1 := cR hs ht hne
 have i2 := cR hu hv hne2
 have w1 := BDD hs hne
 have w2 := BDD hu hne2
 refine ⟨hne2, CFW (BDV w2.1 w1.1 ?_ ?_) (BDV w2.2 w1.2 ?_ ?_)⟩
 ·have := AQF hu hv g1 g2
  rw [cl g3 g4] at this
  rw [ez]; exact (Ud oz i2.1.1.1).2 this
 ·have := AQF hs ht l1 l2
  rw [cl l3 l4] at this
  rw [ez']; exact (Ud oz' i1.1.1.1).2 this
 ·have := BIZ hs ht m1 m2
  rw [cl m3 m4] at this
  rw [ey']; exact (oE oy' i1.2.1.1.1).2 this
 ·have := BIZ hu hv k1 k2
  rw [cl k3 k4] at this
  rw [ey]; exact (oE oy i2.2.1.1.1).2 this
theorem CSA {s : List Gau} (hs : ∀ g ∈ s, DJ g) {f : Rl} (hf : f.ok) (hp : f.passes s) : Can s := by
 by_cases hne : s = []
 ·subst hne
  have ho : DR (AL ⟨0, 0⟩) := Da ⟨Int.le_refl _, by show (0 : Int) <= 2000; omega, Int.le_refl _, by show (0 : Int) <= 200000; omega⟩
  exact ⟨_, ho, λ g hg => by cases hg⟩
 ·obtain ⟨g, hg, h1, _⟩ := ARG hf hp hne
  obtain ⟨y, _, y2, y3, _⟩ := Rh hs (aI hg) hf.1 hf.2 h1
  exact ⟨y, y2, y3⟩
end Go.Bal

namespace Go.Bal
open Go Go.Sym Go.Proofs
def cmb (a b c d : Int) (f g h k : Rl) : Rl := ⟨a * f.p + b * g.p + c * h.p + d * k.p, a * f.q + b * g.q + c * h.q + d * k.q, a * f.w + b * g.w + c * h.w + d * k.w⟩
theorem AIW (a b c d : Int) (f g h k : Rl) (u : Int) : (cmb a b c d f g h k).num u = a * f.num u + b * g.num u + c * h.num u + d * k.num u := by unfold cmb Rl.num; grind
theorem We {a : Int} {f : Rl} {s : Gau} (ha : 0 <= a) (h : a = 0 ∨ f.pass s) : s.lo * (a * f.w) <= a * f.num s.st /\ a * f.num s.st <= s.hi * (a * f.w) := by
 rcases h with rfl | ⟨h1, h2⟩
 ·simp
 ·have a1 := Int.mul_le_mul_of_nonneg_left h1 ha
  have a2 := Int.mul_le_mul_of_nonneg_left h2 ha
  have e1 : a * (s.lo * f.w) = s.lo * (a * f.w) := by grind
  have e2 : a * (s.hi * f.w) = s.hi * (a * f.w) := by grind
  omega
theorem BLP {a b c d : Int} {f g h k : Rl} {s : List Gau} (p : 0 <= a /\ 0 <= b /\ 0 <= c /\ 0 <= d) (h1 : a = 0 ∨ f.passes s) (h2 : b = 0 ∨ g.passes s) (h3 : c = 0 ∨ h.passes s) (h4 : d = 0 ∨ k.passes s) : (cmb a b c d f g h k).passes s := λ x hx => by
 have q1 := We p.1 (h1.imp id λ h => h x hx)
 have q2 := We p.2.1 (h2.imp id λ h => h x hx)
 have q3 := We p.2.2.1 (h3.imp id λ h => h x hx)
 have q4 := We p.2.2.2 (h4.imp id λ h => h x hx)
 unfold Rl.pass
 rw [AIW]
 show x.lo * (a * f.w + b * g.w + c * h.w + d * k.w) <= _ /\ _ <= x.hi * (a * f.w + b * g.w + c * h.w + d * k.w)
 have e1 : x.lo * (a * f.w + b * g.w + c * h.w + d * k.w) = x.lo * (a * f.w) + x.lo * (b * g.w) + x.lo * (c * h.w) + x.lo * (d * k.w) := by grind
 have e2 : x.hi * (a * f.w + b * g.w + c * h.w + d * k.w) = x.hi * (a * f.w) + x.hi * (b * g.w) + x.hi * (c * h.w) + x.hi * (d * k.w) := by grind
 omega
theorem rel3 (a b c d e f : Int) : ∃ x y z : Int, ¬(x = 0 /\ y = 0 /\ z = 0) /\ x * a + y * c + z * e = 0 /\ x * b + y * d + z * f = 0 := by
 by_cases h : c * f - d * e = 0 /\ e * b - f * a = 0 /\ a * d - b * c = 0
 ·obtain ⟨h1, h2, h3⟩ := h
  by_cases ha : a = 0
  ·by_cases hb : b = 0
   ·exact ⟨1, 0, 0, by omega, by rw [ha]; omega, by rw [hb]; omega⟩
   ·exact ⟨d, -b, 0, by omega, by grind, by grind⟩
  ·exact ⟨c, -a, 0, by omega, by grind, by grind⟩
 ·exact ⟨c * f - d * e, e * b - f * a, a * d - b * c, h, by grind, by grind⟩
theorem rel4 (f g h k : Rl) (hw : 0 < f.w) : ∃ a b c d : Int, ¬(a = 0 /\ b = 0 /\ c = 0 /\ d = 0) /\ cmb a b c d f g h k = ⟨0, 0, 0⟩ := by
 obtain ⟨x, y, z, h1, h2, h3⟩ := rel3 (f.w * g.p - g.w * f.p) (f.w * g.q - g.w * f.q) (f.w * h.p - h.w * f.p) (f.w * h.q - h.w * f.q) (f.w * k.p - k.w * f.p) (f.w * k.q - k.w * f.q)
 refine ⟨-(x * g.w + y * h.w + z * k.w), f.w * x, f.w * y, f.w * z, λ ⟨_, b1, b2, b3⟩ => h1 ?_, ?_⟩
 ·have hn : f.w ≠ 0 := by omega
  exact ⟨(Int.mul_eq_zero.1 b1).resolve_left hn, (Int.mul_eq_zero.1 b2).resolve_left hn, (Int.mul_eq_zero.1 b3).resolve_left hn⟩
 ·unfold cmb
  refine (Rl.mk.injEq _ _ _ _ _ _).mpr ⟨?_, ?_, ?_⟩
  ·grind
  ·grind
  ·grind
def poI (c : Int) : Int := if 0 < c then c else 0
def neI (c : Int) : Int := if c < 0 then -c else 0
theorem pneg (c : Int) : c = poI c - neI c /\ 0 <= poI c /\ 0 <= neI c /\ (c <= 0 -> poI c = 0) /\ (0 <= c -> neI c = 0) /\ (0 < c -> 0 < poI c) /\ (c < 0 -> 0 < neI c) := by
 unfold poI neI
 split <;> split <;> omega
theorem Uz (c p : Int) : c * p = poI c * p - neI c * p := by
 rw [<- Int.sub_mul, <- (pneg c).1]
theorem BYW {a b c d : Int} {f g h k : Rl} (e : cmb a b c d f g h k = ⟨0, 0, 0⟩) : cmb (poI a) (poI b) (poI c) (poI d) f g h k = cmb (neI a) (neI b) (neI c) (neI d) f g h k := by
 unfold cmb at e ⊢
 obtain ⟨e1, e2, e3⟩ := (Rl.mk.injEq _ _ _ _ _ _).mp e
 rw [Uz a, Uz b, Uz c, Uz d] at e1 e2 e3
 exact (Rl.mk.injEq _ _ _ _ _ _).mpr ⟨by omega, by omega, by omega⟩
theorem BFW {a b c d : Int} {f g h k : Rl} (p : 0 <= a /\ 0 <= b /\ 0 <= c /\ 0 <= d) (q : 0 < a ∨ 0 < b ∨ 0 < c ∨ 0 < d) (hf : f.ok) (hg : g.ok) (hh : h.ok) (hk : k.ok) : (cmb a b c d f g h k).ok := by
 obtain ⟨p1, p2, p3, p4⟩ := p
 have a1 := Int.mul_nonneg p1 (Int.le_of_lt hf.1)
 have a2 := Int.mul_nonneg p2 (Int.le_of_lt hg.1)
 have a3 := Int.mul_nonneg p3 (Int.le_of_lt hh.1)
 have a4 := Int.mul_nonneg p4 (Int.le_of_lt hk.1)
 have b1 := Int.mul_nonneg p1 hf.2
 have b2 := Int.mul_nonneg p2 hg.2
 have b3 := Int.mul_nonneg p3 hh.2
 have b4 := Int.mul_nonneg p4 hk.2
 refine ⟨?_, by show 0 <= a * f.q + b * g.q + c * h.q + d * k.q; omega⟩
 show 0 < a * f.w + b * g.w + c * h.w + d * k.w
 rcases q with q | q | q | q
 ·have := Int.mul_pos q hf.1; omega
 ·have := Int.mul_pos q hg.1; omega
 ·have := Int.mul_pos q hh.1; omega
 ·have := Int.mul_pos q hk.1; omega
end Go.Bal
