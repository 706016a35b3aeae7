/- Package rating: no rating has fewer parts (no program in sight). -/
import Derived.Test.YtoihhodbkimedaaRT5
set_option linter.unusedVariables false
set_option linter.unusedSimpArgs false
namespace Go.Bal
open Go Go.Sym Go.Proofs
def BYG (g : List Gau) (b : List Int) (i : Nat) : List Gau := g.filter λ x => (decide (i = 0) || decide (gD b (i - 1) <= x.st)) && decide (x.st <= gD b i)
theorem yT {g : List Gau} {b : List Int} {i : Nat} {x : Gau} : x ∈ BYG g b i ↔ x ∈ g /\ (i ≠ 0 -> gD b (i - 1) <= x.st) /\ x.st <= gD b i := by
 unfold BYG
 rw [List.mem_filter, Bool.and_eq_true, Bool.or_eq_true, decide_eq_true_eq, decide_eq_true_eq, decide_eq_true_eq]
 constructor
 ·rintro ⟨h1, h2, h3⟩; exact ⟨h1, λ h => h2.resolve_left h, h3⟩
 ·rintro ⟨h1, h2, h3⟩
  refine ⟨h1, ?_, h3⟩
  by_cases h : i = 0
  ·exact .inl h
  ·exact .inr (h2 h)
structure Few (g : List Gau) (b : List Int) (l : List Ln) (k : List (List Int)) : Prop where
 lenl : l.length = b.length + 1
 lenk : k.length = b.length
 asc : asc b
 brk : ∀ x ∈ b, 1 <= x /\ x <= 2000
 few : b.length <= 24
 pass : ∀ i, i <= b.length -> DS (gD l i) /\ (DD (gD l i)).passes (CH g b i)
 bad : ∀ i, i < b.length -> ¬Can (BYG g b i)
 rise : ∀ x ∈ l, DS x
 parts : ∃ P : List Nat, PartsO g P b l.dropLast k
 one : ∀ x ∈ g, Can (g.filter λ y => y.st == x.st)
theorem wY {g : List Gau} {P : List Nat} {b : List Int} {l : List Ln} {k : List (List Int)} (h : PartsO g P b l k) : ∀ (j i : Nat), i < j -> j <= b.length -> gD P i < gD P j
 | 0, i, h1, _ => by omega
 | j + 1, i, h1, h2 => by
  have := (h.up j (by omega)).1
  by_cases he : i = j
  ·rw [he]; exact this
  ·have := wY h j i (by omega) (by omega); omega
theorem BLS {g : List Gau} {P : List Nat} {b : List Int} {l : List Ln} {k : List (List Int)} (h : PartsO g P b l k) : ∀ (m i : Nat), m <= b.length -> ∃ j, j <= m /\ gD P j <= i /\ (j < m -> i < gD P (j + 1))
 | 0, i, _ => ⟨0, Nat.le_refl _, by rw [h.zero]; omega, λ h => by omega⟩
 | m + 1, i, hm => by
  by_cases hc : gD P (m + 1) <= i
  ·exact ⟨m + 1, Nat.le_refl _, hc, λ h => by omega⟩
  ·obtain ⟨j, h1, h2, h3⟩ := BLS h m i (by omega)
   refine ⟨j, by omega, h2, λ _ => ?_⟩
   by_cases hj : j < m
   ·exact h3 hj
   ·have : j = m := by omega
    rw [this]; omega
theorem BTV {g : List Gau} {P : List Nat} {b : List Int} {l : List Ln} {k : List (List Int)} (h : PartsO g P b l k) {i j : Nat} (hi : i < g.length) (hj : j <= b.length) (h1 : gD P j <= i) (h2 : j < b.length -> i < gD P (j + 1)) : LI b (yJ g i) = j := by
 unfold LI
 refine yA hj (λ q hq => decide_eq_true ?_) (λ q hq hq2 => decide_eq_false ?_)
 ·obtain ⟨a1, a2, a3, a4⟩ := h.up q (by omega)
  rw [a4]
  refine ZM ?_ hi
  by_cases he : q + 1 = j
  ·rw [he]; exact h1
  ·have := wY h j (q + 1) (by omega) hj; omega
 ·obtain ⟨a1, a2, a3, a4⟩ := h.up q hq2
  rw [a4]
  have h3 := h2 (by omega)
  have h4 : i < gD P (q + 1) := by
   by_cases he : j = q
   ·rw [<- he]; exact h3
   ·have := wY h (q + 1) (j + 1) (by omega) (by omega); omega
  have := a3 i (gD P (q + 1)) h4 (Nat.le_refl _) a2
  omega
theorem CMG {g : List Gau} (hc : AT g = 0) : ((AU g).e = 6 /\ ∃ x ∈ g, ¬Can (g.filter λ y => y.st == x.st)) ∨ ((AU g).e = 0 /\ Few g (AU g).r.b (AU g).r.l (AU g).k) := by
 obtain ⟨⟨hn1, hn2⟩, ho⟩ := PS hc
 have e : AU g = SH g (AH g) (2 * g.length + 2) ini0 := by unfold AU; rw [hc]; rfl
 have h0 : StO g [0] ini0 := ⟨⟨rfl, rfl, rfl, rfl, λ i hi => by have : i < 0 := hi; omega, λ i hi => by have : i < 0 := hi; omega, λ i hi => by have : i < 0 := hi; omega, λ i hi => by have : i < 0 := hi; omega⟩, rfl, ⟨Nat.le_refl _, Nat.zero_le _⟩, λ i j hi => by have : i < 0 := hi; omega, ⟨VS ⟨Int.le_refl _, by show (0 : Int) <= 2000; omega, Int.le_refl _, by show (0 : Int) <= 200000; omega⟩, λ j _ hj => by have : j < 0 := hj; omega⟩, λ j hj => by have : j < 0 := hj; omega⟩
 have hr := BJB ho (2 * g.length + 2) ini0 [0] h0 (by unfold VZ ini0; rw [AQ]; simp)
 rw [<- e] at hr
 rcases hr with ⟨h1, i, hi, h2⟩ | ⟨h1, P, ln, hS, hl⟩
 ·exact .inl ⟨h1, gauO g i, ZA hi, h2⟩
 ·refine .inr ⟨h1, ?_⟩
  generalize hb : (AU g).r.b = b at *
  generalize hk : (AU g).k = k at *
  generalize hdl : (AU g).r.l = L at *
  generalize hd : L.dropLast = d at *
  have hp : PartsO g P b d k := hS.parts
  have hle : gD P b.length <= g.length := hS.le.1
  have hln : DS ln /\ ∀ j, gD P b.length <= j -> j < g.length -> (DD ln).pass (gauO g j) := hS.line
  have hlen : L.length = b.length + 1 := by rw [hl, List.length_append, hp.lenl]; rfl
  have hgd : ∀ i, i < b.length -> gD L i = gD d i := λ i hi => by rw [hl, HP, if_pos (by rw [hp.lenl]; exact hi)]
  have hgl : gD L b.length = ln := by rw [hl, HP, if_neg (by rw [hp.lenl]; omega), if_pos hp.lenl.symm]
  have bval : ∀ i, i < b.length -> 1 <= gD b i /\ gD b i <= 2000 := λ i hi => by
   obtain ⟨a1, a2, a3, a4⟩ := hp.up i hi
   have h3 := a3 0 (gD P (i + 1)) (by omega) (Nat.le_refl _) a2
   have h4 := ho _ (ZA (g := g) (i := 0) (by omega))
   have h5 := ho _ (ZA a2)
   have h6 : 0 <= yJ g 0 := h4.1
   have h7 : yJ g (gD P (i + 1)) <= 2000 := h5.2.1
   rw [a4]; omega
  have mlt : b.length < g.length ∨ b.length = 0 := by
   by_cases hz : b.length = 0
   ·exact .inr hz
   ·have key : ∀ j, j <= b.length -> j <= gD P j := λ j => by
     induction j with
     | zero => exact λ _ => Nat.zero_le _
     | succ j ih => exact λ hj => by have := ih (by omega); have := (hp.up j (by omega)).1; omega
    have := key b.length (Nat.le_refl _)
    have h9 := (hp.up (b.length - 1) (by omega)).2.1
    rw [show b.length - 1 + 1 = b.length by omega] at h9
    exact .inl (by omega)
  have hpass : ∀ i, i <= b.length -> DS (gD L i) /\ (DD (gD L i)).passes (CH g b i) := λ i hi => by
   refine ⟨?_, λ x hx => ?_⟩
   ·by_cases hl2 : i < b.length
    ·rw [hgd i hl2]; exact (hp.line i hl2).1
    ·rw [show i = b.length by omega, hgl]; exact hln.1
   ·obtain ⟨hx1, hx2⟩ := DU.1 hx
    obtain ⟨j, hj, rfl⟩ := AZF hx1
    obtain ⟨q, q1, q2, q3⟩ := BLS hp b.length j (Nat.le_refl _)
    have := BTV hp hj q1 q2 q3
    have hx2 : (LI b (yJ g j) : Int) = i := hx2
    have hqi : q = i := by omega
    subst hqi
    by_cases hl2 : q < b.length
    ·rw [hgd q hl2]; exact (hp.line q hl2).2 j q2 (q3 hl2)
    ·have hqb : q = b.length := by omega
     rw [hqb, hgl]; exact hln.2 j (hqb ▸ q2) hj
  refine ⟨hlen, hp.lenk, ?_, λ x hx => by obtain ⟨i, hi, rfl⟩ := TD hx; exact bval i hi, by omega, hpass, λ i hi hcan => ?_, λ x hx => ?_, ⟨P, hd ▸ hp⟩, λ x hx => ?_⟩
  ·refine List.pairwise_iff_getElem.2 λ i j hi hj hij => ?_
   obtain ⟨a1, a2, a3, a4⟩ := hp.up i hi
   obtain ⟨c1, c2, c3, c4⟩ := hp.up j hj
   have e1 : b[i] = gD b i := by simp [gD, List.getD_eq_getElem?_getD, hi]
   have e2 : b[j] = gD b j := by simp [gD, List.getD_eq_getElem?_getD, hj]
   rw [e1, e2, a4, c4]
   exact c3 _ _ (wY hp (j + 1) (i + 1) (by omega) (by omega)) (Nat.le_refl _) c2
  ·obtain ⟨a1, a2, a3, a4⟩ := hp.up i hi
   obtain ⟨n1, n2⟩ := AFB a2
   obtain ⟨b1, b2⟩ := BXI a2
   refine hp.bad i hi (hcan.mono λ x hx => ?_)
   obtain ⟨j, j1, j2, rfl⟩ := (ALE n2).1 hx
   refine yT.2 ⟨ZA (by omega), λ h0 => ?_, ?_⟩
   ·have e2 := (hp.up (i - 1) (by omega)).2.2.2
    rw [show i - 1 + 1 = i by omega] at e2
    rw [e2]
    exact ZM j1 (by omega)
   ·show yJ g j <= _
    rw [a4]
    by_cases hj : j <= gD P (i + 1)
    ·exact ZM hj a2
    ·rw [b2 j (by omega) j2]; exact Int.le_refl _
  ·obtain ⟨i, hi, rfl⟩ := TD hx
   exact (hpass i (by omega)).1
  ·obtain ⟨j, hj, rfl⟩ := AZF hx
   exact hS.one j hj
theorem ATW (b : List Int) {t u : Int} (h : t <= u) : LI b t <= LI b u := List.countP_mono_left λ x _ hx => by
 rw [decide_eq_true_eq] at *; omega
theorem Few.least {g : List Gau} {b : List Int} {l : List Ln} {k : List (List Int)} (h : Few g b l k) {c : List Int} (hc : ∀ i : Nat, i <= c.length -> Can (CH g c i)) : b.length <= c.length := by
 have key : ∀ i, i < b.length -> i + 1 <= LI c (gD b i) := λ i => by
  induction i with
  | zero =>
   intro hi
   refine Classical.byContradiction λ hz => ?_
   refine h.bad 0 hi ((hc 0 (Nat.zero_le _)).mono λ x hx => ?_)
   obtain ⟨h1, _, h3⟩ := yT.1 hx
   have := ATW c h3
   exact DU.2 ⟨h1, by omega⟩
  | succ i ih =>
   intro hi
   have h0 := ih (by omega)
   refine Classical.byContradiction λ hz => ?_
   refine h.bad (i + 1) hi ((hc (i + 1) (by have := RS c (gD b i); omega)).mono λ x hx => ?_)
   obtain ⟨h1, h2, h3⟩ := yT.1 hx
   have h2 := h2 (by omega)
   rw [show i + 1 - 1 = i by omega] at h2
   have a1 := ATW c h2
   have a2 := ATW c h3
   exact DU.2 ⟨h1, by omega⟩
 by_cases hz : b.length = 0
 ·omega
 ·have := key (b.length - 1) (by omega)
  have := RS c (gD b (b.length - 1))
  omega
theorem Ic {g : List Gau} (hc : AT g = 0) {c : List Int} (h : ∀ i : Nat, i <= c.length -> Can (CH g c i)) : (AU g).e = 0 /\ Few g (AU g).r.b (AU g).r.l (AU g).k /\ (AU g).r.b.length <= c.length := by
 rcases CMG hc with ⟨_, x, hx, hn⟩ | ⟨h1, h2⟩
 ·exfalso
  refine hn ((h (LI c x.st) (RS _ _)).mono λ y hy => ?_)
  obtain ⟨y1, y2⟩ := List.mem_filter.1 hy
  have y2 := eq_of_beq y2
  exact DU.2 ⟨y1, by rw [y2]⟩
 ·exact ⟨h1, h2, h2.least h⟩
theorem Few.thru {g : List Gau} {b : List Int} {l : List Ln} {k : List (List Int)} (h : Few g b l k) (hc : AT g = 0) : Thru g b :=
 ⟨(PS hc).1, (PS hc).2, h.asc, h.brk, h.few, λ i hi => ⟨_, (h.pass i hi).1, (h.pass i hi).2⟩⟩
theorem Thru.can {g : List Gau} {b : List Int} (h : Thru g b) : ∀ i : Nat, i <= b.length -> Can (CH g b i) := h.thru
end Go.Bal
