/- Package chart: what the program reckons, without wrapping (no program in sight). -/
import Derived.Test.YtdbjalgfomknhaaGreatChI
import Derived.Test.YtdbjalgfomknhaaGreatChPe
set_option linter.unusedVariables false
set_option linter.unusedSimpArgs false
namespace Go.Bal
open Go Go.Sym Go.Proofs
theorem BMO (a b : Int) : a <= MY a b /\ b <= MY a b := by unfold MY; split <;> omega
theorem BPH (a b : Int) : XC a b <= a /\ XC a b <= b := by unfold XC; split <;> omega
def I6 (B : Int) (s : Span) : Prop := (-B <= s.lo /\ s.lo <= B) /\ -B <= s.hi /\ s.hi <= B
def gpOk (s : Nat -> Span) (n : Nat) : Prop := ∀ g, g < n -> (0 <= (s g).lo /\ (s g).lo <= 200000000) /\ 0 <= (s g).hi /\ (s g).hi <= 200000000
theorem BJC {l : List Span} {s : Nat -> Span} {n : Nat} (hl : ∀ i, i <= n -> I6 1000000000 (gD l i)) (hs : gpOk s n) (hn : n < 40) : ∀ i, i <= n -> fwM l s i = fw (gD l) s i /\ I6 (1000000000 + 200000000 * i) (fw (gD l) s i)
 | 0, _ => ⟨rfl, by have := hl 0 (Nat.zero_le _); show I6 _ (gD l 0); unfold I6 at *; omega⟩
 | g + 1, h => by
  obtain ⟨e, hb⟩ := BJC hl hs hn g (by omega)
  have h1 := hl (g + 1) h
  have h2 := hs g (by omega)
  have e2 : addS (fw (gD l) s g) (s g) = ⟨(fw (gD l) s g).lo + (s g).lo, (fw (gD l) s g).hi + (s g).hi⟩ := by
   unfold addS wr I6 at *
   rw [TC (by omega) (by omega), TC (by omega) (by omega)]
  refine ⟨by show iV _ (addS (fwM l s g) (s g)) = _; rw [e, e2]; rfl, ?_⟩
  show I6 _ (iV _ _)
  unfold iV
  generalize fw (gD l) s g = F at *
  generalize gD l (g + 1) = L at *
  unfold I6 MY XC at *
  simp only at *
  constructor
  ·split <;> omega
  ·split <;> omega
theorem BFD {f s : Nat -> Span} {n : Nat} (hf : ∀ i, i <= n -> I6 10000000000 (f i)) (hs : gpOk s n) (hn : n < 40) : ∀ j, j <= n -> bkM f s n j = bk f s n j /\ I6 (10000000000 + 200000000 * j) (bk f s n j)
 | 0, _ => ⟨rfl, by have := hf n (Nat.le_refl _); show I6 _ (f n); unfold I6 at *; omega⟩
 | j + 1, h => by
  obtain ⟨e, hb⟩ := BFD hf hs hn j (by omega)
  have h1 := hf (n - (j + 1)) (by omega)
  have h2 := hs (n - (j + 1)) (by omega)
  have e2 : subS (bk f s n j) (s (n - (j + 1))) = ⟨(bk f s n j).lo - (s (n - (j + 1))).hi, (bk f s n j).hi - (s (n - (j + 1))).lo⟩ := by
   unfold subS wr I6 at *
   rw [TC (by omega) (by omega), TC (by omega) (by omega)]
  refine ⟨by show iV _ (subS (bkM f s n j) (s _)) = _; rw [e, e2]; rfl, ?_⟩
  show I6 _ (iV _ _)
  unfold iV
  generalize bk f s n j = F at *
  generalize f (n - (j + 1)) = L at *
  unfold I6 MY XC at *
  simp only at *
  constructor
  ·split <;> omega
  ·split <;> omega
theorem AXP {f g s : Nat -> Span} {n : Nat} (h : ∀ i, i <= n -> f i = g i) : ∀ j, j <= n -> bkM f s n j = bkM g s n j
 | 0, _ => h n (Nat.le_refl _)
 | j + 1, hj => by
  show iV _ _ = iV _ _
  rw [AXP h j (by omega), h _ (by omega)]
theorem AAF {w : Dk} {l : List Span} (h1 : 1 <= l.length) (h40 : l.length <= 40) (hl : ∀ i, i < l.length -> I6 1000000000 (gD l i)) (hs : gpOk (TM w) (l.length - 1)) {i : Nat} (hi : i < l.length) : gD (Fg w l) i = nar (gD l) (TM w) (l.length - 1) i := by
 have hf := BJC (l := l) (s := TM w) (n := l.length - 1) (λ i h => hl i (by omega)) hs (by omega)
 unfold Fg
 rw [KL _ _ _ hi, AXP (λ i h => (hf i h).1) _ (by omega)]
 refine (BFD (λ i h => ?_) hs (by omega) _ (by omega)).1
 have := (hf i h).2
 unfold I6 at *; omega
theorem AAC {l : List Span} : l.all He = true ↔ ∀ i, i < l.length -> (gD l i).lo <= (gD l i).hi := by
 rw [List.all_eq_true]
 constructor
 ·intro h i hi; exact of_decide_eq_true (h _ (HW hi))
 ·intro h x hx
  obtain ⟨i, hi, rfl⟩ := OV hx
  exact decide_eq_true (h i hi)
theorem ACU (w : Dk) (l : List Span) : (Fg w l).length = l.length := rng_length _ _
theorem BJR {w : Dk} {l : List Span} (h1 : 1 <= l.length) (h40 : l.length <= 40) (hl : ∀ i, i < l.length -> I6 1000000000 (gD l i)) (hs : gpOk (TM w) (l.length - 1)) (hle : ∀ g, g < l.length - 1 -> (TM w g).lo <= (TM w g).hi) : (Fg w l).all He = true ↔ ∃ t, Tr (gD l) (TM w) (l.length - 1) t := by
 rw [<- ARY hle, AAC, ACU]
 constructor
 ·intro h i hi; rw [<- AAF h1 h40 hl hs (by omega)]; exact h i (by omega)
 ·intro h i hi; rw [AAF h1 h40 hl hs hi]; exact h i (by omega)
end Go.Bal

namespace Go.Bal
open Go Go.Sym Go.Proofs
structure NtOk (m : Int) (n : Nt) : Prop where
 mi : 0 <= n.mi /\ n.mi < m
 t : 0 <= n.t.lo /\ n.t.lo <= n.t.hi /\ n.t.hi <= 10000000
 s : -3000000 <= n.s.lo /\ n.s.lo <= n.s.hi /\ n.s.hi <= 3000000
structure ChOk (c : Cht) : Prop where
 m : 1 <= c.ms.length /\ c.ms.length <= 40
 n : c.ns.length <= 20
 p : 1 <= c.p.lo /\ c.p.lo <= c.p.hi /\ c.p.hi <= 600
 b : -1000000 <= c.base /\ c.base <= 1000000
 sc : 0 <= c.scale /\ c.scale <= 1000
 of : 0 <= c.off /\ c.off <= 1000
 mks : ∀ i, i < c.ms.length -> (0 <= (gD c.ms i).pl /\ (gD c.ms i).pl <= 10000) /\ 0 <= (gD c.ms i).ht /\ (gD c.ms i).ht <= 1000
 up : ∀ i, i + 1 < c.ms.length -> (gD c.ms i).pl < (gD c.ms (i + 1)).pl
 nt : ∀ n ∈ c.ns, NtOk c.ms.length n
 one : ∀ i j, i < j -> j < c.ns.length -> (gD c.ns i).mi ≠ (gD c.ns j).mi
theorem KJ {a b c : Int} : TD a b c = true ↔ b <= a /\ a <= c := by unfold TD; simp
theorem Pa {α : Type} [Inhabited α] (a : α) (l : List α) (i : Nat) : gD (a :: l) (i + 1) = gD l i := by simp [gD]
theorem Vn {α : Type} [Inhabited α] (a : α) (l : List α) : gD (a :: l) 0 = a := by simp [gD]
theorem ANN : ∀ (l : List Mk) (a : Int), iZ a l = 0 ↔ (∀ i, i < l.length -> (0 <= (gD l i).pl /\ (gD l i).pl <= 10000) /\ 0 <= (gD l i).ht /\ (gD l i).ht <= 1000) /\ (0 < l.length -> a < (gD l 0).pl) /\ ∀ i, i + 1 < l.length -> (gD l i).pl < (gD l (i + 1)).pl
 | [], a => ⟨λ _ => ⟨λ i h => absurd h (Nat.not_lt_zero _), λ h => absurd h (Nat.not_lt_zero _), λ i h => absurd h (Nat.not_lt_zero _)⟩, λ _ => rfl⟩
 | m :: r, a => by
  have ih := ANN r m.pl
  show (bif (bif !TD m.pl 0 10000 then true else !TD m.ht 0 1000) then (30 : Int) else bif decide (m.pl <= a) then 9 else iZ m.pl r) = 0 ↔ _
  cases h1 : TD m.pl 0 10000 with
  | false =>
   refine ⟨λ h => (by cases h), λ h => ?_⟩
   have := h.1 0 (Nat.succ_pos _)
   rw [Vn] at this
   rw [KJ.2 this.1] at h1; cases h1
  | true =>
   cases h2 : TD m.ht 0 1000 with
   | false =>
    refine ⟨λ h => (by cases h), λ h => ?_⟩
    have := h.1 0 (Nat.succ_pos _)
    rw [Vn] at this
    rw [KJ.2 this.2] at h2; cases h2
   | true =>
    have i1 := KJ.1 h1
    have i2 := KJ.1 h2
    by_cases h3 : m.pl <= a
    ·refine ⟨λ h => (by rw [decide_eq_true h3] at h; cases h), λ h => ?_⟩
     have := h.2.1 (Nat.succ_pos _)
     rw [Vn] at this; omega
    ·rw [decide_eq_false h3]
     refine ⟨λ h => ?_, λ h => ih.2 ⟨λ i hi => ?_, λ hr => ?_, λ i hi => ?_⟩⟩
     ·obtain ⟨a1, a2, a3⟩ := ih.1 h
      refine ⟨λ i hi => ?_, λ _ => by rw [Vn]; omega, λ i hi => ?_⟩
      ·rcases i with _ | i
       ·rw [Vn]; exact ⟨i1, i2⟩
       ·rw [Pa]; exact a1 i (by simpa using hi)
      ·rcases i with _ | i
       ·rw [Vn, Pa]; exact a2 (by simpa using hi)
       ·rw [Pa, Pa]; exact a3 i (by simpa using hi)
     ·have := h.1 (i + 1) (Nat.succ_lt_succ hi)
      rw [Pa] at this; exact this
     ·have := h.2.2 0 (by simpa using hr)
      rw [Vn, Pa] at this; exact this
     ·have := h.2.2 (i + 1) (by simpa using hi)
      rw [Pa, Pa] at this; exact this
theorem AHQ {n : Nt} {m : Nat} (hm : m <= 1000) : RG n m = true ↔ NtOk m n := by
 unfold RG UG wr
 rw [TC (by omega) (by omega)]
 simp only [Bool.and_eq_true, KJ]
 constructor
 ·rintro ⟨⟨h1, h2⟩, h3⟩; exact ⟨by omega, by omega, by omega⟩
 ·rintro ⟨h1, h2, h3⟩; exact ⟨⟨by omega, by omega⟩, by omega⟩
theorem AFP {l : List Nt} {i : Nat} (hi : i < l.length) : iY l i = true ↔ ∀ j, j < i -> (gD l j).mi ≠ (gD l i).mi := by
 unfold iY
 rw [Bool.not_eq_true', List.any_eq_false]
 constructor
 ·intro h j hj e
  have hm : gD l j ∈ l.take i := by
   have : gD (l.take i) j = gD l j := by simp [gD, List.getD_eq_getElem?_getD, List.getElem?_take, hj]
   rw [<- this]; exact HW (by rw [List.length_take]; omega)
  exact h _ hm (by simpa using e)
 ·intro h x hx
  obtain ⟨j, hj, rfl⟩ := OV hx
  have hj : j < i := by rw [List.length_take] at hj; omega
  have : gD (l.take i) j = gD l j := by simp [gD, List.getD_eq_getElem?_getD, List.getElem?_take, hj]
  rw [this]; simpa using h j hj
theorem P9 {c : Cht} : VU c = 0 ↔ (1 <= c.ms.length /\ c.ms.length <= 40) /\ c.ns.length <= 20 /\ (1 <= c.p.lo /\ c.p.lo <= c.p.hi /\ c.p.hi <= 600) /\ (-1000000 <= c.base /\ c.base <= 1000000) /\ (0 <= c.scale /\ c.scale <= 1000) /\ 0 <= c.off /\ c.off <= 1000 := by
 unfold VU UG
 cases a1 : TD c.ms.length 1 40 with
 | false => refine ⟨λ h => (by simp at h), λ h => ?_⟩; rw [KJ.2 (by omega)] at a1; cases a1
 | true =>
  have i1 := KJ.1 a1
  by_cases a2 : (c.ns.length : Int) > 20
  ·refine ⟨λ h => (by simp [a2] at h), λ h => (by omega)⟩
  ·simp only [Bool.not_true, cond_false, a2, decide_false]
   cases b1 : TD c.p.lo 1 600 with
   | false => refine ⟨λ h => (by simp at h), λ h => ?_⟩; rw [KJ.2 (by omega)] at b1; cases b1
   | true =>
    cases b2 : TD c.p.hi c.p.lo 600 with
    | false => refine ⟨λ h => (by simp at h), λ h => ?_⟩; rw [KJ.2 (by omega)] at b2; cases b2
    | true =>
     cases b3 : TD c.base (-1000000) 1000000 with
     | false => refine ⟨λ h => (by simp at h), λ h => ?_⟩; rw [KJ.2 (by omega)] at b3; cases b3
     | true =>
      cases b4 : TD c.scale 0 1000 with
      | false => refine ⟨λ h => (by simp at h), λ h => ?_⟩; rw [KJ.2 (by omega)] at b4; cases b4
      | true =>
       cases b5 : TD c.off 0 1000 with
       | false => refine ⟨λ h => (by simp at h), λ h => ?_⟩; rw [KJ.2 (by omega)] at b5; cases b5
       | true =>
        have := KJ.1 b1; have := KJ.1 b2; have := KJ.1 b3; have := KJ.1 b4; have := KJ.1 b5
        exact ⟨λ _ => by omega, λ _ => rfl⟩
theorem MA {c : Cht} : AI c = 0 ↔ ChOk c := by
 constructor
 ·intro h
  obtain ⟨h1, h2, h3⟩ := OR h
  obtain ⟨q1, q2, q3, q4, q5, q6⟩ := P9.1 h1
  have hr := (eT h).2
  unfold AI at h
  rw [h1] at h
  cases hm : (iZ (-1) c.ms != 0) with
  | true => rw [hm] at h; have h : iZ (-1) c.ms = 0 := h; rw [h] at hm; cases hm
  | false =>
   have hm0 : iZ (-1) c.ms = 0 := by simpa using hm
   rw [hm] at h
   have ha : c.ns.all (λ n => RG n c.ms.length) = true := List.all_eq_true.2 hr
   rw [ha] at h
   cases hd : WZ (iY c.ns) c.ns.length with
   | false => rw [hd] at h; cases h
   | true =>
    obtain ⟨m1, _, m3⟩ := (ANN _ _).1 hm0
    exact ⟨q1, q2, q3, q4, q5, q6, m1, m3, λ n hn => (AHQ (by omega)).1 (hr n hn), λ i j hij hj => (AFP hj).1 (Ay.1 hd j hj) i hij⟩
 ·intro h
  have e1 := P9.2 ⟨h.m, h.n, h.p, h.b, h.sc, h.of⟩
  have e2 : iZ (-1) c.ms = 0 := (ANN _ _).2 ⟨h.mks, λ hp => by have := (h.mks 0 hp).1; omega, h.up⟩
  have e3 : c.ns.all (λ n => RG n c.ms.length) = true := List.all_eq_true.2 λ n hn => (AHQ (by have := h.m; omega)).2 (h.nt n hn)
  have e4 : WZ (iY c.ns) c.ns.length = true := Ay.2 λ j hj => (AFP hj).2 λ i hi => h.one i j hi hj
  unfold AI; rw [e1, e2, e3, e4]; rfl
theorem Ty {l : List Nt} {j : Int} : hasN l j = true ↔ ∃ n ∈ l, n.mi = j := by
 unfold hasN; rw [List.any_eq_true]; simp
theorem cL : ∀ {l : List Nt} {j : Int}, hasN l j = true -> ntOf l j ∈ l /\ (ntOf l j).mi = j
 | [], j, h => by simp [hasN] at h
 | n :: r, j, h => by
  show (bif hasN r j then ntOf r j else bif n.mi == j then n else default) ∈ n :: r /\ (bif hasN r j then ntOf r j else bif n.mi == j then n else default).mi = j
  cases hr : hasN r j with
  | true => obtain ⟨a, b⟩ := cL hr; exact ⟨List.mem_cons_of_mem _ a, b⟩
  | false =>
   have h2 : (n.mi == j || hasN r j) = true := h
   rw [hr, Bool.or_false] at h2
   rw [h2]; exact ⟨List.mem_cons_self .., by simpa using h2⟩
theorem ChOk.ntOf {c : Cht} (h : ChOk c) {n : Nt} (hn : n ∈ c.ns) : Bal.ntOf c.ns n.mi = n := by
 obtain ⟨h1, h2⟩ := cL (Ty.2 ⟨n, hn, rfl⟩)
 obtain ⟨i, hi, e1⟩ := OV hn
 obtain ⟨j, hj, e2⟩ := OV h1
 rcases Nat.lt_trichotomy i j with q | q | q
 ·exact absurd (by rw [e1, e2, h2]) (h.one i j q hj)
 ·subst q; rw [<- e2, e1]
 ·exact absurd (by rw [e1, e2, h2]) (h.one j i q hi)
end Go.Bal
