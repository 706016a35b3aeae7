/- Package chart: what the program reckons, without wrapping (no program in sight). -/
import Derived.Test.YtdbjalgfomknhaaGreatChI
import Derived.Test.YtdbjalgfomknhaaGreatChPd
set_option linter.unusedVariables false
set_option linter.unusedSimpArgs false
namespace Go.Bal
open Go Go.Sym Go.Proofs
theorem BGI {a b x y : Int} (h1 : x <= a /\ a <= y) (h2 : x <= b /\ b <= y) : x <= DP a b /\ DP a b <= y := by unfold DP; split <;> omega
theorem AGE (a b : Int) : a <= DP a b /\ b <= DP a b := by unfold DP; split <;> omega
theorem ARR (a b : Int) : KS a b <= a /\ KS a b <= b := by unfold KS; split <;> omega
def dC (B : Int) (s : Span) : Prop := (-B <= s.lo /\ s.lo <= B) /\ -B <= s.hi /\ s.hi <= B
def gpOk (s : Nat -> Span) (n : Nat) : Prop := ∀ g, g < n -> (0 <= (s g).lo /\ (s g).lo <= 200000000) /\ 0 <= (s g).hi /\ (s g).hi <= 200000000
theorem AZX {l : List Span} {s : Nat -> Span} {n : Nat} (hl : ∀ i, i <= n -> dC 1000000000 (gD l i)) (hs : gpOk s n) (hn : n < 40) : ∀ i, i <= n -> fwM l s i = fw (gD l) s i /\ dC (1000000000 + 200000000 * i) (fw (gD l) s i)
 | 0, _ => ⟨rfl, by have := hl 0 (Nat.zero_le _); show dC _ (gD l 0); unfold dC at *; omega⟩
 | g + 1, h => by
  obtain ⟨e, hb⟩ := AZX hl hs hn g (by omega)
  have h1 := hl (g + 1) h
  have h2 := hs g (by omega)
  have e2 : addS (fw (gD l) s g) (s g) = ⟨(fw (gD l) s g).lo + (s g).lo, (fw (gD l) s g).hi + (s g).hi⟩ := by
   unfold addS wr dC at *
   rw [Dh (by omega) (by omega), Dh (by omega) (by omega)]
  refine ⟨by show hJ _ (addS (fwM l s g) (s g)) = _; rw [e, e2]; rfl, ?_⟩
  show dC _ (hJ _ _)
  unfold hJ
  generalize fw (gD l) s g = F at *
  generalize gD l (g + 1) = L at *
  unfold dC DP KS at *
  simp only at *
  constructor
  ·split <;> omega
  ·split <;> omega
theorem AVJ {f s : Nat -> Span} {n : Nat} (hf : ∀ i, i <= n -> dC 10000000000 (f i)) (hs : gpOk s n) (hn : n < 40) : ∀ j, j <= n -> bkM f s n j = bk f s n j /\ dC (10000000000 + 200000000 * j) (bk f s n j)
 | 0, _ => ⟨rfl, by have := hf n (Nat.le_refl _); show dC _ (f n); unfold dC at *; omega⟩
 | j + 1, h => by
  obtain ⟨e, hb⟩ := AVJ hf hs hn j (by omega)
  have h1 := hf (n - (j + 1)) (by omega)
  have h2 := hs (n - (j + 1)) (by omega)
  have e2 : subS (bk f s n j) (s (n - (j + 1))) = ⟨(bk f s n j).lo - (s (n - (j + 1))).hi, (bk f s n j).hi - (s (n - (j + 1))).lo⟩ := by
   unfold subS wr dC at *
   rw [Dh (by omega) (by omega), Dh (by omega) (by omega)]
  refine ⟨by show hJ _ (subS (bkM f s n j) (s _)) = _; rw [e, e2]; rfl, ?_⟩
  show dC _ (hJ _ _)
  unfold hJ
  generalize bk f s n j = F at *
  generalize f (n - (j + 1)) = L at *
  unfold dC DP KS at *
  simp only at *
  constructor
  ·split <;> omega
  ·split <;> omega
theorem ARS {f g s : Nat -> Span} {n : Nat} (h : ∀ i, i <= n -> f i = g i) : ∀ j, j <= n -> bkM f s n j = bkM g s n j
 | 0, _ => h n (Nat.le_refl _)
 | j + 1, hj => by
  show hJ _ _ = hJ _ _
  rw [ARS h j (by omega), h _ (by omega)]
theorem tK {w : Dk} {l : List Span} (h1 : 1 <= l.length) (h40 : l.length <= 40) (hl : ∀ i, i < l.length -> dC 1000000000 (gD l i)) (hs : gpOk (SZ w) (l.length - 1)) {i : Nat} (hi : i < l.length) : gD (YW w l) i = nar (gD l) (SZ w) (l.length - 1) i := by
 have hf := AZX (l := l) (s := SZ w) (n := l.length - 1) (λ i h => hl i (by omega)) hs (by omega)
 unfold YW
 rw [IK _ _ _ hi, ARS (λ i h => (hf i h).1) _ (by omega)]
 refine (AVJ (λ i h => ?_) hs (by omega) _ (by omega)).1
 have := (hf i h).2
 unfold dC at *; omega
theorem tN {l : List Span} : l.all Fa = true ↔ ∀ i, i < l.length -> (gD l i).lo <= (gD l i).hi := by
 rw [List.all_eq_true]
 constructor
 ·intro h i hi; exact of_decide_eq_true (h _ (WR hi))
 ·intro h x hx
  obtain ⟨i, hi, rfl⟩ := YH hx
  exact decide_eq_true (h i hi)
theorem uF (w : Dk) (l : List Span) : (YW w l).length = l.length := rng_length _ _
theorem AND {w : Dk} {l : List Span} (h1 : 1 <= l.length) (h40 : l.length <= 40) (hl : ∀ i, i < l.length -> dC 1000000000 (gD l i)) (hs : gpOk (SZ w) (l.length - 1)) (hle : ∀ g, g < l.length - 1 -> (SZ w g).lo <= (SZ w g).hi) : (YW w l).all Fa = true ↔ ∃ t, Tr (gD l) (SZ w) (l.length - 1) t := by
 rw [<- Z0 hle, tN, uF]
 constructor
 ·intro h i hi; rw [<- tK h1 h40 hl hs (by omega)]; exact h i (by omega)
 ·intro h i hi; rw [tK h1 h40 hl hs hi]; exact h i (by omega)
end Go.Bal

namespace Go.Bal
open Go Go.Sym Go.Proofs
structure NtOk (m : Int) (n : Nt) : Prop where
 mi : 0 <= n.mi /\ n.mi < m
 t : 0 <= n.t.lo /\ n.t.lo <= n.t.hi /\ n.t.hi <= 10000000
 s : -3000000 <= n.s.lo /\ n.s.lo <= n.s.hi /\ n.s.hi <= 3000000
structure ChOk (c : Cht) : Prop where
 m : 1 <= c.ms.length /\ c.ms.length <= 40
 n : c.ns.length <= 20
 p : 1 <= c.p.lo /\ c.p.lo <= c.p.hi /\ c.p.hi <= 600
 b : -1000000 <= c.base /\ c.base <= 1000000
 sc : 0 <= c.scale /\ c.scale <= 1000
 of : 0 <= c.off /\ c.off <= 1000
 mks : ∀ i, i < c.ms.length -> (0 <= (gD c.ms i).pl /\ (gD c.ms i).pl <= 10000) /\ 0 <= (gD c.ms i).ht /\ (gD c.ms i).ht <= 1000
 up : ∀ i, i + 1 < c.ms.length -> (gD c.ms i).pl < (gD c.ms (i + 1)).pl
 nt : ∀ n ∈ c.ns, NtOk c.ms.length n
 one : ∀ i j, i < j -> j < c.ns.length -> (gD c.ns i).mi ≠ (gD c.ns j).mi
theorem MV {a b c : Int} : TP a b c = true ↔ b <= a /\ a <= c := by unfold TP; simp
theorem Oe {α : Type} [Inhabited α] (a : α) (l : List α) (i : Nat) : gD (a :: l) (i + 1) = gD l i := by simp [gD]
theorem Tt {α : Type} [Inhabited α] (a : α) (l : List α) : gD (a :: l) 0 = a := by simp [gD]
theorem AGI : ∀ (l : List Mk) (a : Int), iH a l = 0 ↔ (∀ i, i < l.length -> (0 <= (gD l i).pl /\ (gD l i).pl <= 10000) /\ 0 <= (gD l i).ht /\ (gD l i).ht <= 1000) /\ (0 < l.length -> a < (gD l 0).pl) /\ ∀ i, i + 1 < l.length -> (gD l i).pl < (gD l (i + 1)).pl
 | [], a => ⟨λ _ => ⟨λ i h => absurd h (Nat.not_lt_zero _), λ h => absurd h (Nat.not_lt_zero _), λ i h => absurd h (Nat.not_lt_zero _)⟩, λ _ => rfl⟩
 | m :: r, a => by
  have ih := AGI r m.pl
  show (bif (bif !TP m.pl 0 10000 then true else !TP m.ht 0 1000) then (30 : Int) else bif decide (m.pl <= a) then 9 else iH m.pl r) = 0 ↔ _
  cases h1 : TP m.pl 0 10000 with
  | false =>
   refine ⟨λ h => (by cases h), λ h => ?_⟩
   have := h.1 0 (Nat.succ_pos _)
   rw [Tt] at this
   rw [MV.2 this.1] at h1; cases h1
  | true =>
   cases h2 : TP m.ht 0 1000 with
   | false =>
    refine ⟨λ h => (by cases h), λ h => ?_⟩
    have := h.1 0 (Nat.succ_pos _)
    rw [Tt] at this
    rw [MV.2 this.2] at h2; cases h2
   | true =>
    have i1 := MV.1 h1
    have i2 := MV.1 h2
    by_cases h3 : m.pl <= a
    ·refine ⟨λ h => (by rw [decide_eq_true h3] at h; cases h), λ h => ?_⟩
     have := h.2.1 (Nat.succ_pos _)
     rw [Tt] at this; omega
    ·rw [decide_eq_false h3]
     refine ⟨λ h => ?_, λ h => ih.2 ⟨λ i hi => ?_, λ hr => ?_, λ i hi => ?_⟩⟩
     ·obtain ⟨a1, a2, a3⟩ := ih.1 h
      refine ⟨λ i hi => ?_, λ _ => by rw [Tt]; omega, λ i hi => ?_⟩
      ·rcases i with _ | i
       ·rw [Tt]; exact ⟨i1, i2⟩
       ·rw [Oe]; exact a1 i (by simpa using hi)
      ·rcases i with _ | i
       ·rw [Tt, Oe]; exact a2 (by simpa using hi)
       ·rw [Oe, Oe]; exact a3 i (by simpa using hi)
     ·have := h.1 (i + 1) (Nat.succ_lt_succ hi)
      rw [Oe] at this; exact this
     ·have := h.2.2 0 (by simpa using hr)
      rw [Tt, Oe] at this; exact this
     ·have := h.2.2 (i + 1) (by simpa using hi)
      rw [Oe, Oe] at this; exact this
theorem S0 {n : Nt} {m : Nat} (hm : m <= 1000) : SP n m = true ↔ NtOk m n := by
 unfold SP UT wr
 rw [Dh (by omega) (by omega)]
 simp only [Bool.and_eq_true, MV]
 constructor
 ·rintro ⟨⟨h1, h2⟩, h3⟩; exact ⟨by omega, by omega, by omega⟩
 ·rintro ⟨h1, h2, h3⟩; exact ⟨⟨by omega, by omega⟩, by omega⟩
theorem S7 {l : List Nt} {i : Nat} (hi : i < l.length) : iF l i = true ↔ ∀ j, j < i -> (gD l j).mi ≠ (gD l i).mi := by
 unfold iF
 rw [Bool.not_eq_true', List.any_eq_false]
 constructor
 ·intro h j hj e
  have hm : gD l j ∈ l.take i := by
   have : gD (l.take i) j = gD l j := by simp [gD, List.getD_eq_getElem?_getD, List.getElem?_take, hj]
   rw [<- this]; exact WR (by rw [List.length_take]; omega)
  exact h _ hm (by simpa using e)
 ·intro h x hx
  obtain ⟨j, hj, rfl⟩ := YH hx
  have hj : j < i := by rw [List.length_take] at hj; omega
  have : gD (l.take i) j = gD l j := by simp [gD, List.getD_eq_getElem?_getD, List.getElem?_take, hj]
  rw [this]; simpa using h j hj
theorem D7 {c : Cht} : WC c = 0 ↔ (1 <= c.ms.length /\ c.ms.length <= 40) /\ c.ns.length <= 20 /\ (1 <= c.p.lo /\ c.p.lo <= c.p.hi /\ c.p.hi <= 600) /\ (-1000000 <= c.base /\ c.base <= 1000000) /\ (0 <= c.scale /\ c.scale <= 1000) /\ 0 <= c.off /\ c.off <= 1000 := by
 unfold WC UT
 cases a1 : TP c.ms.length 1 40 with
 | false => refine ⟨λ h => (by simp at h), λ h => ?_⟩; rw [MV.2 (by omega)] at a1; cases a1
 | true =>
  have i1 := MV.1 a1
  by_cases a2 : (c.ns.length : Int) > 20
  ·refine ⟨λ h => (by simp [a2] at h), λ h => (by omega)⟩
  ·simp only [Bool.not_true, cond_false, a2, decide_false]
   cases b1 : TP c.p.lo 1 600 with
   | false => refine ⟨λ h => (by simp at h), λ h => ?_⟩; rw [MV.2 (by omega)] at b1; cases b1
   | true =>
    cases b2 : TP c.p.hi c.p.lo 600 with
    | false => refine ⟨λ h => (by simp at h), λ h => ?_⟩; rw [MV.2 (by omega)] at b2; cases b2
    | true =>
     cases b3 : TP c.base (-1000000) 1000000 with
     | false => refine ⟨λ h => (by simp at h), λ h => ?_⟩; rw [MV.2 (by omega)] at b3; cases b3
     | true =>
      cases b4 : TP c.scale 0 1000 with
      | false => refine ⟨λ h => (by simp at h), λ h => ?_⟩; rw [MV.2 (by omega)] at b4; cases b4
      | true =>
       cases b5 : TP c.off 0 1000 with
       | false => refine ⟨λ h => (by simp at h), λ h => ?_⟩; rw [MV.2 (by omega)] at b5; cases b5
       | true =>
        have := MV.1 b1; have := MV.1 b2; have := MV.1 b3; have := MV.1 b4; have := MV.1 b5
        exact ⟨λ _ => by omega, λ _ => rfl⟩
theorem PX {c : Cht} : AU c = 0 ↔ ChOk c := by
 constructor
 ·intro h
  obtain ⟨h1, h2, h3⟩ := RA h
  obtain ⟨q1, q2, q3, q4, q5, q6⟩ := D7.1 h1
  have hr := (oD h).2
  unfold AU at h
  rw [h1] at h
  cases hm : (iH (-1) c.ms != 0) with
  | true => rw [hm] at h; have h : iH (-1) c.ms = 0 := h; rw [h] at hm; cases hm
  | false =>
   have hm0 : iH (-1) c.ms = 0 := by simpa using hm
   rw [hm] at h
   have ha : c.ns.all (λ n => SP n c.ms.length) = true := List.all_eq_true.2 hr
   rw [ha] at h
   cases hd : Pf (iF c.ns) c.ns.length with
   | false => rw [hd] at h; cases h
   | true =>
    obtain ⟨m1, _, m3⟩ := (AGI _ _).1 hm0
    exact ⟨q1, q2, q3, q4, q5, q6, m1, m3, λ n hn => (S0 (by omega)).1 (hr n hn), λ i j hij hj => (S7 hj).1 (Oc.1 hd j hj) i hij⟩
 ·intro h
  have e1 := D7.2 ⟨h.m, h.n, h.p, h.b, h.sc, h.of⟩
  have e2 : iH (-1) c.ms = 0 := (AGI _ _).2 ⟨h.mks, λ hp => by have := (h.mks 0 hp).1; omega, h.up⟩
  have e3 : c.ns.all (λ n => SP n c.ms.length) = true := List.all_eq_true.2 λ n hn => (S0 (by have := h.m; omega)).2 (h.nt n hn)
  have e4 : Pf (iF c.ns) c.ns.length = true := Oc.2 λ j hj => (S7 hj).2 λ i hi => h.one i j hi hj
  unfold AU; rw [e1, e2, e3, e4]; rfl
theorem W2 {l : List Nt} {j : Int} : hasN l j = true ↔ ∃ n ∈ l, n.mi = j := by
 unfold hasN; rw [List.any_eq_true]; simp
theorem iR : ∀ {l : List Nt} {j : Int}, hasN l j = true -> ntOf l j ∈ l /\ (ntOf l j).mi = j
 | [], j, h => by simp [hasN] at h
 | n :: r, j, h => by
  show (bif hasN r j then ntOf r j else bif n.mi == j then n else default) ∈ n :: r /\ (bif hasN r j then ntOf r j else bif n.mi == j then n else default).mi = j
  cases hr : hasN r j with
  | true => obtain ⟨a, b⟩ := iR hr; exact ⟨List.mem_cons_of_mem _ a, b⟩
  | false =>
   have h2 : (n.mi == j || hasN r j) = true := h
   rw [hr, Bool.or_false] at h2
   rw [h2]; exact ⟨List.mem_cons_self .., by simpa using h2⟩
theorem ChOk.ntOf {c : Cht} (h : ChOk c) {n : Nt} (hn : n ∈ c.ns) : Bal.ntOf c.ns n.mi = n := by
 obtain ⟨h1, h2⟩ := iR (W2.2 ⟨n, hn, rfl⟩)
 obtain ⟨i, hi, e1⟩ := YH hn
 obtain ⟨j, hj, e2⟩ := YH h1
 rcases Nat.lt_trichotomy i j with q | q | q
 ·exact absurd (by rw [e1, e2, h2]) (h.one i j q hj)
 ·subst q; rw [<- e2, e1]
 ·exact absurd (by rw [e1, e2, h2]) (h.one j i q hi)
end Go.Bal
