/- Package chart: what the program reckons, without wrapping (no program in sight). -/
import Derived.Test.YtdbjalgfomknhaaChI
set_option linter.unusedVariables false
set_option linter.unusedSimpArgs false
namespace Go.Bal
open Go Go.Sym Go.Proofs
theorem BRF (a b : Int) : a <= TM a b /\ b <= TM a b := by unfold TM; split <;> omega
theorem CDD (a b : Int) : Gd a b <= a /\ Gd a b <= b := by unfold Gd; split <;> omega
def bdS (B : Int) (s : Span) : Prop := (-B <= s.lo /\ s.lo <= B) /\ -B <= s.hi /\ s.hi <= B
def gpOk (s : Nat -> Span) (n : Nat) : Prop := ∀ g, g < n -> (0 <= (s g).lo /\ (s g).lo <= 200000000) /\ 0 <= (s g).hi /\ (s g).hi <= 200000000
theorem BTX {l : List Span} {s : Nat -> Span} {n : Nat} (hl : ∀ i, i <= n -> bdS 1000000000 (gD l i)) (hs : gpOk s n) (hn : n < 40) : ∀ i, i <= n -> fwM l s i = fw (gD l) s i /\ bdS (1000000000 + 200000000 * i) (fw (gD l) s i)
 | 0, _ => ⟨rfl, by have := hl 0 (Nat.zero_le _); show bdS _ (gD l 0); unfold bdS at *; omega⟩
 | g + 1, h => by
  obtain ⟨e, hb⟩ := BTX hl hs hn g (by omega)
  have h1 := hl (g + 1) h
  have h2 := hs g (by omega)
  have e2 : addS (fw (gD l) s g) (s g) = ⟨(fw (gD l) s g).lo + (s g).lo, (fw (gD l) s g).hi + (s g).hi⟩ := by
   unfold addS wr bdS at *
   rw [PE (by omega) (by omega), PE (by omega) (by omega)]
  refine ⟨by show com _ (addS (fwM l s g) (s g)) = _; rw [e, e2]; rfl, ?_⟩
  show bdS _ (com _ _)
  unfold com
  generalize fw (gD l) s g = F at *
  generalize gD l (g + 1) = L at *
  unfold bdS TM Gd at *
  simp only at *
  constructor
  ·split <;> omega
  ·split <;> omega
theorem BVD {f s : Nat -> Span} {n : Nat} (hf : ∀ i, i <= n -> bdS 10000000000 (f i)) (hs : gpOk s n) (hn : n < 40) : ∀ j, j <= n -> bkM f s n j = bk f s n j /\ bdS (10000000000 + 200000000 * j) (bk f s n j)
 | 0, _ => ⟨rfl, by have := hf n (Nat.le_refl _); show bdS _ (f n); unfold bdS at *; omega⟩
 | j + 1, h => by
  obtain ⟨e, hb⟩ := BVD hf hs hn j (by omega)
  have h1 := hf (n - (j + 1)) (by omega)
  have h2 := hs (n - (j + 1)) (by omega)
  have e2 : subS (bk f s n j) (s (n - (j + 1))) = ⟨(bk f s n j).lo - (s (n - (j + 1))).hi, (bk f s n j).hi - (s (n - (j + 1))).lo⟩ := by
   unfold subS wr bdS at *
   rw [PE (by omega) (by omega), PE (by omega) (by omega)]
  refine ⟨by show com _ (subS (bkM f s n j) (s _)) = _; rw [e, e2]; rfl, ?_⟩
  show bdS _ (com _ _)
  unfold com
  generalize bk f s n j = F at *
  generalize f (n - (j + 1)) = L at *
  unfold bdS TM Gd at *
  simp only at *
  constructor
  ·split <;> omega
  ·split <;> omega
theorem BRJ {f g s : Nat -> Span} {n : Nat} (h : ∀ i, i <= n -> f i = g i) : ∀ j, j <= n -> bkM f s n j = bkM g s n j
 | 0, _ => h n (Nat.le_refl _)
 | j + 1, hj => by
  show com _ _ = com _ _
  rw [BRJ h j (by omega), h _ (by omega)]
theorem BPV {w : Dk} {l : List Span} (h1 : 1 <= l.length) (h40 : l.length <= 40) (hl : ∀ i, i < l.length -> bdS 1000000000 (gD l i)) (hs : gpOk (Jo w) (l.length - 1)) {i : Nat} (hi : i < l.length) : gD (nS w l) i = nar (gD l) (Jo w) (l.length - 1) i := by
 have hf := BTX (l := l) (s := Jo w) (n := l.length - 1) (λ i h => hl i (by omega)) hs (by omega)
 unfold nS
 rw [EK _ _ _ hi, BRJ (λ i h => (hf i h).1) _ (by omega)]
 refine (BVD (λ i h => ?_) hs (by omega) _ (by omega)).1
 have := (hf i h).2
 unfold bdS at *; omega
theorem AXD {l : List Span} : l.all jN = true ↔ ∀ i, i < l.length -> (gD l i).lo <= (gD l i).hi := by
 rw [List.all_eq_true]
 constructor
 ·intro h i hi; exact of_decide_eq_true (h _ (HP hi))
 ·intro h x hx
  obtain ⟨i, hi, rfl⟩ := XR hx
  exact decide_eq_true (h i hi)
theorem BYS (w : Dk) (l : List Span) : (nS w l).length = l.length := rng_length _ _
theorem CKE {w : Dk} {l : List Span} (h1 : 1 <= l.length) (h40 : l.length <= 40) (hl : ∀ i, i < l.length -> bdS 1000000000 (gD l i)) (hs : gpOk (Jo w) (l.length - 1)) (hle : ∀ g, g < l.length - 1 -> (Jo w g).lo <= (Jo w g).hi) : (nS w l).all jN = true ↔ ∃ t, Tr (gD l) (Jo w) (l.length - 1) t := by
 rw [<- BYQ hle, AXD, BYS]
 constructor
 ·intro h i hi; rw [<- BPV h1 h40 hl hs (by omega)]; exact h i (by omega)
 ·intro h i hi; rw [BPV h1 h40 hl hs hi]; exact h i (by omega)
end Go.Bal

namespace Go.Bal
open Go Go.Sym Go.Proofs
structure NtOk (m : Int) (n : Nt) : Prop where
 mi : 0 <= n.mi /\ n.mi < m
 t : 0 <= n.t.lo /\ n.t.lo <= n.t.hi /\ n.t.hi <= 10000000
 s : -3000000 <= n.s.lo /\ n.s.lo <= n.s.hi /\ n.s.hi <= 3000000
structure ChOk (c : Cht) : Prop where
 m : 1 <= c.ms.length /\ c.ms.length <= 40
 n : c.ns.length <= 20
 p : 1 <= c.p.lo /\ c.p.lo <= c.p.hi /\ c.p.hi <= 600
 b : -1000000 <= c.base /\ c.base <= 1000000
 sc : 0 <= c.scale /\ c.scale <= 1000
 of : 0 <= c.off /\ c.off <= 1000
 mks : ∀ i, i < c.ms.length -> (0 <= (gD c.ms i).pl /\ (gD c.ms i).pl <= 10000) /\ 0 <= (gD c.ms i).ht /\ (gD c.ms i).ht <= 1000
 up : ∀ i, i + 1 < c.ms.length -> (gD c.ms i).pl < (gD c.ms (i + 1)).pl
 nt : ∀ n ∈ c.ns, NtOk c.ms.length n
 one : ∀ i j, i < j -> j < c.ns.length -> (gD c.ns i).mi ≠ (gD c.ns j).mi
theorem RU {a b c : Int} : Fw a b c = true ↔ b <= a /\ a <= c := by unfold Fw; simp
theorem Qu {α : Type} [Inhabited α] (a : α) (l : List α) (i : Nat) : gD (a :: l) (i + 1) = gD l i := by simp [gD]
theorem Zp {α : Type} [Inhabited α] (a : α) (l : List α) : gD (a :: l) 0 = a := by simp [gD]
theorem BIB : ∀ (l : List Mk) (a : Int), mkC a l = 0 ↔ (∀ i, i < l.length -> (0 <= (gD l i).pl /\ (gD l i).pl <= 10000) /\ 0 <= (gD l i).ht /\ (gD l i).ht <= 1000) /\ (0 < l.length -> a < (gD l 0).pl) /\ ∀ i, i + 1 < l.length -> (gD l i).pl < (gD l (i + 1)).pl
 | [], a => ⟨λ _ => ⟨λ i h => absurd h (Nat.not_lt_zero _), λ h => absurd h (Nat.not_lt_zero _), λ i h => absurd h (Nat.not_lt_zero _)⟩, λ _ => rfl⟩
 | m :: r, a => by
  have ih := BIB r m.pl
  show (bif (bif !Fw m.pl 0 10000 then true else !Fw m.ht 0 1000) then (30 : Int) else bif decide (m.pl <= a) then 9 else mkC m.pl r) = 0 ↔ _
  cases h1 : Fw m.pl 0 10000 with
  | false =>
   refine ⟨λ h => (by cases h), λ h => ?_⟩
   have := h.1 0 (Nat.succ_pos _)
   rw [Zp] at this
   rw [RU.2 this.1] at h1; cases h1
  | true =>
   cases h2 : Fw m.ht 0 1000 with
   | false =>
    refine ⟨λ h => (by cases h), λ h => ?_⟩
    have := h.1 0 (Nat.succ_pos _)
    rw [Zp] at this
    rw [RU.2 this.2] at h2; cases h2
   | true =>
    have i1 := RU.1 h1
    have i2 := RU.1 h2
    by_cases h3 : m.pl <= a
    ·refine ⟨λ h => (by rw [decide_eq_true h3] at h; cases h), λ h => ?_⟩
     have := h.2.1 (Nat.succ_pos _)
     rw [Zp] at this; omega
    ·rw [decide_eq_false h3]
     refine ⟨λ h => ?_, λ h => ih.2 ⟨λ i hi => ?_, λ hr => ?_, λ i hi => ?_⟩⟩
     ·obtain ⟨a1, a2, a3⟩ := ih.1 h
      refine ⟨λ i hi => ?_, λ _ => by rw [Zp]; omega, λ i hi => ?_⟩
      ·rcases i with _ | i
       ·rw [Zp]; exact ⟨i1, i2⟩
       ·rw [Qu]; exact a1 i (by simpa using hi)
      ·rcases i with _ | i
       ·rw [Zp, Qu]; exact a2 (by simpa using hi)
       ·rw [Qu, Qu]; exact a3 i (by simpa using hi)
     ·have := h.1 (i + 1) (Nat.succ_lt_succ hi)
      rw [Qu] at this; exact this
     ·have := h.2.2 0 (by simpa using hr)
      rw [Zp, Qu] at this; exact this
     ·have := h.2.2 (i + 1) (by simpa using hi)
      rw [Qu, Qu] at this; exact this
theorem BAU {n : Nt} {m : Nat} (hm : m <= 1000) : WJ n m = true ↔ NtOk m n := by
 unfold WJ Qc wr
 rw [PE (by omega) (by omega)]
 simp only [Bool.and_eq_true, RU]
 constructor
 ·rintro ⟨⟨h1, h2⟩, h3⟩; exact ⟨by omega, by omega, by omega⟩
 ·rintro ⟨h1, h2, h3⟩; exact ⟨⟨by omega, by omega⟩, by omega⟩
theorem BJZ {l : List Nt} {i : Nat} (hi : i < l.length) : dupP l i = true ↔ ∀ j, j < i -> (gD l j).mi ≠ (gD l i).mi := by
 unfold dupP
 rw [Bool.not_eq_true', List.any_eq_false]
 constructor
 ·intro h j hj e
  have hm : gD l j ∈ l.take i := by
   have : gD (l.take i) j = gD l j := by simp [gD, List.getD_eq_getElem?_getD, List.getElem?_take, hj]
   rw [<- this]; exact HP (by rw [List.length_take]; omega)
  exact h _ hm (by simpa using e)
 ·intro h x hx
  obtain ⟨j, hj, rfl⟩ := XR hx
  have hj : j < i := by rw [List.length_take] at hj; omega
  have : gD (l.take i) j = gD l j := by simp [gD, List.getD_eq_getElem?_getD, List.getElem?_take, hj]
  rw [this]; simpa using h j hj
theorem BEN {c : Cht} : Sd c = 0 ↔ (1 <= c.ms.length /\ c.ms.length <= 40) /\ c.ns.length <= 20 /\ (1 <= c.p.lo /\ c.p.lo <= c.p.hi /\ c.p.hi <= 600) /\ (-1000000 <= c.base /\ c.base <= 1000000) /\ (0 <= c.scale /\ c.scale <= 1000) /\ 0 <= c.off /\ c.off <= 1000 := by
 unfold Sd Qc
 cases a1 : Fw c.ms.length 1 40 with
 | false => refine ⟨λ h => (by simp at h), λ h => ?_⟩; rw [RU.2 (by omega)] at a1; cases a1
 | true =>
  have i1 := RU.1 a1
  by_cases a2 : (c.ns.length : Int) > 20
  ·refine ⟨λ h => (by simp [a2] at h), λ h => (by omega)⟩
  ·simp only [Bool.not_true, cond_false, a2, decide_false]
   cases b1 : Fw c.p.lo 1 600 with
   | false => refine ⟨λ h => (by simp at h), λ h => ?_⟩; rw [RU.2 (by omega)] at b1; cases b1
   | true =>
    cases b2 : Fw c.p.hi c.p.lo 600 with
    | false => refine ⟨λ h => (by simp at h), λ h => ?_⟩; rw [RU.2 (by omega)] at b2; cases b2
    | true =>
     cases b3 : Fw c.base (-1000000) 1000000 with
     | false => refine ⟨λ h => (by simp at h), λ h => ?_⟩; rw [RU.2 (by omega)] at b3; cases b3
     | true =>
      cases b4 : Fw c.scale 0 1000 with
      | false => refine ⟨λ h => (by simp at h), λ h => ?_⟩; rw [RU.2 (by omega)] at b4; cases b4
      | true =>
       cases b5 : Fw c.off 0 1000 with
       | false => refine ⟨λ h => (by simp at h), λ h => ?_⟩; rw [RU.2 (by omega)] at b5; cases b5
       | true =>
        have := RU.1 b1; have := RU.1 b2; have := RU.1 b3; have := RU.1 b4; have := RU.1 b5
        exact ⟨λ _ => by omega, λ _ => rfl⟩
theorem Zh {c : Cht} : BF c = 0 ↔ ChOk c := by
 constructor
 ·intro h
  obtain ⟨h1, h2, h3⟩ := QE h
  obtain ⟨q1, q2, q3, q4, q5, q6⟩ := BEN.1 h1
  have hr := (fD h).2
  unfold BF at h
  rw [h1] at h
  cases hm : (mkC (-1) c.ms != 0) with
  | true => rw [hm] at h; have h : mkC (-1) c.ms = 0 := h; rw [h] at hm; cases hm
  | false =>
   have hm0 : mkC (-1) c.ms = 0 := by simpa using hm
   rw [hm] at h
   have ha : c.ns.all (λ n => WJ n c.ms.length) = true := List.all_eq_true.2 hr
   rw [ha] at h
   cases hd : allB (dupP c.ns) c.ns.length with
   | false => rw [hd] at h; cases h
   | true =>
    obtain ⟨m1, _, m3⟩ := (BIB _ _).1 hm0
    exact ⟨q1, q2, q3, q4, q5, q6, m1, m3, λ n hn => (BAU (by omega)).1 (hr n hn), λ i j hij hj => (BJZ hj).1 (nW.1 hd j hj) i hij⟩
 ·intro h
  have e1 := BEN.2 ⟨h.m, h.n, h.p, h.b, h.sc, h.of⟩
  have e2 : mkC (-1) c.ms = 0 := (BIB _ _).2 ⟨h.mks, λ hp => by have := (h.mks 0 hp).1; omega, h.up⟩
  have e3 : c.ns.all (λ n => WJ n c.ms.length) = true := List.all_eq_true.2 λ n hn => (BAU (by have := h.m; omega)).2 (h.nt n hn)
  have e4 : allB (dupP c.ns) c.ns.length = true := nW.2 λ j hj => (BJZ hj).2 λ i hi => h.one i j hi hj
  unfold BF; rw [e1, e2, e3, e4]; rfl
theorem Ss {l : List Nt} {j : Int} : hasN l j = true ↔ ∃ n ∈ l, n.mi = j := by
 unfold hasN; rw [List.any_eq_true]; simp
theorem J7 : ∀ {l : List Nt} {j : Int}, hasN l j = true -> ntOf l j ∈ l /\ (ntOf l j).mi = j
 | [], j, h => by simp [hasN] at h
 | n :: r, j, h => by
  show (bif hasN r j then ntOf r j else bif n.mi == j then n else default) ∈ n :: r /\ (bif hasN r j then ntOf r j else bif n.mi == j then n else default).mi = j
  cases hr : hasN r j with
  | true => obtain ⟨a, b⟩ := J7 hr; exact ⟨List.mem_cons_of_mem _ a, b⟩
  | false =>
   have h2 : (n.mi == j || hasN r j) = true := h
   rw [hr, Bool.or_false] at h2
   rw [h2]; exact ⟨List.mem_cons_self .., by simpa using h2⟩
theorem ChOk.ntOf {c : Cht} (h : ChOk c) {n : Nt} (hn : n ∈ c.ns) : Bal.ntOf c.ns n.mi = n := by
 obtain ⟨h1, h2⟩ := J7 (Ss.2 ⟨n, hn, rfl⟩)
 obtain ⟨i, hi, e1⟩ := XR hn
 obtain ⟨j, hj, e2⟩ := XR h1
 rcases Nat.lt_trichotomy i j with q | q | q
 ·exact absurd (by rw [e1, e2, h2]) (h.one i j q hj)
 ·subst q; rw [<- e2, e1]
 ·exact absurd (by rw [e1, e2, h2]) (h.one j i q hi)
end Go.Bal

namespace Go.Bal
open Go Go.Sym Go.Proofs
def Pq (c : Cht) (g : Nat) : Int := (gD c.ms (g + 1)).pl - (gD c.ms g).pl
def gapP (c : Cht) (sp : Nat -> Bool) (g : Nat) : Span := ⟨c.p.lo * Pq c g, bif sp g then 200000000 else c.p.hi * Pq c g⟩
theorem ChOk.far {c : Cht} (h : ChOk c) {g : Nat} (hg : g + 1 < c.ms.length) : 1 <= Pq c g /\ Pq c g <= 10000 := by
 have h1 := h.up g hg
 have h2 := h.mks g (by omega)
 have h3 := h.mks (g + 1) hg
 unfold Pq; omega
theorem ChOk.gap {c : Cht} (h : ChOk c) (sp : Nat -> Bool) {g : Nat} (hg : g + 1 < c.ms.length) : (1 <= c.p.lo * Pq c g /\ c.p.lo * Pq c g <= 6000000) /\ (c.p.lo * Pq c g <= c.p.hi * Pq c g /\ c.p.hi * Pq c g <= 6000000) /\ (gapP c sp g).lo <= (gapP c sp g).hi := by
 obtain ⟨f1, f2⟩ := h.far hg
 obtain ⟨p1, p2, p3⟩ := h.p
 have a1 := mulb (a := c.p.lo) (b := Pq c g) (A := 600) (B := 10000) (by omega) (by omega) (by omega) f2
 have a2 := mulb (a := c.p.hi) (b := Pq c g) (A := 600) (B := 10000) (by omega) (by omega) (by omega) f2
 have a3 : c.p.lo * Pq c g <= c.p.hi * Pq c g := Int.mul_le_mul_of_nonneg_right p2 (by omega)
 have a4 : 1 * 1 <= c.p.lo * Pq c g := Int.mul_le_mul p1 f1 (by omega) (by omega)
 refine ⟨by omega, by omega, ?_⟩
 show c.p.lo * Pq c g <= bif sp g then 200000000 else c.p.hi * Pq c g
 cases sp g
 ·exact a3
 ·show _ <= (200000000 : Int); omega
theorem AXQ {w : Dk} (h : ChOk w.c) {g : Nat} (hg : g + 1 < w.c.ms.length) : Jo w g = gapP w.c w.sp g := by
 obtain ⟨f1, f2⟩ := h.far hg
 obtain ⟨a1, a2, _⟩ := h.gap w.sp hg
 have e : farM w.c g = Pq w.c g := by unfold farM wr; unfold Pq at *; exact PE (by omega) (by omega)
 unfold Jo gapP
 rw [e]
 unfold wr
 rw [PE (by omega) (by omega), PE (by omega) (by omega)]
theorem CBD {w : Dk} (h : ChOk w.c) : gpOk (Jo w) (w.c.ms.length - 1) := λ g hg => by
 obtain ⟨a1, a2, a3⟩ := h.gap w.sp (g := g) (by omega)
 rw [AXQ h (by omega)]
 refine ⟨⟨by show 0 <= w.c.p.lo * Pq w.c g; omega, by show w.c.p.lo * Pq w.c g <= _; omega⟩, by have : (gapP w.c w.sp g).lo = w.c.p.lo * Pq w.c g := rfl; omega, ?_⟩
 show (bif w.sp g then 200000000 else w.c.p.hi * Pq w.c g) <= _
 cases w.sp g
 ·show w.c.p.hi * Pq w.c g <= _; omega
 ·show (200000000 : Int) <= _; omega
theorem CBL {w : Dk} (h : ChOk w.c) : ∀ g, g < w.c.ms.length - 1 -> (Jo w g).lo <= (Jo w g).hi := λ g hg => by
 rw [AXQ h (by omega)]; exact (h.gap w.sp (by omega)).2.2
theorem AXN {c : Cht} (h : ChOk c) (j : Int) : bdS 100000000 (bD c j) /\ (bD c j).lo <= (bD c j).hi := by
 unfold bD
 cases hj : hasN c.ns j with
 | false => show bdS 100000000 farS /\ farS.lo <= farS.hi; exact ⟨⟨by decide, by decide⟩, by decide⟩
 | true =>
  obtain ⟨hm, _⟩ := J7 hj
  have := (h.nt _ hm).t
  refine ⟨?_, this.2.1⟩
  show bdS _ (ntOf c.ns j).t
  unfold bdS; omega
theorem BHI {c : Cht} {i : Nat} (hi : i < c.ms.length) : gD (vB c) i = bD c i := EK _ _ _ hi
theorem Tr.ext2 {l l' s s' : Nat -> Span} {n : Nat} {t : Nat -> Int} (h : Tr l s n t) (h1 : ∀ i, i <= n -> l i = l' i) (h2 : ∀ g, g < n -> s g = s' g) : Tr l' s' n t := ⟨λ i hi => by rw [<- h1 i hi]; exact h.at_ i hi, λ g hg => by rw [<- h2 g hg]; exact h.gap g hg⟩
def TrC (c : Cht) (sp : Nat -> Bool) (t : Nat -> Int) : Prop := Tr (λ i => bD c i) (gapP c sp) (c.ms.length - 1) t
theorem BXM {w : Dk} (h : ChOk w.c) {t : Nat -> Int} : Tr (gD (vB w.c)) (Jo w) (w.c.ms.length - 1) t ↔ TrC w.c w.sp t := by
 have := h.m
 exact ⟨λ q => q.ext2 (λ i hi => BHI (by omega)) (λ g hg => AXQ h (by omega)), λ q => q.ext2 (λ i hi => (BHI (by omega)).symm) (λ g hg => (AXQ h (by omega)).symm)⟩
theorem CBO {c : Cht} (h : ChOk c) : ∀ i, i < (vB c).length -> bdS 1000000000 (gD (vB c) i) := λ i hi => by
 rw [Ro] at hi
 rw [BHI hi]
 have := (AXN h i).1
 unfold bdS at *; omega
theorem AAF {w : Dk} (h : ChOk w.c) : (HG w).2 = true ↔ ZC w.c = true /\ ∃ t, TrC w.c w.sp t := by
 have hm := h.m
 have hk := CKE (w := w) (l := vB w.c) (by rw [Ro]; omega) (by rw [Ro]; omega) (CBO h) (by rw [Ro]; exact CBD h) (by rw [Ro]; exact CBL h)
 rw [Ro] at hk
 unfold HG
 cases hs : ZC w.c with
 | false => exact ⟨λ h => (by cases h), λ h => (by cases h.1)⟩
 | true =>
  show (nS w (vB w.c)).all jN = true ↔ _
  rw [hk]
  exact ⟨λ ⟨t, ht⟩ => ⟨rfl, t, (BXM h).1 ht⟩, λ ⟨_, t, ht⟩ => ⟨t, (BXM h).2 ht⟩⟩
end Go.Bal

namespace Go.Bal
open Go Go.Sym Go.Proofs
theorem TrC.note {c : Cht} {sp : Nat -> Bool} {t : Nat -> Int} (h : TrC c sp t) {i : Nat} (hi : i < c.ms.length) : (bD c i).has (t i) := h.at_ i (by omega)
end Go.Bal
