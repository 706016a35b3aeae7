/- Package chart: what a chart is that is right (no program in sight). -/
import Derived.Test.YtdbjalgfomknhaaChT2
set_option linter.unusedVariables false
set_option linter.unusedSimpArgs false
namespace Go.Bal
open Go Go.Sym Go.Proofs
structure NtOk (m : Int) (n : Nt) : Prop where
 mi : 0 <= n.mi /\ n.mi < m
 t : 0 <= n.t.lo /\ n.t.lo <= n.t.hi /\ n.t.hi <= 10000000
 s : -3000000 <= n.s.lo /\ n.s.lo <= n.s.hi /\ n.s.hi <= 3000000
structure ChOk (c : Cht) : Prop where
 m : 1 <= c.ms.length /\ c.ms.length <= 40
 n : c.ns.length <= 20
 p : 1 <= c.p.lo /\ c.p.lo <= c.p.hi /\ c.p.hi <= 600
 b : -1000000 <= c.base /\ c.base <= 1000000
 sc : 0 <= c.scale /\ c.scale <= 1000
 of : 0 <= c.off /\ c.off <= 1000
 mks : ∀ i, i < c.ms.length -> (0 <= (gD c.ms i).pl /\ (gD c.ms i).pl <= 10000) /\ 0 <= (gD c.ms i).ht /\ (gD c.ms i).ht <= 1000
 up : ∀ i, i + 1 < c.ms.length -> (gD c.ms i).pl < (gD c.ms (i + 1)).pl
 nt : ∀ n ∈ c.ns, NtOk c.ms.length n
 one : ∀ i j, i < j -> j < c.ns.length -> (gD c.ns i).mi ≠ (gD c.ns j).mi
theorem DE {a b c : Int} : HG a b c = true ↔ b <= a /\ a <= c := by unfold HG; simp
theorem NV {α : Type} [Inhabited α] (a : α) (l : List α) (i : Nat) : gD (a :: l) (i + 1) = gD l i := by simp [gD]
theorem SX {α : Type} [Inhabited α] (a : α) (l : List α) : gD (a :: l) 0 = a := by simp [gD]
theorem BMQ : ∀ (l : List Mk) (a : Int), mkC a l = 0 ↔ (∀ i, i < l.length -> (0 <= (gD l i).pl /\ (gD l i).pl <= 10000) /\ 0 <= (gD l i).ht /\ (gD l i).ht <= 1000) /\ (0 < l.length -> a < (gD l 0).pl) /\ ∀ i, i + 1 < l.length -> (gD l i).pl < (gD l (i + 1)).pl
 | [], a => ⟨λ _ => ⟨λ i h => absurd h (Nat.not_lt_zero _), λ h => absurd h (Nat.not_lt_zero _), λ i h => absurd h (Nat.not_lt_zero _)⟩, λ _ => rfl⟩
 | m :: r, a => by
  have ih := BMQ r m.pl
  show (bif (bif !HG m.pl 0 10000 then true else !HG m.ht 0 1000) then (30 : Int) else bif decide (m.pl <= a) then 9 else mkC m.pl r) = 0 ↔ _
  cases h1 : HG m.pl 0 10000 with
  | false =>
   refine ⟨λ h => (by cases h), λ h => ?_⟩
   have := h.1 0 (Nat.succ_pos _)
   rw [SX] at this
   rw [DE.2 this.1] at h1; cases h1
  | true =>
   cases h2 : HG m.ht 0 1000 with
   | false =>
    refine ⟨λ h => (by cases h), λ h => ?_⟩
    have := h.1 0 (Nat.succ_pos _)
    rw [SX] at this
    rw [DE.2 this.2] at h2; cases h2
   | true =>
    have i1 := DE.1 h1
    have i2 := DE.1 h2
    by_cases h3 : m.pl <= a
    ·refine ⟨λ h => (by rw [decide_eq_true h3] at h; cases h), λ h => ?_⟩
     have := h.2.1 (Nat.succ_pos _)
     rw [SX] at this; omega
    ·rw [decide_eq_false h3]
     refine ⟨λ h => ?_, λ h => ih.2 ⟨λ i hi => ?_, λ hr => ?_, λ i hi => ?_⟩⟩
     ·obtain ⟨a1, a2, a3⟩ := ih.1 h
      refine ⟨λ i hi => ?_, λ _ => by rw [SX]; omega, λ i hi => ?_⟩
      ·rcases i with _ | i
       ·rw [SX]; exact ⟨i1, i2⟩
       ·rw [NV]; exact a1 i (by simpa using hi)
      ·rcases i with _ | i
       ·rw [SX, NV]; exact a2 (by simpa using hi)
       ·rw [NV, NV]; exact a3 i (by simpa using hi)
     ·have := h.1 (i + 1) (Nat.succ_lt_succ hi)
      rw [NV] at this; exact this
     ·have := h.2.2 0 (by simpa using hr)
      rw [SX, NV] at this; exact this
     ·have := h.2.2 (i + 1) (by simpa using hi)
      rw [NV, NV] at this; exact this
theorem BEK {n : Nt} {m : Nat} (hm : m <= 1000) : CM n m = true ↔ NtOk m n := by
 unfold CM IP wr
 rw [FH (by omega) (by omega)]
 simp only [Bool.and_eq_true, DE]
 constructor
 ·rintro ⟨⟨h1, h2⟩, h3⟩; exact ⟨by omega, by omega, by omega⟩
 ·rintro ⟨h1, h2, h3⟩; exact ⟨⟨by omega, by omega⟩, by omega⟩
theorem BXK {l : List Nt} {i : Nat} (hi : i < l.length) : dupP l i = true ↔ ∀ j, j < i -> (gD l j).mi ≠ (gD l i).mi := by
 unfold dupP
 rw [Bool.not_eq_true', List.any_eq_false]
 constructor
 ·intro h j hj e
  have hm : gD l j ∈ l.take i := by
   have : gD (l.take i) j = gD l j := by simp [gD, List.getD_eq_getElem?_getD, List.getElem?_take, hj]
   rw [<- this]; exact NB (by rw [List.length_take]; omega)
  exact h _ hm (by simpa using e)
 ·intro h x hx
  obtain ⟨j, hj, rfl⟩ := PE hx
  have hj : j < i := by rw [List.length_take] at hj; omega
  have : gD (l.take i) j = gD l j := by simp [gD, List.getD_eq_getElem?_getD, List.getElem?_take, hj]
  rw [this]; simpa using h j hj
theorem BKD {c : Cht} : LJ c = 0 ↔ (1 <= c.ms.length /\ c.ms.length <= 40) /\ c.ns.length <= 20 /\ (1 <= c.p.lo /\ c.p.lo <= c.p.hi /\ c.p.hi <= 600) /\ (-1000000 <= c.base /\ c.base <= 1000000) /\ (0 <= c.scale /\ c.scale <= 1000) /\ 0 <= c.off /\ c.off <= 1000 := by
 unfold LJ IP
 cases a1 : HG c.ms.length 1 40 with
 | false => refine ⟨λ h => (by simp at h), λ h => ?_⟩; rw [DE.2 (by omega)] at a1; cases a1
 | true =>
  have i1 := DE.1 a1
  by_cases a2 : (c.ns.length : Int) > 20
  ·refine ⟨λ h => (by simp [a2] at h), λ h => (by omega)⟩
  ·simp only [Bool.not_true, cond_false, a2, decide_false]
   cases b1 : HG c.p.lo 1 600 with
   | false => refine ⟨λ h => (by simp at h), λ h => ?_⟩; rw [DE.2 (by omega)] at b1; cases b1
   | true =>
    cases b2 : HG c.p.hi c.p.lo 600 with
    | false => refine ⟨λ h => (by simp at h), λ h => ?_⟩; rw [DE.2 (by omega)] at b2; cases b2
    | true =>
     cases b3 : HG c.base (-1000000) 1000000 with
     | false => refine ⟨λ h => (by simp at h), λ h => ?_⟩; rw [DE.2 (by omega)] at b3; cases b3
     | true =>
      cases b4 : HG c.scale 0 1000 with
      | false => refine ⟨λ h => (by simp at h), λ h => ?_⟩; rw [DE.2 (by omega)] at b4; cases b4
      | true =>
       cases b5 : HG c.off 0 1000 with
       | false => refine ⟨λ h => (by simp at h), λ h => ?_⟩; rw [DE.2 (by omega)] at b5; cases b5
       | true =>
        have := DE.1 b1; have := DE.1 b2; have := DE.1 b3; have := DE.1 b4; have := DE.1 b5
        exact ⟨λ _ => by omega, λ _ => rfl⟩
theorem BBA {c : Cht} : AK c = 0 ↔ ChOk c := by
 constructor
 ·intro h
  obtain ⟨h1, h2, h3⟩ := ES h
  obtain ⟨q1, q2, q3, q4, q5, q6⟩ := BKD.1 h1
  have hr := (Xf h).2
  unfold AK at h
  rw [h1] at h
  cases hm : (mkC (-1) c.ms != 0) with
  | true => rw [hm] at h; have h : mkC (-1) c.ms = 0 := h; rw [h] at hm; cases hm
  | false =>
   have hm0 : mkC (-1) c.ms = 0 := by simpa using hm
   rw [hm] at h
   have ha : c.ns.all (λ n => CM n c.ms.length) = true := List.all_eq_true.2 hr
   rw [ha] at h
   cases hd : vB (dupP c.ns) c.ns.length with
   | false => rw [hd] at h; cases h
   | true =>
    obtain ⟨m1, _, m3⟩ := (BMQ _ _).1 hm0
    exact ⟨q1, q2, q3, q4, q5, q6, m1, m3, λ n hn => (BEK (by omega)).1 (hr n hn), λ i j hij hj => (BXK hj).1 (Cq.1 hd j hj) i hij⟩
 ·intro h
  have e1 := BKD.2 ⟨h.m, h.n, h.p, h.b, h.sc, h.of⟩
  have e2 : mkC (-1) c.ms = 0 := (BMQ _ _).2 ⟨h.mks, λ hp => by have := (h.mks 0 hp).1; omega, h.up⟩
  have e3 : c.ns.all (λ n => CM n c.ms.length) = true := List.all_eq_true.2 λ n hn => (BEK (by have := h.m; omega)).2 (h.nt n hn)
  have e4 : vB (dupP c.ns) c.ns.length = true := Cq.2 λ j hj => (BXK hj).2 λ i hi => h.one i j hi hj
  unfold AK; rw [e1, e2, e3, e4]; rfl
theorem Bd {l : List Nt} {j : Int} : hasN l j = true ↔ ∃ n ∈ l, n.mi = j := by
 unfold hasN; rw [List.any_eq_true]; simp
theorem Ao : ∀ {l : List Nt} {j : Int}, hasN l j = true -> ntOf l j ∈ l /\ (ntOf l j).mi = j
 | [], j, h => by simp [hasN] at h
 | n :: r, j, h => by
  show (bif hasN r j then ntOf r j else bif n.mi == j then n else default) ∈ n :: r /\ (bif hasN r j then ntOf r j else bif n.mi == j then n else default).mi = j
  cases hr : hasN r j with
  | true => obtain ⟨a, b⟩ := Ao hr; exact ⟨List.mem_cons_of_mem _ a, b⟩
  | false =>
   have h2 : (n.mi == j || hasN r j) = true := h
   rw [hr, Bool.or_false] at h2
   rw [h2]; exact ⟨List.mem_cons_self .., by simpa using h2⟩
theorem ChOk.ntOf {c : Cht} (h : ChOk c) {n : Nt} (hn : n ∈ c.ns) : Bal.ntOf c.ns n.mi = n := by
 obtain ⟨h1, h2⟩ := Ao (Bd.2 ⟨n, hn, rfl⟩)
 obtain ⟨i, hi, e1⟩ := PE hn
 obtain ⟨j, hj, e2⟩ := PE h1
 rcases Nat.lt_trichotomy i j with q | q | q
 ·exact absurd (by rw [e1, e2, h2]) (h.one i j q hj)
 ·subst q; rw [<- e2, e1]
 ·exact absurd (by rw [e1, e2, h2]) (h.one j i q hi)
end Go.Bal
