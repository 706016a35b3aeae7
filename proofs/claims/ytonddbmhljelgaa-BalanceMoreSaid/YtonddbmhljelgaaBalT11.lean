/- Package balance: what costs nothing lies in all spans; ends of spans. -/
import Derived.Test.YtonddbmhljelgaaBalT8
set_option linter.unusedVariables false
set_option linter.unusedSimpArgs false
namespace Go.Bal
open Go
theorem JG {α : Type} {f : α -> Int} : ∀ {l : List α}, (∀ w ∈ l, 0 <= f w) -> 0 <= FE f l
 | [], _ => Int.le_refl _
 | w :: l, h => by
  simp only [FE]
  have h1 := JG (f := f) λ x hx => h x (List.mem_cons_of_mem w hx)
  have h2 := h w (by simp)
  omega
theorem WC {α : Type} {f : α -> Int} : ∀ {l : List α}, (∀ w ∈ l, 0 <= f w) -> FE f l = 0 -> ∀ w ∈ l, f w = 0
 | [], _, _, w, hw => by cases hw
 | x :: l, h, hz, w, hw => by
  simp only [FE] at hz
  have h1 := JG (f := f) λ y hy => h y (List.mem_cons_of_mem x hy)
  have h2 := h x (by simp)
  rcases List.mem_cons.1 hw with rfl | hw
  ·omega
  ·exact WC (λ y hy => h y (List.mem_cons_of_mem x hy)) (by omega) w hw
theorem Fv {α : Type} {f : α -> Int} {K : Int} : ∀ {l : List α}, (∀ w ∈ l, f w <= K) -> FE f l <= K * l.length
 | [], _ => by simp [FE]
 | w :: l, h => by
  simp only [FE]
  have h1 := Fv (f := f) (K := K) λ x hx => h x (List.mem_cons_of_mem w hx)
  have h2 := h w (by simp)
  rw [List.length_cons, Int.natCast_add, Int.mul_add]
  omega
theorem ZO : ∀ (l : List Int) (a : Int), (∀ x ∈ l, 0 <= x) -> 0 <= a -> a + FE (λ x => x) l <= 9000000000000000000 -> ES a l = a + FE (λ x => x) l
 | [], a, _, _, _ => by simp [ES, FE]
 | x :: l, a, h, ha, hs => by
  have hx := h x (by simp)
  have hl := JG (f := λ x : Int => x) λ y hy => h y (List.mem_cons_of_mem x hy)
  simp only [FE] at hs
  simp only [ES, FE]
  rw [DR (by omega) (by omega), ZO l (a + x) (λ y hy => h y (List.mem_cons_of_mem x hy)) (by omega) (by omega)]
  omega
theorem Ob {x : Int} {s : Span} (hx : -1000000000000000 <= x /\ x <= 1000000000000000) (hs : -100000000 <= s.lo /\ s.hi <= 100000000) (hs' : s.lo <= 100000000 /\ -100000000 <= s.hi) : SC x s = FY x s := by
 unfold SC FY
 rw [DR (n := s.lo - x) (by omega) (by omega), DR (n := x - s.hi) (by omega) (by omega)]
 omega
theorem SY (f : Nat -> Int) : ∀ n, FE (λ x => x) ((List.range n).map f) = BQ n f
 | 0 => rfl
 | n + 1 => by
  rw [List.range_succ, List.map_append, QB, SY f n]
  simp [FE, BQ]
theorem NZ (f : Nat -> Int) (a : Nat) : ∀ b, BQ (a + b) f = BQ a f + BQ b λ j => f (a + j)
 | 0 => by simp [BQ]
 | b + 1 => by
  rw [show a + (b + 1) = a + b + 1 from rfl, BQ, NZ f a b, BQ]
  omega
theorem Dq {N : NetL} {d : Desk} (hl : Alike (AQ N) d) : d.all.length = N.r.length + N.g.length /\ (∀ i, i < N.r.length -> (gD d.all i).sp = (gD N.r i).sp /\ (gD d.all i).fr = (gD N.r i).fr /\ (gD d.all i).to = (gD N.r i).to) /\
  ∀ i, i < N.g.length -> (gD d.all (N.r.length + i)).sp = gD N.g i /\ (gD d.all (N.r.length + i)).fr = N.g.length /\ (gD d.all (N.r.length + i)).to = i := by
 have hlen := BV N
 refine ⟨hl.len.trans hlen, λ i hi => ?_, λ i hi => ?_⟩
 ·obtain ⟨a, b, e⟩ := hl.way i (by omega)
  rw [a, b, e, EV, MD _ (by rw [FN]; omega), SK hi]
  exact ⟨rfl, rfl, rfl⟩
 ·obtain ⟨a, b, e⟩ := hl.way (N.r.length + i) (by omega)
  rw [a, b, e, EV, MD _ (by rw [FN]; omega), PJ hi]
  exact ⟨rfl, rfl, rfl⟩
structure GoodW (N : NetL) : Prop where
 g1 : 1 <= N.g.length
 g8 : N.g.length <= 8
 r14 : N.r.length <= 14
 g : ∀ i, i < N.g.length -> (-100000000 <= (gD N.g i).lo /\ (gD N.g i).lo <= (gD N.g i).hi) /\ (gD N.g i).hi <= 100000000
 r : ∀ i, i < N.r.length -> ((-100000000 <= (gD N.r i).sp.lo /\ (gD N.r i).sp.lo <= (gD N.r i).sp.hi) /\ (gD N.r i).sp.hi <= 100000000) /\ (0 <= (gD N.r i).fr /\ (gD N.r i).fr < N.g.length) /\ (0 <= (gD N.r i).to /\ (gD N.r i).to < N.g.length) /\ (gD N.r i).fr ≠ (gD N.r i).to
theorem Good.w {N : NetL} (h : Good N) : GoodW N :=
 ⟨h.g1, h.g8, h.r14, λ i hi => by have := h.g i hi; omega, λ i hi => by obtain ⟨a, b⟩ := h.r i hi; exact ⟨by omega, b⟩⟩
theorem Ck {N : NetL} {d : Desk} (hg : GoodW N) (hl : Alike (AQ N) d) (hb : ∀ i, i < d.all.length -> -1000000000000000 <= (gD d.all i).now /\ (gD d.all i).now <= 1000000000000000) : IJ N (AP d) = LX d.all := by
 obtain ⟨h1, h2, h3⟩ := Dq hl
 have hnR : d.nR = N.r.length := hl.nR
 have hout : d.out = N.g.length := hl.out
 have hf : ∀ i, i < N.r.length -> SC (gD (AP d).f i) (gD N.r i).sp = FY (gD d.all i).now (gD d.all i).sp := λ i hi => by
  have e : gD (AP d).f i = (gD d.all i).now := by
   show gD ((List.range d.nR).map λ i => (gD d.all i).now) i = _
   exact DU (λ i => (gD d.all i).now) (by omega)
  rw [e, (h2 i hi).1]
  have := (hg.r i hi).1
  exact Ob (hb i (by omega)) (by omega) (by omega)
 have ht : ∀ i, i < N.g.length -> SC (gD (AP d).t i) (gD N.g i) = FY (gD d.all (N.r.length + i)).now (gD d.all (N.r.length + i)).sp := λ i hi => by
  have e : gD (AP d).t i = (gD d.all (N.r.length + i)).now := by
   show gD ((List.range d.out).map λ i => (gD d.all (d.nR + i)).now) i = _
   rw [DU (λ i => (gD d.all (d.nR + i)).now) (by omega), hnR]
  rw [e, (h3 i hi).1]
  have := hg.g i hi
  exact Ob (hb _ (by omega)) (by omega) (by omega)
 have hs : FE (λ x => x) (FU N (AP d)) = LX d.all := by
  unfold FU LX
  rw [QB, SY, SY, NA, h1, NZ]
  rw [BL hf, BL ht]
 have hn : ∀ x ∈ FU N (AP d), 0 <= x := λ x hx => by
  unfold FU at hx
  rcases List.mem_append.1 hx with hx | hx <;> obtain ⟨i, hi, rfl⟩ := List.mem_map.1 hx <;> rw [List.mem_range] at hi
  ·rw [hf i hi]; unfold FY; omega
  ·rw [ht i hi]; unfold FY; omega
 have hcap : LX d.all <= 2000000000000000 * d.all.length := Fv λ w hw => by
  obtain ⟨i, hi, rfl⟩ := NR hw
  have h4 := hb i hi
  have h5 : -100000000 <= (gD d.all i).sp.lo /\ (gD d.all i).sp.hi <= 100000000 /\ (gD d.all i).sp.lo <= (gD d.all i).sp.hi := by
   by_cases hr : i < N.r.length
   ·rw [(h2 i hr).1]; have := (hg.r i hr).1; omega
   ·obtain ⟨j, rfl⟩ : ∃ j, i = N.r.length + j := ⟨i - N.r.length, by omega⟩
    rw [(h3 j (by omega)).1]; have := hg.g j (by omega); omega
  unfold FY; omega
 have h8 := hg.g8
 have h14 := hg.r14
 have h0 : 0 <= LX d.all := JG λ w _ => by unfold FY; omega
 unfold IJ
 rw [ZO _ 0 hn (by omega) (by rw [hs]; omega), hs]
 omega
end Go.Bal

namespace Go.Bal
open Go
theorem YL {N : NetL} (h : AD N = 0) : CJ N = LX (AA N).all := by
 obtain ⟨h1, π, hs⟩ := DE h
 rw [(WA h1).2]
 refine Ck (DD h).w hs.like λ i hi => ?_
 have := (hs.fit.small (by omega) hi).now
 omega
theorem OW {N : NetL} (h : AD N = 0) : 0 <= CJ N := by
 rw [YL h]
 exact JG λ w _ => by unfold FY; omega
theorem Uq {N : NetL} (h : AD N = 0) (hc : ¬ 0 < CJ N) : InS (AA N) := by
 obtain ⟨h1, π, hs⟩ := DE h
 have h0 := OW h
 have hz : LX (AA N).all = 0 := by rw [<- YL h]; omega
 refine ⟨hs.fit.lay.ok, hs.fit.sp, λ i hi => ?_, hs.zero⟩
 have := WC (λ w _ => by unfold FY; omega) hz (gD (AA N).all i) (Dg hi)
 unfold FY at this
 omega
theorem Na {d : Desk} (h : InS d) {at' : Nat} (ha : at' < d.all.length) (hw : ∀ d', InS d' -> Alike d d' -> (gD d'.all at').now - (gD d.all at').now < 100000000 /\ (gD d.all at').now - (gD d'.all at').now < 100000000) :
  ∃ s dl dh, EI d at' = some s /\ (InS dl /\ Alike d dl /\ (gD dl.all at').now = s.lo) /\ (InS dh /\ Alike d dh /\ (gD dh.all at').now = s.hi) /\ ∀ d', InS d' -> Alike d d' -> s.lo <= (gD d'.all at').now /\ (gD d'.all at').now <= s.hi := by
 have hfu : (3000000000 : Int) < fuel := by unfold fuel; decide
 have e : ((at' : Nat) : Int).toNat = at' := by omega
 have hr : 0 <= (at' : Int) /\ (at' : Int) < d.all.length := by omega
 obtain ⟨dl, tl, l1, l2, l3, l4, l5, l6, l7⟩ := WH (at' := (at' : Int)) (up := false) (most := 100000000) (by omega) fuel d 0 h hr (by omega) (by omega)
 obtain ⟨dh, th, h1, h2, h3, h4, h5, h6, h7⟩ := WH (at' := (at' : Int)) (up := true) (most := 100000000) (by omega) fuel d 0 h hr (by omega) (by omega)
 rw [e] at l6 h6
 simp only [Bool.false_eq_true, if_false, if_true] at l6 h6
 have wl := hw dl l2 l3
 have wh := hw dh h2 h3
 have sl := l7.resolve_left (by omega)
 have sh := h7.resolve_left (by omega)
 have back : ∀ {d1 d' : Desk}, Alike d d1 -> Alike d d' -> Alike d1 d' := λ a b => ⟨b.out.trans a.out.symm, b.nR.trans a.nR.symm, b.len.trans a.len.symm, λ i hi => by
  obtain ⟨a1, a2, a3⟩ := a.way i (by rw [<- a.len]; exact hi)
  obtain ⟨b1, b2, b3⟩ := b.way i (by rw [<- a.len]; exact hi)
  exact ⟨b1.trans a1.symm, b2.trans a2.symm, b3.trans a3.symm⟩⟩
 refine ⟨⟨(gD dl.all at').now, (gD dh.all at').now⟩, dl, dh, ?_, ⟨l2, l3, rfl⟩, ⟨h2, h3, rfl⟩, λ d' i1 i2 => ?_⟩
 ·unfold EI LC
  rw [l1, h1]
  simp only [BW, e]
 ·have m1 := Aq l2 i1 (back l3 i2) (at' := (at' : Int)) (by rw [l3.len]; exact hr) sl
  have m2 := Aq h2 i1 (back h3 i2) (at' := (at' : Int)) (by rw [h3.len]; exact hr) sh
  rw [e] at m1 m2
  simp only [Bool.false_eq_true, if_false, if_true] at m1 m2
  exact ⟨m1, m2⟩
theorem Pq {N : NetL} (h : AD N = 0) (hc : ¬ 0 < CJ N) {i : Nat} (hi : i < (AA N).all.length) :
  ∃ s dl dh, EI (AA N) i = some s /\ (InS dl /\ Alike (AA N) dl /\ (gD dl.all i).now = s.lo) /\ (InS dh /\ Alike (AA N) dh /\ (gD dh.all i).now = s.hi) /\ ∀ d', InS d' -> Alike (AA N) d' -> s.lo <= (gD d'.all i).now /\ (gD d'.all i).now <= s.hi := by
 obtain ⟨h1, π, hs⟩ := DE h
 have hS := Uq h hc
 refine Na hS hi λ d' h' hl => ?_
 have h2 := hS.now i hi
 have h3 := h'.now i (by rw [hl.len]; exact hi)
 rw [(hl.way i hi).2.2] at h3
 have h4 : -1000000 <= (gD (AA N).all i).sp.lo /\ (gD (AA N).all i).sp.hi <= 1000000 := by
  have hb := hs.like.len
  have := (HF (DD h) (i := i) (by omega)).1
  rw [<- (hs.like.way i (by omega)).2.2] at this
  omega
 omega
end Go.Bal

