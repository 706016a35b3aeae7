/- Package balance: what costs nothing lies in all spans; ends of spans. -/
import Derived.Test.YtonddbmhljelgaaBalT8
set_option linter.unusedVariables false
set_option linter.unusedSimpArgs false
namespace Go.Bal
open Go
theorem sumL_nonneg {α : Type} {f : α → Int} : ∀ {l : List α}, (∀ w ∈ l, 0 ≤ f w) → 0 ≤ sumL f l
  | [], _ => Int.le_refl _
  | w :: l, h => by
    simp only [sumL]
    have h1 := sumL_nonneg (f := f) fun x hx => h x (List.mem_cons_of_mem w hx)
    have h2 := h w (by simp)
    omega
theorem sumL_zero {α : Type} {f : α → Int} : ∀ {l : List α}, (∀ w ∈ l, 0 ≤ f w) → sumL f l = 0 → ∀ w ∈ l, f w = 0
  | [], _, _, w, hw => by cases hw
  | x :: l, h, hz, w, hw => by
    simp only [sumL] at hz
    have h1 := sumL_nonneg (f := f) fun y hy => h y (List.mem_cons_of_mem x hy)
    have h2 := h x (by simp)
    rcases List.mem_cons.1 hw with rfl | hw
    · omega
    · exact sumL_zero (fun y hy => h y (List.mem_cons_of_mem x hy)) (by omega) w hw
theorem sumL_cap {α : Type} {f : α → Int} {K : Int} : ∀ {l : List α}, (∀ w ∈ l, f w ≤ K) → sumL f l ≤ K * l.length
  | [], _ => by simp [sumL]
  | w :: l, h => by
    simp only [sumL]
    have h1 := sumL_cap (f := f) (K := K) fun x hx => h x (List.mem_cons_of_mem w hx)
    have h2 := h w (by simp)
    rw [List.length_cons, Int.natCast_add, Int.mul_add]
    omega
theorem sumFrom_eq : ∀ (l : List Int) (a : Int), (∀ x ∈ l, 0 ≤ x) → 0 ≤ a → a + sumL (fun x => x) l ≤ 9000000000000000000 → sumFrom a l = a + sumL (fun x => x) l
  | [], a, _, _, _ => by simp [sumFrom, sumL]
  | x :: l, a, h, ha, hs => by
    have hx := h x (by simp)
    have hl := sumL_nonneg (f := fun x : Int => x) fun y hy => h y (List.mem_cons_of_mem x hy)
    simp only [sumL] at hs
    simp only [sumFrom, sumL]
    rw [wr_id (by omega) (by omega), sumFrom_eq l (a + x) (fun y hy => h y (List.mem_cons_of_mem x hy)) (by omega) (by omega)]
    omega
theorem off_eq {x : Int} {s : Span} (hx : -1000000000000000 ≤ x ∧ x ≤ 1000000000000000) (hs : -100000000 ≤ s.lo ∧ s.hi ≤ 100000000) (hs' : s.lo ≤ 100000000 ∧ -100000000 ≤ s.hi) : offM x s = offI x s := by
  unfold offM offI
  rw [wr_id (n := s.lo - x) (by omega) (by omega), wr_id (n := x - s.hi) (by omega) (by omega)]
  omega
theorem sumL_range (f : Nat → Int) : ∀ n, sumL (fun x => x) ((List.range n).map f) = sumN n f
  | 0 => rfl
  | n + 1 => by
    rw [List.range_succ, List.map_append, sumL_append, sumL_range f n]
    simp [sumL, sumN]
theorem sumN_split (f : Nat → Int) (a : Nat) : ∀ b, sumN (a + b) f = sumN a f + sumN b fun j => f (a + j)
  | 0 => by simp [sumN]
  | b + 1 => by
    rw [show a + (b + 1) = a + b + 1 from rfl, sumN, sumN_split f a b, sumN]
    omega
theorem like_sp {N : NetL} {d : Desk} (hl : Alike (begunM N) d) : d.all.length = N.r.length + N.g.length ∧ (∀ i, i < N.r.length → (gD d.all i).sp = (gD N.r i).sp ∧ (gD d.all i).fr = (gD N.r i).fr ∧ (gD d.all i).to = (gD N.r i).to) ∧
    ∀ i, i < N.g.length → (gD d.all (N.r.length + i)).sp = gD N.g i ∧ (gD d.all (N.r.length + i)).fr = N.g.length ∧ (gD d.all (N.r.length + i)).to = i := by
  have hlen := begunM_len N
  refine ⟨hl.len.trans hlen, fun i hi => ?_, fun i hi => ?_⟩
  · obtain ⟨a, b, e⟩ := hl.way i (by omega)
    rw [a, b, e, begunM_all, gD_map _ (by rw [beg_len]; omega), beg_lo hi]
    exact ⟨rfl, rfl, rfl⟩
  · obtain ⟨a, b, e⟩ := hl.way (N.r.length + i) (by omega)
    rw [a, b, e, begunM_all, gD_map _ (by rw [beg_len]; omega), beg_hi hi]
    exact ⟨rfl, rfl, rfl⟩
structure GoodW (N : NetL) : Prop where
  g1 : 1 ≤ N.g.length
  g8 : N.g.length ≤ 8
  r14 : N.r.length ≤ 14
  g : ∀ i, i < N.g.length → (-100000000 ≤ (gD N.g i).lo ∧ (gD N.g i).lo ≤ (gD N.g i).hi) ∧ (gD N.g i).hi ≤ 100000000
  r : ∀ i, i < N.r.length → ((-100000000 ≤ (gD N.r i).sp.lo ∧ (gD N.r i).sp.lo ≤ (gD N.r i).sp.hi) ∧ (gD N.r i).sp.hi ≤ 100000000) ∧ (0 ≤ (gD N.r i).fr ∧ (gD N.r i).fr < N.g.length) ∧ (0 ≤ (gD N.r i).to ∧ (gD N.r i).to < N.g.length) ∧ (gD N.r i).fr ≠ (gD N.r i).to
theorem Good.w {N : NetL} (h : Good N) : GoodW N :=
  ⟨h.g1, h.g8, h.r14, fun i hi => by have := h.g i hi; omega, fun i hi => by obtain ⟨a, b⟩ := h.r i hi; exact ⟨by omega, b⟩⟩
theorem cost_desk {N : NetL} {d : Desk} (hg : GoodW N) (hl : Alike (begunM N) d) (hb : ∀ i, i < d.all.length → -1000000000000000 ≤ (gD d.all i).now ∧ (gD d.all i).now ≤ 1000000000000000) : costM N (truthM d) = offL d.all := by
  obtain ⟨h1, h2, h3⟩ := like_sp hl
  have hnR : d.nR = N.r.length := hl.nR
  have hout : d.out = N.g.length := hl.out
  have hf : ∀ i, i < N.r.length → offM (gD (truthM d).f i) (gD N.r i).sp = offI (gD d.all i).now (gD d.all i).sp := fun i hi => by
    have e : gD (truthM d).f i = (gD d.all i).now := by
      show gD ((List.range d.nR).map fun i => (gD d.all i).now) i = _
      exact gD_range (fun i => (gD d.all i).now) (by omega)
    rw [e, (h2 i hi).1]
    have := (hg.r i hi).1
    exact off_eq (hb i (by omega)) (by omega) (by omega)
  have ht : ∀ i, i < N.g.length → offM (gD (truthM d).t i) (gD N.g i) = offI (gD d.all (N.r.length + i)).now (gD d.all (N.r.length + i)).sp := fun i hi => by
    have e : gD (truthM d).t i = (gD d.all (N.r.length + i)).now := by
      show gD ((List.range d.out).map fun i => (gD d.all (d.nR + i)).now) i = _
      rw [gD_range (fun i => (gD d.all (d.nR + i)).now) (by omega), hnR]
    rw [e, (h3 i hi).1]
    have := hg.g i hi
    exact off_eq (hb _ (by omega)) (by omega) (by omega)
  have hs : sumL (fun x => x) (costL N (truthM d)) = offL d.all := by
    unfold costL offL
    rw [sumL_append, sumL_range, sumL_range, sumL_idx, h1, sumN_split]
    rw [sumN_congr hf, sumN_congr ht]
  have hn : ∀ x ∈ costL N (truthM d), 0 ≤ x := fun x hx => by
    unfold costL at hx
    rcases List.mem_append.1 hx with hx | hx <;> obtain ⟨i, hi, rfl⟩ := List.mem_map.1 hx <;> rw [List.mem_range] at hi
    · rw [hf i hi]; unfold offI; omega
    · rw [ht i hi]; unfold offI; omega
  have hcap : offL d.all ≤ 2000000000000000 * d.all.length := sumL_cap fun w hw => by
    obtain ⟨i, hi, rfl⟩ := mem_gD hw
    have h4 := hb i hi
    have h5 : -100000000 ≤ (gD d.all i).sp.lo ∧ (gD d.all i).sp.hi ≤ 100000000 ∧ (gD d.all i).sp.lo ≤ (gD d.all i).sp.hi := by
      by_cases hr : i < N.r.length
      · rw [(h2 i hr).1]; have := (hg.r i hr).1; omega
      · obtain ⟨j, rfl⟩ : ∃ j, i = N.r.length + j := ⟨i - N.r.length, by omega⟩
        rw [(h3 j (by omega)).1]; have := hg.g j (by omega); omega
    unfold offI; omega
  have h8 := hg.g8
  have h14 := hg.r14
  have h0 : 0 ≤ offL d.all := sumL_nonneg fun w _ => by unfold offI; omega
  unfold costM
  rw [sumFrom_eq _ 0 hn (by omega) (by rw [hs]; omega), hs]
  omega
end Go.Bal

namespace Go.Bal
open Go
theorem setC_eq {N : NetL} (h : checkL N = 0) : setC N = offL (setD N).all := by
  obtain ⟨h1, π, hs⟩ := settled_ok h
  rw [(set_eq h1).2]
  refine cost_desk (good_of h).w hs.like fun i hi => ?_
  have := (hs.fit.small (by omega) hi).now
  omega
theorem setC_nonneg {N : NetL} (h : checkL N = 0) : 0 ≤ setC N := by
  rw [setC_eq h]
  exact sumL_nonneg fun w _ => by unfold offI; omega
theorem inS_of {N : NetL} (h : checkL N = 0) (hc : ¬ 0 < setC N) : InS (setD N) := by
  obtain ⟨h1, π, hs⟩ := settled_ok h
  have h0 := setC_nonneg h
  have hz : offL (setD N).all = 0 := by rw [← setC_eq h]; omega
  refine ⟨hs.fit.lay.ok, hs.fit.sp, fun i hi => ?_, hs.zero⟩
  have := sumL_zero (fun w _ => by unfold offI; omega) hz (gD (setD N).all i) (gD_mem hi)
  unfold offI at this
  omega
theorem spanV_ok {d : Desk} (h : InS d) {at' : Nat} (ha : at' < d.all.length) (hw : ∀ d', InS d' → Alike d d' → (gD d'.all at').now - (gD d.all at').now < 100000000 ∧ (gD d.all at').now - (gD d'.all at').now < 100000000) :
    ∃ s dl dh, spanV d at' = some s ∧ (InS dl ∧ Alike d dl ∧ (gD dl.all at').now = s.lo) ∧ (InS dh ∧ Alike d dh ∧ (gD dh.all at').now = s.hi) ∧ ∀ d', InS d' → Alike d d' → s.lo ≤ (gD d'.all at').now ∧ (gD d'.all at').now ≤ s.hi := by
  have hfu : (3000000000 : Int) < fuel := by unfold fuel; decide
  have e : ((at' : Nat) : Int).toNat = at' := by omega
  have hr : 0 ≤ (at' : Int) ∧ (at' : Int) < d.all.length := by omega
  obtain ⟨dl, tl, l1, l2, l3, l4, l5, l6, l7⟩ := shiftM_ok (at' := (at' : Int)) (up := false) (most := 100000000) (by omega) fuel d 0 h hr (by omega) (by omega)
  obtain ⟨dh, th, h1, h2, h3, h4, h5, h6, h7⟩ := shiftM_ok (at' := (at' : Int)) (up := true) (most := 100000000) (by omega) fuel d 0 h hr (by omega) (by omega)
  rw [e] at l6 h6
  simp only [Bool.false_eq_true, if_false, if_true] at l6 h6
  have wl := hw dl l2 l3
  have wh := hw dh h2 h3
  have sl := l7.resolve_left (by omega)
  have sh := h7.resolve_left (by omega)
  have back : ∀ {d1 d' : Desk}, Alike d d1 → Alike d d' → Alike d1 d' := fun a b => ⟨b.out.trans a.out.symm, b.nR.trans a.nR.symm, b.len.trans a.len.symm, fun i hi => by
    obtain ⟨a1, a2, a3⟩ := a.way i (by rw [← a.len]; exact hi)
    obtain ⟨b1, b2, b3⟩ := b.way i (by rw [← a.len]; exact hi)
    exact ⟨b1.trans a1.symm, b2.trans a2.symm, b3.trans a3.symm⟩⟩
  refine ⟨⟨(gD dl.all at').now, (gD dh.all at').now⟩, dl, dh, ?_, ⟨l2, l3, rfl⟩, ⟨h2, h3, rfl⟩, fun d' i1 i2 => ?_⟩
  · unfold spanV shiftV
    rw [l1, h1]
    simp only [getW, e]
  · have m1 := stuck_most l2 i1 (back l3 i2) (at' := (at' : Int)) (by rw [l3.len]; exact hr) sl
    have m2 := stuck_most h2 i1 (back h3 i2) (at' := (at' : Int)) (by rw [h3.len]; exact hr) sh
    rw [e] at m1 m2
    simp only [Bool.false_eq_true, if_false, if_true] at m1 m2
    exact ⟨m1, m2⟩
theorem net_span {N : NetL} (h : checkL N = 0) (hc : ¬ 0 < setC N) {i : Nat} (hi : i < (setD N).all.length) :
    ∃ s dl dh, spanV (setD N) i = some s ∧ (InS dl ∧ Alike (setD N) dl ∧ (gD dl.all i).now = s.lo) ∧ (InS dh ∧ Alike (setD N) dh ∧ (gD dh.all i).now = s.hi) ∧ ∀ d', InS d' → Alike (setD N) d' → s.lo ≤ (gD d'.all i).now ∧ (gD d'.all i).now ≤ s.hi := by
  obtain ⟨h1, π, hs⟩ := settled_ok h
  have hS := inS_of h hc
  refine spanV_ok hS hi fun d' h' hl => ?_
  have h2 := hS.now i hi
  have h3 := h'.now i (by rw [hl.len]; exact hi)
  rw [(hl.way i hi).2.2] at h3
  have h4 : -1000000 ≤ (gD (setD N).all i).sp.lo ∧ (gD (setD N).all i).sp.hi ≤ 1000000 := by
    have hb := hs.like.len
    have := (begun_sp (good_of h) (i := i) (by omega)).1
    rw [← (hs.like.way i (by omega)).2.2] at this
    omega
  omega
end Go.Bal

