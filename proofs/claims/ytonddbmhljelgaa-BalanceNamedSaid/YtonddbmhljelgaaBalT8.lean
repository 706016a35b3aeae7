/- Package balance: what is shifted: as much as there may be. -/
import Derived.Test.YtonddbmhljelgaaBalT6
set_option linter.unusedVariables false
set_option linter.unusedSimpArgs false
namespace Go.Bal
open Go
variable {d : Desk}
structure InS (d : Desk) : Prop where
  ok : d.ok
  sp : ∀ i, i < d.all.length → -100000000 ≤ (gD d.all i).sp.lo ∧ (gD d.all i).sp.lo ≤ (gD d.all i).sp.hi ∧ (gD d.all i).sp.hi ≤ 100000000
  now : ∀ i, i < d.all.length → (gD d.all i).sp.lo ≤ (gD d.all i).now ∧ (gD d.all i).now ≤ (gD d.all i).sp.hi
  zero : ∀ v : Nat, v < 10 → exc v d.all = 0
theorem InS.small (h : InS d) {i : Nat} (hi : i < d.all.length) : Small 3000000000 (gD d.all i) := by
  have := h.now i hi
  have := h.sp i hi
  exact ⟨by omega, h.sp i hi⟩
end Go.Bal

namespace Go.Bal
open Go
variable {d : Desk}
end Go.Bal

namespace Go.Bal
open Go
variable {d d' : Desk}
theorem sumN_head (f : Nat → Int) : ∀ n, sumN (n + 1) f = f 0 + sumN n fun i => f (i + 1)
  | 0 => by simp [sumN]
  | n + 1 => by
    rw [sumN, sumN_head f n]
    simp only [sumN]
    omega
theorem sumL_idx {α : Type} [Inhabited α] (f : α → Int) : ∀ l : List α, sumL f l = sumN l.length fun i => f (gD l i)
  | [] => rfl
  | w :: l => by
    rw [List.length_cons, sumN_head]
    simp only [sumL]
    rw [sumL_idx f l]
    rfl
theorem InS.circ (h : InS d) (π : Int → Int) : sumN d.all.length (fun i => (π (gD d.all i).to - π (gD d.all i).fr) * (gD d.all i).now) = 0 := by
  have := circ_zero π (l := d.all) (fun w hw => by
    obtain ⟨i, hi, rfl⟩ := mem_gD hw
    have := h.ok.ends i hi
    have := h.ok.out
    omega) h.zero
  rw [sumL_idx] at this
  exact this
end Go.Bal

namespace Go.Bal
open Go
theorem sumL_nonneg {α : Type} {f : α → Int} : ∀ {l : List α}, (∀ w ∈ l, 0 ≤ f w) → 0 ≤ sumL f l
  | [], _ => Int.le_refl _
  | w :: l, h => by
    simp only [sumL]
    have h1 := sumL_nonneg (f := f) fun x hx => h x (List.mem_cons_of_mem w hx)
    have h2 := h w (by simp)
    omega
theorem sumL_zero {α : Type} {f : α → Int} : ∀ {l : List α}, (∀ w ∈ l, 0 ≤ f w) → sumL f l = 0 → ∀ w ∈ l, f w = 0
  | [], _, _, w, hw => by cases hw
  | x :: l, h, hz, w, hw => by
    simp only [sumL] at hz
    have h1 := sumL_nonneg (f := f) fun y hy => h y (List.mem_cons_of_mem x hy)
    have h2 := h x (by simp)
    rcases List.mem_cons.1 hw with rfl | hw
    · omega
    · exact sumL_zero (fun y hy => h y (List.mem_cons_of_mem x hy)) (by omega) w hw
theorem sumL_cap {α : Type} {f : α → Int} {K : Int} : ∀ {l : List α}, (∀ w ∈ l, f w ≤ K) → sumL f l ≤ K * l.length
  | [], _ => by simp [sumL]
  | w :: l, h => by
    simp only [sumL]
    have h1 := sumL_cap (f := f) (K := K) fun x hx => h x (List.mem_cons_of_mem w hx)
    have h2 := h w (by simp)
    rw [List.length_cons, Int.natCast_add, Int.mul_add]
    omega
theorem sumFrom_eq : ∀ (l : List Int) (a : Int), (∀ x ∈ l, 0 ≤ x) → 0 ≤ a → a + sumL (fun x => x) l ≤ 9000000000000000000 → sumFrom a l = a + sumL (fun x => x) l
  | [], a, _, _, _ => by simp [sumFrom, sumL]
  | x :: l, a, h, ha, hs => by
    have hx := h x (by simp)
    have hl := sumL_nonneg (f := fun x : Int => x) fun y hy => h y (List.mem_cons_of_mem x hy)
    simp only [sumL] at hs
    simp only [sumFrom, sumL]
    rw [wr_id (by omega) (by omega), sumFrom_eq l (a + x) (fun y hy => h y (List.mem_cons_of_mem x hy)) (by omega) (by omega)]
    omega
theorem off_eq {x : Int} {s : Span} (hx : -1000000000000000 ≤ x ∧ x ≤ 1000000000000000) (hs : -100000000 ≤ s.lo ∧ s.hi ≤ 100000000) (hs' : s.lo ≤ 100000000 ∧ -100000000 ≤ s.hi) : offM x s = offI x s := by
  unfold offM offI
  rw [wr_id (n := s.lo - x) (by omega) (by omega), wr_id (n := x - s.hi) (by omega) (by omega)]
  omega
theorem sumL_range (f : Nat → Int) : ∀ n, sumL (fun x => x) ((List.range n).map f) = sumN n f
  | 0 => rfl
  | n + 1 => by
    rw [List.range_succ, List.map_append, sumL_append, sumL_range f n]
    simp [sumL, sumN]
theorem sumN_split (f : Nat → Int) (a : Nat) : ∀ b, sumN (a + b) f = sumN a f + sumN b fun j => f (a + j)
  | 0 => by simp [sumN]
  | b + 1 => by
    rw [show a + (b + 1) = a + b + 1 from rfl, sumN, sumN_split f a b, sumN]
    omega
theorem like_sp {N : NetL} {d : Desk} (hl : Alike (begunM N) d) : d.all.length = N.r.length + N.g.length ∧ (∀ i, i < N.r.length → (gD d.all i).sp = (gD N.r i).sp ∧ (gD d.all i).fr = (gD N.r i).fr ∧ (gD d.all i).to = (gD N.r i).to) ∧
    ∀ i, i < N.g.length → (gD d.all (N.r.length + i)).sp = gD N.g i ∧ (gD d.all (N.r.length + i)).fr = N.g.length ∧ (gD d.all (N.r.length + i)).to = i := by
  have hlen := begunM_len N
  refine ⟨hl.len.trans hlen, fun i hi => ?_, fun i hi => ?_⟩
  · obtain ⟨a, b, e⟩ := hl.way i (by omega)
    rw [a, b, e, begunM_all, gD_map _ (by rw [beg_len]; omega), beg_lo hi]
    exact ⟨rfl, rfl, rfl⟩
  · obtain ⟨a, b, e⟩ := hl.way (N.r.length + i) (by omega)
    rw [a, b, e, begunM_all, gD_map _ (by rw [beg_len]; omega), beg_hi hi]
    exact ⟨rfl, rfl, rfl⟩
structure GoodW (N : NetL) : Prop where
  g1 : 1 ≤ N.g.length
  g8 : N.g.length ≤ 8
  r14 : N.r.length ≤ 14
  g : ∀ i, i < N.g.length → (-100000000 ≤ (gD N.g i).lo ∧ (gD N.g i).lo ≤ (gD N.g i).hi) ∧ (gD N.g i).hi ≤ 100000000
  r : ∀ i, i < N.r.length → ((-100000000 ≤ (gD N.r i).sp.lo ∧ (gD N.r i).sp.lo ≤ (gD N.r i).sp.hi) ∧ (gD N.r i).sp.hi ≤ 100000000) ∧ (0 ≤ (gD N.r i).fr ∧ (gD N.r i).fr < N.g.length) ∧ (0 ≤ (gD N.r i).to ∧ (gD N.r i).to < N.g.length) ∧ (gD N.r i).fr ≠ (gD N.r i).to
theorem Good.w {N : NetL} (h : Good N) : GoodW N :=
  ⟨h.g1, h.g8, h.r14, fun i hi => by have := h.g i hi; omega, fun i hi => by obtain ⟨a, b⟩ := h.r i hi; exact ⟨by omega, b⟩⟩
theorem cost_desk {N : NetL} {d : Desk} (hg : GoodW N) (hl : Alike (begunM N) d) (hb : ∀ i, i < d.all.length → -1000000000000000 ≤ (gD d.all i).now ∧ (gD d.all i).now ≤ 1000000000000000) : costM N (truthM d) = offL d.all := by
  obtain ⟨h1, h2, h3⟩ := like_sp hl
  have hnR : d.nR = N.r.length := hl.nR
  have hout : d.out = N.g.length := hl.out
  have hf : ∀ i, i < N.r.length → offM (gD (truthM d).f i) (gD N.r i).sp = offI (gD d.all i).now (gD d.all i).sp := fun i hi => by
    have e : gD (truthM d).f i = (gD d.all i).now := by
      show gD ((List.range d.nR).map fun i => (gD d.all i).now) i = _
      exact gD_range (fun i => (gD d.all i).now) (by omega)
    rw [e, (h2 i hi).1]
    have := (hg.r i hi).1
    exact off_eq (hb i (by omega)) (by omega) (by omega)
  have ht : ∀ i, i < N.g.length → offM (gD (truthM d).t i) (gD N.g i) = offI (gD d.all (N.r.length + i)).now (gD d.all (N.r.length + i)).sp := fun i hi => by
    have e : gD (truthM d).t i = (gD d.all (N.r.length + i)).now := by
      show gD ((List.range d.out).map fun i => (gD d.all (d.nR + i)).now) i = _
      rw [gD_range (fun i => (gD d.all (d.nR + i)).now) (by omega), hnR]
    rw [e, (h3 i hi).1]
    have := hg.g i hi
    exact off_eq (hb _ (by omega)) (by omega) (by omega)
  have hs : sumL (fun x => x) (costL N (truthM d)) = offL d.all := by
    unfold costL offL
    rw [sumL_append, sumL_range, sumL_range, sumL_idx, h1, sumN_split]
    rw [sumN_congr hf, sumN_congr ht]
  have hn : ∀ x ∈ costL N (truthM d), 0 ≤ x := fun x hx => by
    unfold costL at hx
    rcases List.mem_append.1 hx with hx | hx <;> obtain ⟨i, hi, rfl⟩ := List.mem_map.1 hx <;> rw [List.mem_range] at hi
    · rw [hf i hi]; unfold offI; omega
    · rw [ht i hi]; unfold offI; omega
  have hcap : offL d.all ≤ 2000000000000000 * d.all.length := sumL_cap fun w hw => by
    obtain ⟨i, hi, rfl⟩ := mem_gD hw
    have h4 := hb i hi
    have h5 : -100000000 ≤ (gD d.all i).sp.lo ∧ (gD d.all i).sp.hi ≤ 100000000 ∧ (gD d.all i).sp.lo ≤ (gD d.all i).sp.hi := by
      by_cases hr : i < N.r.length
      · rw [(h2 i hr).1]; have := (hg.r i hr).1; omega
      · obtain ⟨j, rfl⟩ : ∃ j, i = N.r.length + j := ⟨i - N.r.length, by omega⟩
        rw [(h3 j (by omega)).1]; have := hg.g j (by omega); omega
    unfold offI; omega
  have h8 := hg.g8
  have h14 := hg.r14
  have h0 : 0 ≤ offL d.all := sumL_nonneg fun w _ => by unfold offI; omega
  unfold costM
  rw [sumFrom_eq _ 0 hn (by omega) (by rw [hs]; omega), hs]
  omega
end Go.Bal

namespace Go.Bal
open Go
theorem setC_eq {N : NetL} (h : checkL N = 0) : setC N = offL (setD N).all := by
  obtain ⟨h1, π, hs⟩ := settled_ok h
  rw [(set_eq h1).2]
  refine cost_desk (good_of h).w hs.like fun i hi => ?_
  have := (hs.fit.small (by omega) hi).now
  omega
theorem setC_nonneg {N : NetL} (h : checkL N = 0) : 0 ≤ setC N := by
  rw [setC_eq h]
  exact sumL_nonneg fun w _ => by unfold offI; omega
end Go.Bal

namespace Go.Bal
open Go
theorem far_fit {d : Desk} {π : Int → Int} {M : Int} (h : Fit d π M) (hM : M ≤ 3000000000) {o : Int} (ho : 0 ≤ o ∧ o ≤ d.out) : ∃ rf, reachV d any o = some rf ∧ (∀ v : Int, 0 ≤ v → v ≤ d.out → (rf.m.at v).isSome = true) ∧ (rf.m.far o).cost = 0 ∧ Fit d (fun v => (rf.m.far v).cost) M := by
  obtain ⟨rf, hrf, _, hal⟩ := reachV_ok (c := any) (fr := o) h.lay.ok (by omega) (h.pot hM)
  have hreach : ∀ v : Int, 0 ≤ v → v ≤ d.out → (rf.m.at v).isSome = true := fun v h0 h1 => by
    obtain ⟨a, q, w⟩ := h.lay.walk ho ⟨h0, h1⟩
    exact hal.2 v a q w
  have lab : ∀ v : Int, 0 ≤ v → v ≤ d.out → ∃ k : Nat, Least d any o v (rf.m.far v).cost k := fun v h0 h1 => by
    obtain ⟨g, hg⟩ := Option.isSome_iff_exists.1 (hreach v h0 h1)
    obtain ⟨_, k, _, hk⟩ := hal.1 v g hg
    have : rf.m.far v = g := by simp [Map.far, hg]
    rw [this]; exact ⟨k, hk⟩
  refine ⟨rf, hrf, hreach, ?_, h.lay, h.sp, h.now, fun i hi => ?_⟩
  · obtain ⟨k, hk⟩ := lab o ho.1 ho.2
    have h1 := hk.2 _ _ .nil
    have h2 := Walk.pot (h.pot hM) hk.1
    omega
  · have hsm := h.small hM hi
    have hen := h.lay.ends i hi
    refine (optW_iff hsm (by omega) _).2 ?_
    obtain ⟨k1, hk1⟩ := lab (gD d.all i).fr hen.1.1 hen.1.2
    obtain ⟨k2, hk2⟩ := lab (gD d.all i).to hen.2.1 hen.2.2
    have f1 := Walk.step (d := d) (c := any) (fr := o) ⟨(i : Int), false⟩ (by rw [src_eq]; exact hk1.1) ⟨by constructor <;> simp only <;> omega, rfl⟩
    have f2 := Walk.step (d := d) (c := any) (fr := o) ⟨(i : Int), true⟩ (by rw [src_eq]; exact hk2.1) ⟨by constructor <;> simp only <;> omega, rfl⟩
    have g1 := hk2.2 _ _ f1
    have g2 := hk1.2 _ _ f2
    have p1 : priceM d ⟨(i : Int), false⟩ = (roomM (gD d.all i) false).1 := rfl
    have p2 : priceM d ⟨(i : Int), true⟩ = (roomM (gD d.all i) true).1 := rfl
    rw [p1] at g1
    rw [p2] at g2
    omega
end Go.Bal
