/- Package balance: each right net is settled, and heights prove it. -/
import Derived.Test.YtonddbmhljelgaaBalT5
import Derived.Test.YtonddbmhljelgaaBalK
set_option linter.unusedVariables false
set_option linter.unusedSimpArgs false
namespace Go.Bal
open Go
theorem settleM_fit {M : Int} (hM : M ≤ 3000000000) : ∀ (k : Nat) (d : Desk) (π : Int → Int), Fit d π M → outside d < k → ∃ d' π', settleM k d = some d' ∧ Fit d' π' M ∧ overM d' = List.replicate 10 0 ∧ Alike d d'
  | 0, d, π, h, hk => by have := outside_nonneg d; omega
  | k + 1, d, π, h, hk => by
    simp only [settleM]
    by_cases he : overM d = List.replicate 10 0
    · rw [if_pos he]; exact ⟨d, π, rfl, h, he, Alike.refl d⟩
    · rw [if_neg he]
      obtain ⟨d1, π1, h1, h2, h3, h4⟩ := settleStep_ok h hM he
      rw [h1]
      obtain ⟨d2, π2, h5, h6, h7, h8⟩ := settleM_fit hM k d1 π1 h2 (by omega)
      exact ⟨d2, π2, h5, h6, h7, h4.trans h8⟩
theorem outside_le {K : Int} (hK : 0 ≤ K) : ∀ {l : List Way}, (∀ w ∈ l, -K ≤ w.now ∧ w.now ≤ K) → sumN 10 (fun v => max 0 (exc v l)) ≤ 2 * K * l.length
  | [], _ => by simp only [exc, sumN]; simp
  | w :: l, h => by
    have hw := h w (by simp)
    have ih := outside_le hK fun x hx => h x (List.mem_cons_of_mem _ hx)
    have e1 : ∀ v : Nat, v < 10 → max 0 (exc v (w :: l)) ≤ (max 0 (exc v l) + ((if v = w.to.toNat then K else 0) + if v = w.fr.toNat then K else 0)) := fun v _ => by
      simp only [exc, excW]
      by_cases h1 : w.to = v <;> by_cases h2 : w.fr = v
      · rw [if_pos h1, if_pos h2, if_pos (show v = w.to.toNat by omega), if_pos (show v = w.fr.toNat by omega)]; omega
      · rw [if_pos h1, if_neg h2, if_pos (show v = w.to.toNat by omega)]; split <;> omega
      · rw [if_neg h1, if_pos h2, if_pos (show v = w.fr.toNat by omega)]; split <;> omega
      · rw [if_neg h1, if_neg h2]; split <;> split <;> omega
    have e2 := sumN_le e1
    rw [sumN_add (fun v : Nat => max 0 (exc v l)) (fun v => (if v = w.to.toNat then K else 0) + if v = w.fr.toNat then K else 0), sumN_add, sumN_one, sumN_one] at e2
    have e3 : (2 * K * ((w :: l).length : Nat) : Int) = 2 * K * l.length + 2 * K := by rw [List.length_cons, Int.natCast_add, Int.mul_add]; omega
    rw [e3]
    split at e2 <;> split at e2 <;> omega
theorem settleV_fit {d : Desk} (hl : Lay d) (hsp : ∀ i, i < d.all.length → -100000000 ≤ (gD d.all i).sp.lo ∧ (gD d.all i).sp.lo ≤ (gD d.all i).sp.hi ∧ (gD d.all i).sp.hi ≤ 100000000)
    (hin : ∀ i, i < d.all.length → (gD d.all i).sp.lo ≤ (gD d.all i).now ∧ (gD d.all i).now ≤ (gD d.all i).sp.hi) (hsm : ∀ i, i < d.all.length → -50000000 ≤ (gD d.all i).now ∧ (gD d.all i).now ≤ 50000000) :
    ∃ d' π, settleV d = some d' ∧ Fit d' π 2900000000 ∧ (∀ v : Nat, v < 10 → exc v d'.all = 0) ∧ Alike d d' := by
  have h0 : outside d ≤ 2 * 50000000 * d.all.length := outside_le (by omega) fun w hw => by
    obtain ⟨i, hi, rfl⟩ := mem_gD hw
    exact hsm i hi
  have hlen := hl.ok.len
  have hf : Fit d (fun _ => 0) 2900000000 := ⟨hl, hsp, fun i hi => by have := hsm i hi; omega, fun i hi => .inl ⟨by omega, (hin i hi).1, (hin i hi).2⟩⟩
  have hfu : (3000000000 : Int) < fuel := by unfold fuel; decide
  obtain ⟨d', π, h1, h2, h3, h4⟩ := settleM_fit (by omega) fuel d _ hf (by omega)
  refine ⟨d', π, h1, h2, ?_, h4⟩
  exact (all_zero h2.lay.ok (B := 3000000000) (by omega) fun i hi => (h2.small (by omega) hi).now).1 h3
theorem begun_lay {N : NetL} (h : Good N) : Lay (begunM N) := by
  have h8 := h.g8
  refine ⟨begun_ok h, fun i hi => ?_, fun i hi => ?_⟩
  · rw [begunM_len] at hi
    rw [begunM_all, gD_map _ (by rw [beg_len]; exact hi)]
    show (0 ≤ (gD (begunAll N) i).fr ∧ (gD (begunAll N) i).fr ≤ ((N.g.length : Nat) : Int)) ∧ 0 ≤ (gD (begunAll N) i).to ∧ (gD (begunAll N) i).to ≤ ((N.g.length : Nat) : Int)
    by_cases hr : i < N.r.length
    · rw [beg_lo hr]
      obtain ⟨_, h2, h3, _⟩ := h.r i hr
      exact ⟨⟨h2.1, by show (gD N.r i).fr ≤ _; omega⟩, h3.1, by show (gD N.r i).to ≤ _; omega⟩
    · obtain ⟨j, rfl⟩ : ∃ j, i = N.r.length + j := ⟨i - N.r.length, by omega⟩
      rw [beg_hi (by omega)]
      exact ⟨⟨by simp, by show ((N.g.length : Nat) : Int) ≤ _; omega⟩, by simp, by show ((j : Nat) : Int) ≤ _; omega⟩
  · have hi : i < N.g.length := hi
    show (gD (begunM N).all (N.r.length + i)).fr = ((N.g.length : Nat) : Int) ∧ (gD (begunM N).all (N.r.length + i)).to = i
    rw [begunM_all, gD_map _ (by rw [beg_len]; omega)]
    rw [beg_hi hi]
    exact ⟨rfl, rfl⟩
theorem begun_sp {N : NetL} (h : Good N) {i : Nat} (hi : i < (begunM N).all.length) : (-1000000 ≤ (gD (begunM N).all i).sp.lo ∧ (gD (begunM N).all i).sp.lo ≤ (gD (begunM N).all i).sp.hi ∧ (gD (begunM N).all i).sp.hi ≤ 1000000) ∧ (gD (begunM N).all i).sp.lo ≤ (gD (begunM N).all i).now ∧ (gD (begunM N).all i).now ≤ (gD (begunM N).all i).sp.hi := by
  rw [begunM_len] at hi
  rw [begunM_all, gD_map _ (by rw [beg_len]; exact hi)]
  have key : -1000000 ≤ (gD (begunAll N) i).sp.lo ∧ (gD (begunAll N) i).sp.lo ≤ (gD (begunAll N) i).sp.hi ∧ (gD (begunAll N) i).sp.hi ≤ 1000000 := by
    by_cases hr : i < N.r.length
    · rw [beg_lo hr]
      have h2 := (h.r i hr).1
      exact ⟨h2.1.1, h2.1.2, h2.2⟩
    · obtain ⟨j, rfl⟩ : ∃ j, i = N.r.length + j := ⟨i - N.r.length, by omega⟩
      rw [beg_hi (by omega)]
      have h2 := h.g j (by omega)
      exact ⟨h2.1.1, h2.1.2, h2.2⟩
  refine ⟨key, ?_⟩
  show (gD (begunAll N) i).sp.lo ≤ min (max 0 (gD (begunAll N) i).sp.lo) (gD (begunAll N) i).sp.hi ∧ min (max 0 (gD (begunAll N) i).sp.lo) (gD (begunAll N) i).sp.hi ≤ (gD (begunAll N) i).sp.hi
  omega
structure Settled (N : NetL) (d : Desk) (π : Int → Int) : Prop where
  fit : Fit d π 2900000000
  zero : ∀ v : Nat, v < 10 → exc v d.all = 0
  like : Alike (begunM N) d
theorem settled_ok {N : NetL} (h : checkL N = 0) : (settledV N).isSome = true ∧ ∃ π, Settled N (setD N) π := by
  have hg := good_of h
  obtain ⟨d, π, h1, h2, h3, h4⟩ := settleV_fit (begun_lay hg) (fun i hi => by have := (begun_sp hg hi).1; omega) (fun i hi => (begun_sp hg hi).2) (fun i hi => by have := begun_sp hg hi; omega)
  have hs : (settledV N).isSome = true := by unfold settledV; rw [h1]; rfl
  have he := (set_eq hs).1
  rw [h1] at he
  cases he
  exact ⟨hs, π, h2, h3, h4⟩
theorem reach_out_ok {N : NetL} (h : checkL N = 0) : (reachV (setD N) any N.g.length).isSome = true := by
  obtain ⟨_, π, hs⟩ := settled_ok h
  have ho : (setD N).out = N.g.length := hs.like.out
  obtain ⟨rf, h1, _⟩ := reachV_ok (c := any) (fr := (N.g.length : Int)) hs.fit.lay.ok (by rw [ho]; omega) (hs.fit.pot (by omega))
  rw [h1]; rfl
end Go.Bal

namespace Go.Bal
open Go
def sumL {α : Type} (f : α → Int) : List α → Int
  | [] => 0
  | w :: l => f w + sumL f l
theorem sumL_le {α : Type} {f g : α → Int} : ∀ {l : List α}, (∀ w ∈ l, f w ≤ g w) → sumL f l ≤ sumL g l
  | [], _ => Int.le_refl _
  | w :: l, h => by
    simp only [sumL]
    have h1 := sumL_le (f := f) (g := g) fun x hx => h x (List.mem_cons_of_mem w hx)
    have h2 := h w (by simp)
    omega
theorem sumL_congr {α : Type} {f g : α → Int} {l : List α} (h : ∀ w ∈ l, f w = g w) : sumL f l = sumL g l :=
  Int.le_antisymm (sumL_le fun w hw => Int.le_of_eq (h w hw)) (sumL_le fun w hw => Int.le_of_eq (h w hw).symm)
theorem sumL_add {α : Type} (f g : α → Int) : ∀ l : List α, sumL (fun w => f w + g w) l = sumL f l + sumL g l
  | [] => rfl
  | w :: l => by simp only [sumL, sumL_add f g l]; omega
theorem sumL_append {α : Type} (f : α → Int) : ∀ l m : List α, sumL f (l ++ m) = sumL f l + sumL f m
  | [], m => by simp [sumL]
  | w :: l, m => by simp only [List.cons_append, sumL, sumL_append f l m]; omega
theorem circ (π : Int → Int) : ∀ {l : List Way}, (∀ w ∈ l, (0 ≤ w.fr ∧ w.fr < 10) ∧ 0 ≤ w.to ∧ w.to < 10) → sumL (fun w => (π w.to - π w.fr) * w.now) l = sumN 10 fun v => π v * exc v l
  | [], _ => by simp only [sumL, exc, Int.mul_zero, sumN_zero]
  | w :: l, h => by
    obtain ⟨hf, ht⟩ := h w (by simp)
    have e1 : ∀ v : Nat, v < 10 → π v * exc v (w :: l) = π v * exc v l + ((if v = w.to.toNat then π w.to * w.now else 0) + if v = w.fr.toNat then -(π w.fr * w.now) else 0) := fun v _ => by
      simp only [exc, excW]
      by_cases h1 : w.to = v <;> by_cases h2 : w.fr = v
      · rw [if_pos h1, if_pos h2, if_pos (show v = w.to.toNat by omega), if_pos (show v = w.fr.toNat by omega), h1, h2, Int.mul_add, Int.mul_sub]; omega
      · rw [if_pos h1, if_neg h2, if_pos (show v = w.to.toNat by omega), if_neg (show ¬ v = w.fr.toNat by omega), h1, Int.mul_add, Int.mul_sub, Int.mul_zero]; omega
      · rw [if_neg h1, if_pos h2, if_neg (show ¬ v = w.to.toNat by omega), if_pos (show v = w.fr.toNat by omega), h2, Int.mul_add, Int.mul_sub, Int.mul_zero]; omega
      · rw [if_neg h1, if_neg h2, if_neg (show ¬ v = w.to.toNat by omega), if_neg (show ¬ v = w.fr.toNat by omega), Int.mul_add, Int.mul_sub, Int.mul_zero]; omega
    rw [sumN_congr e1, sumN_add (fun v : Nat => π v * exc v l) (fun v => (if v = w.to.toNat then π w.to * w.now else 0) + if v = w.fr.toNat then -(π w.fr * w.now) else 0), sumN_add, sumN_one, sumN_one, if_pos (by omega), if_pos (by omega), ← circ π fun x hx => h x (List.mem_cons_of_mem w hx)]
    simp only [sumL]
    rw [Int.sub_mul]
    omega
def offI (x : Int) (s : Span) : Int := max 0 (max (s.lo - x) (x - s.hi))
def low (r : Int) (s : Span) : Int := if r = 1 then -s.hi else if r = -1 then s.lo else 0
theorem low_le {r x : Int} {s : Span} (h : -1 ≤ r ∧ r ≤ 1) : r * x + low r s ≤ offI x s := by
  unfold low offI
  have hr : r = 1 ∨ r = -1 ∨ r = 0 := by omega
  rcases hr with rfl | rfl | rfl
  · rw [if_pos rfl]; omega
  · rw [if_neg (by omega), if_pos rfl]; omega
  · rw [if_neg (by omega), if_neg (by omega)]; omega
theorem low_eq {w : Way} {r : Int} (hs : w.sp.lo ≤ w.sp.hi) (h : OptW w r) : r * w.now + low r w.sp = offI w.now w.sp := by
  unfold low offI
  rcases h with ⟨rfl, h1, h2⟩ | ⟨rfl, h1⟩ | ⟨rfl, h1⟩
  · rw [if_neg (by omega), if_neg (by omega)]; omega
  · rw [if_pos rfl]; omega
  · rw [if_neg (by omega), if_pos rfl]; omega
def lowL (π : Int → Int) (l : List Way) : Int := sumL (fun w => low (π w.to - π w.fr) w.sp) l
def offL (l : List Way) : Int := sumL (fun w => offI w.now w.sp) l
theorem circ_zero (π : Int → Int) {l : List Way} (h : ∀ w ∈ l, (0 ≤ w.fr ∧ w.fr < 10) ∧ 0 ≤ w.to ∧ w.to < 10) (hz : ∀ v : Nat, v < 10 → exc v l = 0) : sumL (fun w => (π w.to - π w.fr) * w.now) l = 0 := by
  rw [circ π h, sumN_congr (g := fun _ => 0) fun v hv => by rw [hz v hv, Int.mul_zero], sumN_zero]
theorem lowL_le {π : Int → Int} {l : List Way} (h : ∀ w ∈ l, (0 ≤ w.fr ∧ w.fr < 10) ∧ 0 ≤ w.to ∧ w.to < 10) (hz : ∀ v : Nat, v < 10 → exc v l = 0) (hr : ∀ w ∈ l, -1 ≤ π w.to - π w.fr ∧ π w.to - π w.fr ≤ 1) : lowL π l ≤ offL l := by
  have h1 := sumL_le (f := fun w => (π w.to - π w.fr) * w.now + low (π w.to - π w.fr) w.sp) (g := fun w => offI w.now w.sp) fun w hw => low_le (x := w.now) (s := w.sp) (hr w hw)
  rw [sumL_add (fun w : Way => (π w.to - π w.fr) * w.now) (fun w : Way => low (π w.to - π w.fr) w.sp), circ_zero π h hz] at h1
  unfold lowL offL
  omega
theorem lowL_eq {π : Int → Int} {l : List Way} (h : ∀ w ∈ l, (0 ≤ w.fr ∧ w.fr < 10) ∧ 0 ≤ w.to ∧ w.to < 10) (hz : ∀ v : Nat, v < 10 → exc v l = 0) (hs : ∀ w ∈ l, w.sp.lo ≤ w.sp.hi) (ho : ∀ w ∈ l, OptW w (π w.to - π w.fr)) : lowL π l = offL l := by
  have h1 := sumL_congr (f := fun w => (π w.to - π w.fr) * w.now + low (π w.to - π w.fr) w.sp) (g := fun w => offI w.now w.sp) fun w hw => low_eq (hs w hw) (ho w hw)
  rw [sumL_add (fun w : Way => (π w.to - π w.fr) * w.now) (fun w : Way => low (π w.to - π w.fr) w.sp), circ_zero π h hz] at h1
  unfold lowL offL
  omega
theorem lowL_alike {π : Int → Int} : ∀ {l m : List Way}, l.length = m.length → (∀ i, i < l.length → (gD m i).fr = (gD l i).fr ∧ (gD m i).to = (gD l i).to ∧ (gD m i).sp = (gD l i).sp) → lowL π m = lowL π l
  | [], [], _, _ => rfl
  | [], _ :: _, h, _ => by simp at h
  | _ :: _, [], h, _ => by simp at h
  | w :: l, x :: m, hl, h => by
    have h0 := h 0 (by simp)
    have e : (gD (x :: m) 0) = x := rfl
    have e' : (gD (w :: l) 0) = w := rfl
    rw [e, e'] at h0
    have ih := lowL_alike (π := π) (l := l) (m := m) (by simpa using hl) fun i hi => h (i + 1) (by simpa using hi)
    unfold lowL at ih ⊢
    simp only [sumL]
    rw [h0.1, h0.2.1, h0.2.2, ih]
theorem settled_least {N : NetL} {d d' : Desk} {π : Int → Int} (h : Settled N d π) (hl : Alike d d') (hz : ∀ v : Nat, v < 10 → exc v d'.all = 0) : offL d.all ≤ offL d'.all ∧ offL d.all = lowL π d.all := by
  have hlay := h.fit.lay
  have hlay' := hlay.alike hl
  have hout := hlay.ok.out
  have m1 : ∀ w ∈ d.all, (0 ≤ w.fr ∧ w.fr < 10) ∧ 0 ≤ w.to ∧ w.to < 10 := fun w hw => by have := hlay.mem hw; omega
  have m2 : ∀ w ∈ d'.all, (0 ≤ w.fr ∧ w.fr < 10) ∧ 0 ≤ w.to ∧ w.to < 10 := fun w hw => by have := hlay'.mem hw; have := hl.out; omega
  have e1 := lowL_eq m1 h.zero (fun w hw => by obtain ⟨i, hi, rfl⟩ := mem_gD hw; have := h.fit.sp i hi; omega) (fun w hw => by obtain ⟨i, hi, rfl⟩ := mem_gD hw; exact h.fit.opt i hi)
  have e2 := lowL_le (π := π) m2 hz (fun w hw => by
    obtain ⟨i, hi, rfl⟩ := mem_gD hw
    rw [hl.len] at hi
    obtain ⟨a, b, _⟩ := hl.way i hi
    rw [a, b]
    rcases h.fit.opt i hi with ⟨h1, _⟩ | ⟨h1, _⟩ | ⟨h1, _⟩ <;> omega)
  have e3 := lowL_alike (π := π) (l := d.all) (m := d'.all) hl.len.symm (fun i hi => hl.way i hi)
  omega
end Go.Bal

namespace Go.Bal
open Go
variable {d : Desk}
structure InS (d : Desk) : Prop where
  ok : d.ok
  sp : ∀ i, i < d.all.length → -100000000 ≤ (gD d.all i).sp.lo ∧ (gD d.all i).sp.lo ≤ (gD d.all i).sp.hi ∧ (gD d.all i).sp.hi ≤ 100000000
  now : ∀ i, i < d.all.length → (gD d.all i).sp.lo ≤ (gD d.all i).now ∧ (gD d.all i).now ≤ (gD d.all i).sp.hi
  zero : ∀ v : Nat, v < 10 → exc v d.all = 0
theorem InS.small (h : InS d) {i : Nat} (hi : i < d.all.length) : Small 3000000000 (gD d.all i) := by
  have := h.now i hi
  have := h.sp i hi
  exact ⟨by omega, h.sp i hi⟩
end Go.Bal

namespace Go.Bal
open Go
variable {d : Desk}
end Go.Bal

namespace Go.Bal
open Go
variable {d d' : Desk}
theorem sumN_head (f : Nat → Int) : ∀ n, sumN (n + 1) f = f 0 + sumN n fun i => f (i + 1)
  | 0 => by simp [sumN]
  | n + 1 => by
    rw [sumN, sumN_head f n]
    simp only [sumN]
    omega
theorem sumL_idx {α : Type} [Inhabited α] (f : α → Int) : ∀ l : List α, sumL f l = sumN l.length fun i => f (gD l i)
  | [] => rfl
  | w :: l => by
    rw [List.length_cons, sumN_head]
    simp only [sumL]
    rw [sumL_idx f l]
    rfl
theorem InS.circ (h : InS d) (π : Int → Int) : sumN d.all.length (fun i => (π (gD d.all i).to - π (gD d.all i).fr) * (gD d.all i).now) = 0 := by
  have := circ_zero π (l := d.all) (fun w hw => by
    obtain ⟨i, hi, rfl⟩ := mem_gD hw
    have := h.ok.ends i hi
    have := h.ok.out
    omega) h.zero
  rw [sumL_idx] at this
  exact this
end Go.Bal

namespace Go.Bal
open Go
theorem sumL_nonneg {α : Type} {f : α → Int} : ∀ {l : List α}, (∀ w ∈ l, 0 ≤ f w) → 0 ≤ sumL f l
  | [], _ => Int.le_refl _
  | w :: l, h => by
    simp only [sumL]
    have h1 := sumL_nonneg (f := f) fun x hx => h x (List.mem_cons_of_mem w hx)
    have h2 := h w (by simp)
    omega
theorem sumL_zero {α : Type} {f : α → Int} : ∀ {l : List α}, (∀ w ∈ l, 0 ≤ f w) → sumL f l = 0 → ∀ w ∈ l, f w = 0
  | [], _, _, w, hw => by cases hw
  | x :: l, h, hz, w, hw => by
    simp only [sumL] at hz
    have h1 := sumL_nonneg (f := f) fun y hy => h y (List.mem_cons_of_mem x hy)
    have h2 := h x (by simp)
    rcases List.mem_cons.1 hw with rfl | hw
    · omega
    · exact sumL_zero (fun y hy => h y (List.mem_cons_of_mem x hy)) (by omega) w hw
theorem sumL_cap {α : Type} {f : α → Int} {K : Int} : ∀ {l : List α}, (∀ w ∈ l, f w ≤ K) → sumL f l ≤ K * l.length
  | [], _ => by simp [sumL]
  | w :: l, h => by
    simp only [sumL]
    have h1 := sumL_cap (f := f) (K := K) fun x hx => h x (List.mem_cons_of_mem w hx)
    have h2 := h w (by simp)
    rw [List.length_cons, Int.natCast_add, Int.mul_add]
    omega
theorem sumFrom_eq : ∀ (l : List Int) (a : Int), (∀ x ∈ l, 0 ≤ x) → 0 ≤ a → a + sumL (fun x => x) l ≤ 9000000000000000000 → sumFrom a l = a + sumL (fun x => x) l
  | [], a, _, _, _ => by simp [sumFrom, sumL]
  | x :: l, a, h, ha, hs => by
    have hx := h x (by simp)
    have hl := sumL_nonneg (f := fun x : Int => x) fun y hy => h y (List.mem_cons_of_mem x hy)
    simp only [sumL] at hs
    simp only [sumFrom, sumL]
    rw [wr_id (by omega) (by omega), sumFrom_eq l (a + x) (fun y hy => h y (List.mem_cons_of_mem x hy)) (by omega) (by omega)]
    omega
theorem off_eq {x : Int} {s : Span} (hx : -1000000000000000 ≤ x ∧ x ≤ 1000000000000000) (hs : -100000000 ≤ s.lo ∧ s.hi ≤ 100000000) (hs' : s.lo ≤ 100000000 ∧ -100000000 ≤ s.hi) : offM x s = offI x s := by
  unfold offM offI
  rw [wr_id (n := s.lo - x) (by omega) (by omega), wr_id (n := x - s.hi) (by omega) (by omega)]
  omega
theorem sumL_range (f : Nat → Int) : ∀ n, sumL (fun x => x) ((List.range n).map f) = sumN n f
  | 0 => rfl
  | n + 1 => by
    rw [List.range_succ, List.map_append, sumL_append, sumL_range f n]
    simp [sumL, sumN]
theorem sumN_split (f : Nat → Int) (a : Nat) : ∀ b, sumN (a + b) f = sumN a f + sumN b fun j => f (a + j)
  | 0 => by simp [sumN]
  | b + 1 => by
    rw [show a + (b + 1) = a + b + 1 from rfl, sumN, sumN_split f a b, sumN]
    omega
theorem like_sp {N : NetL} {d : Desk} (hl : Alike (begunM N) d) : d.all.length = N.r.length + N.g.length ∧ (∀ i, i < N.r.length → (gD d.all i).sp = (gD N.r i).sp ∧ (gD d.all i).fr = (gD N.r i).fr ∧ (gD d.all i).to = (gD N.r i).to) ∧
    ∀ i, i < N.g.length → (gD d.all (N.r.length + i)).sp = gD N.g i ∧ (gD d.all (N.r.length + i)).fr = N.g.length ∧ (gD d.all (N.r.length + i)).to = i := by
  have hlen := begunM_len N
  refine ⟨hl.len.trans hlen, fun i hi => ?_, fun i hi => ?_⟩
  · obtain ⟨a, b, e⟩ := hl.way i (by omega)
    rw [a, b, e, begunM_all, gD_map _ (by rw [beg_len]; omega), beg_lo hi]
    exact ⟨rfl, rfl, rfl⟩
  · obtain ⟨a, b, e⟩ := hl.way (N.r.length + i) (by omega)
    rw [a, b, e, begunM_all, gD_map _ (by rw [beg_len]; omega), beg_hi hi]
    exact ⟨rfl, rfl, rfl⟩
structure GoodW (N : NetL) : Prop where
  g1 : 1 ≤ N.g.length
  g8 : N.g.length ≤ 8
  r14 : N.r.length ≤ 14
  g : ∀ i, i < N.g.length → (-100000000 ≤ (gD N.g i).lo ∧ (gD N.g i).lo ≤ (gD N.g i).hi) ∧ (gD N.g i).hi ≤ 100000000
  r : ∀ i, i < N.r.length → ((-100000000 ≤ (gD N.r i).sp.lo ∧ (gD N.r i).sp.lo ≤ (gD N.r i).sp.hi) ∧ (gD N.r i).sp.hi ≤ 100000000) ∧ (0 ≤ (gD N.r i).fr ∧ (gD N.r i).fr < N.g.length) ∧ (0 ≤ (gD N.r i).to ∧ (gD N.r i).to < N.g.length) ∧ (gD N.r i).fr ≠ (gD N.r i).to
theorem Good.w {N : NetL} (h : Good N) : GoodW N :=
  ⟨h.g1, h.g8, h.r14, fun i hi => by have := h.g i hi; omega, fun i hi => by obtain ⟨a, b⟩ := h.r i hi; exact ⟨by omega, b⟩⟩
theorem cost_desk {N : NetL} {d : Desk} (hg : GoodW N) (hl : Alike (begunM N) d) (hb : ∀ i, i < d.all.length → -1000000000000000 ≤ (gD d.all i).now ∧ (gD d.all i).now ≤ 1000000000000000) : costM N (truthM d) = offL d.all := by
  obtain ⟨h1, h2, h3⟩ := like_sp hl
  have hnR : d.nR = N.r.length := hl.nR
  have hout : d.out = N.g.length := hl.out
  have hf : ∀ i, i < N.r.length → offM (gD (truthM d).f i) (gD N.r i).sp = offI (gD d.all i).now (gD d.all i).sp := fun i hi => by
    have e : gD (truthM d).f i = (gD d.all i).now := by
      show gD ((List.range d.nR).map fun i => (gD d.all i).now) i = _
      exact gD_range (fun i => (gD d.all i).now) (by omega)
    rw [e, (h2 i hi).1]
    have := (hg.r i hi).1
    exact off_eq (hb i (by omega)) (by omega) (by omega)
  have ht : ∀ i, i < N.g.length → offM (gD (truthM d).t i) (gD N.g i) = offI (gD d.all (N.r.length + i)).now (gD d.all (N.r.length + i)).sp := fun i hi => by
    have e : gD (truthM d).t i = (gD d.all (N.r.length + i)).now := by
      show gD ((List.range d.out).map fun i => (gD d.all (d.nR + i)).now) i = _
      rw [gD_range (fun i => (gD d.all (d.nR + i)).now) (by omega), hnR]
    rw [e, (h3 i hi).1]
    have := hg.g i hi
    exact off_eq (hb _ (by omega)) (by omega) (by omega)
  have hs : sumL (fun x => x) (costL N (truthM d)) = offL d.all := by
    unfold costL offL
    rw [sumL_append, sumL_range, sumL_range, sumL_idx, h1, sumN_split]
    rw [sumN_congr hf, sumN_congr ht]
  have hn : ∀ x ∈ costL N (truthM d), 0 ≤ x := fun x hx => by
    unfold costL at hx
    rcases List.mem_append.1 hx with hx | hx <;> obtain ⟨i, hi, rfl⟩ := List.mem_map.1 hx <;> rw [List.mem_range] at hi
    · rw [hf i hi]; unfold offI; omega
    · rw [ht i hi]; unfold offI; omega
  have hcap : offL d.all ≤ 2000000000000000 * d.all.length := sumL_cap fun w hw => by
    obtain ⟨i, hi, rfl⟩ := mem_gD hw
    have h4 := hb i hi
    have h5 : -100000000 ≤ (gD d.all i).sp.lo ∧ (gD d.all i).sp.hi ≤ 100000000 ∧ (gD d.all i).sp.lo ≤ (gD d.all i).sp.hi := by
      by_cases hr : i < N.r.length
      · rw [(h2 i hr).1]; have := (hg.r i hr).1; omega
      · obtain ⟨j, rfl⟩ : ∃ j, i = N.r.length + j := ⟨i - N.r.length, by omega⟩
        rw [(h3 j (by omega)).1]; have := hg.g j (by omega); omega
    unfold offI; omega
  have h8 := hg.g8
  have h14 := hg.r14
  have h0 : 0 ≤ offL d.all := sumL_nonneg fun w _ => by unfold offI; omega
  unfold costM
  rw [sumFrom_eq _ 0 hn (by omega) (by rw [hs]; omega), hs]
  omega
end Go.Bal

namespace Go.Bal
open Go
theorem setC_eq {N : NetL} (h : checkL N = 0) : setC N = offL (setD N).all := by
  obtain ⟨h1, π, hs⟩ := settled_ok h
  rw [(set_eq h1).2]
  refine cost_desk (good_of h).w hs.like fun i hi => ?_
  have := (hs.fit.small (by omega) hi).now
  omega
theorem setC_nonneg {N : NetL} (h : checkL N = 0) : 0 ≤ setC N := by
  rw [setC_eq h]
  exact sumL_nonneg fun w _ => by unfold offI; omega
end Go.Bal

namespace Go.Bal
open Go
theorem far_fit {d : Desk} {π : Int → Int} {M : Int} (h : Fit d π M) (hM : M ≤ 3000000000) {o : Int} (ho : 0 ≤ o ∧ o ≤ d.out) : ∃ rf, reachV d any o = some rf ∧ (∀ v : Int, 0 ≤ v → v ≤ d.out → (rf.m.at v).isSome = true) ∧ (rf.m.far o).cost = 0 ∧ Fit d (fun v => (rf.m.far v).cost) M := by
  obtain ⟨rf, hrf, _, hal⟩ := reachV_ok (c := any) (fr := o) h.lay.ok (by omega) (h.pot hM)
  have hreach : ∀ v : Int, 0 ≤ v → v ≤ d.out → (rf.m.at v).isSome = true := fun v h0 h1 => by
    obtain ⟨a, q, w⟩ := h.lay.walk ho ⟨h0, h1⟩
    exact hal.2 v a q w
  have lab : ∀ v : Int, 0 ≤ v → v ≤ d.out → ∃ k : Nat, Least d any o v (rf.m.far v).cost k := fun v h0 h1 => by
    obtain ⟨g, hg⟩ := Option.isSome_iff_exists.1 (hreach v h0 h1)
    obtain ⟨_, k, _, hk⟩ := hal.1 v g hg
    have : rf.m.far v = g := by simp [Map.far, hg]
    rw [this]; exact ⟨k, hk⟩
  refine ⟨rf, hrf, hreach, ?_, h.lay, h.sp, h.now, fun i hi => ?_⟩
  · obtain ⟨k, hk⟩ := lab o ho.1 ho.2
    have h1 := hk.2 _ _ .nil
    have h2 := Walk.pot (h.pot hM) hk.1
    omega
  · have hsm := h.small hM hi
    have hen := h.lay.ends i hi
    refine (optW_iff hsm (by omega) _).2 ?_
    obtain ⟨k1, hk1⟩ := lab (gD d.all i).fr hen.1.1 hen.1.2
    obtain ⟨k2, hk2⟩ := lab (gD d.all i).to hen.2.1 hen.2.2
    have f1 := Walk.step (d := d) (c := any) (fr := o) ⟨(i : Int), false⟩ (by rw [src_eq]; exact hk1.1) ⟨by constructor <;> simp only <;> omega, rfl⟩
    have f2 := Walk.step (d := d) (c := any) (fr := o) ⟨(i : Int), true⟩ (by rw [src_eq]; exact hk2.1) ⟨by constructor <;> simp only <;> omega, rfl⟩
    have g1 := hk2.2 _ _ f1
    have g2 := hk1.2 _ _ f2
    have p1 : priceM d ⟨(i : Int), false⟩ = (roomM (gD d.all i) false).1 := rfl
    have p2 : priceM d ⟨(i : Int), true⟩ = (roomM (gD d.all i) true).1 := rfl
    rw [p1] at g1
    rw [p2] at g2
    omega
end Go.Bal
