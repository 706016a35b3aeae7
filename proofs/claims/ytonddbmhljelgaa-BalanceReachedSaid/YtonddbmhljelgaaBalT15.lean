/- Package balance: corrections and levels: what is returned is right, and nothing is better. -/
import Derived.Test.YtonddbmhljelgaaBalT14
set_option linter.unusedVariables false
set_option linter.unusedSimpArgs false
namespace Go.Bal
open Go
variable {N : NetL} {T : TruthL}
theorem set_fit (h : checkL N = 0) : ∃ π, Fit (setD N) π 46000000 ∧ (∀ v : Nat, v < 10 → exc v (setD N).all = 0) ∧ Alike (begunM N) (setD N) ∧ (settledV N).isSome = true := by
  have hg := good_of h
  have hl := begun_lay hg
  have h8 := hg.g8
  have h14 := hg.r14
  have hlen := begunM_len N
  have h0 : outside (begunM N) ≤ 2 * 1000000 * (begunM N).all.length := outside_le (by omega) fun w hw => by
    obtain ⟨i, hi, rfl⟩ := mem_gD hw
    have := begun_sp hg hi
    omega
  have hf : Fit (begunM N) (fun _ => 0) 46000000 := ⟨hl, fun i hi => by have := (begun_sp hg hi).1; omega, fun i hi => by have := begun_sp hg hi; omega, fun i hi => .inl ⟨by omega, (begun_sp hg hi).2.1, (begun_sp hg hi).2.2⟩⟩
  have hfu : (3000000000 : Int) < fuel := by unfold fuel; decide
  obtain ⟨d', π, h1, h2, h3, h4⟩ := settleM_fit (by omega) fuel (begunM N) _ hf (by omega)
  obtain ⟨hs, _⟩ := settled_ok h
  have he := (set_eq hs).1
  have h1 : settleV (begunM N) = some d' := h1
  rw [h1] at he
  cases he
  exact ⟨π, h2, (all_zero h2.lay.ok (B := 3000000000) (by omega) fun i hi => (h2.small (by omega) hi).now).1 h3, h4, hs⟩
theorem set_small (h : checkL N = 0) {i : Nat} (hi : i < (setD N).all.length) : -46000000 ≤ (gD (setD N).all i).now ∧ (gD (setD N).all i).now ≤ 46000000 := by
  obtain ⟨π, hf, _⟩ := set_fit h
  have := hf.now i hi
  have := outside_nonneg (setD N)
  omega
theorem askM_of (h : checkL N = 0) (h1 : T.f.length = N.r.length) (h2 : T.t.length = N.g.length) (hT : SmallT T) : askM N T = 0 := by
  have a1 : allB (fun i => inM (gD T.f i) (-100000000) 100000000) T.f.length = true := allB_iff.2 fun i hi => inM_iff.2 (hT.1 i hi)
  have a2 : allB (fun i => inM (gD T.t i) (-100000000) 100000000) T.t.length = true := allB_iff.2 fun i hi => inM_iff.2 (hT.2 i hi)
  unfold askM
  rw [if_pos h, if_pos ⟨h1, h2⟩, a1, a2]; rfl
theorem askM_to (h : askM N T = 0) : checkL N = 0 ∧ T.f.length = N.r.length ∧ T.t.length = N.g.length ∧ SmallT T := by
  obtain ⟨a, ⟨b, c⟩, d, e⟩ := askM_zero h
  exact ⟨a, b, c, d, e⟩
theorem truth_ok (h : checkL N = 0) {d : Desk} (hl : Alike (begunM N) d) (hb : ∀ i, i < d.all.length → -100000000 ≤ (gD d.all i).now ∧ (gD d.all i).now ≤ 100000000) (hz : ∀ v : Nat, v < 10 → exc v d.all = 0) :
    askM N (truthM d) = 0 ∧ unbM N (truthM d) = [] ∧ costM N (truthM d) = offL d.all := by
  have hg := good_of h
  have hnR : d.nR = N.r.length := hl.nR
  have hout : d.out = N.g.length := hl.out
  have hlen : d.all.length = N.r.length + N.g.length := (like_sp hl).1
  have l1 : (truthM d).f.length = N.r.length := by rw [truth_fl, hnR]
  have l2 : (truthM d).t.length = N.g.length := by rw [truth_tl, hout]
  have hT : SmallT (truthM d) := ⟨fun i hi => by rw [truth_gf (by omega)]; exact hb i (by omega), fun i hi => by rw [truth_gt (by omega)]; exact hb _ (by omega)⟩
  refine ⟨askM_of h l1 l2 hT, (unb_iff hg.w l1 l2 hT).2 ?_, ?_⟩
  · rw [deskT_truth hl]; exact hz
  · rw [costT hg.w l1 l2 hT, deskT_truth hl]
theorem set_least (ha : askM N T = 0) (hu : unbM N T = []) : setC N ≤ costM N T := by
  obtain ⟨h, l1, l2, hT⟩ := askM_to ha
  have hg := good_of h
  obtain ⟨_, π, hs⟩ := settled_ok h
  rw [costT hg.w l1 l2 hT, setC_eq h]
  have hl : Alike (setD N) (deskT N T) := by
    have a := hs.like
    have b : Alike (begunM N) (deskT N T) := deskT_like
    exact ⟨b.out.trans a.out.symm, b.nR.trans a.nR.symm, b.len.trans a.len.symm, fun i hi => by
      obtain ⟨a1, a2, a3⟩ := a.way i (by rw [← a.len]; exact hi)
      obtain ⟨b1, b2, b3⟩ := b.way i (by rw [← a.len]; exact hi)
      exact ⟨b1.trans a1.symm, b2.trans a2.symm, b3.trans a3.symm⟩⟩
  exact (settled_least hs hl ((unb_iff hg.w l1 l2 hT).1 hu)).1
end Go.Bal

namespace Go.Bal
open Go
variable {N : NetL} {T : TruthL}
structure Can (N : NetL) (T : TruthL) : Prop where
  ask : askM N T = 0
  unb : unbM N T = []
  cost : costM N T = 0
theorem alike_back {d d1 d2 : Desk} (a : Alike d d1) (b : Alike d d2) : Alike d1 d2 := ⟨b.out.trans a.out.symm, b.nR.trans a.nR.symm, b.len.trans a.len.symm, fun i hi => by
  obtain ⟨a1, a2, a3⟩ := a.way i (by rw [← a.len]; exact hi)
  obtain ⟨b1, b2, b3⟩ := b.way i (by rw [← a.len]; exact hi)
  exact ⟨b1.trans a1.symm, b2.trans a2.symm, b3.trans a3.symm⟩⟩
theorem like_spans (hg : Good N) {d : Desk} (hl : Alike (begunM N) d) : ∀ i, i < d.all.length → -1000000 ≤ (gD d.all i).sp.lo ∧ (gD d.all i).sp.lo ≤ (gD d.all i).sp.hi ∧ (gD d.all i).sp.hi ≤ 1000000 := fun i hi => by
  have h := (begun_sp hg (i := i) (by rw [← hl.len]; exact hi)).1
  rw [← (hl.way i (by rw [← hl.len]; exact hi)).2.2] at h
  exact h
theorem off_zero {l : List Way} (h : offL l = 0) {i : Nat} (hi : i < l.length) : (gD l i).sp.lo ≤ (gD l i).now ∧ (gD l i).now ≤ (gD l i).sp.hi := by
  have := sumL_zero (fun w _ => by unfold offI; omega) h (gD l i) (gD_mem hi)
  unfold offI at this
  omega
theorem off_in {l : List Way} (h : ∀ i, i < l.length → (gD l i).sp.lo ≤ (gD l i).now ∧ (gD l i).now ≤ (gD l i).sp.hi) : offL l = 0 := by
  unfold offL
  rw [sumL_congr (g := fun _ => 0) fun w hw => ?_]
  · rw [sumL_idx, sumN_zero]
  · obtain ⟨i, hi, rfl⟩ := mem_gD hw
    have := h i hi
    unfold offI; omega
theorem can_in (h : Can N T) : InS (deskT N T) ∧ Alike (begunM N) (deskT N T) := by
  obtain ⟨hc, l1, l2, hT⟩ := askM_to h.ask
  have hg := good_of hc
  have hz := h.cost
  rw [costT hg.w l1 l2 hT] at hz
  refine ⟨⟨(deskT_lay hg.w).ok, fun i hi => ?_, fun i hi => off_zero hz hi, (unb_iff hg.w l1 l2 hT).1 h.unb⟩, deskT_like⟩
  have := like_spans hg (deskT_like (T := T)) i hi
  omega
theorem in_can (h : checkL N = 0) {d : Desk} (hl : Alike (begunM N) d) (hi : InS d) : Can N (truthM d) := by
  obtain ⟨a, b, c⟩ := truth_ok h hl (fun i hi' => by have := hi.now i hi'; have := hi.sp i hi'; omega) hi.zero
  exact ⟨a, b, c.trans (off_in hi.now)⟩
theorem can_zero (h : Can N T) : setC N = 0 := by
  have h1 := set_least h.ask h.unb
  have h2 := setC_nonneg (askM_to h.ask).1
  have := h.cost
  omega
def balN (N : NetL) (T : TruthL) (s : Nat) : Int := gD T.t s + sumN N.r.length fun i => bS s (gD N.r i) (gD T.f i)
theorem bal_N (hg : GoodW N) (h1 : T.f.length = N.r.length) (h2 : T.t.length = N.g.length) (hT : SmallT T) {s : Nat} (hs : s < N.g.length) : balAt N T s = balN N T s := by
  have := hg.r14
  unfold balAt balN
  exact balF_sum (B := 100000000) (by omega) s N.r T.f (gD T.t s) 100000000 h1.symm hT.1 (hT.2 s (by omega)) (by omega)
theorem unb_balN (hg : GoodW N) (h1 : T.f.length = N.r.length) (h2 : T.t.length = N.g.length) (hT : SmallT T) : unbM N T = [] ↔ ∀ s, s < N.g.length → balN N T s = 0 := by
  unfold unbM unbK
  rw [List.map_eq_nil_iff, List.filter_eq_nil_iff]
  simp only [List.mem_range, unbB, Bool.not_eq_true', decide_eq_false_iff_not, Decidable.not_not]
  constructor
  · intro h s hs; rw [← bal_N hg h1 h2 hT hs]; exact h s hs
  · intro h s hs; rw [bal_N hg h1 h2 hT hs]; exact h s hs
theorem can_iff (h : checkL N = 0) : Can N T ↔ (T.f.length = N.r.length ∧ T.t.length = N.g.length) ∧ (∀ i, i < N.r.length → (gD N.r i).sp.lo ≤ gD T.f i ∧ gD T.f i ≤ (gD N.r i).sp.hi) ∧ (∀ j, j < N.g.length → (gD N.g j).lo ≤ gD T.t j ∧ gD T.t j ≤ (gD N.g j).hi) ∧ ∀ s, s < N.g.length → balN N T s = 0 := by
  have hg := good_of h
  constructor
  · intro hC
    obtain ⟨_, l1, l2, hT⟩ := askM_to hC.ask
    obtain ⟨hi, _⟩ := can_in hC
    refine ⟨⟨l1, l2⟩, fun i hi' => ?_, fun j hj => ?_, (unb_balN hg.w l1 l2 hT).1 hC.unb⟩
    · have := hi.now i (by rw [deskT_len]; omega)
      rw [deskT_lo hi'] at this; exact this
    · have := hi.now (N.r.length + j) (by rw [deskT_len]; omega)
      rw [deskT_hi hj] at this; exact this
  · rintro ⟨⟨l1, l2⟩, h1, h2, h3⟩
    have hT : SmallT T := ⟨fun i hi => by have := h1 i (by omega); have := (hg.r i (by omega)).1; omega, fun i hi => by have := h2 i (by omega); have := hg.g i (by omega); omega⟩
    refine ⟨askM_of h l1 l2 hT, (unb_balN hg.w l1 l2 hT).2 h3, ?_⟩
    rw [costT hg.w l1 l2 hT]
    refine off_in fun i hi => ?_
    rw [deskT_len] at hi
    revert i
    refine ways_all (fun i hi => ?_) (fun j hj => ?_)
    · rw [deskT_lo hi]; exact h1 i hi
    · rw [deskT_hi hj]; exact h2 j hj
theorem spF_get (h : checkL N = 0) {i : Nat} (hi : i < N.r.length) : gD (spF N) i = (spanV (setD N) i).getD default := by
  obtain ⟨h2, _⟩ := settled_ok h
  obtain ⟨l1, l2, l3⟩ := set_len h2
  unfold spF
  have : gD ((spanL (setD N)).take (setD N).nR) i = gD (spanL (setD N)) i := by
    simp only [gD, List.getD_eq_getElem?_getD]; rw [List.getElem?_take_of_lt (by omega)]
  rw [this]; exact gD_range (fun (i : Nat) => (spanV (setD N) i).getD default) (by omega)
theorem sp_lens (h : checkL N = 0) : (spF N).length = N.r.length ∧ (spG N).length = N.g.length := by
  obtain ⟨h2, _⟩ := settled_ok h
  obtain ⟨l1, l2, l3⟩ := set_len h2
  constructor
  · simp [spF, spanL]; omega
  · simp [spG, spanL]; omega
structure IsSpan (N : NetL) (f : TruthL → Int) (s : Span) : Prop where
  lo : ∃ T, Can N T ∧ f T = s.lo
  hi : ∃ T, Can N T ∧ f T = s.hi
  all : ∀ T, Can N T → s.lo ≤ f T ∧ f T ≤ s.hi
theorem IsSpan.uniq {f : TruthL → Int} {s t : Span} (h : IsSpan N f s) (k : IsSpan N f t) : s = t := by
  obtain ⟨T1, c1, e1⟩ := h.lo
  obtain ⟨T2, c2, e2⟩ := h.hi
  obtain ⟨T3, c3, e3⟩ := k.lo
  obtain ⟨T4, c4, e4⟩ := k.hi
  have := k.all T1 c1
  have := k.all T2 c2
  have := h.all T3 c3
  have := h.all T4 c4
  obtain ⟨a, b⟩ := s
  obtain ⟨c, d⟩ := t
  simp only at *
  rw [show a = c by omega, show b = d by omega]
theorem IsSpan.le {f : TruthL → Int} {s : Span} (h : IsSpan N f s) : s.lo ≤ s.hi := by
  obtain ⟨T1, c1, e1⟩ := h.lo
  have := h.all T1 c1
  omega
theorem way_span (h : checkL N = 0) (hc : setC N = 0) {i : Nat} (hi : i < N.r.length + N.g.length) : (spanV (setD N) i).isSome = true ∧ IsSpan N (fun T => (gD (deskT N T).all i).now) ((spanV (setD N) i).getD default) := by
  obtain ⟨h2, π, hs⟩ := settled_ok h
  obtain ⟨l1, l2, l3⟩ := set_len h2
  obtain ⟨s, dl, dh, e, ⟨il, al, nl⟩, ⟨ih, ah, nh⟩, ha⟩ := net_span h (by omega) (i := i) (by omega)
  rw [e]
  have hL := hs.like
  refine ⟨rfl, ⟨truthM dl, in_can h (hL.trans al) il, ?_⟩, ⟨truthM dh, in_can h (hL.trans ah) ih, ?_⟩, fun T hT => ?_⟩
  · show (gD (deskT N (truthM dl)).all i).now = s.lo
    rw [deskT_truth (hL.trans al)]; exact nl
  · show (gD (deskT N (truthM dh)).all i).now = s.hi
    rw [deskT_truth (hL.trans ah)]; exact nh
  · obtain ⟨i1, a1⟩ := can_in hT
    exact ha _ i1 (alike_back hL a1)
theorem span_some (h : checkL N = 0) (hc : setC N = 0) : ∀ i : Nat, i < (setD N).all.length → (spanV (setD N) i).isSome = true := fun i hi => by
  obtain ⟨h2, _⟩ := settled_ok h
  obtain ⟨l1, l2, l3⟩ := set_len h2
  exact (way_span h hc (by omega)).1
theorem flow_span (h : checkL N = 0) (hc : setC N = 0) {i : Nat} (hi : i < N.r.length) : IsSpan N (fun T => gD T.f i) (gD (spF N) i) := by
  have := (way_span h hc (i := i) (by omega)).2
  rw [← spF_get h hi] at this
  have e : (fun T => (gD (deskT N T).all i).now) = fun T => gD T.f i := by funext T; rw [deskT_lo hi]
  rw [e] at this; exact this
end Go.Bal
