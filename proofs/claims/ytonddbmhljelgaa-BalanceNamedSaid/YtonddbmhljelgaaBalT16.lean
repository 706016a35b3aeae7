/- Package balance: truths that can be, and the narrowest spans. -/
import Derived.Test.YtonddbmhljelgaaBalT15
import Derived.Test.YtonddbmhljelgaaBalN
import Derived.Test.YtonddbmhljelgaaBalS
set_option linter.unusedVariables false
set_option linter.unusedSimpArgs false
namespace Go.Bal
open Go
variable {N : NetL} {T : TruthL}
structure Can (N : NetL) (T : TruthL) : Prop where
  ask : askM N T = 0
  unb : unbM N T = []
  cost : costM N T = 0
theorem alike_back {d d1 d2 : Desk} (a : Alike d d1) (b : Alike d d2) : Alike d1 d2 := ⟨b.out.trans a.out.symm, b.nR.trans a.nR.symm, b.len.trans a.len.symm, fun i hi => by
  obtain ⟨a1, a2, a3⟩ := a.way i (by rw [← a.len]; exact hi)
  obtain ⟨b1, b2, b3⟩ := b.way i (by rw [← a.len]; exact hi)
  exact ⟨b1.trans a1.symm, b2.trans a2.symm, b3.trans a3.symm⟩⟩
theorem like_spans (hg : Good N) {d : Desk} (hl : Alike (begunM N) d) : ∀ i, i < d.all.length → -1000000 ≤ (gD d.all i).sp.lo ∧ (gD d.all i).sp.lo ≤ (gD d.all i).sp.hi ∧ (gD d.all i).sp.hi ≤ 1000000 := fun i hi => by
  have h := (begun_sp hg (i := i) (by rw [← hl.len]; exact hi)).1
  rw [← (hl.way i (by rw [← hl.len]; exact hi)).2.2] at h
  exact h
theorem off_zero {l : List Way} (h : offL l = 0) {i : Nat} (hi : i < l.length) : (gD l i).sp.lo ≤ (gD l i).now ∧ (gD l i).now ≤ (gD l i).sp.hi := by
  have := sumL_zero (fun w _ => by unfold offI; omega) h (gD l i) (gD_mem hi)
  unfold offI at this
  omega
theorem off_in {l : List Way} (h : ∀ i, i < l.length → (gD l i).sp.lo ≤ (gD l i).now ∧ (gD l i).now ≤ (gD l i).sp.hi) : offL l = 0 := by
  unfold offL
  rw [sumL_congr (g := fun _ => 0) fun w hw => ?_]
  · rw [sumL_idx, sumN_zero]
  · obtain ⟨i, hi, rfl⟩ := mem_gD hw
    have := h i hi
    unfold offI; omega
theorem can_in (h : Can N T) : InS (deskT N T) ∧ Alike (begunM N) (deskT N T) := by
  obtain ⟨hc, l1, l2, hT⟩ := askM_to h.ask
  have hg := good_of hc
  have hz := h.cost
  rw [costT hg.w l1 l2 hT] at hz
  refine ⟨⟨(deskT_lay hg.w).ok, fun i hi => ?_, fun i hi => off_zero hz hi, (unb_iff hg.w l1 l2 hT).1 h.unb⟩, deskT_like⟩
  have := like_spans hg (deskT_like (T := T)) i hi
  omega
theorem can_zero (h : Can N T) : setC N = 0 := by
  have h1 := set_least h.ask h.unb
  have h2 := setC_nonneg (askM_to h.ask).1
  have := h.cost
  omega
def balN (N : NetL) (T : TruthL) (s : Nat) : Int := gD T.t s + sumN N.r.length fun i => bS s (gD N.r i) (gD T.f i)
theorem bal_N (hg : GoodW N) (h1 : T.f.length = N.r.length) (h2 : T.t.length = N.g.length) (hT : SmallT T) {s : Nat} (hs : s < N.g.length) : balAt N T s = balN N T s := by
  have := hg.r14
  unfold balAt balN
  exact balF_sum (B := 100000000) (by omega) s N.r T.f (gD T.t s) 100000000 h1.symm hT.1 (hT.2 s (by omega)) (by omega)
theorem unb_balN (hg : GoodW N) (h1 : T.f.length = N.r.length) (h2 : T.t.length = N.g.length) (hT : SmallT T) : unbM N T = [] ↔ ∀ s, s < N.g.length → balN N T s = 0 := by
  unfold unbM unbK
  rw [List.map_eq_nil_iff, List.filter_eq_nil_iff]
  simp only [List.mem_range, unbB, Bool.not_eq_true', decide_eq_false_iff_not, Decidable.not_not]
  constructor
  · intro h s hs; rw [← bal_N hg h1 h2 hT hs]; exact h s hs
  · intro h s hs; rw [bal_N hg h1 h2 hT hs]; exact h s hs
theorem can_iff (h : checkL N = 0) : Can N T ↔ (T.f.length = N.r.length ∧ T.t.length = N.g.length) ∧ (∀ i, i < N.r.length → (gD N.r i).sp.lo ≤ gD T.f i ∧ gD T.f i ≤ (gD N.r i).sp.hi) ∧ (∀ j, j < N.g.length → (gD N.g j).lo ≤ gD T.t j ∧ gD T.t j ≤ (gD N.g j).hi) ∧ ∀ s, s < N.g.length → balN N T s = 0 := by
  have hg := good_of h
  constructor
  · intro hC
    obtain ⟨_, l1, l2, hT⟩ := askM_to hC.ask
    obtain ⟨hi, _⟩ := can_in hC
    refine ⟨⟨l1, l2⟩, fun i hi' => ?_, fun j hj => ?_, (unb_balN hg.w l1 l2 hT).1 hC.unb⟩
    · have := hi.now i (by rw [deskT_len]; omega)
      rw [deskT_lo hi'] at this; exact this
    · have := hi.now (N.r.length + j) (by rw [deskT_len]; omega)
      rw [deskT_hi hj] at this; exact this
  · rintro ⟨⟨l1, l2⟩, h1, h2, h3⟩
    have hT : SmallT T := ⟨fun i hi => by have := h1 i (by omega); have := (hg.r i (by omega)).1; omega, fun i hi => by have := h2 i (by omega); have := hg.g i (by omega); omega⟩
    refine ⟨askM_of h l1 l2 hT, (unb_balN hg.w l1 l2 hT).2 h3, ?_⟩
    rw [costT hg.w l1 l2 hT]
    refine off_in fun i hi => ?_
    rw [deskT_len] at hi
    revert i
    refine ways_all (fun i hi => ?_) (fun j hj => ?_)
    · rw [deskT_lo hi]; exact h1 i hi
    · rw [deskT_hi hj]; exact h2 j hj
structure IsSpan (N : NetL) (f : TruthL → Int) (s : Span) : Prop where
  lo : ∃ T, Can N T ∧ f T = s.lo
  hi : ∃ T, Can N T ∧ f T = s.hi
  all : ∀ T, Can N T → s.lo ≤ f T ∧ f T ≤ s.hi
theorem IsSpan.uniq {f : TruthL → Int} {s t : Span} (h : IsSpan N f s) (k : IsSpan N f t) : s = t := by
  obtain ⟨T1, c1, e1⟩ := h.lo
  obtain ⟨T2, c2, e2⟩ := h.hi
  obtain ⟨T3, c3, e3⟩ := k.lo
  obtain ⟨T4, c4, e4⟩ := k.hi
  have := k.all T1 c1
  have := k.all T2 c2
  have := h.all T3 c3
  have := h.all T4 c4
  obtain ⟨a, b⟩ := s
  obtain ⟨c, d⟩ := t
  simp only at *
  rw [show a = c by omega, show b = d by omega]
theorem IsSpan.le {f : TruthL → Int} {s : Span} (h : IsSpan N f s) : s.lo ≤ s.hi := by
  obtain ⟨T1, c1, e1⟩ := h.lo
  have := h.all T1 c1
  omega
end Go.Bal

namespace Go.Bal
open Go Go.Sym Go.Proofs
structure NRF where
  N : NetL
  r : Int
  f : Int
def NRF.lacks (a : NRF) : Int := wr (a.f - (getW (setD a.N).all a.r).now)
def NRF.need (a : NRF) : Int := max a.lacks (wr (-a.lacks))
def NRF.sh (a : NRF) : Option (Desk × Int) := shiftV (setD a.N) a.r (decide (0 < a.lacks)) a.need
def NRF.res (a : NRF) : Desk × Int := a.sh.getD default
end Go.Bal

namespace Go.Bal
open Go
variable {N : NetL} {T : TruthL}
end Go.Bal

namespace Go.Bal
open Go
variable {N : NetL} {T : TruthL}
end Go.Bal

namespace Go.Bal
open Go
variable {N : NetL} {T : TruthL}
theorem susp_w (hg : Good N) {k : Nat} (hk : k < N.r.length) : GoodW (suspN N k) := by
  have e : ∀ i, gD (suspN N k).r i = if i = k then { (gD N.r k) with sp := wide } else gD N.r i := fun i => gD_modify hk i
  refine ⟨hg.g1, hg.g8, by show (N.r.modify k _).length ≤ 14; rw [List.length_modify]; exact hg.r14, hg.w.g, fun i hi => ?_⟩
  have hi : i < N.r.length := by simpa [suspN] using hi
  rw [e]
  split
  · obtain ⟨_, b⟩ := hg.r k hk
    exact ⟨by simp only [wide]; omega, b⟩
  · exact hg.w.r i hi
theorem susp_len (N : NetL) (k : Nat) : (suspN N k).r.length = N.r.length := by simp [suspN]
theorem susp_like (hg : Good N) {k : Nat} (hk : k < N.r.length) : Alike (begunM (suspN N k)) (suspD N k) := by
  have e : ∀ i, gD (suspN N k).r i = if i = k then { (gD N.r k) with sp := wide } else gD N.r i := fun i => gD_modify hk i
  refine ⟨rfl, by show N.r.length = (suspN N k).r.length; rw [susp_len], by rw [suspD_len, begunM_len, susp_len]; rfl, fun i hi => ?_⟩
  rw [begunM_len, susp_len] at hi
  have hi : i < N.r.length + N.g.length := hi
  rw [suspD_gD (by omega), begunM_all (suspN N k), gD_map _ (by rw [beg_len, susp_len]; exact hi)]
  revert i
  refine ways_all (fun i hi _ => ?_) (fun j hj _ => ?_)
  · rw [beg_lo (N := suspN N k) (by rw [susp_len]; exact hi), e]
    by_cases he : i = k
    · subst he
      rw [if_pos rfl, if_pos rfl, begunM_all N, gD_map _ (by rw [beg_len]; omega), beg_lo hi]; exact ⟨rfl, rfl, rfl⟩
    · rw [if_neg he, if_neg he, begunM_all N, gD_map _ (by rw [beg_len]; omega), beg_lo hi]; exact ⟨rfl, rfl, rfl⟩
  · rw [if_neg (by omega), begunM_all N, gD_map _ (by rw [beg_len]; omega), beg_hi hj]
    have := beg_hi (N := suspN N k) (i := j) hj
    rw [susp_len] at this
    rw [this]; exact ⟨rfl, rfl, rfl⟩
structure CanX (N : NetL) (k : Nat) (T : TruthL) : Prop where
  f : T.f.length = N.r.length
  t : T.t.length = N.g.length
  r : ∀ i, i < N.r.length → i ≠ k → (gD N.r i).sp.lo ≤ gD T.f i ∧ gD T.f i ≤ (gD N.r i).sp.hi
  k : -100000000 ≤ gD T.f k ∧ gD T.f k ≤ 100000000
  g : ∀ j, j < N.g.length → (gD N.g j).lo ≤ gD T.t j ∧ gD T.t j ≤ (gD N.g j).hi
  bal : ∀ s, s < N.g.length → balN N T s = 0
theorem susp_bal {k : Nat} (hk : k < N.r.length) (s : Nat) : balN (suspN N k) T s = balN N T s := by
  unfold balN
  rw [susp_len]
  congr 1
  refine sumN_congr fun i hi => ?_
  rw [show gD (suspN N k).r i = if i = k then { (gD N.r k) with sp := wide } else gD N.r i from gD_modify hk i]
  by_cases he : i = k
  · subst he; rw [if_pos rfl]; rfl
  · rw [if_neg he]
theorem fit_least {d d' : Desk} {π : Int → Int} {M : Int} (h : Fit d π M) (hz : ∀ v : Nat, v < 10 → exc v d.all = 0) (hl : Alike d d') (hz' : ∀ v : Nat, v < 10 → exc v d'.all = 0) : offL d.all = lowL π d.all ∧ offL d.all ≤ offL d'.all := by
  have hlay := h.lay
  have hlay' := hlay.alike hl
  have hout := hlay.ok.out
  have m1 : ∀ w ∈ d.all, (0 ≤ w.fr ∧ w.fr < 10) ∧ 0 ≤ w.to ∧ w.to < 10 := fun w hw => by have := hlay.mem hw; omega
  have m2 : ∀ w ∈ d'.all, (0 ≤ w.fr ∧ w.fr < 10) ∧ 0 ≤ w.to ∧ w.to < 10 := fun w hw => by have := hlay'.mem hw; have := hlay'.ok.out; omega
  have e1 : lowL π d.all = offL d.all := lowL_eq m1 hz (fun w hw => by
    obtain ⟨i, hi, rfl⟩ := mem_gD hw
    have := h.sp i hi; omega) fun w hw => by
    obtain ⟨i, hi, rfl⟩ := mem_gD hw
    exact h.opt i hi
  have e2 : lowL π d'.all = lowL π d.all := lowL_alike hl.len.symm fun i hi => hl.way i hi
  have e3 : lowL π d'.all ≤ offL d'.all := lowL_le m2 hz' fun w hw => by
    obtain ⟨i, hi, rfl⟩ := mem_gD hw
    have hi' : i < d.all.length := by rw [← hl.len]; exact hi
    obtain ⟨a, b, _⟩ := hl.way i hi'
    rw [a, b]
    have := h.opt i hi'
    unfold OptW at this; omega
  exact ⟨e1.symm, by omega⟩
theorem susp_fit (h : checkL N = 0) {k : Nat} (hk : k < N.r.length) : (settleV (suspD N k)).isSome = true ∧ ∃ π, Fit (suspF N k) π 2900000000 ∧ (∀ v : Nat, v < 10 → exc v (suspF N k).all = 0) ∧ Alike (begunM (suspN N k)) (suspF N k) ∧ costM (suspN N k) (truthM (suspF N k)) = offL (suspF N k).all := by
  have hg := good_of h
  have hw := susp_w hg hk
  have hlike := susp_like hg hk
  have hlen := begunM_len N
  have hLb := begun_lay hg
  have hLs : Lay (suspD N k) := (deskT_lay (T := truthM (suspD N k)) hw).alike (alike_back deskT_like hlike)
  have hsp : ∀ i, i < (suspD N k).all.length → (gD (suspD N k).all i).now = (gD (begunM N).all i).now ∧ ((gD (suspD N k).all i).sp = wide ∨ (gD (suspD N k).all i).sp = (gD (begunM N).all i).sp) := fun i hi => by
    rw [suspD_gD (by omega)]
    by_cases he : i = k
    · subst he; rw [if_pos rfl]; exact ⟨rfl, .inl rfl⟩
    · rw [if_neg he]; exact ⟨rfl, .inr rfl⟩
  obtain ⟨d', π, h1, h2, h3, h4⟩ := settleV_fit hLs (fun i hi => by
    have h5 := begun_sp hg (i := i) (by rw [suspD_len] at hi; omega)
    rcases (hsp i hi).2 with e | e
    · rw [e]; simp only [wide]; omega
    · rw [e]; omega) (fun i hi => by
    have h5 := begun_sp hg (i := i) (by rw [suspD_len] at hi; omega)
    rw [(hsp i hi).1]
    rcases (hsp i hi).2 with e | e
    · rw [e]; simp only [wide]; omega
    · rw [e]; omega) (fun i hi => by
    have h5 := begun_sp hg (i := i) (by rw [suspD_len] at hi; omega)
    rw [(hsp i hi).1]; omega)
  have hF : suspF N k = d' := by unfold suspF; rw [h1]; rfl
  rw [hF]
  have hl := hlike.trans h4
  exact ⟨by rw [h1]; rfl, π, h2, h3, hl, cost_desk hw hl fun i hi => by have := (h2.small (by omega) hi).now; omega⟩
theorem susp_can {k : Nat} (hg : Good N) (hk : k < N.r.length) {d : Desk} (hl : Alike (begunM (suspN N k)) d) (hz : ∀ v : Nat, v < 10 → exc v d.all = 0) (hin : ∀ i, i < d.all.length → (gD d.all i).sp.lo ≤ (gD d.all i).now ∧ (gD d.all i).now ≤ (gD d.all i).sp.hi) : CanX N k (truthM d) := by
  have hw := susp_w hg hk
  have e : ∀ i, gD (suspN N k).r i = if i = k then { (gD N.r k) with sp := wide } else gD N.r i := fun i => gD_modify hk i
  obtain ⟨e1, e2, e3⟩ := like_sp hl
  rw [susp_len] at e1 e2 e3
  have hnR : d.nR = N.r.length := by rw [hl.nR]; show (suspN N k).r.length = _; rw [susp_len]
  have hout : d.out = N.g.length := hl.out
  have e1 : d.all.length = N.r.length + N.g.length := e1
  have fR : ∀ i, i < N.r.length → (gD (suspN N k).r i).sp.lo ≤ gD (truthM d).f i ∧ gD (truthM d).f i ≤ (gD (suspN N k).r i).sp.hi := fun i hi => by
    rw [truth_gf (by omega), ← (e2 i hi).1]; exact hin i (by omega)
  have fG : ∀ j, j < N.g.length → (gD N.g j).lo ≤ gD (truthM d).t j ∧ gD (truthM d).t j ≤ (gD N.g j).hi := fun j hj => by
    have := (e3 j hj).1
    rw [truth_gt (by omega), hnR, show gD N.g j = gD (suspN N k).g j from rfl, ← this]; exact hin _ (by omega)
  have l1 : (truthM d).f.length = N.r.length := by rw [truth_fl, hnR]
  have l2 : (truthM d).t.length = N.g.length := by rw [truth_tl, hout]
  have hT : SmallT (truthM d) := ⟨fun i hi => by have := fR i (by omega); have := (hw.r i (by rw [susp_len]; omega)).1; omega, fun j hj => by have := fG j (by omega); have := hg.g j (by omega); omega⟩
  refine ⟨l1, l2, fun i hi hne => ?_, hT.1 k (by omega), fG, fun s hs => ?_⟩
  · have := fR i hi; rw [e, if_neg hne] at this; exact this
  · rw [← susp_bal hk]
    refine (unb_balN hw (by rw [susp_len]; exact l1) l2 hT).1 ((unb_iff hw (by rw [susp_len]; exact l1) l2 hT).2 ?_) s hs
    rw [deskT_truth hl]; exact hz
theorem susp_in {k : Nat} (hg : Good N) (hk : k < N.r.length) (hT : CanX N k T) : (∀ v : Nat, v < 10 → exc v (deskT (suspN N k) T).all = 0) ∧ offL (deskT (suspN N k) T).all = 0 := by
  have hw := susp_w hg hk
  have e : ∀ i, gD (suspN N k).r i = if i = k then { (gD N.r k) with sp := wide } else gD N.r i := fun i => gD_modify hk i
  have fR : ∀ i, i < N.r.length → (gD (suspN N k).r i).sp.lo ≤ gD T.f i ∧ gD T.f i ≤ (gD (suspN N k).r i).sp.hi := fun i hi => by
    rw [e]
    by_cases he : i = k
    · subst he; rw [if_pos rfl]; exact hT.k
    · rw [if_neg he]; exact hT.r i hi he
  have l1 : T.f.length = (suspN N k).r.length := by rw [susp_len]; exact hT.f
  have hs : SmallT T := ⟨fun i hi => by have := fR i (by have := hT.f; omega); have := (hw.r i (by omega)).1; omega, fun j hj => by have := hT.g j (by have := hT.t; omega); have := hg.g j (by have := hT.t; omega); omega⟩
  refine ⟨(unb_iff hw l1 hT.t hs).1 ((unb_balN hw l1 hT.t hs).2 fun s hs => by rw [susp_bal hk]; exact hT.bal s hs), off_in fun i hi => ?_⟩
  rw [deskT_len, susp_len] at hi
  have hi : i < N.r.length + N.g.length := hi
  revert i
  refine ways_all (fun i hi _ => ?_) (fun j hj _ => ?_)
  · rw [deskT_lo (by rw [susp_len]; exact hi)]; exact fR i hi
  · have := deskT_hi (N := suspN N k) (T := T) (j := j) hj
    rw [susp_len] at this
    rw [this]; exact hT.g j hj
theorem susp_iff (h : checkL N = 0) {k : Nat} (hk : k < N.r.length) : suspB N k = true ↔ ∃ T, CanX N k T := by
  have hg := good_of h
  obtain ⟨_, π, h1, h2, h3, h4⟩ := susp_fit h hk
  unfold suspB
  rw [h4, decide_eq_true_eq]
  constructor
  · intro h0
    exact ⟨_, susp_can hg hk h3 h2 fun i hi => off_zero h0 hi⟩
  · rintro ⟨T, hT⟩
    obtain ⟨a, b⟩ := susp_in hg hk hT
    have := (fit_least h1 h2 (alike_back h3 (deskT_like (T := T))) a).2
    have : 0 ≤ offL (suspF N k).all := sumL_nonneg fun w _ => by unfold offI; omega
    omega
end Go.Bal
