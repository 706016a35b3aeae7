/- Package balance: which reaches alone can be wrong. -/
import Derived.Test.YtonddbmhljelgaaBalT15
import Derived.Test.YtonddbmhljelgaaBalS
import Derived.Test.YtonddbmhljelgaaBalO
set_option linter.unusedVariables false
set_option linter.unusedSimpArgs false
namespace Go.Bal
open Go
variable {N : NetL} {T : TruthL}
theorem susp_w (hg : Good N) {k : Nat} (hk : k < N.r.length) : GoodW (suspN N k) := by
  have e : ∀ i, gD (suspN N k).r i = if i = k then { (gD N.r k) with sp := wide } else gD N.r i := fun i => gD_modify hk i
  refine ⟨hg.g1, hg.g8, by show (N.r.modify k _).length ≤ 14; rw [List.length_modify]; exact hg.r14, hg.w.g, fun i hi => ?_⟩
  have hi : i < N.r.length := by simpa [suspN] using hi
  rw [e]
  split
  · obtain ⟨_, b⟩ := hg.r k hk
    exact ⟨by simp only [wide]; omega, b⟩
  · exact hg.w.r i hi
theorem susp_len (N : NetL) (k : Nat) : (suspN N k).r.length = N.r.length := by simp [suspN]
theorem susp_like (hg : Good N) {k : Nat} (hk : k < N.r.length) : Alike (begunM (suspN N k)) (suspD N k) := by
  have e : ∀ i, gD (suspN N k).r i = if i = k then { (gD N.r k) with sp := wide } else gD N.r i := fun i => gD_modify hk i
  refine ⟨rfl, by show N.r.length = (suspN N k).r.length; rw [susp_len], by rw [suspD_len, begunM_len, susp_len]; rfl, fun i hi => ?_⟩
  rw [begunM_len, susp_len] at hi
  have hi : i < N.r.length + N.g.length := hi
  rw [suspD_gD (by omega), begunM_all (suspN N k), gD_map _ (by rw [beg_len, susp_len]; exact hi)]
  revert i
  refine ways_all (fun i hi _ => ?_) (fun j hj _ => ?_)
  · rw [beg_lo (N := suspN N k) (by rw [susp_len]; exact hi), e]
    by_cases he : i = k
    · subst he
      rw [if_pos rfl, if_pos rfl, begunM_all N, gD_map _ (by rw [beg_len]; omega), beg_lo hi]; exact ⟨rfl, rfl, rfl⟩
    · rw [if_neg he, if_neg he, begunM_all N, gD_map _ (by rw [beg_len]; omega), beg_lo hi]; exact ⟨rfl, rfl, rfl⟩
  · rw [if_neg (by omega), begunM_all N, gD_map _ (by rw [beg_len]; omega), beg_hi hj]
    have := beg_hi (N := suspN N k) (i := j) hj
    rw [susp_len] at this
    rw [this]; exact ⟨rfl, rfl, rfl⟩
structure CanX (N : NetL) (k : Nat) (T : TruthL) : Prop where
  f : T.f.length = N.r.length
  t : T.t.length = N.g.length
  r : ∀ i, i < N.r.length → i ≠ k → (gD N.r i).sp.lo ≤ gD T.f i ∧ gD T.f i ≤ (gD N.r i).sp.hi
  k : -100000000 ≤ gD T.f k ∧ gD T.f k ≤ 100000000
  g : ∀ j, j < N.g.length → (gD N.g j).lo ≤ gD T.t j ∧ gD T.t j ≤ (gD N.g j).hi
  bal : ∀ s, s < N.g.length → balN N T s = 0
theorem susp_bal {k : Nat} (hk : k < N.r.length) (s : Nat) : balN (suspN N k) T s = balN N T s := by
  unfold balN
  rw [susp_len]
  congr 1
  refine sumN_congr fun i hi => ?_
  rw [show gD (suspN N k).r i = if i = k then { (gD N.r k) with sp := wide } else gD N.r i from gD_modify hk i]
  by_cases he : i = k
  · subst he; rw [if_pos rfl]; rfl
  · rw [if_neg he]
theorem fit_least {d d' : Desk} {π : Int → Int} {M : Int} (h : Fit d π M) (hz : ∀ v : Nat, v < 10 → exc v d.all = 0) (hl : Alike d d') (hz' : ∀ v : Nat, v < 10 → exc v d'.all = 0) : offL d.all = lowL π d.all ∧ offL d.all ≤ offL d'.all := by
  have hlay := h.lay
  have hlay' := hlay.alike hl
  have hout := hlay.ok.out
  have m1 : ∀ w ∈ d.all, (0 ≤ w.fr ∧ w.fr < 10) ∧ 0 ≤ w.to ∧ w.to < 10 := fun w hw => by have := hlay.mem hw; omega
  have m2 : ∀ w ∈ d'.all, (0 ≤ w.fr ∧ w.fr < 10) ∧ 0 ≤ w.to ∧ w.to < 10 := fun w hw => by have := hlay'.mem hw; have := hlay'.ok.out; omega
  have e1 : lowL π d.all = offL d.all := lowL_eq m1 hz (fun w hw => by
    obtain ⟨i, hi, rfl⟩ := mem_gD hw
    have := h.sp i hi; omega) fun w hw => by
    obtain ⟨i, hi, rfl⟩ := mem_gD hw
    exact h.opt i hi
  have e2 : lowL π d'.all = lowL π d.all := lowL_alike hl.len.symm fun i hi => hl.way i hi
  have e3 : lowL π d'.all ≤ offL d'.all := lowL_le m2 hz' fun w hw => by
    obtain ⟨i, hi, rfl⟩ := mem_gD hw
    have hi' : i < d.all.length := by rw [← hl.len]; exact hi
    obtain ⟨a, b, _⟩ := hl.way i hi'
    rw [a, b]
    have := h.opt i hi'
    unfold OptW at this; omega
  exact ⟨e1.symm, by omega⟩
theorem susp_fit (h : checkL N = 0) {k : Nat} (hk : k < N.r.length) : (settleV (suspD N k)).isSome = true ∧ ∃ π, Fit (suspF N k) π 2900000000 ∧ (∀ v : Nat, v < 10 → exc v (suspF N k).all = 0) ∧ Alike (begunM (suspN N k)) (suspF N k) ∧ costM (suspN N k) (truthM (suspF N k)) = offL (suspF N k).all := by
  have hg := good_of h
  have hw := susp_w hg hk
  have hlike := susp_like hg hk
  have hlen := begunM_len N
  have hLb := begun_lay hg
  have hLs : Lay (suspD N k) := (deskT_lay (T := truthM (suspD N k)) hw).alike (alike_back deskT_like hlike)
  have hsp : ∀ i, i < (suspD N k).all.length → (gD (suspD N k).all i).now = (gD (begunM N).all i).now ∧ ((gD (suspD N k).all i).sp = wide ∨ (gD (suspD N k).all i).sp = (gD (begunM N).all i).sp) := fun i hi => by
    rw [suspD_gD (by omega)]
    by_cases he : i = k
    · subst he; rw [if_pos rfl]; exact ⟨rfl, .inl rfl⟩
    · rw [if_neg he]; exact ⟨rfl, .inr rfl⟩
  obtain ⟨d', π, h1, h2, h3, h4⟩ := settleV_fit hLs (fun i hi => by
    have h5 := begun_sp hg (i := i) (by rw [suspD_len] at hi; omega)
    rcases (hsp i hi).2 with e | e
    · rw [e]; simp only [wide]; omega
    · rw [e]; omega) (fun i hi => by
    have h5 := begun_sp hg (i := i) (by rw [suspD_len] at hi; omega)
    rw [(hsp i hi).1]
    rcases (hsp i hi).2 with e | e
    · rw [e]; simp only [wide]; omega
    · rw [e]; omega) (fun i hi => by
    have h5 := begun_sp hg (i := i) (by rw [suspD_len] at hi; omega)
    rw [(hsp i hi).1]; omega)
  have hF : suspF N k = d' := by unfold suspF; rw [h1]; rfl
  rw [hF]
  have hl := hlike.trans h4
  exact ⟨by rw [h1]; rfl, π, h2, h3, hl, cost_desk hw hl fun i hi => by have := (h2.small (by omega) hi).now; omega⟩
theorem susp_can {k : Nat} (hg : Good N) (hk : k < N.r.length) {d : Desk} (hl : Alike (begunM (suspN N k)) d) (hz : ∀ v : Nat, v < 10 → exc v d.all = 0) (hin : ∀ i, i < d.all.length → (gD d.all i).sp.lo ≤ (gD d.all i).now ∧ (gD d.all i).now ≤ (gD d.all i).sp.hi) : CanX N k (truthM d) := by
  have hw := susp_w hg hk
  have e : ∀ i, gD (suspN N k).r i = if i = k then { (gD N.r k) with sp := wide } else gD N.r i := fun i => gD_modify hk i
  obtain ⟨e1, e2, e3⟩ := like_sp hl
  rw [susp_len] at e1 e2 e3
  have hnR : d.nR = N.r.length := by rw [hl.nR]; show (suspN N k).r.length = _; rw [susp_len]
  have hout : d.out = N.g.length := hl.out
  have e1 : d.all.length = N.r.length + N.g.length := e1
  have fR : ∀ i, i < N.r.length → (gD (suspN N k).r i).sp.lo ≤ gD (truthM d).f i ∧ gD (truthM d).f i ≤ (gD (suspN N k).r i).sp.hi := fun i hi => by
    rw [truth_gf (by omega), ← (e2 i hi).1]; exact hin i (by omega)
  have fG : ∀ j, j < N.g.length → (gD N.g j).lo ≤ gD (truthM d).t j ∧ gD (truthM d).t j ≤ (gD N.g j).hi := fun j hj => by
    have := (e3 j hj).1
    rw [truth_gt (by omega), hnR, show gD N.g j = gD (suspN N k).g j from rfl, ← this]; exact hin _ (by omega)
  have l1 : (truthM d).f.length = N.r.length := by rw [truth_fl, hnR]
  have l2 : (truthM d).t.length = N.g.length := by rw [truth_tl, hout]
  have hT : SmallT (truthM d) := ⟨fun i hi => by have := fR i (by omega); have := (hw.r i (by rw [susp_len]; omega)).1; omega, fun j hj => by have := fG j (by omega); have := hg.g j (by omega); omega⟩
  refine ⟨l1, l2, fun i hi hne => ?_, hT.1 k (by omega), fG, fun s hs => ?_⟩
  · have := fR i hi; rw [e, if_neg hne] at this; exact this
  · rw [← susp_bal hk]
    refine (unb_balN hw (by rw [susp_len]; exact l1) l2 hT).1 ((unb_iff hw (by rw [susp_len]; exact l1) l2 hT).2 ?_) s hs
    rw [deskT_truth hl]; exact hz
theorem susp_in {k : Nat} (hg : Good N) (hk : k < N.r.length) (hT : CanX N k T) : (∀ v : Nat, v < 10 → exc v (deskT (suspN N k) T).all = 0) ∧ offL (deskT (suspN N k) T).all = 0 := by
  have hw := susp_w hg hk
  have e : ∀ i, gD (suspN N k).r i = if i = k then { (gD N.r k) with sp := wide } else gD N.r i := fun i => gD_modify hk i
  have fR : ∀ i, i < N.r.length → (gD (suspN N k).r i).sp.lo ≤ gD T.f i ∧ gD T.f i ≤ (gD (suspN N k).r i).sp.hi := fun i hi => by
    rw [e]
    by_cases he : i = k
    · subst he; rw [if_pos rfl]; exact hT.k
    · rw [if_neg he]; exact hT.r i hi he
  have l1 : T.f.length = (suspN N k).r.length := by rw [susp_len]; exact hT.f
  have hs : SmallT T := ⟨fun i hi => by have := fR i (by have := hT.f; omega); have := (hw.r i (by omega)).1; omega, fun j hj => by have := hT.g j (by have := hT.t; omega); have := hg.g j (by have := hT.t; omega); omega⟩
  refine ⟨(unb_iff hw l1 hT.t hs).1 ((unb_balN hw l1 hT.t hs).2 fun s hs => by rw [susp_bal hk]; exact hT.bal s hs), off_in fun i hi => ?_⟩
  rw [deskT_len, susp_len] at hi
  have hi : i < N.r.length + N.g.length := hi
  revert i
  refine ways_all (fun i hi _ => ?_) (fun j hj _ => ?_)
  · rw [deskT_lo (by rw [susp_len]; exact hi)]; exact fR i hi
  · have := deskT_hi (N := suspN N k) (T := T) (j := j) hj
    rw [susp_len] at this
    rw [this]; exact hT.g j hj
theorem susp_iff (h : checkL N = 0) {k : Nat} (hk : k < N.r.length) : suspB N k = true ↔ ∃ T, CanX N k T := by
  have hg := good_of h
  obtain ⟨_, π, h1, h2, h3, h4⟩ := susp_fit h hk
  unfold suspB
  rw [h4, decide_eq_true_eq]
  constructor
  · intro h0
    exact ⟨_, susp_can hg hk h3 h2 fun i hi => off_zero h0 hi⟩
  · rintro ⟨T, hT⟩
    obtain ⟨a, b⟩ := susp_in hg hk hT
    have := (fit_least h1 h2 (alike_back h3 (deskT_like (T := T))) a).2
    have : 0 ≤ offL (suspF N k).all := sumL_nonneg fun w _ => by unfold offI; omega
    omega
end Go.Bal


namespace Go.Bal
open Go Go.Sym Go.Proofs
def suspE (N : NetL) : Int := if checkL N = 0 then if setC N = 0 then 8 else 0 else checkL N
def A25e : Ann := ann 72 [(19, C19.spec d67)]
def A25b : Ann := ann 72 [(19, C19b.spec d67)]
def C25b : Ctr := { α := NetL, xs := fun N => [.d (eNetL N)], L := fun _ => [], val := fun N => .tup [.d (eIntsL []), .int (suspE N)], keep := fun _ => [], pre := fun N => [suspE N ≠ 0, checkL N = 0 → (settledV N).isSome = true] }
def V25e (N : NetL) : Prop := fnVC Try.prog A25e Try.f25 (bodyOf Try.f25) (C25b.xs N) (heapOf []) (C25b.val N) (C25b.keep N) [] []
theorem vc25e (N : NetL) : (V25e N) = (((rng N.g.length fun (i : Nat) => gD N.g i).length = N.g.length ∧ (∀ (i : Nat), i < (rng N.g.length fun (i : Nat) => gD N.g i).length → (gD (rng N.g.length fun (i : Nat) => gD N.g
 i) i).lo = (gD N.g i).lo ∧ (gD (rng N.g.length fun (i : Nat) => gD N.g i) i).hi = (gD N.g i).hi) ∧ (rng N.r.length fun (i : Nat) => gD N.r i).length = N.r.length ∧ (∀ (i : Nat), i < (rng N.r.length fun (i : Nat) => gD
 N.r i).length → (gD (rng N.r.length fun (i : Nat) => gD N.r i) i).fr = (gD N.r i).fr ∧ (gD (rng N.r.length fun (i : Nat) => gD N.r i) i).to = (gD N.r i).to ∧ (gD (rng N.r.length fun (i : Nat) => gD N.r i) i).sp.lo = (gD
 N.r i).sp.lo ∧ (gD (rng N.r.length fun (i : Nat) => gD N.r i) i).sp.hi = (gD N.r i).sp.hi) ∧ checkL (NetL.mk (rng N.g.length fun (i : Nat) => gD N.g i) (rng N.r.length fun (i : Nat) => gD N.r i)) = 0 ∧ (settledV (NetL.mk
 (rng N.g.length fun (i : Nat) => gD N.g i) (rng N.r.length fun (i : Nat) => gD N.r i))).isSome = true) ∧ bif decide (setC (NetL.mk (rng N.g.length fun (i : Nat) => gD N.g i) (rng N.r.length fun (i : Nat) => gD N.r i)) =
 0) then 0 = 0 ∧ 0 = 0 ∧ suspE N = 8 else False) := by kernel_rfl
def V25b (N : NetL) : Prop := fnVC Try.prog A25b Try.f25 (bodyOf Try.f25) (C25b.xs N) (heapOf []) (C25b.val N) (C25b.keep N) [] []
theorem vc25b (N : NetL) : (V25b N) = (((rng N.g.length fun (i : Nat) => gD N.g i).length = N.g.length ∧ (∀ (i : Nat), i < (rng N.g.length fun (i : Nat) => gD N.g i).length → (gD (rng N.g.length fun (i : Nat) => gD N.g
 i) i).lo = (gD N.g i).lo ∧ (gD (rng N.g.length fun (i : Nat) => gD N.g i) i).hi = (gD N.g i).hi) ∧ (rng N.r.length fun (i : Nat) => gD N.r i).length = N.r.length ∧ (∀ (i : Nat), i < (rng N.r.length fun (i : Nat) => gD
 N.r i).length → (gD (rng N.r.length fun (i : Nat) => gD N.r i) i).fr = (gD N.r i).fr ∧ (gD (rng N.r.length fun (i : Nat) => gD N.r i) i).to = (gD N.r i).to ∧ (gD (rng N.r.length fun (i : Nat) => gD N.r i) i).sp.lo = (gD
 N.r i).sp.lo ∧ (gD (rng N.r.length fun (i : Nat) => gD N.r i) i).sp.hi = (gD N.r i).sp.hi) ∧ (checkL (NetL.mk (rng N.g.length fun (i : Nat) => gD N.g i) (rng N.r.length fun (i : Nat) => gD N.r i)) = 0 → False)) ∧ bif
 checkL (NetL.mk (rng N.g.length fun (i : Nat) => gD N.g i) (rng N.r.length fun (i : Nat) => gD N.r i)) != 0 then 0 = 0 ∧ 0 = 0 ∧ suspE N = checkL (NetL.mk (rng N.g.length fun (i : Nat) => gD N.g i) (rng N.r.length fun (i
 : Nat) => gD N.r i)) else False) := by kernel_rfl
theorem p25e (N : NetL) (h1 : checkL N = 0) (h2 : (settledV N).isSome = true) (h3 : setC N = 0) : V25e N := by
  rw [vc25e]; simp only [condP, eq_self, implies_true, and_self, true_and, and_true, true_implies, forall_const, decide_eq_true_eq, decide_eq_false_iff_not, Int.toNat_natCast, dSpan_eSpan, dReach_eReach, dWay_eWay, dStep_eStep, dFar_eFar, dInt_eInt, Nat.zero_add, Int.zero_sub, Nat.le_eq, Nat.succ_eq_add_one, Nat.add_one_le_iff, Bool.not_eq_true', Bool.not_eq_false', rng_length, dSpan_mk, dReach_mk, dWay_mk, dStep_mk, dFar_mk, rng_getD, DL.d6, DL.d7, DL.d8]
  exact ⟨⟨h1, h2⟩, fun _ => by unfold suspE; rw [if_pos h1, if_pos h3], fun h => h h3⟩
theorem p25b (N : NetL) (h1 : checkL N ≠ 0) : V25b N := by
  rw [vc25b]; simp only [condP, eq_self, implies_true, and_self, true_and, and_true, true_implies, forall_const, decide_eq_true_eq, decide_eq_false_iff_not, Int.toNat_natCast, dSpan_eSpan, dReach_eReach, dWay_eWay, dStep_eStep, dFar_eFar, dInt_eInt, Nat.zero_add, Int.zero_sub, Nat.le_eq, Nat.succ_eq_add_one, Nat.add_one_le_iff, Bool.not_eq_true', Bool.not_eq_false', rng_length, dSpan_mk, dReach_mk, dWay_mk, dStep_mk, dFar_mk, rng_getD, DL.d6, DL.d7, DL.d8]
  exact ⟨h1, fun _ => by unfold suspE; rw [if_neg h1], fun h => h1 (by simpa using h)⟩
end Go.Bal
