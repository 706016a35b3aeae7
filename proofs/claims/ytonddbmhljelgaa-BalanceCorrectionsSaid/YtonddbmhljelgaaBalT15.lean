/- Package balance: corrections and levels: what is returned is right, and nothing is better. -/
import Derived.Test.YtonddbmhljelgaaBalZ
import Derived.Test.YtonddbmhljelgaaBalN
set_option linter.unusedVariables false
set_option linter.unusedSimpArgs false
namespace Go.Bal
open Go
variable {N : NetL} {T : TruthL}
theorem set_fit (h : checkL N = 0) : ∃ π, Fit (setD N) π 46000000 ∧ (∀ v : Nat, v < 10 → exc v (setD N).all = 0) ∧ Alike (begunM N) (setD N) ∧ (settledV N).isSome = true := by
  have hg := good_of h
  have hl := begun_lay hg
  have h8 := hg.g8
  have h14 := hg.r14
  have hlen := begunM_len N
  have h0 : outside (begunM N) ≤ 2 * 1000000 * (begunM N).all.length := outside_le (by omega) fun w hw => by
    obtain ⟨i, hi, rfl⟩ := mem_gD hw
    have := begun_sp hg hi
    omega
  have hf : Fit (begunM N) (fun _ => 0) 46000000 := ⟨hl, fun i hi => by have := (begun_sp hg hi).1; omega, fun i hi => by have := begun_sp hg hi; omega, fun i hi => .inl ⟨by omega, (begun_sp hg hi).2.1, (begun_sp hg hi).2.2⟩⟩
  have hfu : (3000000000 : Int) < fuel := by unfold fuel; decide
  obtain ⟨d', π, h1, h2, h3, h4⟩ := settleM_fit (by omega) fuel (begunM N) _ hf (by omega)
  obtain ⟨hs, _⟩ := settled_ok h
  have he := (set_eq hs).1
  have h1 : settleV (begunM N) = some d' := h1
  rw [h1] at he
  cases he
  exact ⟨π, h2, (all_zero h2.lay.ok (B := 3000000000) (by omega) fun i hi => (h2.small (by omega) hi).now).1 h3, h4, hs⟩
theorem set_small (h : checkL N = 0) {i : Nat} (hi : i < (setD N).all.length) : -46000000 ≤ (gD (setD N).all i).now ∧ (gD (setD N).all i).now ≤ 46000000 := by
  obtain ⟨π, hf, _⟩ := set_fit h
  have := hf.now i hi
  have := outside_nonneg (setD N)
  omega
def setT (N : NetL) : TruthL := truthM (setD N)
theorem askM_of (h : checkL N = 0) (h1 : T.f.length = N.r.length) (h2 : T.t.length = N.g.length) (hT : SmallT T) : askM N T = 0 := by
  have a1 : allB (fun i => inM (gD T.f i) (-100000000) 100000000) T.f.length = true := allB_iff.2 fun i hi => inM_iff.2 (hT.1 i hi)
  have a2 : allB (fun i => inM (gD T.t i) (-100000000) 100000000) T.t.length = true := allB_iff.2 fun i hi => inM_iff.2 (hT.2 i hi)
  unfold askM
  rw [if_pos h, if_pos ⟨h1, h2⟩, a1, a2]; rfl
theorem askM_to (h : askM N T = 0) : checkL N = 0 ∧ T.f.length = N.r.length ∧ T.t.length = N.g.length ∧ SmallT T := by
  obtain ⟨a, ⟨b, c⟩, d, e⟩ := askM_zero h
  exact ⟨a, b, c, d, e⟩
theorem truth_ok (h : checkL N = 0) {d : Desk} (hl : Alike (begunM N) d) (hb : ∀ i, i < d.all.length → -100000000 ≤ (gD d.all i).now ∧ (gD d.all i).now ≤ 100000000) (hz : ∀ v : Nat, v < 10 → exc v d.all = 0) :
    askM N (truthM d) = 0 ∧ unbM N (truthM d) = [] ∧ costM N (truthM d) = offL d.all := by
  have hg := good_of h
  have hnR : d.nR = N.r.length := hl.nR
  have hout : d.out = N.g.length := hl.out
  have hlen : d.all.length = N.r.length + N.g.length := (like_sp hl).1
  have l1 : (truthM d).f.length = N.r.length := by rw [truth_fl, hnR]
  have l2 : (truthM d).t.length = N.g.length := by rw [truth_tl, hout]
  have hT : SmallT (truthM d) := ⟨fun i hi => by rw [truth_gf (by omega)]; exact hb i (by omega), fun i hi => by rw [truth_gt (by omega)]; exact hb _ (by omega)⟩
  refine ⟨askM_of h l1 l2 hT, (unb_iff hg.w l1 l2 hT).2 ?_, ?_⟩
  · rw [deskT_truth hl]; exact hz
  · rw [costT hg.w l1 l2 hT, deskT_truth hl]
theorem setT_ok (h : checkL N = 0) : askM N (setT N) = 0 ∧ unbM N (setT N) = [] ∧ costM N (setT N) = setC N := by
  obtain ⟨π, hf, hz, hl, _⟩ := set_fit h
  obtain ⟨a, b, c⟩ := truth_ok h hl (fun i hi => by have := set_small h hi; omega) hz
  exact ⟨a, b, c.trans (setC_eq h).symm⟩
theorem set_least (ha : askM N T = 0) (hu : unbM N T = []) : setC N ≤ costM N T := by
  obtain ⟨h, l1, l2, hT⟩ := askM_to ha
  have hg := good_of h
  obtain ⟨_, π, hs⟩ := settled_ok h
  rw [costT hg.w l1 l2 hT, setC_eq h]
  have hl : Alike (setD N) (deskT N T) := by
    have a := hs.like
    have b : Alike (begunM N) (deskT N T) := deskT_like
    exact ⟨b.out.trans a.out.symm, b.nR.trans a.nR.symm, b.len.trans a.len.symm, fun i hi => by
      obtain ⟨a1, a2, a3⟩ := a.way i (by rw [← a.len]; exact hi)
      obtain ⟨b1, b2, b3⟩ := b.way i (by rw [← a.len]; exact hi)
      exact ⟨b1.trans a1.symm, b2.trans a2.symm, b3.trans a3.symm⟩⟩
  exact (settled_least hs hl ((unb_iff hg.w l1 l2 hT).1 hu)).1
theorem count_low {r p : Int} {s : Span} (hs : -1000000 ≤ s.lo ∧ s.lo ≤ s.hi ∧ s.hi ≤ 1000000) (hp : -1000000000000000 ≤ p ∧ p ≤ 1000000000000000) : countM r s p = p + low (-r) s := by
  unfold countM low
  rw [wr_id (n := p + s.lo) (by omega) (by omega), wr_id (n := p - s.hi) (by omega) (by omega)]
  by_cases h1 : r = 1
  · rw [if_pos h1, if_neg (by omega), if_pos (by omega)]
  · rw [if_neg h1]
    by_cases h2 : r = -1
    · rw [if_pos h2, if_pos (by omega)]; omega
    · rw [if_neg h2, if_neg (by omega), if_neg (by omega)]; omega
theorem low_bd (r : Int) {s : Span} (hs : -1000000 ≤ s.lo ∧ s.lo ≤ s.hi ∧ s.hi ≤ 1000000) : -1000000 ≤ low r s ∧ low r s ≤ 1000000 := by
  unfold low; split
  · omega
  · split <;> omega
theorem prR_sum (lv : List Int) : ∀ (l : List Reach) (p K : Int), (∀ i, i < l.length → -1000000 ≤ (gD l i).sp.lo ∧ (gD l i).sp.lo ≤ (gD l i).sp.hi ∧ (gD l i).sp.hi ≤ 1000000) → -K ≤ p ∧ p ≤ K → K + 1000000 * l.length ≤ 1000000000000000 →
    prR lv p l = p + sumN l.length fun i => low (-(riseM lv (gD l i))) (gD l i).sp
  | [], p, K, _, _, _ => by simp [prR, sumN]
  | r :: l, p, K, hs, hp, hK => by
    have h0 : -1000000 ≤ r.sp.lo ∧ r.sp.lo ≤ r.sp.hi ∧ r.sp.hi ≤ 1000000 := hs 0 (by simp)
    have hb := low_bd (-(riseM lv r)) h0
    rw [List.length_cons] at hK
    rw [List.length_cons, sumN_head]
    simp only [prR]
    rw [count_low h0 (by omega), prR_sum lv l _ (K + 1000000) (fun i hi => hs (i + 1) (by simpa using hi)) (by omega) (by omega)]
    show p + low (-(riseM lv r)) r.sp + _ = p + (low (-(riseM lv r)) r.sp + _)
    rw [Int.add_assoc]; rfl
theorem prG_sum : ∀ (lv : List Int) (l : List Span) (p K : Int), lv.length = l.length → (∀ i, i < l.length → -1000000 ≤ (gD l i).lo ∧ (gD l i).lo ≤ (gD l i).hi ∧ (gD l i).hi ≤ 1000000) → -K ≤ p ∧ p ≤ K → K + 1000000 * l.length ≤ 1000000000000000 →
    prG p lv l = p + sumN l.length fun i => low (-(gD lv i)) (gD l i)
  | [], [], p, K, _, _, _, _ => by simp [prG, sumN]
  | [], _ :: _, p, K, h, _, _, _ => by simp at h
  | _ :: _, [], p, K, h, _, _, _ => by simp at h
  | x :: lv, s :: l, p, K, hl, hs, hp, hK => by
    have h0 : -1000000 ≤ s.lo ∧ s.lo ≤ s.hi ∧ s.hi ≤ 1000000 := hs 0 (by simp)
    have hb := low_bd (-x) h0
    rw [List.length_cons] at hK
    rw [List.length_cons, sumN_head]
    simp only [prG]
    rw [count_low h0 (by omega), prG_sum lv l _ (K + 1000000) (by simpa using hl) (fun i hi => hs (i + 1) (by simpa using hi)) (by omega) (by omega)]
    show p + low (-x) s + _ = p + (low (-x) s + _)
    rw [Int.add_assoc]; rfl
def piL (lv : List Int) (v : Int) : Int := if 0 ≤ v ∧ v < lv.length then -(gD lv v.toNat) else 0
theorem levOk_iff {lv : List Int} : levOk N lv = true ↔ lv.length = N.g.length ∧ (∀ i, i < lv.length → -1 ≤ gD lv i ∧ gD lv i ≤ 1) ∧ ∀ i, i < N.r.length → -1 ≤ riseM lv (gD N.r i) ∧ riseM lv (gD N.r i) ≤ 1 := by
  unfold levOk
  simp only [Bool.and_eq_true, decide_eq_true_eq, allB_iff, nearM, inM_iff]
  constructor
  · rintro ⟨⟨a, b⟩, c⟩; exact ⟨a, b, c⟩
  · rintro ⟨a, b, c⟩; exact ⟨⟨a, b⟩, c⟩
theorem rise_pi {lv : List Int} (hg : Good N) (hl : lv.length = N.g.length) (hb : ∀ i, i < lv.length → -1 ≤ gD lv i ∧ gD lv i ≤ 1) {i : Nat} (hi : i < N.r.length) : -(riseM lv (gD N.r i)) = piL lv (gD N.r i).to - piL lv (gD N.r i).fr := by
  obtain ⟨_, h1, h2, _⟩ := hg.r i hi
  have b1 := hb (gD N.r i).fr.toNat (by omega)
  have b2 := hb (gD N.r i).to.toNat (by omega)
  unfold riseM piL
  rw [wr_id (n := gD lv (gD N.r i).to.toNat - gD lv (gD N.r i).fr.toNat) (by omega) (by omega), if_pos (by omega), if_pos (by omega)]
  omega
theorem proved_low {lv : List Int} (hg : Good N) (hl : lv.length = N.g.length) (hb : ∀ i, i < lv.length → -1 ≤ gD lv i ∧ gD lv i ≤ 1) {d : Desk} (hd : Alike (begunM N) d) : provedM N lv = lowL (piL lv) d.all := by
  obtain ⟨e1, e2, e3⟩ := like_sp hd
  have h8 := hg.g8
  have h14 := hg.r14
  have sR : ∀ i, i < N.r.length → -1000000 ≤ (gD N.r i).sp.lo ∧ (gD N.r i).sp.lo ≤ (gD N.r i).sp.hi ∧ (gD N.r i).sp.hi ≤ 1000000 := fun i hi => by have := (hg.r i hi).1; omega
  have sG : ∀ i, i < N.g.length → -1000000 ≤ (gD N.g i).lo ∧ (gD N.g i).lo ≤ (gD N.g i).hi ∧ (gD N.g i).hi ≤ 1000000 := fun i hi => by have := hg.g i hi; omega
  have hcap : ∀ (n : Nat) (f : Nat → Int), (∀ i, i < n → -1000000 ≤ f i ∧ f i ≤ 1000000) → -(1000000 * (n : Int)) ≤ sumN n f ∧ sumN n f ≤ 1000000 * n := by
    intro n f h
    induction n with
    | zero => simp [sumN]
    | succ n ih =>
      have := ih fun i hi => h i (by omega)
      have := h n (by omega)
      simp only [sumN]; omega
  have cR := hcap N.r.length (fun i => low (-(riseM lv (gD N.r i))) (gD N.r i).sp) fun i hi => low_bd _ (sR i hi)
  unfold provedM
  rw [prR_sum lv N.r 0 0 sR (by omega) (by omega), prG_sum lv N.g _ 20000000 hl sG (by omega) (by omega)]
  unfold lowL
  rw [sumL_idx, e1, sumN_split, Int.zero_add]
  congr 1
  · refine sumN_congr fun i hi => ?_
    obtain ⟨a, b, c⟩ := e2 i hi
    rw [a, b, c, rise_pi hg hl hb hi]
  · refine sumN_congr fun i hi => ?_
    obtain ⟨a, b, c⟩ := e3 i hi
    rw [a, b, c]
    unfold piL
    rw [if_pos (by omega), if_neg (by omega)]
    simp
theorem desk_in {d : Desk} (hg : Good N) (hd : Alike (begunM N) d) : ∀ w ∈ d.all, (0 ≤ w.fr ∧ w.fr < 10) ∧ 0 ≤ w.to ∧ w.to < 10 := fun w hw => by
  have hL := (begun_lay hg).alike hd
  have := hL.mem hw
  have := hL.ok.out
  omega
theorem proved_le {lv : List Int} (hv : levOk N lv = true) (ha : askM N T = 0) (hu : unbM N T = []) : provedM N lv ≤ costM N T := by
  obtain ⟨h, l1, l2, hT⟩ := askM_to ha
  have hg := good_of h
  obtain ⟨v1, v2, v3⟩ := levOk_iff.1 hv
  rw [costT hg.w l1 l2 hT, proved_low hg v1 v2 (deskT_like (T := T))]
  refine lowL_le (desk_in hg deskT_like) ((unb_iff hg.w l1 l2 hT).1 hu) fun w hw => ?_
  obtain ⟨i, hi, rfl⟩ := mem_gD hw
  rw [deskT_len] at hi
  revert i
  refine ways_all (fun i hi _ => ?_) (fun j hj _ => ?_)
  · rw [deskT_lo hi]; simp only; rw [← rise_pi hg v1 v2 hi]; have := v3 i hi; omega
  · rw [deskT_hi hj]; simp only; unfold piL; rw [if_pos (by omega), if_neg (by omega)]; have := v2 j (by omega); simp only [Int.toNat_natCast]; omega
theorem proved_le_set {lv : List Int} (h : checkL N = 0) (hv : levOk N lv = true) : provedM N lv ≤ setC N := by
  obtain ⟨a, b, c⟩ := setT_ok h
  rw [← c]; exact proved_le hv a b
theorem levM_ok (h : checkL N = 0) : levOk N (levM N) = true ∧ provedM N (levM N) = setC N := by
  have hg := good_of h
  have h8 := hg.g8
  obtain ⟨π, hf, hz, hl, _⟩ := set_fit h
  have hout : (setD N).out = N.g.length := hl.out
  obtain ⟨rf, r1, r2, r3, r4⟩ := far_fit hf (by omega) (o := (N.g.length : Int)) (by omega)
  obtain ⟨e1, e2, e3⟩ := like_sp hl
  have hro : rOf (setD N) any N.g.length = rf := by simp [rOf, r1]
  have hrise : ∀ i, i < (setD N).all.length → -1 ≤ (rf.m.far (gD (setD N).all i).to).cost - (rf.m.far (gD (setD N).all i).fr).cost ∧ (rf.m.far (gD (setD N).all i).to).cost - (rf.m.far (gD (setD N).all i).fr).cost ≤ 1 := fun i hi => by
    have := r4.opt i hi
    unfold OptW at this
    omega
  have hgain : ∀ j, j < N.g.length → -1 ≤ (rf.m.far (j : Nat)).cost ∧ (rf.m.far (j : Nat)).cost ≤ 1 := fun j hj => by
    have := hrise (N.r.length + j) (by omega)
    obtain ⟨_, b, c⟩ := e3 j hj
    rw [b, c, r3] at this
    omega
  have hlen : (levM N).length = N.g.length := by simp [levM]
  have hlv : ∀ j, j < N.g.length → gD (levM N) j = -(rf.m.far (j : Nat)).cost := fun j hj => by
    unfold levM
    rw [gD_range (fun (i : Nat) => wr (-((rOf (setD N) any N.g.length).m.far i).cost)) hj, hro]
    have := hgain j hj
    exact wr_id (by omega) (by omega)
  have hb : ∀ i, i < (levM N).length → -1 ≤ gD (levM N) i ∧ gD (levM N) i ≤ 1 := fun i hi => by
    rw [hlv i (by omega)]; have := hgain i (by omega); omega
  have hpi : ∀ v : Int, 0 ≤ v → v ≤ N.g.length → piL (levM N) v = (rf.m.far v).cost := fun v h0 h1 => by
    unfold piL
    by_cases hv : v < N.g.length
    · rw [if_pos (by omega), hlv _ (by omega), show ((v.toNat : Nat) : Int) = v by omega]; omega
    · rw [if_neg (by omega), show v = N.g.length by omega, r3]
  have hends := r4.lay.ends
  refine ⟨levOk_iff.2 ⟨hlen, hb, fun i hi => ?_⟩, ?_⟩
  · have := hrise i (by omega)
    obtain ⟨_, b, c⟩ := e2 i hi
    rw [b, c] at this
    have e := rise_pi hg hlen hb hi
    obtain ⟨_, q1, q2, _⟩ := hg.r i hi
    rw [hpi _ q1.1 (by omega), hpi _ q2.1 (by omega)] at e
    omega
  · rw [proved_low hg hlen hb hl, setC_eq h]
    have hlow : lowL (piL (levM N)) (setD N).all = lowL (fun v => (rf.m.far v).cost) (setD N).all := by
      unfold lowL
      refine sumL_congr fun w hw => ?_
      have := r4.lay.mem hw
      rw [hpi _ (by omega) (by omega), hpi _ (by omega) (by omega)]
    rw [hlow]
    refine lowL_eq (desk_in hg hl) hz (fun w hw => ?_) fun w hw => ?_
    · obtain ⟨i, hi, rfl⟩ := mem_gD hw
      have := hf.sp i hi; omega
    · obtain ⟨i, hi, rfl⟩ := mem_gD hw
      exact r4.opt i hi
end Go.Bal

namespace Go.Bal
open Go
variable {N : NetL} {T : TruthL}
structure Can (N : NetL) (T : TruthL) : Prop where
  ask : askM N T = 0
  unb : unbM N T = []
  cost : costM N T = 0
theorem alike_back {d d1 d2 : Desk} (a : Alike d d1) (b : Alike d d2) : Alike d1 d2 := ⟨b.out.trans a.out.symm, b.nR.trans a.nR.symm, b.len.trans a.len.symm, fun i hi => by
  obtain ⟨a1, a2, a3⟩ := a.way i (by rw [← a.len]; exact hi)
  obtain ⟨b1, b2, b3⟩ := b.way i (by rw [← a.len]; exact hi)
  exact ⟨b1.trans a1.symm, b2.trans a2.symm, b3.trans a3.symm⟩⟩
theorem like_spans (hg : Good N) {d : Desk} (hl : Alike (begunM N) d) : ∀ i, i < d.all.length → -1000000 ≤ (gD d.all i).sp.lo ∧ (gD d.all i).sp.lo ≤ (gD d.all i).sp.hi ∧ (gD d.all i).sp.hi ≤ 1000000 := fun i hi => by
  have h := (begun_sp hg (i := i) (by rw [← hl.len]; exact hi)).1
  rw [← (hl.way i (by rw [← hl.len]; exact hi)).2.2] at h
  exact h
theorem off_zero {l : List Way} (h : offL l = 0) {i : Nat} (hi : i < l.length) : (gD l i).sp.lo ≤ (gD l i).now ∧ (gD l i).now ≤ (gD l i).sp.hi := by
  have := sumL_zero (fun w _ => by unfold offI; omega) h (gD l i) (gD_mem hi)
  unfold offI at this
  omega
theorem off_in {l : List Way} (h : ∀ i, i < l.length → (gD l i).sp.lo ≤ (gD l i).now ∧ (gD l i).now ≤ (gD l i).sp.hi) : offL l = 0 := by
  unfold offL
  rw [sumL_congr (g := fun _ => 0) fun w hw => ?_]
  · rw [sumL_idx, sumN_zero]
  · obtain ⟨i, hi, rfl⟩ := mem_gD hw
    have := h i hi
    unfold offI; omega
theorem can_in (h : Can N T) : InS (deskT N T) ∧ Alike (begunM N) (deskT N T) := by
  obtain ⟨hc, l1, l2, hT⟩ := askM_to h.ask
  have hg := good_of hc
  have hz := h.cost
  rw [costT hg.w l1 l2 hT] at hz
  refine ⟨⟨(deskT_lay hg.w).ok, fun i hi => ?_, fun i hi => off_zero hz hi, (unb_iff hg.w l1 l2 hT).1 h.unb⟩, deskT_like⟩
  have := like_spans hg (deskT_like (T := T)) i hi
  omega
theorem can_zero (h : Can N T) : setC N = 0 := by
  have h1 := set_least h.ask h.unb
  have h2 := setC_nonneg (askM_to h.ask).1
  have := h.cost
  omega
def balN (N : NetL) (T : TruthL) (s : Nat) : Int := gD T.t s + sumN N.r.length fun i => bS s (gD N.r i) (gD T.f i)
theorem bal_N (hg : GoodW N) (h1 : T.f.length = N.r.length) (h2 : T.t.length = N.g.length) (hT : SmallT T) {s : Nat} (hs : s < N.g.length) : balAt N T s = balN N T s := by
  have := hg.r14
  unfold balAt balN
  exact balF_sum (B := 100000000) (by omega) s N.r T.f (gD T.t s) 100000000 h1.symm hT.1 (hT.2 s (by omega)) (by omega)
theorem unb_balN (hg : GoodW N) (h1 : T.f.length = N.r.length) (h2 : T.t.length = N.g.length) (hT : SmallT T) : unbM N T = [] ↔ ∀ s, s < N.g.length → balN N T s = 0 := by
  unfold unbM unbK
  rw [List.map_eq_nil_iff, List.filter_eq_nil_iff]
  simp only [List.mem_range, unbB, Bool.not_eq_true', decide_eq_false_iff_not, Decidable.not_not]
  constructor
  · intro h s hs; rw [← bal_N hg h1 h2 hT hs]; exact h s hs
  · intro h s hs; rw [bal_N hg h1 h2 hT hs]; exact h s hs
theorem can_iff (h : checkL N = 0) : Can N T ↔ (T.f.length = N.r.length ∧ T.t.length = N.g.length) ∧ (∀ i, i < N.r.length → (gD N.r i).sp.lo ≤ gD T.f i ∧ gD T.f i ≤ (gD N.r i).sp.hi) ∧ (∀ j, j < N.g.length → (gD N.g j).lo ≤ gD T.t j ∧ gD T.t j ≤ (gD N.g j).hi) ∧ ∀ s, s < N.g.length → balN N T s = 0 := by
  have hg := good_of h
  constructor
  · intro hC
    obtain ⟨_, l1, l2, hT⟩ := askM_to hC.ask
    obtain ⟨hi, _⟩ := can_in hC
    refine ⟨⟨l1, l2⟩, fun i hi' => ?_, fun j hj => ?_, (unb_balN hg.w l1 l2 hT).1 hC.unb⟩
    · have := hi.now i (by rw [deskT_len]; omega)
      rw [deskT_lo hi'] at this; exact this
    · have := hi.now (N.r.length + j) (by rw [deskT_len]; omega)
      rw [deskT_hi hj] at this; exact this
  · rintro ⟨⟨l1, l2⟩, h1, h2, h3⟩
    have hT : SmallT T := ⟨fun i hi => by have := h1 i (by omega); have := (hg.r i (by omega)).1; omega, fun i hi => by have := h2 i (by omega); have := hg.g i (by omega); omega⟩
    refine ⟨askM_of h l1 l2 hT, (unb_balN hg.w l1 l2 hT).2 h3, ?_⟩
    rw [costT hg.w l1 l2 hT]
    refine off_in fun i hi => ?_
    rw [deskT_len] at hi
    revert i
    refine ways_all (fun i hi => ?_) (fun j hj => ?_)
    · rw [deskT_lo hi]; exact h1 i hi
    · rw [deskT_hi hj]; exact h2 j hj
structure IsSpan (N : NetL) (f : TruthL → Int) (s : Span) : Prop where
  lo : ∃ T, Can N T ∧ f T = s.lo
  hi : ∃ T, Can N T ∧ f T = s.hi
  all : ∀ T, Can N T → s.lo ≤ f T ∧ f T ≤ s.hi
theorem IsSpan.uniq {f : TruthL → Int} {s t : Span} (h : IsSpan N f s) (k : IsSpan N f t) : s = t := by
  obtain ⟨T1, c1, e1⟩ := h.lo
  obtain ⟨T2, c2, e2⟩ := h.hi
  obtain ⟨T3, c3, e3⟩ := k.lo
  obtain ⟨T4, c4, e4⟩ := k.hi
  have := k.all T1 c1
  have := k.all T2 c2
  have := h.all T3 c3
  have := h.all T4 c4
  obtain ⟨a, b⟩ := s
  obtain ⟨c, d⟩ := t
  simp only at *
  rw [show a = c by omega, show b = d by omega]
theorem IsSpan.le {f : TruthL → Int} {s : Span} (h : IsSpan N f s) : s.lo ≤ s.hi := by
  obtain ⟨T1, c1, e1⟩ := h.lo
  have := h.all T1 c1
  omega
end Go.Bal

namespace Go.Bal
open Go Go.Sym Go.Proofs
structure NRF where
  N : NetL
  r : Int
  f : Int
def NRF.lacks (a : NRF) : Int := wr (a.f - (getW (setD a.N).all a.r).now)
def NRF.need (a : NRF) : Int := max a.lacks (wr (-a.lacks))
def NRF.sh (a : NRF) : Option (Desk × Int) := shiftV (setD a.N) a.r (decide (0 < a.lacks)) a.need
def NRF.res (a : NRF) : Desk × Int := a.sh.getD default
end Go.Bal

namespace Go.Bal
open Go
variable {N : NetL} {T : TruthL}
end Go.Bal

namespace Go.Bal
open Go
variable {N : NetL} {T : TruthL}
end Go.Bal
