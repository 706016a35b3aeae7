/- Package balance: corrections and levels: what is returned is right, and nothing is better. -/
import Derived.Test.YtonddbmhljelgaaBalW
set_option linter.unusedVariables false
set_option linter.unusedSimpArgs false
namespace Go.Bal
open Go
variable {N : NetL} {T : TruthL}
theorem set_fit (h : checkL N = 0) : ∃ π, Fit (setD N) π 46000000 ∧ (∀ v : Nat, v < 10 → exc v (setD N).all = 0) ∧ Alike (begunM N) (setD N) ∧ (settledV N).isSome = true := by
  have hg := good_of h
  have hl := begun_lay hg
  have h8 := hg.g8
  have h14 := hg.r14
  have hlen := begunM_len N
  have h0 : outside (begunM N) ≤ 2 * 1000000 * (begunM N).all.length := outside_le (by omega) fun w hw => by
    obtain ⟨i, hi, rfl⟩ := mem_gD hw
    have := begun_sp hg hi
    omega
  have hf : Fit (begunM N) (fun _ => 0) 46000000 := ⟨hl, fun i hi => by have := (begun_sp hg hi).1; omega, fun i hi => by have := begun_sp hg hi; omega, fun i hi => .inl ⟨by omega, (begun_sp hg hi).2.1, (begun_sp hg hi).2.2⟩⟩
  have hfu : (3000000000 : Int) < fuel := by unfold fuel; decide
  obtain ⟨d', π, h1, h2, h3, h4⟩ := settleM_fit (by omega) fuel (begunM N) _ hf (by omega)
  obtain ⟨hs, _⟩ := settled_ok h
  have he := (set_eq hs).1
  have h1 : settleV (begunM N) = some d' := h1
  rw [h1] at he
  cases he
  exact ⟨π, h2, (all_zero h2.lay.ok (B := 3000000000) (by omega) fun i hi => (h2.small (by omega) hi).now).1 h3, h4, hs⟩
theorem set_small (h : checkL N = 0) {i : Nat} (hi : i < (setD N).all.length) : -46000000 ≤ (gD (setD N).all i).now ∧ (gD (setD N).all i).now ≤ 46000000 := by
  obtain ⟨π, hf, _⟩ := set_fit h
  have := hf.now i hi
  have := outside_nonneg (setD N)
  omega
theorem askM_of (h : checkL N = 0) (h1 : T.f.length = N.r.length) (h2 : T.t.length = N.g.length) (hT : SmallT T) : askM N T = 0 := by
  have a1 : allB (fun i => inM (gD T.f i) (-100000000) 100000000) T.f.length = true := allB_iff.2 fun i hi => inM_iff.2 (hT.1 i hi)
  have a2 : allB (fun i => inM (gD T.t i) (-100000000) 100000000) T.t.length = true := allB_iff.2 fun i hi => inM_iff.2 (hT.2 i hi)
  unfold askM
  rw [if_pos h, if_pos ⟨h1, h2⟩, a1, a2]; rfl
theorem askM_to (h : askM N T = 0) : checkL N = 0 ∧ T.f.length = N.r.length ∧ T.t.length = N.g.length ∧ SmallT T := by
  obtain ⟨a, ⟨b, c⟩, d, e⟩ := askM_zero h
  exact ⟨a, b, c, d, e⟩
theorem setC_bd (h : checkL N = 0) : 0 ≤ setC N ∧ setC N ≤ 2000000000 := by
  refine ⟨setC_nonneg h, ?_⟩
  obtain ⟨π, hf, hz, hl, _⟩ := set_fit h
  have hg := good_of h
  have h8 := hg.g8
  have h14 := hg.r14
  have hlen : (setD N).all.length = N.r.length + N.g.length := (like_sp hl).1
  rw [setC_eq h]
  have : offL (setD N).all ≤ 50000000 * (setD N).all.length := sumL_cap fun w hw => by
    obtain ⟨i, hi, rfl⟩ := mem_gD hw
    have h1 := set_small h hi
    have h2 := (begun_sp hg (i := i) (by rw [← hl.len]; exact hi)).1
    rw [← (hl.way i (by rw [← hl.len]; exact hi)).2.2] at h2
    unfold offI; omega
  omega
theorem set_least (ha : askM N T = 0) (hu : unbM N T = []) : setC N ≤ costM N T := by
  obtain ⟨h, l1, l2, hT⟩ := askM_to ha
  have hg := good_of h
  obtain ⟨_, π, hs⟩ := settled_ok h
  rw [costT hg.w l1 l2 hT, setC_eq h]
  have hl : Alike (setD N) (deskT N T) := by
    have a := hs.like
    have b : Alike (begunM N) (deskT N T) := deskT_like
    exact ⟨b.out.trans a.out.symm, b.nR.trans a.nR.symm, b.len.trans a.len.symm, fun i hi => by
      obtain ⟨a1, a2, a3⟩ := a.way i (by rw [← a.len]; exact hi)
      obtain ⟨b1, b2, b3⟩ := b.way i (by rw [← a.len]; exact hi)
      exact ⟨b1.trans a1.symm, b2.trans a2.symm, b3.trans a3.symm⟩⟩
  exact (settled_least hs hl ((unb_iff hg.w l1 l2 hT).1 hu)).1
theorem count_low {r p : Int} {s : Span} (hs : -1000000 ≤ s.lo ∧ s.lo ≤ s.hi ∧ s.hi ≤ 1000000) (hp : -1000000000000000 ≤ p ∧ p ≤ 1000000000000000) : countM r s p = p + low (-r) s := by
  unfold countM low
  rw [wr_id (n := p + s.lo) (by omega) (by omega), wr_id (n := p - s.hi) (by omega) (by omega)]
  by_cases h1 : r = 1
  · rw [if_pos h1, if_neg (by omega), if_pos (by omega)]
  · rw [if_neg h1]
    by_cases h2 : r = -1
    · rw [if_pos h2, if_pos (by omega)]; omega
    · rw [if_neg h2, if_neg (by omega), if_neg (by omega)]; omega
theorem low_bd (r : Int) {s : Span} (hs : -1000000 ≤ s.lo ∧ s.lo ≤ s.hi ∧ s.hi ≤ 1000000) : -1000000 ≤ low r s ∧ low r s ≤ 1000000 := by
  unfold low; split
  · omega
  · split <;> omega
theorem prR_sum (lv : List Int) : ∀ (l : List Reach) (p K : Int), (∀ i, i < l.length → -1000000 ≤ (gD l i).sp.lo ∧ (gD l i).sp.lo ≤ (gD l i).sp.hi ∧ (gD l i).sp.hi ≤ 1000000) → -K ≤ p ∧ p ≤ K → K + 1000000 * l.length ≤ 1000000000000000 →
    prR lv p l = p + sumN l.length fun i => low (-(riseM lv (gD l i))) (gD l i).sp
  | [], p, K, _, _, _ => by simp [prR, sumN]
  | r :: l, p, K, hs, hp, hK => by
    have h0 : -1000000 ≤ r.sp.lo ∧ r.sp.lo ≤ r.sp.hi ∧ r.sp.hi ≤ 1000000 := hs 0 (by simp)
    have hb := low_bd (-(riseM lv r)) h0
    rw [List.length_cons] at hK
    rw [List.length_cons, sumN_head]
    simp only [prR]
    rw [count_low h0 (by omega), prR_sum lv l _ (K + 1000000) (fun i hi => hs (i + 1) (by simpa using hi)) (by omega) (by omega)]
    show p + low (-(riseM lv r)) r.sp + _ = p + (low (-(riseM lv r)) r.sp + _)
    rw [Int.add_assoc]; rfl
theorem prG_sum : ∀ (lv : List Int) (l : List Span) (p K : Int), lv.length = l.length → (∀ i, i < l.length → -1000000 ≤ (gD l i).lo ∧ (gD l i).lo ≤ (gD l i).hi ∧ (gD l i).hi ≤ 1000000) → -K ≤ p ∧ p ≤ K → K + 1000000 * l.length ≤ 1000000000000000 →
    prG p lv l = p + sumN l.length fun i => low (-(gD lv i)) (gD l i)
  | [], [], p, K, _, _, _, _ => by simp [prG, sumN]
  | [], _ :: _, p, K, h, _, _, _ => by simp at h
  | _ :: _, [], p, K, h, _, _, _ => by simp at h
  | x :: lv, s :: l, p, K, hl, hs, hp, hK => by
    have h0 : -1000000 ≤ s.lo ∧ s.lo ≤ s.hi ∧ s.hi ≤ 1000000 := hs 0 (by simp)
    have hb := low_bd (-x) h0
    rw [List.length_cons] at hK
    rw [List.length_cons, sumN_head]
    simp only [prG]
    rw [count_low h0 (by omega), prG_sum lv l _ (K + 1000000) (by simpa using hl) (fun i hi => hs (i + 1) (by simpa using hi)) (by omega) (by omega)]
    show p + low (-x) s + _ = p + (low (-x) s + _)
    rw [Int.add_assoc]; rfl
def piL (lv : List Int) (v : Int) : Int := if 0 ≤ v ∧ v < lv.length then -(gD lv v.toNat) else 0
theorem levOk_iff {lv : List Int} : levOk N lv = true ↔ lv.length = N.g.length ∧ (∀ i, i < lv.length → -1 ≤ gD lv i ∧ gD lv i ≤ 1) ∧ ∀ i, i < N.r.length → -1 ≤ riseM lv (gD N.r i) ∧ riseM lv (gD N.r i) ≤ 1 := by
  unfold levOk
  simp only [Bool.and_eq_true, decide_eq_true_eq, allB_iff, nearM, inM_iff]
  constructor
  · rintro ⟨⟨a, b⟩, c⟩; exact ⟨a, b, c⟩
  · rintro ⟨a, b, c⟩; exact ⟨⟨a, b⟩, c⟩
theorem rise_pi {lv : List Int} (hg : Good N) (hl : lv.length = N.g.length) (hb : ∀ i, i < lv.length → -1 ≤ gD lv i ∧ gD lv i ≤ 1) {i : Nat} (hi : i < N.r.length) : -(riseM lv (gD N.r i)) = piL lv (gD N.r i).to - piL lv (gD N.r i).fr := by
  obtain ⟨_, h1, h2, _⟩ := hg.r i hi
  have b1 := hb (gD N.r i).fr.toNat (by omega)
  have b2 := hb (gD N.r i).to.toNat (by omega)
  unfold riseM piL
  rw [wr_id (n := gD lv (gD N.r i).to.toNat - gD lv (gD N.r i).fr.toNat) (by omega) (by omega), if_pos (by omega), if_pos (by omega)]
  omega
theorem proved_low {lv : List Int} (hg : Good N) (hl : lv.length = N.g.length) (hb : ∀ i, i < lv.length → -1 ≤ gD lv i ∧ gD lv i ≤ 1) {d : Desk} (hd : Alike (begunM N) d) : provedM N lv = lowL (piL lv) d.all := by
  obtain ⟨e1, e2, e3⟩ := like_sp hd
  have h8 := hg.g8
  have h14 := hg.r14
  have sR : ∀ i, i < N.r.length → -1000000 ≤ (gD N.r i).sp.lo ∧ (gD N.r i).sp.lo ≤ (gD N.r i).sp.hi ∧ (gD N.r i).sp.hi ≤ 1000000 := fun i hi => by have := (hg.r i hi).1; omega
  have sG : ∀ i, i < N.g.length → -1000000 ≤ (gD N.g i).lo ∧ (gD N.g i).lo ≤ (gD N.g i).hi ∧ (gD N.g i).hi ≤ 1000000 := fun i hi => by have := hg.g i hi; omega
  have hcap : ∀ (n : Nat) (f : Nat → Int), (∀ i, i < n → -1000000 ≤ f i ∧ f i ≤ 1000000) → -(1000000 * (n : Int)) ≤ sumN n f ∧ sumN n f ≤ 1000000 * n := by
    intro n f h
    induction n with
    | zero => simp [sumN]
    | succ n ih =>
      have := ih fun i hi => h i (by omega)
      have := h n (by omega)
      simp only [sumN]; omega
  have cR := hcap N.r.length (fun i => low (-(riseM lv (gD N.r i))) (gD N.r i).sp) fun i hi => low_bd _ (sR i hi)
  unfold provedM
  rw [prR_sum lv N.r 0 0 sR (by omega) (by omega), prG_sum lv N.g _ 20000000 hl sG (by omega) (by omega)]
  unfold lowL
  rw [sumL_idx, e1, sumN_split, Int.zero_add]
  congr 1
  · refine sumN_congr fun i hi => ?_
    obtain ⟨a, b, c⟩ := e2 i hi
    rw [a, b, c, rise_pi hg hl hb hi]
  · refine sumN_congr fun i hi => ?_
    obtain ⟨a, b, c⟩ := e3 i hi
    rw [a, b, c]
    unfold piL
    rw [if_pos (by omega), if_neg (by omega)]
    simp
theorem desk_in {d : Desk} (hg : Good N) (hd : Alike (begunM N) d) : ∀ w ∈ d.all, (0 ≤ w.fr ∧ w.fr < 10) ∧ 0 ≤ w.to ∧ w.to < 10 := fun w hw => by
  have hL := (begun_lay hg).alike hd
  have := hL.mem hw
  have := hL.ok.out
  omega
theorem levM_ok (h : checkL N = 0) : levOk N (levM N) = true ∧ provedM N (levM N) = setC N := by
  have hg := good_of h
  have h8 := hg.g8
  obtain ⟨π, hf, hz, hl, _⟩ := set_fit h
  have hout : (setD N).out = N.g.length := hl.out
  obtain ⟨rf, r1, r2, r3, r4⟩ := far_fit hf (by omega) (o := (N.g.length : Int)) (by omega)
  obtain ⟨e1, e2, e3⟩ := like_sp hl
  have hro : rOf (setD N) any N.g.length = rf := by simp [rOf, r1]
  have hrise : ∀ i, i < (setD N).all.length → -1 ≤ (rf.m.far (gD (setD N).all i).to).cost - (rf.m.far (gD (setD N).all i).fr).cost ∧ (rf.m.far (gD (setD N).all i).to).cost - (rf.m.far (gD (setD N).all i).fr).cost ≤ 1 := fun i hi => by
    have := r4.opt i hi
    unfold OptW at this
    omega
  have hgain : ∀ j, j < N.g.length → -1 ≤ (rf.m.far (j : Nat)).cost ∧ (rf.m.far (j : Nat)).cost ≤ 1 := fun j hj => by
    have := hrise (N.r.length + j) (by omega)
    obtain ⟨_, b, c⟩ := e3 j hj
    rw [b, c, r3] at this
    omega
  have hlen : (levM N).length = N.g.length := by simp [levM]
  have hlv : ∀ j, j < N.g.length → gD (levM N) j = -(rf.m.far (j : Nat)).cost := fun j hj => by
    unfold levM
    rw [gD_range (fun (i : Nat) => wr (-((rOf (setD N) any N.g.length).m.far i).cost)) hj, hro]
    have := hgain j hj
    exact wr_id (by omega) (by omega)
  have hb : ∀ i, i < (levM N).length → -1 ≤ gD (levM N) i ∧ gD (levM N) i ≤ 1 := fun i hi => by
    rw [hlv i (by omega)]; have := hgain i (by omega); omega
  have hpi : ∀ v : Int, 0 ≤ v → v ≤ N.g.length → piL (levM N) v = (rf.m.far v).cost := fun v h0 h1 => by
    unfold piL
    by_cases hv : v < N.g.length
    · rw [if_pos (by omega), hlv _ (by omega), show ((v.toNat : Nat) : Int) = v by omega]; omega
    · rw [if_neg (by omega), show v = N.g.length by omega, r3]
  have hends := r4.lay.ends
  refine ⟨levOk_iff.2 ⟨hlen, hb, fun i hi => ?_⟩, ?_⟩
  · have := hrise i (by omega)
    obtain ⟨_, b, c⟩ := e2 i hi
    rw [b, c] at this
    have e := rise_pi hg hlen hb hi
    obtain ⟨_, q1, q2, _⟩ := hg.r i hi
    rw [hpi _ q1.1 (by omega), hpi _ q2.1 (by omega)] at e
    omega
  · rw [proved_low hg hlen hb hl, setC_eq h]
    have hlow : lowL (piL (levM N)) (setD N).all = lowL (fun v => (rf.m.far v).cost) (setD N).all := by
      unfold lowL
      refine sumL_congr fun w hw => ?_
      have := r4.lay.mem hw
      rw [hpi _ (by omega) (by omega), hpi _ (by omega) (by omega)]
    rw [hlow]
    refine lowL_eq (desk_in hg hl) hz (fun w hw => ?_) fun w hw => ?_
    · obtain ⟨i, hi, rfl⟩ := mem_gD hw
      have := hf.sp i hi; omega
    · obtain ⟨i, hi, rfl⟩ := mem_gD hw
      exact r4.opt i hi
end Go.Bal
