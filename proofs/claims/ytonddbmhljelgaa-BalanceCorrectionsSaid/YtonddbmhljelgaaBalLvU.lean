/- The reference: its suspects and spans are those that are returned. -/
import Derived.Test.YtonddbmhljelgaaBalLvT
set_option linter.unusedVariables false
set_option linter.unusedSimpArgs false
namespace Go.Bal
open Go
variable {N : NetL} {T : TruthL}
theorem lowX_except {π : Int → Int} {l m : List Way} {k : Nat} (hl : l.length = m.length) (h : ∀ i, i < l.length → i ≠ k → riseW π (gD m i) = riseW π (gD l i) ∧ (gD m i).sp = (gD l i).sp) : lowX π m k = lowX π l k := by
  unfold lowX
  rw [hl]
  exact sumN_congr fun i hi => by
    by_cases he : i = k
    · rw [if_pos he, if_pos he]
    · obtain ⟨a, b⟩ := h i (by omega) he
      rw [if_neg he, if_neg he, a, b]
theorem lowX_pi {π ρ : Int → Int} {l : List Way} {k : Nat} (h : ∀ i, i < l.length → riseW π (gD l i) = riseW ρ (gD l i)) : lowX π l k = lowX ρ l k := by
  unfold lowX
  exact sumN_congr fun i hi => by rw [h i hi]
def lvOf (N : NetL) (π : Int → Int) : List Int := (List.range N.g.length).map fun (j : Nat) => π N.g.length - π j
theorem lvOf_len (N : NetL) (π : Int → Int) : (lvOf N π).length = N.g.length := by simp [lvOf]
theorem lvOf_get {π : Int → Int} {j : Nat} (hj : j < N.g.length) : gD (lvOf N π) j = π N.g.length - π j := gD_range (fun (j : Nat) => π N.g.length - π j) hj
theorem lvOf_pi {π : Int → Int} {v : Int} (h0 : 0 ≤ v) (h1 : v ≤ N.g.length) : piL (lvOf N π) v = π v - π N.g.length := by
  unfold piL
  rw [lvOf_len]
  by_cases hv : v < N.g.length
  · rw [if_pos ⟨h0, hv⟩, lvOf_get (by omega), show ((v.toNat : Nat) : Int) = v by omega]; omega
  · rw [if_neg (by omega), show v = N.g.length by omega]; omega
theorem lvOf_ok (hg : Good N) {π : Int → Int} (h1 : ∀ j : Nat, j < N.g.length → -1 ≤ π N.g.length - π j ∧ π N.g.length - π j ≤ 1) (h2 : ∀ i, i < N.r.length → -1 ≤ π (gD N.r i).fr - π (gD N.r i).to ∧ π (gD N.r i).fr - π (gD N.r i).to ≤ 1) : levOk N (lvOf N π) = true := by
  have hl := lvOf_len N π
  have hb : ∀ i, i < (lvOf N π).length → -1 ≤ gD (lvOf N π) i ∧ gD (lvOf N π) i ≤ 1 := fun i hi => by
    rw [lvOf_get (by omega)]; exact h1 i (by omega)
  refine levOk_iff.2 ⟨hl, hb, fun i hi => ?_⟩
  obtain ⟨_, b1, b2, b3⟩ := hg.r i hi
  have e := rise_pi hg hl hb hi
  rw [lvOf_pi b1.1 (by omega), lvOf_pi b2.1 (by omega)] at e
  have := h2 i hi
  omega
theorem pv_susp (hg : Good N) {lv : List Int} (hl : lv.length = N.g.length) (hb : ∀ j, j < N.g.length → -1 ≤ gD lv j ∧ gD lv j ≤ 1) {k : Nat} (hk : k < N.r.length) {d : Desk} (hd : Alike (begunM (suspN N k)) d) : pvG ⟨N, lv, noneL N, 0, (k : Int)⟩ N.g.length = lowX (piL lv) d.all k := by
  have h14 := hg.r14
  have h8 := hg.g8
  have hd0 := Alike.refl (begunM N)
  obtain ⟨a1, a2, a3⟩ := like_sp hd0
  obtain ⟨b1, b2, b3⟩ := like_sp hd
  rw [susp_len] at b1 b2 b3
  have eg : (suspN N k).g = N.g := rfl
  rw [eg] at b1 b3
  rw [pv_lowX hg hl hb (k := k) (by omega) (fun i hi => by omega) (fun j hj => by omega) hd0]
  symm
  refine lowX_except (by omega) fun i hi hne => ?_
  rw [a1] at hi
  revert i
  refine ways_all (fun i hi hne => ?_) (fun j hj hne => ?_)
  · obtain ⟨p1, p2, p3⟩ := a2 i hi
    obtain ⟨q1, q2, q3⟩ := b2 i hi
    have e : gD (suspN N k).r i = if i = k then { (gD N.r k) with sp := wide } else gD N.r i := gD_modify hk i
    rw [e, if_neg hne] at q1 q2 q3
    unfold riseW
    rw [p1, p2, p3, q1, q2, q3]; exact ⟨rfl, rfl⟩
  · obtain ⟨p1, p2, p3⟩ := a3 j hj
    obtain ⟨q1, q2, q3⟩ := b3 j hj
    unfold riseW
    rw [p1, p2, p3, q1, q2, q3]; exact ⟨rfl, rfl⟩
theorem susp_inS {k : Nat} (hg : Good N) (hk : k < N.r.length) (hT : CanX N k T) : InS (deskT (suspN N k) T) := by
  have hw := susp_w hg hk
  obtain ⟨z1, z2⟩ := susp_in hg hk hT
  refine ⟨(deskT_lay hw).ok, fun i hi => ?_, fun i hi => off_zero z2 hi, z1⟩
  rw [deskT_len] at hi
  revert i
  refine ways_all (fun i hi => ?_) (fun j hj => ?_)
  · rw [deskT_lo hi]; have := (hw.r i hi).1; simp only; omega
  · rw [deskT_hi hj]; have := hw.g j hj; simp only; omega
theorem susp_ref (h : checkL N = 0) {k : Nat} (hk : k < N.r.length) : rsB N k = suspB N k := by
  have hg := good_of h
  have h14 := hg.r14
  have rE : ∀ q, rsR N ⟨k, q⟩ = riseM (gD (allL N) q) (gD N.r k) := fun q => rfl
  have pE : ∀ q, pvL N q k = pvG ⟨N, gD (allL N) q, noneL N, 0, (k : Int)⟩ N.g.length := fun q => rfl
  have bdd : ∀ q, q < (allL N).length → rsR N ⟨k, q⟩ = 1 → -1000000000000 ≤ pvL N q k ∧ pvL N q k ≤ 1000000000000 := fun q hq _ => by
    have := pvL_bd h hq (s := (k : Int)) (by omega); omega
  obtain ⟨l1, l2, l3⟩ := limS_lo ⟨-100000000, 100000000⟩ (rise := fun q => rsR N ⟨k, q⟩) (rest := fun q => pvL N q k) (K := (allL N).length)
  obtain ⟨u1, u2, u3⟩ := limS_hi ⟨-100000000, 100000000⟩ (rise := fun q => rsR N ⟨k, q⟩) (rest := fun q => pvL N q k) (K := (allL N).length) bdd
  rw [← rsS_lim] at l1 l2 l3 u1 u2 u3
  simp only at l1 l2 l3 u1 u2 u3
  rw [Bool.eq_iff_iff, susp_iff h hk]
  have hB : rsB N k = true ↔ (∀ q, q < (allL N).length → rsR N ⟨k, q⟩ = 0 → pvL N q k ≤ 0) ∧ (rsS N k (allL N).length).lo ≤ (rsS N k (allL N).length).hi := by
    unfold rsB; rw [Bool.and_eq_true, rsF_iff, decide_eq_true_eq]
  rw [hB]
  constructor
  · rintro ⟨f1, f2⟩
    refine (susp_iff h hk).1 ?_
    obtain ⟨_, π, s1, s2, s3, s4⟩ := susp_fit h hk
    unfold suspB
    rw [s4, decide_eq_true_eq]
    have hnn : 0 ≤ offL (suspF N k).all := sumL_nonneg fun w _ => by unfold offI; omega
    refine Classical.byContradiction fun hne => ?_
    have hout : (suspF N k).out = N.g.length := s3.out
    obtain ⟨rf, r1, r2, r3, r4⟩ := far_fit s1 (by omega) (o := (N.g.length : Int)) (by rw [hout]; omega)
    obtain ⟨π', hπ⟩ : ∃ π' : Int → Int, π' = fun v => (rf.m.far v).cost := ⟨_, rfl⟩
    rw [← hπ] at r4
    have r3 : π' N.g.length = 0 := by rw [hπ]; exact r3
    obtain ⟨e1, e2, e3⟩ := like_sp s3
    rw [susp_len] at e1 e2 e3
    have eg : (suspN N k).g = N.g := rfl
    rw [eg] at e1 e3
    have er : ∀ i, gD (suspN N k).r i = if i = k then { (gD N.r k) with sp := wide } else gD N.r i := fun i => gD_modify hk i
    have ends : ∀ i, i < N.r.length → (gD (suspF N k).all i).fr = (gD N.r i).fr ∧ (gD (suspF N k).all i).to = (gD N.r i).to := fun i hi => by
      obtain ⟨_, q2, q3⟩ := e2 i hi
      rw [er] at q2 q3
      by_cases he : i = k
      · subst he; rw [if_pos rfl] at q2 q3; exact ⟨q2, q3⟩
      · rw [if_neg he] at q2 q3; exact ⟨q2, q3⟩
    have opt := r4.opt
    have hr : ∀ i, i < (suspF N k).all.length → -1 ≤ riseW π' (gD (suspF N k).all i) ∧ riseW π' (gD (suspF N k).all i) ≤ 1 := fun i hi => by
      have := opt i hi
      unfold OptW at this; unfold riseW; omega
    have hv : levOk N (lvOf N π') = true := lvOf_ok hg (fun j hj => by
      have := hr (N.r.length + j) (by omega)
      obtain ⟨_, q2, q3⟩ := e3 j hj
      unfold riseW at this
      rw [q2, q3] at this; omega) fun i hi => by
      have := hr i (by omega)
      unfold riseW at this
      rw [(ends i hi).1, (ends i hi).2] at this; omega
    obtain ⟨q, hq, he⟩ := mem_gDL ((allL_iff h _).2 hv)
    obtain ⟨vl, vb⟩ := levOk_bd hv
    have hpi : ∀ v : Int, 0 ≤ v → v ≤ N.g.length → piL (lvOf N π') v = π' v := fun v h0 h1 => by rw [lvOf_pi h0 h1, r3]; omega
    have hrw : ∀ i, i < (suspF N k).all.length → riseW (piL (lvOf N π')) (gD (suspF N k).all i) = riseW π' (gD (suspF N k).all i) := fun i hi => by
      have := r4.lay.mem (gD_mem hi)
      unfold riseW
      rw [hpi _ (by omega) (by omega), hpi _ (by omega) (by omega)]
    have hlow : offL (suspF N k).all = lowL π' (suspF N k).all := (fit_least r4 s2 (Alike.refl _) s2).1
    have hki : k < (suspF N k).all.length := by omega
    have hsum : lowL π' (suspF N k).all = lowX π' (suspF N k).all k + low (riseW π' (gD (suspF N k).all k)) (gD (suspF N k).all k).sp := by
      rw [← lowX_all]
      unfold lowX
      rw [sumN_out (k := k) (f := fun i => if i = (suspF N k).all.length then 0 else low (riseW π' (gD (suspF N k).all i)) (gD (suspF N k).all i).sp) hki, if_neg (show ¬ k = (suspF N k).all.length by omega)]
      congr 1
      exact sumN_congr fun i hi => by
        by_cases he : i = k
        · simp [he]
        · simp only [if_neg he]; rw [if_neg (by omega)]
    have hX : lowX (piL (lvOf N π')) (suspF N k).all k = lowX π' (suspF N k).all k := lowX_pi hrw
    have hp : pvL N q k = lowX π' (suspF N k).all k := by rw [pE, he, pv_susp hg vl vb hk s3, hX]
    have hrise : riseM (lvOf N π') (gD N.r k) = -(riseW π' (gD (suspF N k).all k)) := by
      have e := rise_pi hg vl (by rw [vl]; exact vb) hk
      rw [← hrw k hki]
      unfold riseW
      rw [(ends k hk).1, (ends k hk).2]; omega
    have hsp : (gD (suspF N k).all k).sp = ⟨-100000000, 100000000⟩ := by
      have := (e2 k hk).1
      rw [er, if_pos rfl] at this; rw [this]; rfl
    have hR := rE q
    rw [he, hrise] at hR
    rw [hsp] at hsum
    have hbk := hr k hki
    have hcase : riseW π' (gD (suspF N k).all k) = 0 ∨ riseW π' (gD (suspF N k).all k) = 1 ∨ riseW π' (gD (suspF N k).all k) = -1 := by omega
    rcases hcase with hc | hc | hc
    · rw [hc] at hR hsum
      have := f1 q hq (by omega)
      unfold low at hsum
      rw [if_neg (by omega), if_neg (by omega)] at hsum
      omega
    · rw [hc] at hR hsum
      have := l2 q hq (by omega)
      unfold low at hsum
      rw [if_pos rfl] at hsum
      simp only at hsum
      omega
    · rw [hc] at hR hsum
      have := u2 q hq (by omega)
      unfold low at hsum
      rw [if_neg (by omega), if_pos rfl] at hsum
      simp only at hsum
      omega
  · rintro ⟨T, hT⟩
    have hin := susp_inS hg hk hT
    have hw := susp_w hg hk
    have hlen : (deskT (suspN N k) T).all.length = N.r.length + N.g.length := by rw [deskT_len, susp_len]; rfl
    have er : ∀ i, gD (suspN N k).r i = if i = k then { (gD N.r k) with sp := wide } else gD N.r i := fun i => gD_modify hk i
    have wk : gD (deskT (suspN N k) T).all k = ⟨(gD N.r k).fr, (gD N.r k).to, wide, gD T.f k⟩ := by
      rw [deskT_lo (by rw [susp_len]; exact hk), er, if_pos rfl]
    have key : ∀ q, q < (allL N).length → pvL N q k ≤ -(rsR N ⟨k, q⟩) * gD T.f k := fun q hq => by
      have hv := allL_ok h hq
      obtain ⟨vl, vb⟩ := levOk_bd hv
      obtain ⟨_, _, v3⟩ := levOk_iff.1 hv
      have vb' : ∀ i, i < (gD (allL N) q).length → -1 ≤ gD (gD (allL N) q) i ∧ gD (gD (allL N) q) i ≤ 1 := by rw [vl]; exact vb
      rw [pE, pv_susp hg vl vb hk (deskT_like (T := T)), rE]
      have := lowX_le hin (π := piL (gD (allL N) q)) (k := k) (by omega) fun i hi hne => by
        rw [hlen] at hi
        revert i
        refine ways_all (fun i hi hne => ?_) (fun j hj hne => ?_)
        · rw [deskT_lo (by rw [susp_len]; exact hi), er, if_neg hne]
          have := v3 i hi
          have e := rise_pi hg vl vb' hi
          unfold riseW; simp only; omega
        · have e := deskT_hi (N := suspN N k) (T := T) (j := j) hj
          rw [susp_len] at e
          rw [e]
          unfold riseW piL
          have eg : (suspN N k).g = N.g := rfl
          simp only [eg]
          have := vb j hj
          rw [if_pos (by omega), if_neg (by omega)]
          simp only [Int.toNat_natCast]; omega
      rw [wk] at this
      unfold riseW at this
      simp only at this
      rw [← rise_pi hg vl vb' hk] at this
      exact this
    have hx := hT.k
    refine ⟨fun q hq h0 => ?_, ?_⟩
    · have := key q hq
      rw [h0] at this; simpa using this
    · have a : (rsS N k (allL N).length).lo ≤ gD T.f k := by
        rcases l3 with l3 | ⟨q, hq, e1, e2⟩
        · omega
        · have := key q hq
          rw [e1] at this; omega
      have b : gD T.f k ≤ (rsS N k (allL N).length).hi := by
        rcases u3 with u3 | ⟨q, hq, e1, e2⟩
        · omega
        · have := key q hq
          rw [e1] at this; omega
      omega
theorem susp_eq (N : NetL) : rsE N = suspE N ∧ rsT N = susT N := by
  by_cases h : checkL N = 0
  · have hE : rsE N = suspE N := by unfold rsE suspE; rw [least_set h]
    refine ⟨hE, ?_⟩
    unfold rsT susT
    rw [hE]
    have : rsK N N.r.length = suspK N N.r.length := by
      unfold rsK suspK
      congr 1
      refine List.filter_congr fun i hi => ?_
      rw [List.mem_range] at hi
      exact susp_ref h hi
    rw [this]
  · have hE : rsE N = suspE N := by unfold rsE suspE; rw [if_neg h, if_neg h]
    have h2 : ¬ suspE N = 0 := by unfold suspE; rw [if_neg h]; exact h
    refine ⟨hE, ?_⟩
    unfold rsT susT
    rw [hE, if_neg h2, if_neg h2]
end Go.Bal
