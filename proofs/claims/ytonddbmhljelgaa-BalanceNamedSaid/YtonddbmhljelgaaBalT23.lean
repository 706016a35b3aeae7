/- Package balance: a reach that alone can be wrong. -/
import Derived.Test.YtonddbmhljelgaaBalAr
set_option linter.unusedVariables false
set_option linter.unusedSimpArgs false
namespace Go.Bal
open Go
variable {N : NetL} {T : TruthL}
theorem lowL_ways {π : Int → Int} : ∀ {l m : List Way}, l.length = m.length → (∀ i, i < l.length → low (π (gD m i).to - π (gD m i).fr) (gD m i).sp = low (π (gD l i).to - π (gD l i).fr) (gD l i).sp) → lowL π m = lowL π l
  | [], [], _, _ => rfl
  | [], _ :: _, h, _ => by simp at h
  | _ :: _, [], h, _ => by simp at h
  | w :: l, x :: m, hl, h => by
    have h0 := h 0 (by simp)
    have e : (gD (x :: m) 0) = x := rfl
    have e' : (gD (w :: l) 0) = w := rfl
    rw [e, e'] at h0
    have ih := lowL_ways (π := π) (l := l) (m := m) (by simpa using hl) fun i hi => h (i + 1) (by simpa using hi)
    unfold lowL at ih ⊢
    simp only [sumL]
    rw [h0, ih]
theorem susp_rise (h : checkL N = 0) {k : Nat} (hk : k < N.r.length) (hT : CanX N k T) {lv : List Int} (hv : levOk N lv = true) (hp : 1 ≤ provedM N lv) : gD lv (gD N.r k).fr.toNat ≠ gD lv (gD N.r k).to.toNat := by
  intro he
  have hg := good_of h
  obtain ⟨hl, hb, hr⟩ := levOk_iff.1 hv
  have e := proved_low (d := deskT N T) hg hl hb deskT_like
  obtain ⟨z1, z2⟩ := susp_in hg hk hT
  have hw := susp_w hg hk
  have hlay := deskT_lay (T := T) hw
  have m1 : ∀ w ∈ (deskT (suspN N k) T).all, (0 ≤ w.fr ∧ w.fr < 10) ∧ 0 ≤ w.to ∧ w.to < 10 := fun w hw' => by
    have := hlay.mem hw'; have := hlay.ok.out; omega
  have e0 : ∀ i, gD (suspN N k).r i = if i = k then { (gD N.r k) with sp := wide } else gD N.r i := fun i => gD_modify hk i
  have rk : piL lv (gD N.r k).to - piL lv (gD N.r k).fr = 0 := by
    rw [← rise_pi hg hl hb hk]
    obtain ⟨_, b1, b2, b3⟩ := hg.r k hk
    unfold riseM
    have : wr (gD lv (gD N.r k).to.toNat - gD lv (gD N.r k).fr.toNat) = gD lv (gD N.r k).to.toNat - gD lv (gD N.r k).fr.toNat := by
      have := hb (gD N.r k).to.toNat (by omega)
      have := hb (gD N.r k).fr.toNat (by omega)
      exact w64 (by omega) (by omega)
    first
      | rw [this]; omega
      | omega
  have e1 : lowL (piL lv) (deskT (suspN N k) T).all = lowL (piL lv) (deskT N T).all := by
    refine lowL_ways (by rw [deskT_len, deskT_len, susp_len]; rfl) fun i hi => ?_
    rw [deskT_len] at hi
    revert i
    refine ways_all (fun i hi => ?_) (fun j hj => ?_)
    · rw [deskT_lo hi, deskT_lo (by rw [susp_len]; exact hi), e0]
      by_cases hi' : i = k
      · subst hi'; rw [if_pos rfl]; simp only
        rw [rk]; rfl
      · rw [if_neg hi']
    · rw [deskT_hi hj]
      have := deskT_hi (N := suspN N k) (T := T) (j := j) hj
      rw [susp_len] at this
      rw [this]; rfl
  have e2 := lowL_le (π := piL lv) m1 z1 fun w hw' => by
    obtain ⟨i, hi, rfl⟩ := mem_gD hw'
    rw [deskT_len, susp_len] at hi
    have hi : i < N.r.length + N.g.length := hi
    revert i
    refine ways_all (fun i hi _ => ?_) (fun j hj _ => ?_)
    · rw [deskT_lo (by rw [susp_len]; exact hi), e0]
      have r1 := rise_pi hg hl hb hi
      have := hr i hi
      by_cases hi' : i = k
      · subst hi'; rw [if_pos rfl]; simp only; omega
      · rw [if_neg hi']; simp only; omega
    · have := deskT_hi (N := suspN N k) (T := T) (j := j) hj
      rw [susp_len] at this
      rw [this]; simp only
      have e3 : (suspN N k).g = N.g := rfl
      rw [e3]
      unfold piL
      rw [if_pos (by omega), if_neg (by omega)]
      have := hb ((j : Int).toNat) (by omega)
      omega
  omega
theorem sumN_out {f : Nat → Int} {n k : Nat} (hk : k < n) : sumN n f = sumN n (fun i => if i = k then 0 else f i) + f k := by
  have : sumN n f = sumN n (fun i => (if i = k then 0 else f i) + if i = k then f k else 0) := sumN_congr fun i _ => by
    by_cases h : i = k
    · subst h; simp
    · simp [h]
  rw [this, sumN_add, sumN_one, if_pos hk]
structure Near (N : NetL) : Prop where
  r14 : N.r.length ≤ 14
  r : ∀ i, i < N.r.length → -300 ≤ (gD N.r i).sp.lo ∧ (gD N.r i).sp.hi ≤ 300
  g : ∀ j, j < N.g.length → -2000 ≤ (gD N.g j).lo ∧ (gD N.g j).hi ≤ 2000
theorem susp_free (h : checkL N = 0) (hn : Near N) {k : Nat} (hk : k < N.r.length) (hT : CanX N k T) : agrM (toldN N k ⟨-1000000, 1000000⟩) = true := by
  have hg := good_of h
  have hc : checkL (toldN N k ⟨-1000000, 1000000⟩) = 0 := check_good (told_good hg hk (by simp only; omega))
  obtain ⟨_, b1, b2, b3⟩ := hg.r k hk
  have hb : -1000000 ≤ gD T.f k ∧ gD T.f k ≤ 1000000 := by
    have hs := hT.bal (gD N.r k).fr.toNat (by omega)
    unfold balN at hs
    rw [sumN_out hk] at hs
    have ek : bS ((gD N.r k).fr.toNat : Int) (gD N.r k) (gD T.f k) = -(gD T.f k) := by
      unfold bS; rw [if_pos (by omega)]
    rw [ek] at hs
    have hh := sumN_bd (K := 300) (n := N.r.length) (f := fun i => if i = k then 0 else bS ((gD N.r k).fr.toNat : Int) (gD N.r i) (gD T.f i)) fun i hi => by
      by_cases he : i = k
      · simp only [he, if_true]; omega
      · simp only [he, if_false]
        have := hT.r i hi he
        have := hn.r i hi
        unfold bS; split <;> (try split) <;> omega
    have hgj := hT.g (gD N.r k).fr.toNat (by omega)
    have := hn.g (gD N.r k).fr.toNat (by omega)
    have := hn.r14
    omega
  have hcan := (told_can h hk hc).2 ⟨⟨hT.f, hT.t⟩, hT.r, hb, hT.g, hT.bal⟩
  unfold agrM
  rw [decide_eq_true hc, decide_eq_true (can_zero hcan)]; rfl
theorem susp_says (h : checkL N = 0) (hn : Near N) {k : Nat} (hk : k < N.r.length) (hb : suspB N k = true) (hc : setC N ≠ 0) : gD (levM N) (gD N.r k).fr.toNat ≠ gD (levM N) (gD N.r k).to.toNat ∧ agrM (toldN N k ⟨-1000000, 1000000⟩) = true := by
  obtain ⟨T, hT⟩ := (susp_iff h hk).1 hb
  obtain ⟨v1, v2⟩ := levM_ok h
  have := setC_bd h
  exact ⟨susp_rise h hk hT v1 (by omega), susp_free h hn hk hT⟩
theorem suspK_get {n j : Nat} (hj : j < (suspK N n).length) : ∃ k : Nat, gD (suspK N n) j = k ∧ k < n ∧ suspB N k = true := by
  have hm : (suspK N n)[j] ∈ suspK N n := List.getElem_mem hj
  have e : gD (suspK N n) j = (suspK N n)[j] := by simp [gD, List.getElem?_eq_getElem hj]
  rw [e]
  unfold suspK at hm ⊢
  simp only [List.mem_map, List.mem_filter, List.mem_range] at hm
  obtain ⟨k, ⟨h1, h2⟩, h3⟩ := hm
  exact ⟨k, h3.symm, h1, h2⟩
theorem suspK_asc (N : NetL) (n : Nat) : (suspK N n).Pairwise (· < ·) := by
  unfold suspK
  rw [List.pairwise_map]
  exact (List.pairwise_lt_range.filter _).imp fun h => by omega
theorem suspK_lt {n j : Nat} (hj : j + 1 < (suspK N n).length) : gD (suspK N n) j < gD (suspK N n) (j + 1) := by
  have e : ∀ i, (hi : i < (suspK N n).length) → gD (suspK N n) i = (suspK N n)[i] := fun i hi => by simp [gD, List.getElem?_eq_getElem hi]
  rw [e j (by omega), e (j + 1) hj]
  exact List.pairwise_iff_getElem.1 (suspK_asc N n) j (j + 1) (by omega) hj (by omega)
theorem suspK_mem {n k : Nat} (hk : k < n) (hb : suspB N k = true) : (k : Int) ∈ suspK N n := by
  unfold suspK
  simp only [List.mem_map, List.mem_filter, List.mem_range]
  exact ⟨k, ⟨hk, hb⟩, rfl⟩
theorem made_named {most : Int} (hm : Made N T most) (h8 : most ≤ 8) {i : Nat} (hi : i < N.r.length) {s : Span} (hs : -150 ≤ s.lo ∧ s.lo ≤ s.hi ∧ s.hi ≤ 252) : checkL (toldN N i s) = 0 ∧ Near (toldN N i s) ∧ suspB (toldN N i s) i = true := by
  have hg := hm.good h8
  have hc : checkL (toldN N i s) = 0 := check_good (told_good hg hi (by omega))
  refine ⟨hc, ⟨(told_good hg hi (by omega)).r14, fun j hj => ?_, fun j hj => by have : j < N.g.length := hj; have := hm.t j this; show _ ≤ (gD N.g j).lo ∧ (gD N.g j).hi ≤ _; omega⟩, (susp_iff hc (by rw [told_len]; exact hi)).2 ⟨T, by rw [told_len]; exact hm.fl, hm.tl, fun j hj hne => ?_, ?_, fun j hj => ?_, fun q hq => ?_⟩⟩
  · rw [told_len] at hj
    rw [told_r hi]
    by_cases he : j = i
    · rw [if_pos he]; simp only; omega
    · rw [if_neg he]; have := hm.r j hj; omega
  · rw [told_len] at hj
    rw [told_r hi, if_neg hne]; have := hm.r j hj; omega
  · have := hm.r i hi; omega
  · have := hm.t j hj
    show (gD N.g j).lo ≤ _ ∧ _ ≤ (gD N.g j).hi; omega
  · rw [told_bal hi]; exact hm.bal q hq
end Go.Bal
