/- Package balance: what is shifted: as much as there may be. -/
import Derived.Test.YtonddbmhljelgaaBalT6
set_option linter.unusedVariables false
set_option linter.unusedSimpArgs false
namespace Go.Bal
open Go
variable {d : Desk}
structure InS (d : Desk) : Prop where
  ok : d.ok
  sp : ∀ i, i < d.all.length → -100000000 ≤ (gD d.all i).sp.lo ∧ (gD d.all i).sp.lo ≤ (gD d.all i).sp.hi ∧ (gD d.all i).sp.hi ≤ 100000000
  now : ∀ i, i < d.all.length → (gD d.all i).sp.lo ≤ (gD d.all i).now ∧ (gD d.all i).now ≤ (gD d.all i).sp.hi
  zero : ∀ v : Nat, v < 10 → exc v d.all = 0
theorem InS.small (h : InS d) {i : Nat} (hi : i < d.all.length) : Small 3000000000 (gD d.all i) := by
  have := h.now i hi
  have := h.sp i hi
  exact ⟨by omega, h.sp i hi⟩
theorem free_price {at' : Int} {s : Step} (h : freeM d at' s = true) : priceM d s = 0 ∧ s.way ≠ at' := by
  unfold freeM at h
  simp only [Bool.and_eq_true, decide_eq_true_eq] at h
  refine ⟨h.1.1, fun he => ?_⟩
  obtain ⟨w, b⟩ := s
  simp only at he
  subst he
  cases b
  · exact h.2 rfl
  · exact h.1.2 rfl
theorem free_pot (at' : Int) : Pot d (freeM d at') (fun _ => 0) := fun s hs => by
  have := (free_price hs.2).1
  show (0 : Int) ≤ 0 + priceM d s
  omega
def Stuck (d : Desk) (at' : Int) (up : Bool) : Prop := 0 < (roomM (getW d.all at') (!up)).1 ∨
  ∃ S : Int → Prop, S (toM d ⟨at', !up⟩) ∧ ¬ S (toM d ⟨at', up⟩) ∧ ∀ s, Cnt d (freeM d at') s → S (srcM d s) → S (toM d s)
theorem shift_round (h : InS d) {at' : Int} (ha : 0 ≤ at' ∧ at' < d.all.length) {up : Bool} {rf : RT} (hrf : reachV d (freeM d at') (toM d ⟨at', !up⟩) = some rf) (hal : AllLeast d (freeM d at') (toM d ⟨at', !up⟩) rf.m)
    (hto : (rf.m.at (toM d ⟨at', up⟩)).isSome = true) (hp : ¬ 0 < (roomM (getW d.all at') (!up)).1) {rest : Int} (hrest : 1 ≤ rest ∧ rest ≤ 1000000000) :
    ∃ d1 n, movedM d (toM d ⟨at', !up⟩) (toM d ⟨at', up⟩) rf.m (min (roomM (getW d.all at') (!up)).2 rest) = some (d1, n) ∧ 1 ≤ n ∧ n ≤ rest ∧
      InS ⟨addNow d1.all at' up n, d1.out, d1.nR⟩ ∧ Alike d ⟨addNow d1.all at' up n, d1.out, d1.nR⟩ ∧ (gD (addNow d1.all at' up n) at'.toNat).now = (gD d.all at'.toNat).now + if up then n else -n := by
  have hlen := h.ok.len
  have hout := h.ok.out
  have hbd : ∀ i, i < d.all.length → -3000000000 ≤ (gD d.all i).now ∧ (gD d.all i).now ≤ 3000000000 := fun i hi => (h.small hi).now
  have hk : at'.toNat < d.all.length := by omega
  have hgw : getW d.all at' = gD d.all at'.toNat := rfl
  obtain ⟨f, hf⟩ := Option.isSome_iff_exists.1 hto
  obtain ⟨_, q, _, hlq⟩ := hal.1 _ _ hf
  have hfrin : 0 ≤ toM d ⟨at', !up⟩ ∧ toM d ⟨at', !up⟩ < d.out + 2 := toM_in h.ok ha
  have hq2 := hlq.many_lt h.ok hfrin
  have hfuel := fuel_big
  obtain ⟨l, hl1, hl2, hl3, hl4⟩ := trail_ok hal fuel _ f.cost q hlq (by omega)
  have hrange : ∀ s ∈ l, 0 ≤ s.way ∧ s.way < d.all.length := fun s hs => (hl3 s hs).1.1.1
  have hfree : ∀ s ∈ l, (roomM (gD d.all s.way.toNat) s.back).1 = 0 ∧ s.way ≠ at' := fun s hs => free_price (hl3 s hs).1.1.2
  have hlr : ∀ s ∈ l, 1 ≤ (roomM (getW d.all s.way) s.back).2 := fun s hs => by
    have := hrange s hs
    exact room_pos (h.small (i := s.way.toNat) (by omega)) (by omega) _
  have hr1 : 1 ≤ (roomM (getW d.all at') (!up)).2 := room_pos (h.small hk) (by omega) _
  obtain ⟨Q, hQ⟩ : ∃ Q, Q = leastRoom d (min (roomM (getW d.all at') (!up)).2 rest) l := ⟨_, rfl⟩
  have hQ1 : 1 ≤ Q := by rw [hQ]; exact leastRoom_pos l _ (by omega) hlr
  obtain ⟨hQ2, hQ3⟩ := leastRoom_le (d := d) l (min (roomM (getW d.all at') (!up)).2 rest)
  rw [← hQ] at hQ2 hQ3
  have hll : l.length ≤ 1000 := by
    have := pigeon d.all.length (l.map fun s => s.way) hl4 (fun x hx => by obtain ⟨s, hs, rfl⟩ := List.mem_map.1 hx; exact hrange s hs)
    rw [List.length_map] at this
    omega
  have hallb : (l.all fun s => decide (0 ≤ s.way) && decide (s.way < d.all.length)) = true := by
    rw [List.all_eq_true]
    intro s hs
    have := hrange s hs
    simp [this]
  have hQB : 0 ≤ Q ∧ Q ≤ 3000000000 := by omega
  have hps := pushAll_spec (q := Q) (B := 3000000000) (by omega) hQB l d.all hl4 hrange (fun i hi => by have := hbd i hi; omega) (fun i hi => by
    obtain ⟨s, hs, he⟩ := hi
    exact hbd i (by have := hrange s hs; omega))
  have hexc : ∀ v : Nat, exc v (pushAll Q d.all l) = exc v d.all + ind v (toM d ⟨at', up⟩) Q - ind v (toM d ⟨at', !up⟩) Q := fun v =>
    exc_pushAll (c := freeM d at') (by omega) hQB v l _ d.all hl2 rfl hl4 (fun i hi => ⟨⟨rfl, rfl⟩, by have := hbd i hi; omega⟩) (fun i hi => by
      obtain ⟨s, hs, he⟩ := hi
      exact hbd i (by have := hrange s hs; omega))
  have hat : gD (pushAll Q d.all l) at'.toNat = gD d.all at'.toNat := by
    rcases hps at'.toNat hk with ⟨s, hs, hsi, _⟩ | ⟨_, e⟩
    · exact absurd (by omega) (hfree s hs).2
    · exact e
  have hadd : ∀ i, i < d.all.length → gD (addNow (pushAll Q d.all l) at' up Q) i = if i = at'.toNat then moveW Q (!up) (gD d.all at'.toNat) else gD (pushAll Q d.all l) i := fun i hi => by
    unfold addNow
    rw [gD_modify (by rw [pushAll_len]; exact hk)]
    by_cases he : i = at'.toNat
    · rw [if_pos he, if_pos he, hat]
      have := hbd _ hk
      unfold moveW
      cases up
      · simp only [Bool.false_eq_true, if_false, Bool.not_false, if_true]
        rw [wr_id (by omega) (by omega)]
      · simp only [Bool.false_eq_true, if_false, Bool.not_true, if_true]
        rw [wr_id (by omega) (by omega)]
    · rw [if_neg he, if_neg he]
  have hin : ∀ i, i < d.all.length → (∃ b, gD (addNow (pushAll Q d.all l) at' up Q) i = moveW Q b (gD d.all i) ∧ (gD d.all i).sp.lo ≤ (moveW Q b (gD d.all i)).now ∧ (moveW Q b (gD d.all i)).now ≤ (gD d.all i).sp.hi) ∨ gD (addNow (pushAll Q d.all l) at' up Q) i = gD d.all i := fun i hi => by
    rw [hadd i hi]
    by_cases he : i = at'.toNat
    · subst he
      rw [if_pos rfl]
      exact .inl ⟨_, rfl, move_free (h.small hk) (by omega) (by omega) (by rw [hgw] at hQ2; omega) (by rw [hgw] at hp; omega) (h.now _ hk)⟩
    · rw [if_neg he]
      rcases hps i hi with ⟨s, hs, hsi, e⟩ | ⟨_, e⟩
      · rw [e]
        have hsn : s.way.toNat = i := by omega
        have h1 := (hfree s hs).1
        have h2 := hQ3 s hs
        rw [hsn] at h1
        unfold getW at h2
        rw [hsn] at h2
        exact .inl ⟨_, rfl, move_free (h.small hi) (by omega) (by omega) h2 (by omega) (h.now _ hi)⟩
      · exact .inr e
  have halike : Alike d ⟨addNow (pushAll Q d.all l) at' up Q, d.out, d.nR⟩ := ⟨rfl, rfl, by show (addNow _ _ _ _).length = _; unfold addNow; rw [List.length_modify, pushAll_len], fun i hi => by
    show (gD (addNow (pushAll Q d.all l) at' up Q) i).fr = _ ∧ (gD (addNow (pushAll Q d.all l) at' up Q) i).to = _ ∧ (gD (addNow (pushAll Q d.all l) at' up Q) i).sp = _
    rcases hin i hi with ⟨b, e, _⟩ | e <;> rw [e]
    · exact ⟨rfl, rfl, rfl⟩
    · exact ⟨rfl, rfl, rfl⟩⟩
  refine ⟨⟨pushAll Q d.all l, d.out, d.nR⟩, Q, ?_, hQ1, by omega, ⟨h.ok.alike halike, fun i hi => ?_, fun i hi => ?_, fun v hv => ?_⟩, halike, ?_⟩
  · unfold movedM
    rw [hl1]
    simp only [hallb, hll, decide_true, Bool.and_self, if_true, ← hQ]
  · rw [halike.len] at hi
    rw [(halike.way i hi).2.2]; exact h.sp i hi
  · rw [halike.len] at hi
    rw [(halike.way i hi).2.2]
    rcases hin i hi with ⟨b, e, e1⟩ | e
    · show _ ≤ (gD (addNow (pushAll Q d.all l) at' up Q) i).now ∧ _
      rw [e]; exact e1
    · show _ ≤ (gD (addNow (pushAll Q d.all l) at' up Q) i).now ∧ _
      rw [e]; exact h.now i hi
  · show exc v (addNow (pushAll Q d.all l) at' up Q) = 0
    unfold addNow
    rw [exc_modify' v _ (ind v (toM d ⟨at', !up⟩) Q - ind v (toM d ⟨at', up⟩) Q) _ _ (by rw [pushAll_len]; exact hk) ?_, hexc v, h.zero v hv]
    · omega
    · rw [hat]
      have := hbd _ hk
      rw [to_eq, to_eq]
      unfold excW ind
      cases up
      · simp only [Bool.false_eq_true, if_false, Bool.not_false, if_true]
        rw [wr_id (by omega) (by omega)]
        by_cases h1 : (gD d.all at'.toNat).fr = v <;> by_cases h2 : (gD d.all at'.toNat).to = v <;> simp [h1, h2] <;> omega
      · simp only [Bool.false_eq_true, if_false, Bool.not_true, if_true]
        rw [wr_id (by omega) (by omega)]
        by_cases h1 : (gD d.all at'.toNat).fr = v <;> by_cases h2 : (gD d.all at'.toNat).to = v <;> simp [h1, h2] <;> omega
  · rw [hadd _ hk, if_pos rfl]
    unfold moveW
    cases up
    · simp only [Bool.false_eq_true, if_false, Bool.not_false, if_true]; omega
    · simp only [Bool.false_eq_true, if_false, Bool.not_true, if_true]
end Go.Bal

namespace Go.Bal
open Go
variable {d : Desk}
theorem shiftM_ok {at' : Int} {up : Bool} {most : Int} (hm : most ≤ 1000000000) : ∀ (k : Nat) (d : Desk) (total : Int), InS d → 0 ≤ at' ∧ at' < d.all.length → 0 ≤ total → 0 < k ∧ most - total < k →
    ∃ d' t, shiftM at' up most k d total = some (d', t) ∧ InS d' ∧ Alike d d' ∧ total ≤ t ∧ (t ≤ most ∨ t = total) ∧ (gD d'.all at'.toNat).now = (gD d.all at'.toNat).now + (if up then t - total else -(t - total)) ∧ (most ≤ t ∨ Stuck d' at' up)
  | 0, d, total, h, ha, h0, hk => by omega
  | k + 1, d, total, h, ha, h0, hk => by
    simp only [shiftM]
    by_cases hlt : total < most
    · rw [if_pos hlt]
      have hfr : 0 ≤ toM d ⟨at', !up⟩ ∧ toM d ⟨at', !up⟩ < d.out + 2 := toM_in h.ok ha
      obtain ⟨rf, h1, _, hal⟩ := reachV_ok (c := freeM d at') (fr := toM d ⟨at', !up⟩) h.ok hfr (free_pot at')
      rw [h1]
      simp only
      by_cases hst : ((rf.m.at (toM d ⟨at', up⟩)).isNone || decide (0 < (roomM (getW d.all at') (!up)).1)) = true
      · rw [if_pos (by simpa using hst)]
        refine ⟨d, total, rfl, h, Alike.refl d, Int.le_refl _, .inr rfl, by cases up <;> simp, .inr ?_⟩
        rw [Bool.or_eq_true, decide_eq_true_eq] at hst
        rcases hst with hst | hst
        · refine .inr ⟨fun v => (rf.m.at v).isSome = true, hal.2 _ _ _ .nil, fun hh => ?_, fun s hs hsrc => ?_⟩
          · rw [Option.isNone_iff_eq_none] at hst
            rw [hst] at hh; cases hh
          · obtain ⟨g, hg⟩ := Option.isSome_iff_exists.1 hsrc
            obtain ⟨_, q, _, hq⟩ := hal.1 _ _ hg
            exact hal.2 _ _ _ (Walk.step s hq.1 hs)
        · exact .inl hst
      · rw [if_neg (by simpa using hst)]
        have hst : (rf.m.at (toM d ⟨at', up⟩)).isSome = true ∧ ¬ 0 < (roomM (getW d.all at') (!up)).1 := by
          simp only [Bool.or_eq_true, decide_eq_true_eq, not_or] at hst
          refine ⟨?_, hst.2⟩
          cases hx : rf.m.at (toM d ⟨at', up⟩) with
          | none => rw [hx] at hst; simp at hst
          | some _ => rfl
        have hwr : wr (most - total) = most - total := wr_id (by omega) (by omega)
        obtain ⟨d1, n, h2, h3, h4, h5, h6, h7⟩ := shift_round h ha h1 hal hst.1 hst.2 (rest := most - total) (by omega)
        rw [hwr, h2]
        simp only
        rw [wr_id (n := total + n) (by omega) (by omega)]
        obtain ⟨d', t, g1, g2, g3, g4, g5, g6, g7⟩ := shiftM_ok hm k ⟨addNow d1.all at' up n, d1.out, d1.nR⟩ (total + n) h5 (by rw [h6.len]; exact ha) (by omega) (by omega)
        refine ⟨d', t, g1, g2, h6.trans g3, by omega, .inl (by omega), ?_, g7⟩
        rw [g6]
        show (gD (addNow d1.all at' up n) at'.toNat).now + _ = _
        rw [h7]
        cases up <;> simp only [Bool.false_eq_true, if_true, if_false] <;> omega
    · rw [if_neg hlt]
      exact ⟨d, total, rfl, h, Alike.refl d, Int.le_refl _, .inr rfl, by cases up <;> simp, .inl (by omega)⟩
end Go.Bal

namespace Go.Bal
open Go
variable {d d' : Desk}
theorem sumN_head (f : Nat → Int) : ∀ n, sumN (n + 1) f = f 0 + sumN n fun i => f (i + 1)
  | 0 => by simp [sumN]
  | n + 1 => by
    rw [sumN, sumN_head f n]
    simp only [sumN]
    omega
theorem sumL_idx {α : Type} [Inhabited α] (f : α → Int) : ∀ l : List α, sumL f l = sumN l.length fun i => f (gD l i)
  | [] => rfl
  | w :: l => by
    rw [List.length_cons, sumN_head]
    simp only [sumL]
    rw [sumL_idx f l]
    rfl
theorem InS.circ (h : InS d) (π : Int → Int) : sumN d.all.length (fun i => (π (gD d.all i).to - π (gD d.all i).fr) * (gD d.all i).now) = 0 := by
  have := circ_zero π (l := d.all) (fun w hw => by
    obtain ⟨i, hi, rfl⟩ := mem_gD hw
    have := h.ok.ends i hi
    have := h.ok.out
    omega) h.zero
  rw [sumL_idx] at this
  exact this
theorem room_zero_fwd {w : Way} (h : Small 3000000000 w) (hin : w.sp.lo ≤ w.now ∧ w.now ≤ w.sp.hi) (hp : (roomM w false).1 ≠ 0) : w.now = w.sp.hi := by
  rw [room_fwd h (by omega)] at hp
  by_cases a : w.now < w.sp.lo
  · omega
  · rw [if_neg a] at hp
    by_cases e : w.now < w.sp.hi
    · rw [if_pos e] at hp; simp at hp
    · omega
theorem room_zero_back {w : Way} (h : Small 3000000000 w) (hin : w.sp.lo ≤ w.now ∧ w.now ≤ w.sp.hi) (hp : (roomM w true).1 ≠ 0) : w.now = w.sp.lo := by
  rw [room_back h (by omega)] at hp
  by_cases a : w.sp.hi < w.now
  · omega
  · rw [if_neg a] at hp
    by_cases e : w.sp.lo < w.now
    · rw [if_pos e] at hp; simp at hp
    · omega
theorem sumN_rest {f : Nat → Int} {n k : Nat} (hk : k < n) (h : ∀ i, i < n → i ≠ k → 0 ≤ f i) (hz : sumN n f = 0) : f k ≤ 0 := by
  have h1 : sumN n (fun i => if i = k then f k else 0) ≤ sumN n f := sumN_le fun i hi => by
    by_cases he : i = k
    · subst he; simp
    · rw [if_neg he]; exact h i hi he
  rw [sumN_one, if_pos hk, hz] at h1
  exact h1
theorem stuck_most (h : InS d) (h' : InS d') (hl : Alike d d') {at' : Int} (ha : 0 ≤ at' ∧ at' < d.all.length) {up : Bool} (hs : Stuck d at' up) :
    if up then (gD d'.all at'.toNat).now ≤ (gD d.all at'.toNat).now else (gD d.all at'.toNat).now ≤ (gD d'.all at'.toNat).now := by
  have hk : at'.toNat < d.all.length := by omega
  have hsp := (hl.way at'.toNat hk).2.2
  have hn' := h'.now at'.toNat (by rw [hl.len]; exact hk)
  rw [hsp] at hn'
  rcases hs with hs | ⟨S, hS1, hS2, hS3⟩
  · unfold getW at hs
    cases up
    · have := room_zero_back (h.small hk) (h.now _ hk) (by simp only [Bool.not_false] at hs; omega)
      simp only [Bool.false_eq_true, if_false]; omega
    · have := room_zero_fwd (h.small hk) (h.now _ hk) (by simp only [Bool.not_true] at hs; omega)
      simp only [if_true]; omega
  · classical
    obtain ⟨π, hπ⟩ : ∃ π : Int → Int, π = fun v => if S v then 1 else 0 := ⟨_, rfl⟩
    have p1 : ∀ v, S v → π v = 1 := fun v hv => by rw [hπ]; simp only; rw [if_pos hv]
    have p0 : ∀ v, ¬ S v → π v = 0 := fun v hv => by rw [hπ]; simp only; rw [if_neg hv]
    have c1 := h.circ π
    have c2 := h'.circ π
    rw [hl.len, sumN_congr (g := fun i => (π (gD d.all i).to - π (gD d.all i).fr) * (gD d.all i).now + (π (gD d.all i).to - π (gD d.all i).fr) * ((gD d'.all i).now - (gD d.all i).now)) fun i hi => by
      obtain ⟨a, b, _⟩ := hl.way i hi
      rw [a, b, ← Int.mul_add]
      congr 1; omega, sumN_add (fun i => (π (gD d.all i).to - π (gD d.all i).fr) * (gD d.all i).now), c1, Int.zero_add] at c2
    have key := sumN_rest hk (fun i hi hne => by
      have hni := h'.now i (by rw [hl.len]; exact hi)
      rw [(hl.way i hi).2.2] at hni
      have hcnt : ∀ b : Bool, (roomM (gD d.all i) b).1 = 0 → Cnt d (freeM d at') ⟨(i : Int), b⟩ := fun b hb => by
        refine ⟨⟨by simp only; omega, by simp only; omega⟩, ?_⟩
        unfold freeM getW
        have e : (i : Int).toNat = i := by omega
        simp only [e, hb, Bool.and_eq_true, decide_eq_true_eq]
        refine ⟨⟨trivial, fun he => ?_⟩, fun he => ?_⟩
        · have : (i : Int) = at' := congrArg Step.way he
          omega
        · have : (i : Int) = at' := congrArg Step.way he
          omega
      by_cases s1 : S (gD d.all i).to <;> by_cases s2 : S (gD d.all i).fr
      · rw [p1 _ s1, p1 _ s2]; simp
      · rw [p1 _ s1, p0 _ s2]
        have := room_zero_back (h.small hi) (h.now i hi) fun hb => s2 (hS3 _ (hcnt true hb) s1)
        omega
      · rw [p0 _ s1, p1 _ s2]
        have := room_zero_fwd (h.small hi) (h.now i hi) fun hb => s1 (hS3 _ (hcnt false hb) s2)
        omega
      · rw [p0 _ s1, p0 _ s2]; simp) c2
    rw [to_eq] at hS1 hS2
    cases up
    · simp only [Bool.not_false, if_true, Bool.false_eq_true, if_false] at hS1 hS2 ⊢
      rw [p1 _ hS1, p0 _ hS2] at key
      omega
    · simp only [Bool.not_true, if_true, Bool.false_eq_true, if_false] at hS1 hS2 ⊢
      rw [p1 _ hS1, p0 _ hS2] at key
      omega
end Go.Bal
