/- Package balance: what is shifted: as much as there may be. -/
import Derived.Test.YtonddbmhljelgaaBalT6
set_option linter.unusedVariables false
set_option linter.unusedSimpArgs false
namespace Go.Bal
open Go
variable {d : Desk}
structure InS (d : Desk) : Prop where
  ok : d.ok
  sp : ∀ i, i < d.all.length → -100000000 ≤ (gD d.all i).sp.lo ∧ (gD d.all i).sp.lo ≤ (gD d.all i).sp.hi ∧ (gD d.all i).sp.hi ≤ 100000000
  now : ∀ i, i < d.all.length → (gD d.all i).sp.lo ≤ (gD d.all i).now ∧ (gD d.all i).now ≤ (gD d.all i).sp.hi
  zero : ∀ v : Nat, v < 10 → exc v d.all = 0
theorem InS.small (h : InS d) {i : Nat} (hi : i < d.all.length) : Small 3000000000 (gD d.all i) := by
  have := h.now i hi
  have := h.sp i hi
  exact ⟨by omega, h.sp i hi⟩
theorem free_price {at' : Int} {s : Step} (h : freeM d at' s = true) : priceM d s = 0 ∧ s.way ≠ at' := by
  unfold freeM at h
  simp only [Bool.and_eq_true, decide_eq_true_eq] at h
  refine ⟨h.1.1, fun he => ?_⟩
  obtain ⟨w, b⟩ := s
  simp only at he
  subst he
  cases b
  · exact h.2 rfl
  · exact h.1.2 rfl
theorem free_pot (at' : Int) : Pot d (freeM d at') (fun _ => 0) := fun s hs => by
  have := (free_price hs.2).1
  show (0 : Int) ≤ 0 + priceM d s
  omega
def Stuck (d : Desk) (at' : Int) (up : Bool) : Prop := 0 < (roomM (getW d.all at') (!up)).1 ∨
  ∃ S : Int → Prop, S (toM d ⟨at', !up⟩) ∧ ¬ S (toM d ⟨at', up⟩) ∧ ∀ s, Cnt d (freeM d at') s → S (srcM d s) → S (toM d s)
theorem shift_round (h : InS d) {at' : Int} (ha : 0 ≤ at' ∧ at' < d.all.length) {up : Bool} {rf : RT} (hrf : reachV d (freeM d at') (toM d ⟨at', !up⟩) = some rf) (hal : AllLeast d (freeM d at') (toM d ⟨at', !up⟩) rf.m)
    (hto : (rf.m.at (toM d ⟨at', up⟩)).isSome = true) (hp : ¬ 0 < (roomM (getW d.all at') (!up)).1) {rest : Int} (hrest : 1 ≤ rest ∧ rest ≤ 1000000000) :
    ∃ d1 n, movedM d (toM d ⟨at', !up⟩) (toM d ⟨at', up⟩) rf.m (min (roomM (getW d.all at') (!up)).2 rest) = some (d1, n) ∧ 1 ≤ n ∧ n ≤ rest ∧
      InS ⟨addNow d1.all at' up n, d1.out, d1.nR⟩ ∧ Alike d ⟨addNow d1.all at' up n, d1.out, d1.nR⟩ ∧ (gD (addNow d1.all at' up n) at'.toNat).now = (gD d.all at'.toNat).now + if up then n else -n := by
  have hlen := h.ok.len
  have hout := h.ok.out
  have hbd : ∀ i, i < d.all.length → -3000000000 ≤ (gD d.all i).now ∧ (gD d.all i).now ≤ 3000000000 := fun i hi => (h.small hi).now
  have hk : at'.toNat < d.all.length := by omega
  have hgw : getW d.all at' = gD d.all at'.toNat := rfl
  obtain ⟨f, hf⟩ := Option.isSome_iff_exists.1 hto
  obtain ⟨_, q, _, hlq⟩ := hal.1 _ _ hf
  have hfrin : 0 ≤ toM d ⟨at', !up⟩ ∧ toM d ⟨at', !up⟩ < d.out + 2 := toM_in h.ok ha
  have hq2 := hlq.many_lt h.ok hfrin
  have hfuel := fuel_big
  obtain ⟨l, hl1, hl2, hl3, hl4⟩ := trail_ok hal fuel _ f.cost q hlq (by omega)
  have hrange : ∀ s ∈ l, 0 ≤ s.way ∧ s.way < d.all.length := fun s hs => (hl3 s hs).1.1.1
  have hfree : ∀ s ∈ l, (roomM (gD d.all s.way.toNat) s.back).1 = 0 ∧ s.way ≠ at' := fun s hs => free_price (hl3 s hs).1.1.2
  have hlr : ∀ s ∈ l, 1 ≤ (roomM (getW d.all s.way) s.back).2 := fun s hs => by
    have := hrange s hs
    exact room_pos (h.small (i := s.way.toNat) (by omega)) (by omega) _
  have hr1 : 1 ≤ (roomM (getW d.all at') (!up)).2 := room_pos (h.small hk) (by omega) _
  obtain ⟨Q, hQ⟩ : ∃ Q, Q = leastRoom d (min (roomM (getW d.all at') (!up)).2 rest) l := ⟨_, rfl⟩
  have hQ1 : 1 ≤ Q := by rw [hQ]; exact leastRoom_pos l _ (by omega) hlr
  obtain ⟨hQ2, hQ3⟩ := leastRoom_le (d := d) l (min (roomM (getW d.all at') (!up)).2 rest)
  rw [← hQ] at hQ2 hQ3
  have hll : l.length ≤ 1000 := by
    have := pigeon d.all.length (l.map fun s => s.way) hl4 (fun x hx => by obtain ⟨s, hs, rfl⟩ := List.mem_map.1 hx; exact hrange s hs)
    rw [List.length_map] at this
    omega
  have hallb : (l.all fun s => decide (0 ≤ s.way) && decide (s.way < d.all.length)) = true := by
    rw [List.all_eq_true]
    intro s hs
    have := hrange s hs
    simp [this]
  have hQB : 0 ≤ Q ∧ Q ≤ 3000000000 := by omega
  have hps := pushAll_spec (q := Q) (B := 3000000000) (by omega) hQB l d.all hl4 hrange (fun i hi => by have := hbd i hi; omega) (fun i hi => by
    obtain ⟨s, hs, he⟩ := hi
    exact hbd i (by have := hrange s hs; omega))
  have hexc : ∀ v : Nat, exc v (pushAll Q d.all l) = exc v d.all + ind v (toM d ⟨at', up⟩) Q - ind v (toM d ⟨at', !up⟩) Q := fun v =>
    exc_pushAll (c := freeM d at') (by omega) hQB v l _ d.all hl2 rfl hl4 (fun i hi => ⟨⟨rfl, rfl⟩, by have := hbd i hi; omega⟩) (fun i hi => by
      obtain ⟨s, hs, he⟩ := hi
      exact hbd i (by have := hrange s hs; omega))
  have hat : gD (pushAll Q d.all l) at'.toNat = gD d.all at'.toNat := by
    rcases hps at'.toNat hk with ⟨s, hs, hsi, _⟩ | ⟨_, e⟩
    · exact absurd (by omega) (hfree s hs).2
    · exact e
  have hadd : ∀ i, i < d.all.length → gD (addNow (pushAll Q d.all l) at' up Q) i = if i = at'.toNat then moveW Q (!up) (gD d.all at'.toNat) else gD (pushAll Q d.all l) i := fun i hi => by
    unfold addNow
    rw [gD_modify (by rw [pushAll_len]; exact hk)]
    by_cases he : i = at'.toNat
    · rw [if_pos he, if_pos he, hat]
      have := hbd _ hk
      unfold moveW
      cases up
      · simp only [Bool.false_eq_true, if_false, Bool.not_false, if_true]
        rw [wr_id (by omega) (by omega)]
      · simp only [Bool.false_eq_true, if_false, Bool.not_true, if_true]
        rw [wr_id (by omega) (by omega)]
    · rw [if_neg he, if_neg he]
  have hin : ∀ i, i < d.all.length → (∃ b, gD (addNow (pushAll Q d.all l) at' up Q) i = moveW Q b (gD d.all i) ∧ (gD d.all i).sp.lo ≤ (moveW Q b (gD d.all i)).now ∧ (moveW Q b (gD d.all i)).now ≤ (gD d.all i).sp.hi) ∨ gD (addNow (pushAll Q d.all l) at' up Q) i = gD d.all i := fun i hi => by
    rw [hadd i hi]
    by_cases he : i = at'.toNat
    · subst he
      rw [if_pos rfl]
      exact .inl ⟨_, rfl, move_free (h.small hk) (by omega) (by omega) (by rw [hgw] at hQ2; omega) (by rw [hgw] at hp; omega) (h.now _ hk)⟩
    · rw [if_neg he]
      rcases hps i hi with ⟨s, hs, hsi, e⟩ | ⟨_, e⟩
      · rw [e]
        have hsn : s.way.toNat = i := by omega
        have h1 := (hfree s hs).1
        have h2 := hQ3 s hs
        rw [hsn] at h1
        unfold getW at h2
        rw [hsn] at h2
        exact .inl ⟨_, rfl, move_free (h.small hi) (by omega) (by omega) h2 (by omega) (h.now _ hi)⟩
      · exact .inr e
  have halike : Alike d ⟨addNow (pushAll Q d.all l) at' up Q, d.out, d.nR⟩ := ⟨rfl, rfl, by show (addNow _ _ _ _).length = _; unfold addNow; rw [List.length_modify, pushAll_len], fun i hi => by
    show (gD (addNow (pushAll Q d.all l) at' up Q) i).fr = _ ∧ (gD (addNow (pushAll Q d.all l) at' up Q) i).to = _ ∧ (gD (addNow (pushAll Q d.all l) at' up Q) i).sp = _
    rcases hin i hi with ⟨b, e, _⟩ | e <;> rw [e]
    · exact ⟨rfl, rfl, rfl⟩
    · exact ⟨rfl, rfl, rfl⟩⟩
  refine ⟨⟨pushAll Q d.all l, d.out, d.nR⟩, Q, ?_, hQ1, by omega, ⟨h.ok.alike halike, fun i hi => ?_, fun i hi => ?_, fun v hv => ?_⟩, halike, ?_⟩
  · unfold movedM
    rw [hl1]
    simp only [hallb, hll, decide_true, Bool.and_self, if_true, ← hQ]
  · rw [halike.len] at hi
    rw [(halike.way i hi).2.2]; exact h.sp i hi
  · rw [halike.len] at hi
    rw [(halike.way i hi).2.2]
    rcases hin i hi with ⟨b, e, e1⟩ | e
    · show _ ≤ (gD (addNow (pushAll Q d.all l) at' up Q) i).now ∧ _
      rw [e]; exact e1
    · show _ ≤ (gD (addNow (pushAll Q d.all l) at' up Q) i).now ∧ _
      rw [e]; exact h.now i hi
  · show exc v (addNow (pushAll Q d.all l) at' up Q) = 0
    unfold addNow
    rw [exc_modify' v _ (ind v (toM d ⟨at', !up⟩) Q - ind v (toM d ⟨at', up⟩) Q) _ _ (by rw [pushAll_len]; exact hk) ?_, hexc v, h.zero v hv]
    · omega
    · rw [hat]
      have := hbd _ hk
      rw [to_eq, to_eq]
      unfold excW ind
      cases up
      · simp only [Bool.false_eq_true, if_false, Bool.not_false, if_true]
        rw [wr_id (by omega) (by omega)]
        by_cases h1 : (gD d.all at'.toNat).fr = v <;> by_cases h2 : (gD d.all at'.toNat).to = v <;> simp [h1, h2] <;> omega
      · simp only [Bool.false_eq_true, if_false, Bool.not_true, if_true]
        rw [wr_id (by omega) (by omega)]
        by_cases h1 : (gD d.all at'.toNat).fr = v <;> by_cases h2 : (gD d.all at'.toNat).to = v <;> simp [h1, h2] <;> omega
  · rw [hadd _ hk, if_pos rfl]
    unfold moveW
    cases up
    · simp only [Bool.false_eq_true, if_false, Bool.not_false, if_true]; omega
    · simp only [Bool.false_eq_true, if_false, Bool.not_true, if_true]
end Go.Bal
