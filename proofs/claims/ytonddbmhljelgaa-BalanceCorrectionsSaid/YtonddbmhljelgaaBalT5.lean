/- Package balance: settling ends. -/
import Derived.Test.YtonddbmhljelgaaBalT3
set_option linter.unusedVariables false
set_option linter.unusedSimpArgs false
namespace Go.Bal
open Go
variable {d : Desk} {π : Int → Int} {M : Int}
theorem mem_gD {l : List Way} {w : Way} (h : w ∈ l) : ∃ i, i < l.length ∧ gD l i = w := by
  obtain ⟨i, hi, rfl⟩ := List.getElem_of_mem h
  exact ⟨i, hi, by simp [gD, hi]⟩
theorem Lay.mem (h : Lay d) {w : Way} (hw : w ∈ d.all) : ((0 ≤ w.fr ∧ w.fr ≤ d.out) ∧ 0 ≤ w.to ∧ w.to ≤ d.out) := by
  obtain ⟨i, hi, rfl⟩ := mem_gD hw
  exact h.ends i hi
theorem Lay.sum (h : Lay d) : sumN 10 (fun v => exc v d.all) = 0 := exc_sum fun w hw => by
  have := h.mem hw
  have := h.ok.out
  omega
theorem Lay.zero (h : Lay d) {v : Nat} (hv : d.out < v) : exc v d.all = 0 := exc_none fun w hw => by
  have := h.mem hw
  omega
theorem Lay.both (h : Lay d) {k : Nat} (hk : k < 10) (hne : exc k d.all ≠ 0) : (∃ v : Nat, v < 10 ∧ 0 < exc v d.all) ∧ ∃ v : Nat, v < 10 ∧ exc v d.all < 0 := by
  have hs := h.sum
  refine ⟨?_, ?_⟩
  · refine Classical.byContradiction fun hno => ?_
    have hno : ∀ v : Nat, v < 10 → exc v d.all ≤ 0 := fun v hv => by
      refine Classical.byContradiction fun hh => hno ⟨v, hv, by omega⟩
    have h1 := sumN_pos (f := fun v : Nat => - exc v d.all) (n := 10) (k := k) (fun i hi => by have := hno i hi; omega) hk
    have h2 := sumN_add (fun v : Nat => exc v d.all) (fun v : Nat => - exc v d.all) 10
    rw [sumN_congr (g := fun _ => 0) (fun i _ => by omega), sumN_zero, hs] at h2
    have h3 := hno k hk
    have h1 : - exc k d.all ≤ sumN 10 (fun v : Nat => - exc v d.all) := h1
    omega
  · refine Classical.byContradiction fun hno => ?_
    have hno : ∀ v : Nat, v < 10 → 0 ≤ exc v d.all := fun v hv => by
      refine Classical.byContradiction fun hh => hno ⟨v, hv, by omega⟩
    have h1 := sumN_pos (f := fun v : Nat => exc v d.all) (n := 10) (k := k) hno hk
    rw [hs] at h1
    have h3 := hno k hk
    omega
theorem all_zero (hd : d.ok) {B : Int} (hB : 0 ≤ B ∧ B ≤ 3000000000) (hs : ∀ i, i < d.all.length → -B ≤ (gD d.all i).now ∧ (gD d.all i).now ≤ B) : overM d = List.replicate 10 0 ↔ ∀ v : Nat, v < 10 → exc v d.all = 0 := by
  obtain ⟨h1, h2⟩ := overM_spec hB hd hs
  constructor
  · intro h v hv
    rw [← h2 v hv, h, gD_replicate, if_pos hv]
  · intro h
    refine gD_ext (by rw [h1]; simp) fun i hi => ?_
    rw [h1] at hi
    rw [h2 i hi, h i hi, gD_replicate, if_pos hi]
theorem settleStep_ok (h : Fit d π M) (hM : M ≤ 3000000000) (hne : overM d ≠ List.replicate 10 0) :
    ∃ d' π', settleStep d (overM d) = some d' ∧ Fit d' π' M ∧ outside d' < outside d ∧ Alike d d' := by
  have hP := outside_nonneg d
  have hlen := h.lay.ok.len
  have hout := h.lay.ok.out
  have hcut := h.lay.ok.cut
  have hbd : ∀ i, i < d.all.length → -3000000000 ≤ (gD d.all i).now ∧ (gD d.all i).now ≤ 3000000000 := fun i hi => (h.small hM hi).now
  obtain ⟨ho1, ho2⟩ := overM_spec (B := 3000000000) (by omega) h.lay.ok hbd
  have hne' : ∃ k : Nat, k < 10 ∧ exc k d.all ≠ 0 := Classical.byContradiction fun hno => hne ((all_zero h.lay.ok (B := 3000000000) (by omega) hbd).2 fun v hv => Classical.byContradiction fun hh => hno ⟨v, hv, hh⟩)
  obtain ⟨k, hk, hek⟩ := hne'
  obtain ⟨⟨v1, hv1, hp1⟩, ⟨v2, hv2, hp2⟩⟩ := h.lay.both hk hek
  obtain ⟨j, hj, _, hj10, hjp⟩ := idx_some (p := fun i => decide (0 < gD (overM d) i)) (n := 10) (k := 0) (i := v1) (by omega) (by omega) (by rw [decide_eq_true_eq, ho2 v1 hv1]; exact hp1)
  have hjp : 0 < exc j d.all := by rw [decide_eq_true_eq, ho2 j (by omega)] at hjp; exact hjp
  have hfp : firstPos (overM d) = j := hj
  have hjo : j ≤ d.out := Classical.byContradiction fun hh => by have := h.lay.zero (v := j) (by omega); omega
  have hv2o : v2 ≤ d.out := Classical.byContradiction fun hh => by have := h.lay.zero (v := v2) (by omega); omega
  obtain ⟨rf, hrf, hrl, hal⟩ := reachV_ok (c := any) (fr := (j : Int)) h.lay.ok (by omega) (h.pot hM)
  have hreach : ∀ v : Int, 0 ≤ v → v ≤ d.out → (rf.m.at v).isSome = true := fun v h0 h1 => by
    obtain ⟨a, q, w⟩ := h.lay.walk (fr := (j : Int)) (by omega) ⟨h0, h1⟩
    exact hal.2 v a q w
  have hc := nearest_spec (m := rf.m) (fr := (j : Int)) (f := fun i => exc i d.all) (fun i he => by
    have : j = i := by omega
    subst this; omega) (overM d) 0 ((j : Int), ⟨0, 0, ⟨0, false⟩⟩) (fun i hi => by rw [ho2 i (by omega), Nat.zero_add]) (.inl rfl) (.inl ⟨v2, by omega, by rw [ho2 v2 hv2]; exact hp2, by
      rw [Nat.zero_add]; exact hreach v2 (by omega) (by omega)⟩)
  obtain ⟨t, ht, htn, hts⟩ := hc
  have htn : exc t d.all < 0 := htn
  rw [ht] at hts
  have ht10 : t < 10 := by
    refine Classical.byContradiction fun hh => ?_
    have := h.lay.zero (v := t) (by omega)
    omega
  have hto : t ≤ d.out := Classical.byContradiction fun hh => by have := h.lay.zero (v := t) (by omega); omega
  obtain ⟨f, hf⟩ := Option.isSome_iff_exists.1 hts
  obtain ⟨_, q, _, hlq⟩ := hal.1 _ _ hf
  have hq2 := hlq.many_lt h.lay.ok (by omega)
  have hfuel := fuel_big
  obtain ⟨l, hl1, hl2, hl3, hl4⟩ := trail_ok hal fuel (t : Int) f.cost q hlq (by omega)
  have hP1 := exc_le_outside d (v := j) (by omega)
  have hE : ∀ v : Nat, v < 10 → exc v d.all ≤ outside d := fun v hv => exc_le_outside d hv
  have hlow : -230000000000 ≤ exc t d.all := by
    have hs := h.lay.sum
    have h1 := sumN_le (f := fun v : Nat => exc v d.all) (g := fun v : Nat => outside d + if v = t then exc t d.all - outside d else 0) (n := 10) fun i hi => by
      by_cases he : i = t
      · subst he; rw [if_pos rfl]; omega
      · rw [if_neg he]; have := hE i hi; omega
    rw [hs, sumN_add (fun _ => outside d) (fun v : Nat => if v = t then exc t d.all - outside d else 0), sumN_one, if_pos ht10] at h1
    have h2 : sumN 10 (fun _ => outside d) = 10 * outside d := by simp only [sumN]; omega
    have h3 : outside d ≤ M := by
      have := h.now 0
      by_cases h0 : 0 < d.all.length
      · have := h.now 0 h0; omega
      · have hz : d.all = [] := List.eq_nil_of_length_eq_zero (by omega)
        rw [hz] at hjp; simp [exc] at hjp
    omega
  have hwr : wr (-(gD (overM d) t)) = - exc t d.all := by rw [ho2 t ht10]; exact wr_id (by omega) (by omega)
  have hlr : ∀ s ∈ l, 1 ≤ (roomM (getW d.all s.way) s.back).2 := fun s hs => by
    have := (hl3 s hs).1.1.1
    exact room_pos (h.small hM (i := s.way.toNat) (by omega)) (by omega) _
  obtain ⟨Q, hQ⟩ : ∃ Q, Q = leastRoom d (min (exc j d.all) (- exc t d.all)) l := ⟨_, rfl⟩
  have hQ1 : 1 ≤ Q := by rw [hQ]; exact leastRoom_pos l _ (by omega) hlr
  obtain ⟨hQ2, hQ3⟩ := leastRoom_le (d := d) l (min (exc j d.all) (- exc t d.all))
  rw [← hQ] at hQ2 hQ3
  have hrange : ∀ s ∈ l, 0 ≤ s.way ∧ s.way < d.all.length := fun s hs => (hl3 s hs).1.1.1
  have hll : l.length ≤ 1000 := by
    have := pigeon d.all.length (l.map fun s => s.way) hl4 (fun x hx => by obtain ⟨s, hs, rfl⟩ := List.mem_map.1 hx; exact hrange s hs)
    rw [List.length_map] at this
    omega
  have hallb : (l.all fun s => decide (0 ≤ s.way) && decide (s.way < d.all.length)) = true := by
    rw [List.all_eq_true]
    intro s hs
    have := hrange s hs
    simp [this]
  have hstep : settleStep d (overM d) = some ⟨pushAll Q d.all l, d.out, d.nR⟩ := by
    unfold settleStep
    simp only [hfp, hrf]
    rw [if_neg (by omega)]
    simp only [ht, Int.toNat_natCast, hwr, ho2 j (by omega)]
    unfold movedM
    rw [hl1]
    simp only [hallb, hll, decide_true, Bool.and_self, if_true, ← hQ]
  have hM0 : outside d ≤ M := by
    have hpos : 0 < d.all.length := by
      refine Classical.byContradiction fun h0 => ?_
      have hz : d.all = [] := List.eq_nil_of_length_eq_zero (by omega)
      rw [hz] at hjp; simp [exc] at hjp
    have := h.now 0 hpos
    omega
  have hQB : 0 ≤ Q ∧ Q ≤ 3000000000 := by omega
  have hps := pushAll_spec (q := Q) (B := 3000000000) (by omega) hQB l d.all hl4 hrange (fun i hi => by have := hbd i hi; omega) (fun i hi => by
    obtain ⟨s, hs, he⟩ := hi
    exact hbd i (by have := hrange s hs; omega))
  have hal' : Alike d ⟨pushAll Q d.all l, d.out, d.nR⟩ := ⟨rfl, rfl, pushAll_len _ _ _, fun i hi => by
    show (gD (pushAll Q d.all l) i).fr = _ ∧ (gD (pushAll Q d.all l) i).to = _ ∧ (gD (pushAll Q d.all l) i).sp = _
    rcases hps i hi with ⟨s, _, _, e⟩ | ⟨_, e⟩ <;> rw [e]
    · exact ⟨rfl, rfl, rfl⟩
    · exact ⟨rfl, rfl, rfl⟩⟩
  have hexc : ∀ v : Nat, exc v (pushAll Q d.all l) = exc v d.all + ind v t Q - ind v j Q := fun v =>
    exc_pushAll (c := any) (by omega) hQB v l t d.all hl2 rfl hl4 (fun i hi => ⟨⟨rfl, rfl⟩, by have := hbd i hi; omega⟩) (fun i hi => by
      obtain ⟨s, hs, he⟩ := hi
      exact hbd i (by have := hrange s hs; omega))
  have htj : t ≠ j := fun he => by subst he; omega
  have hoP : outside ⟨pushAll Q d.all l, d.out, d.nR⟩ = outside d - Q := by
    unfold outside
    rw [sumN_congr (g := fun v : Nat => max 0 (exc v d.all) + if v = j then -Q else 0) fun v hv => ?_, sumN_add, sumN_one, if_pos (by omega)]
    · omega
    · show max 0 (exc v (pushAll Q d.all l)) = _
      rw [hexc v]
      unfold ind
      by_cases h1 : v = j
      · subst h1
        rw [if_neg (by omega), if_pos rfl, if_pos rfl]; omega
      · by_cases h2 : v = t
        · subst h2
          rw [if_pos rfl, if_neg (by omega), if_neg h1]; omega
        · rw [if_neg (by omega), if_neg (by omega), if_neg h1]; omega
  refine ⟨_, fun v => (rf.m.far v).cost, hstep, ⟨h.lay.alike hal', ?_, ?_, ?_⟩, by omega, hal'⟩
  · intro i hi
    rw [hal'.len] at hi
    rw [(hal'.way i hi).2.2]
    exact h.sp i hi
  · intro i hi
    rw [hal'.len] at hi
    have := h.now i hi
    rw [hoP]
    show _ ≤ (gD (pushAll Q d.all l) i).now ∧ _
    rcases hps i hi with ⟨s, _, _, e⟩ | ⟨_, e⟩
    · rw [e]
      unfold moveW
      cases s.back <;> simp only [Bool.false_eq_true, if_true, if_false] <;> omega
    · rw [e]; omega
  · intro i hi
    rw [hal'.len] at hi
    have hen := h.lay.ends i hi
    have lab : ∀ v : Int, 0 ≤ v → v ≤ d.out → ∃ k : Nat, Least d any j v (rf.m.far v).cost k := fun v h0 h1 => by
      obtain ⟨g, hg⟩ := Option.isSome_iff_exists.1 (hreach v h0 h1)
      obtain ⟨_, k, _, hk⟩ := hal.1 v g hg
      have : rf.m.far v = g := by simp [Map.far, hg]
      rw [this]; exact ⟨k, hk⟩
    rw [(hal'.way i hi).1, (hal'.way i hi).2.1]
    show OptW (gD (pushAll Q d.all l) i) _
    have hsm := h.small hM hi
    rcases hps i hi with ⟨s, hs, hsi, e⟩ | ⟨hno, e⟩
    · rw [e]
      obtain ⟨⟨hcnt, a, m, hla, hlb⟩, _⟩ := hl3 s hs
      have hsn : s.way.toNat = i := by omega
      obtain ⟨k1, hk1⟩ := lab (srcM d s) (by have := srcM_in h.lay.ok hcnt.1; omega) (by rw [src_eq, hsn]; split <;> omega)
      obtain ⟨k2, hk2⟩ := lab (toM d s) (by have := toM_in h.lay.ok hcnt.1; omega) (by rw [to_eq, hsn]; split <;> omega)
      have e1 := (hk1.uniq hla).1
      have e2 := (hk2.uniq hlb).1
      rw [src_eq, hsn] at e1
      rw [to_eq, hsn] at e2
      have hr : priceM d s = (roomM (gD d.all i) s.back).1 := by unfold priceM getW; rw [hsn]
      have := optW_move hsm (by omega) (q := Q) (b := s.back) (by omega) (by have := hQ3 s hs; unfold getW at this; rw [hsn] at this; exact this)
      have e3 : (if s.back then -(roomM (gD d.all i) s.back).1 else (roomM (gD d.all i) s.back).1) = (rf.m.far (gD d.all i).to).cost - (rf.m.far (gD d.all i).fr).cost := by
        cases hb : s.back <;> rw [hb] at e1 e2 hr <;> simp only [Bool.false_eq_true, if_true, if_false] at e1 e2 ⊢ <;> omega
      rw [← e3]; exact this
    · rw [e]
      refine (optW_iff hsm (by omega) _).2 ?_
      obtain ⟨k1, hk1⟩ := lab (gD d.all i).fr hen.1.1 hen.1.2
      obtain ⟨k2, hk2⟩ := lab (gD d.all i).to hen.2.1 hen.2.2
      have f1 := Walk.step (d := d) (c := any) (fr := (j : Int)) ⟨(i : Int), false⟩ (by rw [src_eq]; exact hk1.1) ⟨by constructor <;> simp only <;> omega, rfl⟩
      have f2 := Walk.step (d := d) (c := any) (fr := (j : Int)) ⟨(i : Int), true⟩ (by rw [src_eq]; exact hk2.1) ⟨by constructor <;> simp only <;> omega, rfl⟩
      have g1 := hk2.2 _ _ f1
      have g2 := hk1.2 _ _ f2
      have p1 : priceM d ⟨(i : Int), false⟩ = (roomM (gD d.all i) false).1 := rfl
      have p2 : priceM d ⟨(i : Int), true⟩ = (roomM (gD d.all i) true).1 := rfl
      rw [p1] at g1
      rw [p2] at g2
      omega
end Go.Bal
