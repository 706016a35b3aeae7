/- Package balance: settling ends. -/
import Derived.Test.YtonddbmhljelgaaBalT3
set_option linter.unusedVariables false
set_option linter.unusedSimpArgs false
namespace Go.Bal
open Go
variable {d : Desk} {π : Int -> Int} {M : Int}
theorem NR {l : List Way} {w : Way} (h : w ∈ l) : ∃ i, i < l.length /\ gD l i = w := by
 obtain ⟨i, hi, rfl⟩ := List.getElem_of_mem h
 exact ⟨i, hi, by simp [gD, hi]⟩
theorem Lay.mem (h : Lay d) {w : Way} (hw : w ∈ d.all) : ((0 <= w.fr /\ w.fr <= d.out) /\ 0 <= w.to /\ w.to <= d.out) := by
 obtain ⟨i, hi, rfl⟩ := NR hw
 exact h.ends i hi
theorem Lay.sum (h : Lay d) : BQ 10 (λ v => EU v d.all) = 0 := Jv λ w hw => by
 have := h.mem hw
 have := h.ok.out
 omega
theorem Lay.zero (h : Lay d) {v : Nat} (hv : d.out < v) : EU v d.all = 0 := Fh λ w hw => by
 have := h.mem hw
 omega
theorem Lay.both (h : Lay d) {k : Nat} (hk : k < 10) (hne : EU k d.all ≠ 0) : (∃ v : Nat, v < 10 /\ 0 < EU v d.all) /\ ∃ v : Nat, v < 10 /\ EU v d.all < 0 := by
 have hs := h.sum
 refine ⟨?_, ?_⟩
 ·refine Classical.byContradiction λ hno => ?_
  have hno : ∀ v : Nat, v < 10 -> EU v d.all <= 0 := λ v hv => by
   refine Classical.byContradiction λ hh => hno ⟨v, hv, by omega⟩
  have h1 := YZ (f := λ v : Nat => - EU v d.all) (n := 10) (k := k) (λ i hi => by have := hno i hi; omega) hk
  have h2 := GL (λ v : Nat => EU v d.all) (λ v : Nat => - EU v d.all) 10
  rw [BL (g := λ _ => 0) (λ i _ => by omega), KB, hs] at h2
  have h3 := hno k hk
  have h1 : - EU k d.all <= BQ 10 (λ v : Nat => - EU v d.all) := h1
  omega
 ·refine Classical.byContradiction λ hno => ?_
  have hno : ∀ v : Nat, v < 10 -> 0 <= EU v d.all := λ v hv => by
   refine Classical.byContradiction λ hh => hno ⟨v, hv, by omega⟩
  have h1 := YZ (f := λ v : Nat => EU v d.all) (n := 10) (k := k) hno hk
  rw [hs] at h1
  have h3 := hno k hk
  omega
theorem ZT (hd : d.ok) {B : Int} (hB : 0 <= B /\ B <= 3000000000) (hs : ∀ i, i < d.all.length -> -B <= (gD d.all i).now /\ (gD d.all i).now <= B) : AY d = List.replicate 10 0 ↔ ∀ v : Nat, v < 10 -> EU v d.all = 0 := by
 obtain ⟨h1, h2⟩ := ZI hB hd hs
 constructor
 ·intro h v hv
  rw [<- h2 v hv, h, FK, if_pos hv]
 ·intro h
  refine OD (by rw [h1]; simp) λ i hi => ?_
  rw [h1] at hi
  rw [h2 i hi, h i hi, FK, if_pos hi]
theorem Bx (h : Fit d π M) (hM : M <= 3000000000) (hne : AY d ≠ List.replicate 10 0) :
  ∃ d' π', GN d (AY d) = some d' /\ Fit d' π' M /\ CW d' < CW d /\ Alike d d' := by
 have hP := II d
 have hlen := h.lay.ok.len
 have hout := h.lay.ok.out
 have hcut := h.lay.ok.cut
 have hbd : ∀ i, i < d.all.length -> -3000000000 <= (gD d.all i).now /\ (gD d.all i).now <= 3000000000 := λ i hi => (h.small hM hi).now
 obtain ⟨ho1, ho2⟩ := ZI (B := 3000000000) (by omega) h.lay.ok hbd
 have hne' : ∃ k : Nat, k < 10 /\ EU k d.all ≠ 0 := Classical.byContradiction λ hno => hne ((ZT h.lay.ok (B := 3000000000) (by omega) hbd).2 λ v hv => Classical.byContradiction λ hh => hno ⟨v, hv, hh⟩)
 obtain ⟨k, hk, hek⟩ := hne'
 obtain ⟨⟨v1, hv1, hp1⟩, ⟨v2, hv2, hp2⟩⟩ := h.lay.both hk hek
 obtain ⟨j, hj, _, hj10, hjp⟩ := Ge (p := λ i => decide (0 < gD (AY d) i)) (n := 10) (k := 0) (i := v1) (by omega) (by omega) (by rw [decide_eq_true_eq, ho2 v1 hv1]; exact hp1)
 have hjp : 0 < EU j d.all := by rw [decide_eq_true_eq, ho2 j (by omega)] at hjp; exact hjp
 have hfp : CP (AY d) = j := hj
 have hjo : j <= d.out := Classical.byContradiction λ hh => by have := h.lay.zero (v := j) (by omega); omega
 have hv2o : v2 <= d.out := Classical.byContradiction λ hh => by have := h.lay.zero (v := v2) (by omega); omega
 obtain ⟨rf, hrf, hrl, hal⟩ := Cy (c := any) (fr := (j : Int)) h.lay.ok (by omega) (h.pot hM)
 have hreach : ∀ v : Int, 0 <= v -> v <= d.out -> (rf.m.at v).isSome = true := λ v h0 h1 => by
  obtain ⟨a, q, w⟩ := h.lay.walk (fr := (j : Int)) (by omega) ⟨h0, h1⟩
  exact hal.2 v a q w
 have hc := TU (m := rf.m) (fr := (j : Int)) (f := λ i => EU i d.all) (λ i he => by
  have : j = i := by omega
  subst this; omega) (AY d) 0 ((j : Int), ⟨0, 0, ⟨0, false⟩⟩) (λ i hi => by rw [ho2 i (by omega), Nat.zero_add]) (.inl rfl) (.inl ⟨v2, by omega, by rw [ho2 v2 hv2]; exact hp2, by
   rw [Nat.zero_add]; exact hreach v2 (by omega) (by omega)⟩)
 obtain ⟨t, ht, htn, hts⟩ := hc
 have htn : EU t d.all < 0 := htn
 rw [ht] at hts
 have ht10 : t < 10 := by
  refine Classical.byContradiction λ hh => ?_
  have := h.lay.zero (v := t) (by omega)
  omega
 have hto : t <= d.out := Classical.byContradiction λ hh => by have := h.lay.zero (v := t) (by omega); omega
 obtain ⟨f, hf⟩ := Option.isSome_iff_exists.1 hts
 obtain ⟨_, q, _, hlq⟩ := hal.1 _ _ hf
 have hq2 := hlq.many_lt h.lay.ok (by omega)
 have hfuel := ZF
 obtain ⟨l, hl1, hl2, hl3, hl4⟩ := Ap hal fuel (t : Int) f.cost q hlq (by omega)
 have hP1 := OY d (v := j) (by omega)
 have hE : ∀ v : Nat, v < 10 -> EU v d.all <= CW d := λ v hv => OY d hv
 have hlow : -230000000000 <= EU t d.all := by
  have hs := h.lay.sum
  have h1 := NE (f := λ v : Nat => EU v d.all) (g := λ v : Nat => CW d + if v = t then EU t d.all - CW d else 0) (n := 10) λ i hi => by
   by_cases he : i = t
   ·subst he; rw [if_pos rfl]; omega
   ·rw [if_neg he]; have := hE i hi; omega
  rw [hs, GL (λ _ => CW d) (λ v : Nat => if v = t then EU t d.all - CW d else 0), FR, if_pos ht10] at h1
  have h2 : BQ 10 (λ _ => CW d) = 10 * CW d := by simp only [BQ]; omega
  have h3 : CW d <= M := by
   have := h.now 0
   by_cases h0 : 0 < d.all.length
   ·have := h.now 0 h0; omega
   ·have hz : d.all = [] := List.eq_nil_of_length_eq_zero (by omega)
    rw [hz] at hjp; simp [EU] at hjp
  omega
 have hwr : wr (-(gD (AY d) t)) = - EU t d.all := by rw [ho2 t ht10]; exact DR (by omega) (by omega)
 have hlr : ∀ s ∈ l, 1 <= (AV (BW d.all s.way) s.back).2 := λ s hs => by
  have := (hl3 s hs).1.1.1
  exact ZG (h.small hM (i := s.way.toNat) (by omega)) (by omega) _
 obtain ⟨Q, hQ⟩ : ∃ Q, Q = CY d (min (EU j d.all) (- EU t d.all)) l := ⟨_, rfl⟩
 have hQ1 : 1 <= Q := by rw [hQ]; exact LV l _ (by omega) hlr
 obtain ⟨hQ2, hQ3⟩ := NG (d := d) l (min (EU j d.all) (- EU t d.all))
 rw [<- hQ] at hQ2 hQ3
 have hrange : ∀ s ∈ l, 0 <= s.way /\ s.way < d.all.length := λ s hs => (hl3 s hs).1.1.1
 have hll : l.length <= 1000 := by
  have := Dx d.all.length (l.map λ s => s.way) hl4 (λ x hx => by obtain ⟨s, hs, rfl⟩ := List.mem_map.1 hx; exact hrange s hs)
  rw [List.length_map] at this
  omega
 have hallb : (l.all λ s => decide (0 <= s.way) && decide (s.way < d.all.length)) = true := by
  rw [List.all_eq_true]
  intro s hs
  have := hrange s hs
  simp [this]
 have hstep : GN d (AY d) = some ⟨AI Q d.all l, d.out, d.nR⟩ := by
  unfold GN
  simp only [hfp, hrf]
  rw [if_neg (by omega)]
  simp only [ht, Int.toNat_natCast, hwr, ho2 j (by omega)]
  unfold JT
  rw [hl1]
  simp only [hallb, hll, decide_true, Bool.and_self, if_true, <- hQ]
 have hM0 : CW d <= M := by
  have hpos : 0 < d.all.length := by
   refine Classical.byContradiction λ h0 => ?_
   have hz : d.all = [] := List.eq_nil_of_length_eq_zero (by omega)
   rw [hz] at hjp; simp [EU] at hjp
  have := h.now 0 hpos
  omega
 have hQB : 0 <= Q /\ Q <= 3000000000 := by omega
 have hps := NM (q := Q) (B := 3000000000) (by omega) hQB l d.all hl4 hrange (λ i hi => by have := hbd i hi; omega) (λ i hi => by
  obtain ⟨s, hs, he⟩ := hi
  exact hbd i (by have := hrange s hs; omega))
 have hal' : Alike d ⟨AI Q d.all l, d.out, d.nR⟩ := ⟨rfl, rfl, BJ _ _ _, λ i hi => by
  show (gD (AI Q d.all l) i).fr = _ /\ (gD (AI Q d.all l) i).to = _ /\ (gD (AI Q d.all l) i).sp = _
  rcases hps i hi with ⟨s, _, _, e⟩ | ⟨_, e⟩ <;> rw [e]
  ·exact ⟨rfl, rfl, rfl⟩
  ·exact ⟨rfl, rfl, rfl⟩⟩
 have hexc : ∀ v : Nat, EU v (AI Q d.all l) = EU v d.all + ind v t Q - ind v j Q := λ v =>
  PT (c := any) (by omega) hQB v l t d.all hl2 rfl hl4 (λ i hi => ⟨⟨rfl, rfl⟩, by have := hbd i hi; omega⟩) (λ i hi => by
   obtain ⟨s, hs, he⟩ := hi
   exact hbd i (by have := hrange s hs; omega))
 have htj : t ≠ j := λ he => by subst he; omega
 have hoP : CW ⟨AI Q d.all l, d.out, d.nR⟩ = CW d - Q := by
  unfold CW
  rw [BL (g := λ v : Nat => max 0 (EU v d.all) + if v = j then -Q else 0) λ v hv => ?_, GL, FR, if_pos (by omega)]
  ·omega
  ·show max 0 (EU v (AI Q d.all l)) = _
   rw [hexc v]
   unfold ind
   by_cases h1 : v = j
   ·subst h1
    rw [if_neg (by omega), if_pos rfl, if_pos rfl]; omega
   ·by_cases h2 : v = t
    ·subst h2
     rw [if_pos rfl, if_neg (by omega), if_neg h1]; omega
    ·rw [if_neg (by omega), if_neg (by omega), if_neg h1]; omega
 refine ⟨_, λ v => (rf.m.far v).cost, hstep, ⟨h.lay.alike hal', ?_, ?_, ?_⟩, by omega, hal'⟩
 ·intro i hi
  rw [hal'.len] at hi
  rw [(hal'.way i hi).2.2]
  exact h.sp i hi
 ·intro i hi
  rw [hal'.len] at hi
  have := h.now i hi
  rw [hoP]
  show _ <= (gD (AI Q d.all l) i).now /\ _
  rcases hps i hi with ⟨s, _, _, e⟩ | ⟨_, e⟩
  ·rw [e]
   unfold FS
   cases s.back <;> simp only [Bool.false_eq_true, if_true, if_false] <;> omega
  ·rw [e]; omega
 ·intro i hi
  rw [hal'.len] at hi
  have hen := h.lay.ends i hi
  have lab : ∀ v : Int, 0 <= v -> v <= d.out -> ∃ k : Nat, Least d any j v (rf.m.far v).cost k := λ v h0 h1 => by
   obtain ⟨g, hg⟩ := Option.isSome_iff_exists.1 (hreach v h0 h1)
   obtain ⟨_, k, _, hk⟩ := hal.1 v g hg
   have : rf.m.far v = g := by simp [Map.far, hg]
   rw [this]; exact ⟨k, hk⟩
  rw [(hal'.way i hi).1, (hal'.way i hi).2.1]
  show Iw (gD (AI Q d.all l) i) _
  have hsm := h.small hM hi
  rcases hps i hi with ⟨s, hs, hsi, e⟩ | ⟨hno, e⟩
  ·rw [e]
   obtain ⟨⟨hcnt, a, m, hla, hlb⟩, _⟩ := hl3 s hs
   have hsn : s.way.toNat = i := by omega
   obtain ⟨k1, hk1⟩ := lab (FM d s) (by have := Ki h.lay.ok hcnt.1; omega) (by rw [PR, hsn]; split <;> omega)
   obtain ⟨k2, hk2⟩ := lab (DB d s) (by have := RY h.lay.ok hcnt.1; omega) (by rw [UJ, hsn]; split <;> omega)
   have e1 := (hk1.uniq hla).1
   have e2 := (hk2.uniq hlb).1
   rw [PR, hsn] at e1
   rw [UJ, hsn] at e2
   have hr : CL d s = (AV (gD d.all i) s.back).1 := by unfold CL BW; rw [hsn]
   have := Mj hsm (by omega) (q := Q) (b := s.back) (by omega) (by have := hQ3 s hs; unfold BW at this; rw [hsn] at this; exact this)
   have e3 : (if s.back then -(AV (gD d.all i) s.back).1 else (AV (gD d.all i) s.back).1) = (rf.m.far (gD d.all i).to).cost - (rf.m.far (gD d.all i).fr).cost := by
    cases hb : s.back <;> rw [hb] at e1 e2 hr <;> simp only [Bool.false_eq_true, if_true, if_false] at e1 e2 ⊢ <;> omega
   rw [<- e3]; exact this
  ·rw [e]
   refine (Gm hsm (by omega) _).2 ?_
   obtain ⟨k1, hk1⟩ := lab (gD d.all i).fr hen.1.1 hen.1.2
   obtain ⟨k2, hk2⟩ := lab (gD d.all i).to hen.2.1 hen.2.2
   have f1 := Walk.step (d := d) (c := any) (fr := (j : Int)) ⟨(i : Int), false⟩ (by rw [PR]; exact hk1.1) ⟨by constructor <;> simp only <;> omega, rfl⟩
   have f2 := Walk.step (d := d) (c := any) (fr := (j : Int)) ⟨(i : Int), true⟩ (by rw [PR]; exact hk2.1) ⟨by constructor <;> simp only <;> omega, rfl⟩
   have g1 := hk2.2 _ _ f1
   have g2 := hk1.2 _ _ f2
   have p1 : CL d ⟨(i : Int), false⟩ = (AV (gD d.all i) false).1 := rfl
   have p2 : CL d ⟨(i : Int), true⟩ = (AV (gD d.all i) true).1 := rfl
   rw [p1] at g1
   rw [p2] at g2
   omega
end Go.Bal
