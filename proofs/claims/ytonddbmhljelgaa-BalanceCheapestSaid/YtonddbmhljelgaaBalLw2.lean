/- Nets that are spoilt by numbers, and truths that are changed. -/
import Derived.Test.YtonddbmhljelgaaBalAr
import Derived.Test.YtonddbmhljelgaaBalMk3
set_option linter.unusedVariables false
set_option linter.unusedSimpArgs false
namespace Go.Bal
open Go Go.Sym Go.Proofs
theorem spo_each : ∀ (l : List Reach) (s : Stm) (K : Int), StmB K s → K + 10 * l.length ≤ 100000000000 → ∀ i, i < l.length → ((gD (spoRs s l).2 i).fr = (gD l i).fr ∧ (gD (spoRs s l).2 i).to = (gD l i).to) ∧ ((gD (spoRs s l).2 i).sp = (gD l i).sp ∨ (-50 ≤ (gD (spoRs s l).2 i).sp.lo ∧ (gD (spoRs s l).2 i).sp.lo ≤ (gD (spoRs s l).2 i).sp.hi ∧ (gD (spoRs s l).2 i).sp.hi ≤ 158))
  | [], _, _, _, _, i, hi => by simp at hi
  | r :: l, s, K, hs, hK, 0, _ => by
    rw [List.length_cons] at hK
    have a := hs.next (by omega) 4
    have b : StmB _ (spoS s) := a.next (by omega) (witN (-50) 150)
    have v1 : -50 ≤ spoLo s ∧ spoLo s ≤ 150 := witV_in a (by omega) (by omega) (by omega) (by omega)
    have v2 := nextV_in b (by omega) 9
    have v3 := v2.2 (by omega)
    have e : wr (spoLo s + nextV (spoS s) 9) = spoLo s + nextV (spoS s) 9 := w64 (by omega) (by omega)
    have e0 : gD (spoRs s (r :: l)).2 0 = (spoR s r).2 := rfl
    have e1 : gD (r :: l) 0 = r := rfl
    rw [e0, e1]
    unfold spoR
    split
    · simp only [e]; exact ⟨⟨trivial, trivial⟩, .inr ⟨by omega, by omega, by omega⟩⟩
    · exact ⟨⟨rfl, rfl⟩, .inl rfl⟩
  | r :: l, s, K, hs, hK, i + 1, hi => by
    rw [List.length_cons] at hK
    have := spo_each l (spoR s r).1 (K + 3) (spoR_ok hs (by omega) r) (by omega) i (by simpa using hi)
    exact this
variable {N : NetL} {T : TruthL} {most : Int}
structure Spoilt (M N : NetL) : Prop where
  good : Good N
  g : N.g = M.g
  len : N.r.length = M.r.length
  ends : ∀ i, i < M.r.length → (gD N.r i).fr = (gD M.r i).fr ∧ (gD N.r i).to = (gD M.r i).to
theorem spo_ok {s : Stm} {K : Int} (hs : StmB K s) (hK : K ≤ 1000000000) (hm : Made N T most) (h8 : most ≤ 8) : Spoilt N (spoN ⟨s, N⟩) := by
  have hg := hm.good h8
  have hl : (spoN ⟨s, N⟩).r.length = N.r.length := spoRs_len _ _
  have h11 := hm.r11
  have ea := spo_each N.r s K hs (by omega)
  refine ⟨⟨hg.g1, hg.g8, by omega, hg.g, fun i hi => ?_⟩, rfl, hl, fun i hi => (ea i hi).1⟩
  obtain ⟨⟨e1, e2⟩, e3⟩ := ea i (by omega)
  obtain ⟨a, b, c, d⟩ := hg.r i (by omega)
  have f1 : (gD (spoN ⟨s, N⟩).r i).fr = (gD N.r i).fr := e1
  have f2 : (gD (spoN ⟨s, N⟩).r i).to = (gD N.r i).to := e2
  rw [f1, f2]
  refine ⟨?_, b, c, d⟩
  rcases e3 with e | e
  · have f3 : (gD (spoN ⟨s, N⟩).r i).sp = (gD N.r i).sp := e
    rw [f3]; exact a
  · have f3 : -50 ≤ (gD (spoN ⟨s, N⟩).r i).sp.lo ∧ (gD (spoN ⟨s, N⟩).r i).sp.lo ≤ (gD (spoN ⟨s, N⟩).r i).sp.hi ∧ (gD (spoN ⟨s, N⟩).r i).sp.hi ≤ 158 := e
    omega
theorem bal_ends {M N : NetL} (hl : N.r.length = M.r.length) (he : ∀ i, i < M.r.length → (gD N.r i).fr = (gD M.r i).fr ∧ (gD N.r i).to = (gD M.r i).to) (T : TruthL) (s : Nat) : balN N T s = balN M T s := by
  unfold balN
  rw [hl]
  congr 1
  refine sumN_congr fun i hi => ?_
  obtain ⟨a, b⟩ := he i hi
  unfold bS; rw [a, b]
structure BalT (N : NetL) (T : TruthL) (B : Int) : Prop where
  f : T.f.length = N.r.length
  t : T.t.length = N.g.length
  fb : ∀ i, i < T.f.length → -B ≤ gD T.f i ∧ gD T.f i ≤ B
  tb : ∀ i, i < T.t.length → -B ≤ gD T.t i ∧ gD T.t i ≤ B
  bal : ∀ s, s < N.g.length → balN N T s = 0
theorem BalT.ask {B : Int} (h : BalT N T B) (hc : checkL N = 0) (hB : B ≤ 100000000) : askM N T = 0 ∧ unbM N T = [] := by
  have hT : SmallT T := ⟨fun i hi => by have := h.fb i hi; omega, fun i hi => by have := h.tb i hi; omega⟩
  exact ⟨askM_of hc h.f h.t hT, (unb_balN (good_of hc).w h.f h.t hT).2 h.bal⟩
theorem BalT.vals {B : Int} (h : BalT N T B) (hc : checkL N = 0) (hB : B ≤ 100000000) : costE N T = 0 ∧ costV N T = costM N T ∧ setC N ≤ costM N T ∧ sizeT T := by
  obtain ⟨h1, h2⟩ := h.ask hc hB
  have e : costE N T = 0 := by unfold costE; rw [if_pos h1, h2]; rfl
  exact ⟨e, by unfold costV; rw [if_pos e], set_least h1 h2, size_T h1⟩
theorem set_balT (hc : checkL N = 0) : BalT N (setT N) 46000000 := by
  obtain ⟨a, b, c⟩ := setT_ok hc
  obtain ⟨_, l1, l2, hT⟩ := askM_to a
  have hs := (settled_ok hc).1
  obtain ⟨e1, e2, e3⟩ := set_len hs
  refine ⟨l1, l2, fun i hi => ?_, fun i hi => ?_, (unb_balN (good_of hc).w l1 l2 hT).1 b⟩
  · unfold setT
    rw [truth_gf (by omega)]; exact set_small hc (by omega)
  · unfold setT
    rw [truth_gt (by omega)]; exact set_small hc (by omega)
def roundT (N : NetL) (T : TruthL) (i : Nat) (d : Int) : TruthL := ⟨T.f.modify i fun x => wr (x + d), (T.t.modify (gD N.r i).fr.toNat fun x => wr (x + d)).modify (gD N.r i).to.toNat fun x => wr (x - d)⟩
theorem sumN_one_change {f g : Nat → Int} {n k : Nat} {q : Int} (hk : k < n) (h : ∀ i, i < n → g i = f i + if i = k then q else 0) : sumN n g = sumN n f + q := by
  rw [sumN_congr h, sumN_add, sumN_one, if_pos hk]
theorem round_ok {B : Int} (hc : checkL N = 0) (h : BalT N T B) (hB : 0 ≤ B ∧ B ≤ 90000000) {i : Nat} (hi : i < N.r.length) {d : Int} (hd : -30 ≤ d ∧ d ≤ 30) : BalT N (roundT N T i d) (B + 60) := by
  have hg := good_of hc
  obtain ⟨_, hf, ht, hne⟩ := hg.r i hi
  have l1 := h.f
  have l2 := h.t
  have ef : ∀ j, gD (roundT N T i d).f j = gD T.f j + if j = i then d else 0 := fun j => by
    show gD (T.f.modify i _) j = _
    rw [gD_modify (by omega)]
    by_cases he : j = i
    · subst he; rw [if_pos rfl, if_pos rfl]
      have := h.fb j (by omega)
      exact w64 (by omega) (by omega)
    · rw [if_neg he, if_neg he]; omega
  have et : ∀ j, gD (roundT N T i d).t j = gD T.t j + (if j = (gD N.r i).fr.toNat then d else 0) - (if j = (gD N.r i).to.toNat then d else 0) := fun j => by
    show gD ((T.t.modify _ _).modify _ _) j = _
    rw [gD_modify (by rw [List.length_modify]; omega), gD_modify (by omega), gD_modify (by omega)]
    have b1 := h.tb (gD N.r i).fr.toNat (by omega)
    have b2 := h.tb (gD N.r i).to.toNat (by omega)
    have w1 : wr (gD T.t (gD N.r i).fr.toNat + d) = gD T.t (gD N.r i).fr.toNat + d := w64 (by omega) (by omega)
    have w2 : wr (gD T.t (gD N.r i).to.toNat - d) = gD T.t (gD N.r i).to.toNat - d := w64 (by omega) (by omega)
    by_cases c1 : j = (gD N.r i).to.toNat
    · have c2 : ¬ j = (gD N.r i).fr.toNat := by omega
      rw [if_pos c1, if_neg c2, if_pos c1, if_neg (by omega), w2, ← c1]; omega
    · rw [if_neg c1, if_neg c1]
      by_cases c2 : j = (gD N.r i).fr.toNat
      · rw [if_pos c2, if_pos c2, w1, ← c2]; omega
      · rw [if_neg c2, if_neg c2]; omega
  refine ⟨by show (T.f.modify i _).length = _; rw [List.length_modify]; exact l1, by show ((T.t.modify _ _).modify _ _).length = _; rw [List.length_modify, List.length_modify]; exact l2, fun j hj => ?_, fun j hj => ?_, fun s hs => ?_⟩
  · have hj : j < T.f.length := by simpa [roundT] using hj
    rw [ef]; have := h.fb j hj; split <;> omega
  · have hj : j < T.t.length := by simpa [roundT] using hj
    rw [et]; have := h.tb j hj; split <;> split <;> omega
  · have hb := h.bal s hs
    unfold balN at hb ⊢
    rw [et, sumN_one_change (f := fun j => bS s (gD N.r j) (gD T.f j)) (k := i) (q := bS s (gD N.r i) (gD T.f i + d) - bS s (gD N.r i) (gD T.f i)) hi fun j hj => by
      rw [ef]
      by_cases he : j = i
      · subst he; rw [if_pos rfl, if_pos rfl]; omega
      · rw [if_neg he, if_neg he, Int.add_zero, Int.add_zero]]
    unfold bS at hb ⊢
    by_cases c1 : (gD N.r i).fr = (s : Int)
    · rw [if_pos c1, if_pos c1, if_pos (by omega), if_neg (by omega)]; omega
    · rw [if_neg c1, if_neg c1, if_neg (by omega)]
      by_cases c2 : (gD N.r i).to = (s : Int)
      · rw [if_pos c2, if_pos c2, if_pos (by omega)]; omega
      · rw [if_neg c2, if_neg c2, if_neg (by omega)]; omega
theorem cor_vals (hc : checkL N = 0) : corT N = setT N ∧ corC N = setC N ∧ levT N = levM N ∧ agrM N = decide (setC N = 0) ∧ (levM N).length = N.g.length ∧ (setT N).f.length = N.r.length ∧ (setT N).t.length = N.g.length := by
  have hb := set_balT hc
  refine ⟨if_pos hc, if_pos hc, if_pos hc, ?_, by simp [levM], hb.f, hb.t⟩
  unfold agrM; rw [decide_eq_true hc]; rfl
theorem prov_try (hc : checkL N = 0) (lv : List Int) {p : Int} (hp : setC N < p) : (decide (provE ⟨N, p, lv⟩ = 0) && decide (p ≤ provedM N lv)) = false := by
  by_cases hv : levOk N lv = true
  · have := proved_le_set hc hv
    rw [decide_eq_false (show ¬ p ≤ provedM N lv by omega), Bool.and_false]
  · have : provE ⟨N, p, lv⟩ = 2 := by unfold provE; simp only; rw [if_pos hc, if_neg hv]
    rw [this]; rfl
end Go.Bal
