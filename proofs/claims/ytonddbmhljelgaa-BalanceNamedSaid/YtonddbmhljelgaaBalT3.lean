/- Package balance: what is settled: what lies outside ends, and what each way bears fits heights. -/
import Derived.Test.YtonddbmhljelgaaBalT2
set_option linter.unusedVariables false
set_option linter.unusedSimpArgs false
namespace Go.Bal
open Go
variable {d : Desk} {c : Step → Bool} {fr : Int}
def sumN : Nat → (Nat → Int) → Int
  | 0, _ => 0
  | n + 1, f => sumN n f + f n
theorem sumN_add (f g : Nat → Int) : ∀ n, sumN n (fun i => f i + g i) = sumN n f + sumN n g
  | 0 => rfl
  | n + 1 => by simp only [sumN, sumN_add f g n]; omega
theorem sumN_congr {f g : Nat → Int} : ∀ {n : Nat}, (∀ i, i < n → f i = g i) → sumN n f = sumN n g
  | 0, _ => rfl
  | n + 1, h => by rw [sumN, sumN, sumN_congr (n := n) fun i hi => h i (by omega), h n (by omega)]
theorem sumN_le {f g : Nat → Int} : ∀ {n : Nat}, (∀ i, i < n → f i ≤ g i) → sumN n f ≤ sumN n g
  | 0, _ => Int.le_refl _
  | n + 1, h => by
    simp only [sumN]
    have := sumN_le fun i (hi : i < n) => h i (by omega)
    have := h n (by omega)
    omega
theorem sumN_zero : ∀ n, sumN n (fun _ => 0) = 0
  | 0 => rfl
  | n + 1 => by simp only [sumN, sumN_zero n]; rfl
theorem sumN_one (u : Nat) (q : Int) : ∀ n, sumN n (fun i => if i = u then q else 0) = if u < n then q else 0
  | 0 => by simp [sumN]
  | n + 1 => by
    simp only [sumN, sumN_one u q n]
    by_cases h1 : u < n
    · rw [if_pos h1, if_neg (by omega), if_pos (by omega)]; omega
    · by_cases h2 : n = u
      · rw [if_neg h1, if_pos h2, if_pos (by omega)]; omega
      · rw [if_neg h1, if_neg h2, if_neg (by omega)]; omega
theorem sumN_pos {f : Nat → Int} {n k : Nat} (h : ∀ i, i < n → 0 ≤ f i) (hk : k < n) : f k ≤ sumN n f := by
  have h1 : sumN n (fun i => if i = k then f k else 0) ≤ sumN n f := sumN_le fun i hi => by
    by_cases he : i = k
    · subst he; simp
    · rw [if_neg he]; exact h i hi
  rw [sumN_one, if_pos hk] at h1
  exact h1
structure Lay (d : Desk) : Prop where
  ok : d.ok
  ends : ∀ i, i < d.all.length → (0 ≤ (gD d.all i).fr ∧ (gD d.all i).fr ≤ d.out) ∧ 0 ≤ (gD d.all i).to ∧ (gD d.all i).to ≤ d.out
  gain : ∀ i, i < d.out → (gD d.all (d.nR + i)).fr = d.out ∧ (gD d.all (d.nR + i)).to = i
theorem excW_sum {w : Way} (h : (0 ≤ w.fr ∧ w.fr < 10) ∧ 0 ≤ w.to ∧ w.to < 10) : sumN 10 (fun v => excW v w) = 0 := by
  have e : ∀ v : Nat, excW v w = (if v = w.to.toNat then w.now else 0) + (if v = w.fr.toNat then -w.now else 0) := fun v => by
    unfold excW
    by_cases h1 : w.to = v <;> by_cases h2 : w.fr = v
    · rw [if_pos h1, if_pos h2, if_pos (by omega), if_pos (by omega)]; omega
    · rw [if_pos h1, if_neg h2, if_pos (by omega), if_neg (by omega)]; omega
    · rw [if_neg h1, if_pos h2, if_neg (by omega), if_pos (by omega)]; omega
    · rw [if_neg h1, if_neg h2, if_neg (by omega), if_neg (by omega)]; omega
  rw [sumN_congr fun v _ => e v, sumN_add, sumN_one, sumN_one, if_pos (by omega), if_pos (by omega)]
  omega
theorem exc_sum : ∀ {l : List Way}, (∀ w ∈ l, (0 ≤ w.fr ∧ w.fr < 10) ∧ 0 ≤ w.to ∧ w.to < 10) → sumN 10 (fun v => exc v l) = 0
  | [], _ => rfl
  | w :: l, h => by
    simp only [exc]
    rw [sumN_add (fun v => excW v w) (fun v => exc v l), excW_sum (h w (by simp)), exc_sum fun x hx => h x (by simp [hx])]
    rfl
theorem overW_spec {B : Int} (hB : 0 ≤ B ∧ B ≤ 1000000000000) : ∀ (r : List Way) (l : List Int) (K : Int), l.length = 10 → (∀ w ∈ r, ((0 ≤ w.fr ∧ w.fr < 10) ∧ 0 ≤ w.to ∧ w.to < 10) ∧ -B ≤ w.now ∧ w.now ≤ B) →
    (∀ v, v < 10 → -K ≤ gD l v ∧ gD l v ≤ K) → K + 2 * B * r.length ≤ 1000000000000000 → (overW l r).length = 10 ∧ ∀ v : Nat, v < 10 → gD (overW l r) v = gD l v + exc v r
  | [], l, K, hl, _, _, _ => ⟨hl, fun v _ => by simp [overW, exc]⟩
  | w :: r, l, K, hl, hw, hk, hK => by
    obtain ⟨⟨hf, ht⟩, hn⟩ := hw w (by simp)
    have hlen : (2 * B * ((w :: r).length : Nat) : Int) = 2 * B * r.length + 2 * B := by rw [List.length_cons, Int.natCast_add, Int.mul_add]; omega
    rw [hlen] at hK
    have hp : 0 ≤ 2 * B * (r.length : Int) := Int.mul_nonneg (by omega) (by omega)
    have e1 : ∀ v : Nat, v < 10 → gD (l.modify w.fr.toNat fun x => wr (x - w.now)) v = gD l v - (if w.fr = v then w.now else 0) := fun v hv => by
      rw [gD_modify (by omega)]
      by_cases he : v = w.fr.toNat
      · rw [if_pos he, if_pos (by omega)]
        subst he
        have := hk _ hv
        exact wr_id (by omega) (by omega)
      · rw [if_neg he, if_neg (by omega)]; omega
    have e2 : ∀ v : Nat, v < 10 → gD ((l.modify w.fr.toNat fun x => wr (x - w.now)).modify w.to.toNat fun x => wr (x + w.now)) v = gD l v + excW v w := fun v hv => by
      rw [gD_modify (by rw [List.length_modify]; omega)]
      unfold excW
      have hh := hk _ hv
      by_cases he : v = w.to.toNat
      · rw [if_pos he, if_pos (show w.to = v by omega)]
        subst he
        rw [e1 _ hv, wr_id (by split <;> omega) (by split <;> omega)]
        omega
      · rw [if_neg he, if_neg (show ¬ w.to = v by omega), e1 v hv]
        omega
    simp only [overW, exc]
    obtain ⟨h1, h2⟩ := overW_spec hB r ((l.modify w.fr.toNat fun x => wr (x - w.now)).modify w.to.toNat fun x => wr (x + w.now)) (K + 2 * B) (by rw [List.length_modify, List.length_modify]; exact hl) (fun x hx => hw x (by simp [hx])) (fun v hv => by
      rw [e2 v hv]
      have := hk v hv
      unfold excW
      split <;> split <;> omega) (by omega)
    exact ⟨h1, fun v hv => by rw [h2 v hv, e2 v hv]; omega⟩
theorem overM_spec {B : Int} (hB : 0 ≤ B ∧ B ≤ 3000000000) (hd : d.ok) (hs : ∀ i, i < d.all.length → -B ≤ (gD d.all i).now ∧ (gD d.all i).now ≤ B) : (overM d).length = 10 ∧ ∀ v : Nat, v < 10 → gD (overM d) v = exc v d.all := by
  have hmem : ∀ w ∈ d.all, ((0 ≤ w.fr ∧ w.fr < 10) ∧ 0 ≤ w.to ∧ w.to < 10) ∧ -B ≤ w.now ∧ w.now ≤ B := fun w hw => by
    obtain ⟨i, hi, rfl⟩ := List.getElem_of_mem hw
    have e : gD d.all i = d.all[i] := by simp [gD, hi]
    have h1 := hd.ends i hi
    have h2 := hs i hi
    have := hd.out
    rw [e] at h1 h2
    omega
  have hl := hd.len
  obtain ⟨h1, h2⟩ := overW_spec (B := B) ⟨hB.1, by omega⟩ d.all (List.replicate 10 0) 0 (by simp) hmem (fun v hv => by rw [gD_replicate, if_pos hv]; omega) (by
    have : (d.all.length : Int) ≤ 23 := by omega
    have : 2 * B * (d.all.length : Int) ≤ 2 * B * 23 := Int.mul_le_mul_of_nonneg_left this (by omega)
    omega)
  exact ⟨h1, fun v hv => by rw [show overM d = overW (List.replicate 10 0) d.all from rfl, h2 v hv, gD_replicate, if_pos hv]; omega⟩
theorem idx_some {p : Nat → Bool} : ∀ {n k i : Nat}, k ≤ i → i < k + n → p i = true → ∃ j : Nat, idx p n k = j ∧ k ≤ j ∧ j < k + n ∧ p j = true
  | 0, k, i, h1, h2, _ => by omega
  | n + 1, k, i, h1, h2, h3 => by
    simp only [idx]
    by_cases h : p k = true
    · rw [if_pos h]; exact ⟨k, rfl, Nat.le_refl _, by omega, h⟩
    · rw [if_neg h]
      have hne : k ≠ i := fun he => h (he ▸ h3)
      obtain ⟨j, h4, h5, h6, h7⟩ := idx_some (p := p) (n := n) (k := k + 1) (i := i) (by omega) (by omega) h3
      exact ⟨j, h4, by omega, by omega, h7⟩
def Cand (m : Map) (over : Nat → Int) (v : Int) : Prop := ∃ i : Nat, v = i ∧ over i < 0 ∧ (m.at v).isSome = true
theorem nearest_spec {m : Map} {fr : Int} {f : Nat → Int} (hfr : ∀ i : Nat, fr = i → ¬ f i < 0) : ∀ (l : List Int) (p : Nat) (st : Int × Far), (∀ i, i < l.length → gD l i = f (p + i)) → (st.1 = fr ∨ Cand m f st.1) →
    (∃ i, i < l.length ∧ gD l i < 0 ∧ (m.at (p + i : Nat)).isSome = true) ∨ Cand m f st.1 → Cand m f (nearest m fr l p st).1
  | [], p, st, _, h1, h2 => by
    rcases h2 with ⟨i, hi, _⟩ | h2
    · simp at hi
    · exact h2
  | x :: l, p, st, hl, h1, h2 => by
    have hx : x = f p := hl 0 (by simp)
    have hl' : ∀ i, i < l.length → gD l i = f (p + 1 + i) := fun i hi => by
      have := hl (i + 1) (by simpa using hi)
      rw [show p + 1 + i = p + (i + 1) by omega, ← this]; rfl
    simp only [nearest]
    have tail : ∀ st', (st'.1 = fr ∨ Cand m f st'.1) → ((∃ i, i < l.length ∧ gD l i < 0 ∧ (m.at ((p + 1) + i : Nat)).isSome = true) ∨ Cand m f st'.1) → Cand m f (nearest m fr l (p + 1) st').1 := fun st' a b => nearest_spec hfr l (p + 1) st' hl' a b
    have shift : (∃ i, i < (x :: l).length ∧ gD (x :: l) i < 0 ∧ (m.at (p + i : Nat)).isSome = true) → (x < 0 ∧ (m.at (p : Nat)).isSome = true) ∨ ∃ i, i < l.length ∧ gD l i < 0 ∧ (m.at ((p + 1) + i : Nat)).isSome = true := by
      rintro ⟨i, hi, h3, h4⟩
      match i with
      | 0 => exact .inl ⟨h3, h4⟩
      | i + 1 => exact .inr ⟨i, by simpa using hi, h3, by rw [show p + 1 + i = p + (i + 1) by omega]; exact h4⟩
    cases hm : m.at (p : Nat) with
    | none =>
      refine tail st h1 (h2.imp (fun h => ?_) id)
      rcases shift h with ⟨_, h⟩ | h
      · rw [hm] at h; cases h
      · exact h
    | some g =>
      simp only
      by_cases hx0 : 0 ≤ x
      · rw [if_pos hx0]
        refine tail st h1 (h2.imp (fun h => ?_) id)
        rcases shift h with ⟨h, _⟩ | h
        · omega
        · exact h
      · rw [if_neg hx0]
        have hc : Cand m f (p : Int) := ⟨p, rfl, by rw [← hx]; omega, by rw [hm]; rfl⟩
        by_cases hst : (st.1 = fr || better g st.2) = true
        · rw [if_pos (by simpa using hst)]
          exact tail _ (.inr hc) (.inr hc)
        · rw [if_neg (by simpa using hst)]
          have hne : st.1 ≠ fr := fun he => hst (by simp [he])
          have hcs := h1.resolve_left hne
          exact tail st h1 (.inr hcs)
end Go.Bal
