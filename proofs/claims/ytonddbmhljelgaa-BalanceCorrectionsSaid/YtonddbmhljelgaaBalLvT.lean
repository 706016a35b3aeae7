/- The reference: which levels there are, and what they prove, told plainly. -/
import Derived.Test.YtonddbmhljelgaaBalLv4
import Derived.Test.YtonddbmhljelgaaBalT22
set_option linter.unusedVariables false
set_option linter.unusedSimpArgs false
namespace Go.Bal
open Go
def baseL (a : LvA) (j : Nat) : Int := if gD a.grp j = true then a.gate else 0
structure LvOk (a : LvA) (s : Nat) (lv : List Int) : Prop where
  len : lv.length = s
  at' : ∀ j, j < s → -1 ≤ gD lv j - baseL a j ∧ gD lv j - baseL a j ≤ 1
  rise : ∀ i, i < a.N.r.length → (gD a.N.r i).fr < s → (gD a.N.r i).to < s → -1 ≤ gD lv (gD a.N.r i).to.toNat - gD lv (gD a.N.r i).fr.toNat ∧ gD lv (gD a.N.r i).to.toNat - gD lv (gD a.N.r i).fr.toNat ≤ 1
theorem lvx_eq {a : LvA} (hg : -1 ≤ a.gate ∧ a.gate ≤ 1) (s : Nat) {d : Nat} (hd : d < 3) : lvx a s d = baseL a s + ((d : Int) - 1) := by
  unfold lvx baseL
  cases gD a.grp s with
  | true =>
    simp only [cond_true, if_true]
    exact w64 (by omega) (by omega)
  | false => simp
theorem base_bd {a : LvA} (hg : -1 ≤ a.gate ∧ a.gate ≤ 1) (j : Nat) : -1 ≤ baseL a j ∧ baseL a j ≤ 1 := by
  unfold baseL; split <;> omega
theorem lvFi_iff (a : LvA) (s : Nat) (lv : List Int) (x : Int) : ∀ n, lvFi a s lv x n = true ↔ ∀ i, i < n → lvB s lv x (gD a.N.r i) = true
  | 0 => by simp [lvFi]
  | n + 1 => by
    simp only [lvFi, Bool.and_eq_true, lvFi_iff a s lv x n]
    constructor
    · rintro ⟨h1, h2⟩ i hi
      by_cases he : i = n
      · subst he; exact h2
      · exact h1 i (by omega)
    · intro h
      exact ⟨fun i hi => h i (by omega), h n (by omega)⟩
theorem lvD_iff {a : LvA} {s : Nat} {lv l : List Int} : ∀ {n : Nat}, l ∈ lvD a s lv n ↔ ∃ d, d < n ∧ lvFi a s lv (lvx a s d) a.N.r.length = true ∧ l = lv ++ [lvx a s d]
  | 0 => by simp [lvD]
  | n + 1 => by
    simp only [lvD, List.mem_append, lvD_iff (n := n)]
    constructor
    · rintro (⟨d, h1, h2⟩ | h)
      · exact ⟨d, by omega, h2⟩
      · unfold lvAdd at h
        split at h
        · rename_i hf
          exact ⟨n, by omega, hf, by simpa using h⟩
        · cases h
    · rintro ⟨d, h1, h2, h3⟩
      by_cases he : d = n
      · subst he
        right
        unfold lvAdd
        rw [if_pos h2, h3]; simp
      · exact .inl ⟨d, by omega, h2, h3⟩
theorem lvK_iff {a : LvA} {s : Nat} {all : List (List Int)} {l : List Int} : ∀ {n : Nat}, l ∈ lvK a s all n ↔ ∃ k, k < n ∧ l ∈ lvD a s (gD all k) 3
  | 0 => by simp [lvK]
  | n + 1 => by
    simp only [lvK, List.mem_append, lvK_iff (n := n)]
    constructor
    · rintro (⟨k, h1, h2⟩ | h)
      · exact ⟨k, by omega, h2⟩
      · exact ⟨n, by omega, h⟩
    · rintro ⟨k, h1, h2⟩
      by_cases he : k = n
      · subst he; exact .inr h2
      · exact .inl ⟨k, by omega, h2⟩
theorem mem_gDL {α : Type} [Inhabited α] {l : List α} {w : α} (h : w ∈ l) : ∃ i, i < l.length ∧ gD l i = w := by
  obtain ⟨i, hi, he⟩ := List.getElem_of_mem h
  exact ⟨i, hi, by rw [← he]; simp [gD, List.getElem?_eq_getElem hi]⟩
theorem lvAll_step {a : LvA} {s : Nat} {l : List Int} : l ∈ lvAll a (s + 1) ↔ ∃ lv, lv ∈ lvAll a s ∧ ∃ d, d < 3 ∧ lvFi a s lv (lvx a s d) a.N.r.length = true ∧ l = lv ++ [lvx a s d] := by
  simp only [lvAll, lvK_iff, lvD_iff]
  constructor
  · rintro ⟨k, hk, h⟩
    exact ⟨_, gD_mem hk, h⟩
  · rintro ⟨lv, hm, h⟩
    obtain ⟨k, hk, rfl⟩ := mem_gDL hm
    exact ⟨k, hk, h⟩
theorem lvB_iff {s : Nat} {lv : List Int} {x : Int} {r : Reach} (hne : r.fr ≠ r.to) (h0 : 0 ≤ r.fr ∧ 0 ≤ r.to) (hx : -3 ≤ x ∧ x ≤ 3) (hb : ∀ j : Nat, j < s → -3 ≤ gD lv j ∧ gD lv j ≤ 3) : lvB s lv x r = true ↔ (r.fr = s → r.to < s → -1 ≤ gD lv r.to.toNat - x ∧ gD lv r.to.toNat - x ≤ 1) ∧ (r.to = s → r.fr < s → -1 ≤ x - gD lv r.fr.toNat ∧ x - gD lv r.fr.toNat ≤ 1) := by
  unfold lvB
  by_cases h : r.fr > r.to
  · simp only [decide_eq_true h, cond_true, Bool.or_eq_true, bne_iff_ne, ne_eq]
    by_cases hs : r.fr = (s : Int)
    · have b := hb r.to.toNat (by omega)
      have ew : wr (x - gD lv r.to.toNat) = x - gD lv r.to.toNat := w64 (by omega) (by omega)
      rw [ew, inM_iff]
      constructor
      · rintro (h1 | h1)
        · exact absurd hs h1
        · exact ⟨fun _ _ => by omega, fun _ _ => by omega⟩
      · rintro ⟨h1, _⟩
        have := h1 hs (by omega)
        right; omega
    · exact ⟨fun _ => ⟨fun h1 => absurd h1 hs, fun _ _ => by omega⟩, fun _ => .inl hs⟩
  · simp only [decide_eq_false h, cond_false, Bool.or_eq_true, bne_iff_ne, ne_eq]
    by_cases hs : r.to = (s : Int)
    · have b := hb r.fr.toNat (by omega)
      have ew : wr (x - gD lv r.fr.toNat) = x - gD lv r.fr.toNat := w64 (by omega) (by omega)
      rw [ew, inM_iff]
      constructor
      · rintro (h1 | h1)
        · exact absurd hs h1
        · exact ⟨fun _ _ => by omega, fun _ _ => by omega⟩
      · rintro ⟨_, h1⟩
        have := h1 hs (by omega)
        right; omega
    · exact ⟨fun _ => ⟨fun _ _ => by omega, fun h1 => absurd h1 hs⟩, fun _ => .inl hs⟩
theorem lvAll_iff {a : LvA} (hN : Good a.N) (hg : -1 ≤ a.gate ∧ a.gate ≤ 1) : ∀ (s : Nat) (l : List Int), l ∈ lvAll a s ↔ LvOk a s l
  | 0, l => by
    simp only [lvAll, List.mem_singleton]
    constructor
    · rintro rfl
      refine ⟨rfl, fun j hj => by omega, fun i hi h1 _ => ?_⟩
      obtain ⟨_, b1, _⟩ := hN.r i hi
      omega
    · intro h
      have := h.len
      exact List.length_eq_zero_iff.1 this
  | s + 1, l => by
    rw [lvAll_step]
    have B : ∀ lv, LvOk a s lv → ∀ j : Nat, j < s → -3 ≤ gD lv j ∧ gD lv j ≤ 3 := fun lv h j hj => by
      have := h.at' j hj; have := base_bd hg j; omega
    constructor
    · rintro ⟨lv, hm, d, hd, hf, rfl⟩
      have h := (lvAll_iff hN hg s lv).1 hm
      have hl := h.len
      have ex := lvx_eq hg s hd
      have hb := base_bd hg s
      rw [lvFi_iff] at hf
      have get : ∀ j : Nat, gD (lv ++ [lvx a s d]) j = if j < s then gD lv j else gD [lvx a s d] (j - s) := fun j => by rw [gD_append, hl]
      have gs : gD (lv ++ [lvx a s d]) s = lvx a s d := by rw [get, if_neg (by omega), Nat.sub_self]; rfl
      refine ⟨by simp [hl], fun j hj => ?_, fun i hi h1 h2 => ?_⟩
      · by_cases hj' : j < s
        · rw [get, if_pos hj']; exact h.at' j hj'
        · rw [show j = s by omega, gs, ex]; omega
      · obtain ⟨_, b1, b2, b3⟩ := hN.r i hi
        obtain ⟨c1, c2⟩ := (lvB_iff b3 ⟨b1.1, b2.1⟩ (by omega) (B lv h)).1 (hf i hi)
        by_cases e1 : (gD a.N.r i).fr = s
        · have := c1 e1 (by omega)
          rw [get (gD a.N.r i).to.toNat, if_pos (by omega), show (gD a.N.r i).fr.toNat = s by omega, gs]; exact this
        · by_cases e2 : (gD a.N.r i).to = s
          · have := c2 e2 (by omega)
            rw [get (gD a.N.r i).fr.toNat, if_pos (by omega), show (gD a.N.r i).to.toNat = s by omega, gs]; exact this
          · rw [get, get, if_pos (by omega), if_pos (by omega)]
            exact h.rise i hi (by omega) (by omega)
    · intro h
      have hl := h.len
      obtain ⟨lv, x, rfl⟩ : ∃ lv x, l = lv ++ [x] := by
        refine ⟨l.dropLast, l.getLast (by intro he; rw [he] at hl; simp at hl), ?_⟩
        exact (List.dropLast_concat_getLast _).symm
      have hl : lv.length = s := by simpa using hl
      have get : ∀ j : Nat, gD (lv ++ [x]) j = if j < s then gD lv j else gD [x] (j - s) := fun j => by rw [gD_append, hl]
      have gs : gD (lv ++ [x]) s = x := by rw [get, if_neg (by omega), Nat.sub_self]; rfl
      have hx := h.at' s (by omega)
      rw [gs] at hx
      have hb := base_bd hg s
      have hlv : LvOk a s lv := ⟨hl, fun j hj => by have := h.at' j (by omega); rw [get, if_pos hj] at this; exact this, fun i hi h1 h2 => by
        obtain ⟨_, b1, b2, b3⟩ := hN.r i hi
        have := h.rise i hi (by omega) (by omega)
        rw [get, get, if_pos (by omega), if_pos (by omega)] at this; exact this⟩
      have hd : (x - baseL a s + 1).toNat < 3 := by omega
      have ex : lvx a s (x - baseL a s + 1).toNat = x := by rw [lvx_eq hg s hd]; omega
      refine ⟨lv, (lvAll_iff hN hg s lv).2 hlv, (x - baseL a s + 1).toNat, hd, ?_, by rw [ex]⟩
      rw [ex, lvFi_iff]
      intro i hi
      obtain ⟨_, b1, b2, b3⟩ := hN.r i hi
      refine (lvB_iff b3 ⟨b1.1, b2.1⟩ (by omega) (B lv hlv)).2 ⟨fun e1 e2 => ?_, fun e1 e2 => ?_⟩
      · have := h.rise i hi (by omega) (by omega)
        rw [get (gD a.N.r i).to.toNat, if_pos (by omega), show (gD a.N.r i).fr.toNat = s by omega, gs] at this; exact this
      · have := h.rise i hi (by omega) (by omega)
        rw [get (gD a.N.r i).fr.toNat, if_pos (by omega), show (gD a.N.r i).to.toNat = s by omega, gs] at this; exact this
theorem pull_low {r : Int} {s : Span} (hs : -1000000 ≤ s.lo ∧ s.lo ≤ s.hi ∧ s.hi ≤ 1000000) : pullM r s = low (-r) s := by
  unfold pullM low
  by_cases h1 : r = 1
  · rw [if_pos h1, if_neg (by omega), if_pos (by omega)]
  · rw [if_neg h1]
    by_cases h2 : r = -1
    · rw [if_pos h2, if_pos (by omega)]; exact w64 (by omega) (by omega)
    · rw [if_neg h2, if_neg (by omega), if_neg (by omega)]
def baseP (a : PvA) (j : Nat) : Int := if gD a.grp j = true then a.gate else 0
theorem pv_sum {a : PvA} (hg : Good a.N) (hb : ∀ j, j < a.N.g.length → -3 ≤ gD a.lv j ∧ gD a.lv j ≤ 3) (hgt : -1 ≤ a.gate ∧ a.gate ≤ 1) (hs : -1 ≤ a.skip ∧ a.skip ≤ 1000) :
    pvG a a.N.g.length = sumN a.N.r.length (fun i => if (i : Int) = a.skip then 0 else low (-(gD a.lv (gD a.N.r i).to.toNat - gD a.lv (gD a.N.r i).fr.toNat)) (gD a.N.r i).sp) + sumN a.N.g.length fun j => if (j : Int) = a.skip - 100 then 0 else low (-(gD a.lv j - baseP a j)) (gD a.N.g j) := by
  have h8 := hg.g8
  have h14 := hg.r14
  have es : wr (a.skip - 100) = a.skip - 100 := w64 (by omega) (by omega)
  have R : ∀ n, n ≤ a.N.r.length → pvR a n = sumN n (fun i => if (i : Int) = a.skip then 0 else low (-(gD a.lv (gD a.N.r i).to.toNat - gD a.lv (gD a.N.r i).fr.toNat)) (gD a.N.r i).sp) ∧ -(1000000 * (n : Int)) ≤ pvR a n ∧ pvR a n ≤ 1000000 * n := by
    intro n
    induction n with
    | zero => intro _; simp [pvR, sumN]
    | succ n ih =>
      intro hn
      obtain ⟨i1, i2, i3⟩ := ih (by omega)
      obtain ⟨b0, b1, b2, b3⟩ := hg.r n (by omega)
      have e1 := hb (gD a.N.r n).to.toNat (by omega)
      have e2 := hb (gD a.N.r n).fr.toNat (by omega)
      have ew : pvRi a n = gD a.lv (gD a.N.r n).to.toNat - gD a.lv (gD a.N.r n).fr.toNat := w64 (by omega) (by omega)
      have hsp : -1000000 ≤ (gD a.N.r n).sp.lo ∧ (gD a.N.r n).sp.lo ≤ (gD a.N.r n).sp.hi ∧ (gD a.N.r n).sp.hi ≤ 1000000 := by omega
      have hlb := low_bd (-(gD a.lv (gD a.N.r n).to.toNat - gD a.lv (gD a.N.r n).fr.toNat)) hsp
      simp only [pvR, sumN]
      rw [ew, pull_low hsp]
      by_cases hk : (n : Int) = a.skip
      · have : ((n : Int) != a.skip) = false := by simpa using hk
        rw [this, if_pos hk]; simp only [cond_false]
        exact ⟨by omega, by omega, by omega⟩
      · have : ((n : Int) != a.skip) = true := by simpa using hk
        rw [this, if_neg hk]; simp only [cond_true]
        have ew2 : wr (pvR a n + low (-(gD a.lv (gD a.N.r n).to.toNat - gD a.lv (gD a.N.r n).fr.toNat)) (gD a.N.r n).sp) = pvR a n + low (-(gD a.lv (gD a.N.r n).to.toNat - gD a.lv (gD a.N.r n).fr.toNat)) (gD a.N.r n).sp := w64 (by omega) (by omega)
        rw [ew2]
        exact ⟨by omega, by omega, by omega⟩
  obtain ⟨r1, r2, r3⟩ := R _ (Nat.le_refl _)
  have G : ∀ n, n ≤ a.N.g.length → pvG a n = pvR a a.N.r.length + sumN n (fun j => if (j : Int) = a.skip - 100 then 0 else low (-(gD a.lv j - baseP a j)) (gD a.N.g j)) ∧ -(1000000 * (n : Int)) - 14000000 ≤ pvG a n ∧ pvG a n ≤ 1000000 * n + 14000000 := by
    intro n
    induction n with
    | zero =>
      intro _
      simp only [pvG, sumN]
      omega
    | succ n ih =>
      intro hn
      obtain ⟨i1, i2, i3⟩ := ih (by omega)
      have b0 := hg.g n (by omega)
      have e1 := hb n (by omega)
      have hbp : -1 ≤ baseP a n ∧ baseP a n ≤ 1 := by unfold baseP; split <;> omega
      have ec : (bif gD a.grp n then a.gate else 0) = baseP a n := by
        unfold baseP; cases gD a.grp n <;> rfl
      have ew : pvGi a n = gD a.lv n - baseP a n := by unfold pvGi; rw [ec]; exact w64 (by omega) (by omega)
      have hsp : -1000000 ≤ (gD a.N.g n).lo ∧ (gD a.N.g n).lo ≤ (gD a.N.g n).hi ∧ (gD a.N.g n).hi ≤ 1000000 := by omega
      have hlb := low_bd (-(gD a.lv n - baseP a n)) hsp
      simp only [pvG, sumN]
      rw [ew, pull_low hsp, es]
      by_cases hk : (n : Int) = a.skip - 100
      · have : ((n : Int) != a.skip - 100) = false := by simpa using hk
        rw [this, if_pos hk]; simp only [cond_false]
        exact ⟨by omega, by omega, by omega⟩
      · have : ((n : Int) != a.skip - 100) = true := by simpa using hk
        rw [this, if_neg hk]; simp only [cond_true]
        have ew2 : wr (pvG a n + low (-(gD a.lv n - baseP a n)) (gD a.N.g n)) = pvG a n + low (-(gD a.lv n - baseP a n)) (gD a.N.g n) := w64 (by omega) (by omega)
        rw [ew2]
        exact ⟨by omega, by omega, by omega⟩
  rw [(G _ (Nat.le_refl _)).1, r1]
variable {N : NetL} {T : TruthL}
theorem none_base (N : NetL) (lv : List Int) (gate skip : Int) (j : Nat) : baseP ⟨N, lv, noneL N, gate, skip⟩ j = 0 := by
  unfold baseP noneL
  simp only [gD_replicate]
  by_cases h : j < N.g.length
  · simp [h]
  · rw [if_neg h]; rfl
theorem none_baseL (N : NetL) (gate : Int) (j : Nat) : baseL ⟨N, noneL N, gate⟩ j = 0 := by
  unfold baseL noneL
  simp only [gD_replicate]
  by_cases h : j < N.g.length
  · simp [h]
  · rw [if_neg h]; rfl
theorem allL_iff (h : checkL N = 0) (lv : List Int) : lv ∈ allL N ↔ levOk N lv = true := by
  have hg := good_of h
  unfold allL
  rw [lvAll_iff (a := lvA0 N) hg (by show (-1 : Int) ≤ 0 ∧ (0 : Int) ≤ 1; omega), levOk_iff]
  have hz : ∀ j, baseL (lvA0 N) j = 0 := none_baseL N 0
  have key : ∀ i, i < N.r.length → lv.length = N.g.length → (∀ i, i < lv.length → -1 ≤ gD lv i ∧ gD lv i ≤ 1) → riseM lv (gD N.r i) = gD lv (gD N.r i).to.toNat - gD lv (gD N.r i).fr.toNat := fun i hi hl hb => by
    obtain ⟨_, b1, b2, b3⟩ := hg.r i hi
    have := hb (gD N.r i).to.toNat (by omega)
    have := hb (gD N.r i).fr.toNat (by omega)
    exact w64 (by omega) (by omega)
  constructor
  · rintro ⟨h1, h2, h3⟩
    have hb : ∀ i, i < lv.length → -1 ≤ gD lv i ∧ gD lv i ≤ 1 := fun i hi => by have := h2 i (by omega); rw [hz] at this; omega
    refine ⟨h1, hb, fun i hi => ?_⟩
    rw [key i hi h1 hb]
    obtain ⟨_, b1, b2, b3⟩ := hg.r i hi
    exact h3 i hi b1.2 b2.2
  · rintro ⟨h1, h2, h3⟩
    refine ⟨h1, fun j hj => by rw [hz]; have := h2 j (by omega); omega, fun i hi _ _ => ?_⟩
    have := h3 i hi
    rw [key i hi h1 h2] at this; exact this
theorem pv_lowX (hg : Good N) {lv : List Int} (hl : lv.length = N.g.length) (hb : ∀ j, j < N.g.length → -1 ≤ gD lv j ∧ gD lv j ≤ 1) {skip : Int} (hs : -1 ≤ skip ∧ skip ≤ 1000) {k : Nat} (hk : ∀ i, i < N.r.length → ((i : Int) = skip ↔ i = k)) (hk2 : ∀ j, j < N.g.length → ((j : Int) = skip - 100 ↔ N.r.length + j = k)) {d : Desk} (hd : Alike (begunM N) d) :
    pvG ⟨N, lv, noneL N, 0, skip⟩ N.g.length = lowX (piL lv) d.all k := by
  obtain ⟨e1, e2, e3⟩ := like_sp hd
  rw [pv_sum (a := ⟨N, lv, noneL N, 0, skip⟩) hg (fun j hj => by have := hb j hj; show -3 ≤ gD lv j ∧ gD lv j ≤ 3; omega) (by simp only; omega) hs]
  unfold lowX riseW
  rw [e1, sumN_split]
  congr 1
  · refine sumN_congr fun i hi => ?_
    obtain ⟨a, b, c⟩ := e2 i hi
    obtain ⟨_, b1, b2, _⟩ := hg.r i hi
    rw [a, b, c]
    by_cases he : i = k
    · rw [if_pos he, if_pos ((hk i hi).2 he)]
    · rw [if_neg he, if_neg fun h => he ((hk i hi).1 h)]
      have p1 : piL lv (gD N.r i).to = -(gD lv (gD N.r i).to.toNat) := by unfold piL; rw [if_pos (by omega)]
      have p2 : piL lv (gD N.r i).fr = -(gD lv (gD N.r i).fr.toNat) := by unfold piL; rw [if_pos (by omega)]
      rw [p1, p2]
      congr 1
      show -(gD lv (gD N.r i).to.toNat - gD lv (gD N.r i).fr.toNat) = _
      omega
  · refine sumN_congr fun j hj => ?_
    obtain ⟨a, b, c⟩ := e3 j hj
    have hj : j < N.g.length := hj
    rw [a, b, c, none_base]
    by_cases he : N.r.length + j = k
    · rw [if_pos he, if_pos ((hk2 j hj).2 he)]
    · rw [if_neg he, if_neg fun h => he ((hk2 j hj).1 h)]
      have p1 : piL lv (j : Nat) = -(gD lv j) := by unfold piL; rw [if_pos ⟨by omega, by rw [hl]; omega⟩]; simp
      have p2 : piL lv (N.g.length : Nat) = 0 := by unfold piL; exact if_neg fun hh => by rw [hl] at hh; omega
      rw [p1, p2]
      congr 1
      show -(gD lv j - 0) = _
      omega
theorem lowX_all (π : Int → Int) (l : List Way) : lowX π l l.length = lowL π l := by
  unfold lowX lowL
  rw [sumL_idx]
  exact sumN_congr fun i hi => by rw [if_neg (by omega)]; rfl
theorem pv_proved (hg : Good N) {lv : List Int} (hl : lv.length = N.g.length) (hb : ∀ j, j < N.g.length → -1 ≤ gD lv j ∧ gD lv j ≤ 1) : pvG ⟨N, lv, noneL N, 0, -1⟩ N.g.length = provedM N lv := by
  have hd := Alike.refl (begunM N)
  have e1 := (like_sp hd).1
  have h14 := hg.r14
  rw [pv_lowX hg hl hb (skip := -1) (k := (begunM N).all.length) (by omega) (fun i hi => by omega) (fun j hj => by omega) hd, lowX_all, ← proved_low hg hl (by rw [hl]; exact hb) hd]
theorem bsM_le (N : NetL) {K : Nat} {c : Int} (h0 : 0 ≤ c) (h : ∀ k, k < K → pvL N k (-1) ≤ c) : bsM N K ≤ c := by
  induction K with
  | zero => exact h0
  | succ K ih =>
    simp only [bsM]
    have := ih fun k hk => h k (by omega)
    have := h K (by omega)
    cases decide (pvL N K (-1) > bsM N K) <;> simp only [cond_true, cond_false] <;> omega
theorem le_bsM (N : NetL) {K k : Nat} (hk : k < K) : pvL N k (-1) ≤ bsM N K := by
  induction K with
  | zero => omega
  | succ K ih =>
    simp only [bsM]
    by_cases hd : pvL N K (-1) > bsM N K
    · rw [decide_eq_true hd]; simp only [cond_true]
      by_cases he : k = K
      · subst he; omega
      · have := ih (by omega); omega
    · rw [decide_eq_false hd]; simp only [cond_false]
      by_cases he : k = K
      · subst he; omega
      · exact ih (by omega)
theorem allL_ok (h : checkL N = 0) {k : Nat} (hk : k < (allL N).length) : levOk N (gD (allL N) k) = true := (allL_iff h _).1 (gD_mem hk)
theorem levOk_bd {lv : List Int} (hv : levOk N lv = true) : lv.length = N.g.length ∧ ∀ j, j < N.g.length → -1 ≤ gD lv j ∧ gD lv j ≤ 1 := by
  obtain ⟨a, b, _⟩ := levOk_iff.1 hv
  exact ⟨a, by rw [← a]; exact b⟩
theorem least_set (h : checkL N = 0) : leastM N = setC N := by
  have hg := good_of h
  have hn := setC_nonneg h
  unfold leastM
  rw [if_pos h]
  refine Int.le_antisymm (bsM_le N hn fun k hk => ?_) ?_
  · have hv := allL_ok h hk
    obtain ⟨a, b⟩ := levOk_bd hv
    show pvG ⟨N, gD (allL N) k, noneL N, 0, -1⟩ N.g.length ≤ _
    rw [pv_proved hg a b]
    exact proved_le_set h hv
  · obtain ⟨hv, hp⟩ := levM_ok h
    obtain ⟨k, hk, he⟩ := mem_gDL ((allL_iff h _).2 hv)
    obtain ⟨a, b⟩ := levOk_bd hv
    have := le_bsM N hk
    have e : pvL N k (-1) = pvG ⟨N, gD (allL N) k, noneL N, 0, -1⟩ N.g.length := rfl
    rw [e, he, pv_proved hg a b, hp] at this
    exact this
theorem leastM_eq (N : NetL) : leastM N = corC N := by
  unfold corC
  by_cases h : checkL N = 0
  · rw [if_pos h, least_set h]
  · rw [if_neg h]; unfold leastM; rw [if_neg h]
def limS (s : Span) (rise rest : Nat → Int) : Nat → Span
  | 0 => s
  | k + 1 => limM (limS s rise rest k) (rise k) (rest k)
theorem limS_hi (s : Span) {rise rest : Nat → Int} : ∀ {K : Nat}, (∀ k, k < K → rise k = 1 → -1000000000000 ≤ rest k ∧ rest k ≤ 1000000000000) → (limS s rise rest K).hi ≤ s.hi ∧ (∀ k, k < K → rise k = 1 → (limS s rise rest K).hi ≤ -(rest k)) ∧ ((limS s rise rest K).hi = s.hi ∨ ∃ k, k < K ∧ rise k = 1 ∧ (limS s rise rest K).hi = -(rest k))
  | 0, _ => ⟨Int.le_refl _, fun k hk => by omega, .inl rfl⟩
  | K + 1, h => by
    obtain ⟨h1, h2, h3⟩ := limS_hi s (K := K) fun k hk => h k (by omega)
    simp only [limS, limM]
    by_cases hr : rise K = 1
    · have hb := h K (by omega) hr
      have ew : wr (-rest K) = -rest K := w64 (by omega) (by omega)
      rw [if_pos hr, ew]
      refine ⟨by omega, fun k hk hk1 => ?_, ?_⟩
      · by_cases he : k = K
        · subst he; omega
        · have := h2 k (by omega) hk1; omega
      · by_cases hm : (limS s rise rest K).hi ≤ -rest K
        · rw [Int.min_eq_left hm]
          rcases h3 with h3 | ⟨k, hk, e1, e2⟩
          · exact .inl h3
          · exact .inr ⟨k, by omega, e1, e2⟩
        · exact .inr ⟨K, by omega, hr, by omega⟩
    · rw [if_neg hr]
      refine ⟨h1, fun k hk hk1 => ?_, ?_⟩
      · by_cases he : k = K
        · subst he; exact absurd hk1 hr
        · exact h2 k (by omega) hk1
      · rcases h3 with h3 | ⟨k, hk, e1, e2⟩
        · exact .inl h3
        · exact .inr ⟨k, by omega, e1, e2⟩
theorem limS_lo (s : Span) {rise rest : Nat → Int} : ∀ {K : Nat}, s.lo ≤ (limS s rise rest K).lo ∧ (∀ k, k < K → rise k = -1 → rest k ≤ (limS s rise rest K).lo) ∧ ((limS s rise rest K).lo = s.lo ∨ ∃ k, k < K ∧ rise k = -1 ∧ (limS s rise rest K).lo = rest k)
  | 0 => ⟨Int.le_refl _, fun k hk => by omega, .inl rfl⟩
  | K + 1 => by
    obtain ⟨h1, h2, h3⟩ := limS_lo s (rise := rise) (rest := rest) (K := K)
    simp only [limS, limM]
    by_cases hr : rise K = -1
    · rw [if_pos hr]
      refine ⟨by omega, fun k hk hk1 => ?_, ?_⟩
      · by_cases he : k = K
        · subst he; omega
        · have := h2 k (by omega) hk1; omega
      · by_cases hm : rest K ≤ (limS s rise rest K).lo
        · rw [Int.max_eq_left hm]
          rcases h3 with h3 | ⟨k, hk, e1, e2⟩
          · exact .inl h3
          · exact .inr ⟨k, by omega, e1, e2⟩
        · exact .inr ⟨K, by omega, hr, by omega⟩
    · rw [if_neg hr]
      refine ⟨h1, fun k hk hk1 => ?_, ?_⟩
      · by_cases he : k = K
        · subst he; exact absurd hk1 hr
        · exact h2 k (by omega) hk1
      · rcases h3 with h3 | ⟨k, hk, e1, e2⟩
        · exact .inl h3
        · exact .inr ⟨k, by omega, e1, e2⟩
theorem rsS_lim (N : NetL) (i : Nat) : ∀ K, rsS N i K = limS ⟨-100000000, 100000000⟩ (fun k => rsR N ⟨i, k⟩) (fun k => pvL N k i) K
  | 0 => rfl
  | K + 1 => by simp only [rsS, limS, rsS_lim N i K]
theorem rsF_iff (N : NetL) (i : Nat) : ∀ K, rsF N i K = true ↔ ∀ k, k < K → rsR N ⟨i, k⟩ = 0 → pvL N k i ≤ 0
  | 0 => by simp [rsF]
  | K + 1 => by
    have ih := rsF_iff N i K
    simp only [rsF]
    by_cases hr : rsR N ⟨i, K⟩ = 0
    · rw [show (rsR N ⟨i, K⟩ == 0) = true by simpa using hr]
      simp only [cond_true]
      by_cases hp : pvL N K i > 0
      · rw [decide_eq_true hp]; simp only [cond_true]
        constructor
        · intro h; cases h
        · intro h; have := h K (by omega) hr; omega
      · rw [decide_eq_false hp]; simp only [cond_false]
        rw [ih]
        constructor
        · intro h k hk h0
          by_cases he : k = K
          · subst he; omega
          · exact h k (by omega) h0
        · intro h k hk h0; exact h k (by omega) h0
    · rw [show (rsR N ⟨i, K⟩ == 0) = false by simpa using hr]
      simp only [cond_false]
      rw [ih]
      constructor
      · intro h k hk h0
        by_cases he : k = K
        · subst he; exact absurd h0 hr
        · exact h k (by omega) h0
      · intro h k hk h0; exact h k (by omega) h0
theorem pv_bd {a : PvA} (hg : Good a.N) (hb : ∀ j, j < a.N.g.length → -3 ≤ gD a.lv j ∧ gD a.lv j ≤ 3) (hgt : -1 ≤ a.gate ∧ a.gate ≤ 1) (hs : -1 ≤ a.skip ∧ a.skip ≤ 1000) : -22000000 ≤ pvG a a.N.g.length ∧ pvG a a.N.g.length ≤ 22000000 := by
  have h8 := hg.g8
  have h14 := hg.r14
  rw [pv_sum hg hb hgt hs]
  have c1 := sumN_bd (K := 1000000) (n := a.N.r.length) (f := fun i => if (i : Int) = a.skip then 0 else low (-(gD a.lv (gD a.N.r i).to.toNat - gD a.lv (gD a.N.r i).fr.toNat)) (gD a.N.r i).sp) fun i hi => by
    have := low_bd (-(gD a.lv (gD a.N.r i).to.toNat - gD a.lv (gD a.N.r i).fr.toNat)) (s := (gD a.N.r i).sp) (by have := (hg.r i hi).1; omega)
    split <;> omega
  have c2 := sumN_bd (K := 1000000) (n := a.N.g.length) (f := fun j => if (j : Int) = a.skip - 100 then 0 else low (-(gD a.lv j - baseP a j)) (gD a.N.g j)) fun j hj => by
    have := low_bd (-(gD a.lv j - baseP a j)) (s := gD a.N.g j) (by have := hg.g j hj; omega)
    split <;> omega
  omega
theorem pvL_bd (h : checkL N = 0) {k : Nat} (hk : k < (allL N).length) {s : Int} (hs : -1 ≤ s ∧ s ≤ 1000) : -22000000 ≤ pvL N k s ∧ pvL N k s ≤ 22000000 := by
  obtain ⟨a, b⟩ := levOk_bd (allL_ok h hk)
  exact pv_bd (a := ⟨N, gD (allL N) k, noneL N, 0, s⟩) (good_of h) (fun j hj => by have := b j hj; show -3 ≤ gD (gD (allL N) k) j ∧ gD (gD (allL N) k) j ≤ 3; omega) (by simp only; omega) hs
end Go.Bal
