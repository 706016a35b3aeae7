/- Package balance: what is moved on the way by which a place was reached. -/
import Derived.Test.YtonddbmhljelgaaBalT1
set_option linter.unusedVariables false
set_option linter.unusedSimpArgs false
namespace Go.Bal
open Go
def Tr (d : Desk) (c : Step → Bool) (fr : Int) : Int → List Step → Prop
  | v, [] => v = fr
  | v, s :: l => Cnt d c s ∧ toM d s = v ∧ Tr d c fr (srcM d s) l
variable {d : Desk} {c : Step → Bool} {fr : Int}
def Tight (d : Desk) (c : Step → Bool) (fr : Int) (s : Step) : Prop := Cnt d c s ∧ ∃ a m, Least d c fr (srcM d s) a m ∧ Least d c fr (toM d s) (a + priceM d s) (m + 1)
theorem src_flip (d : Desk) (s : Step) : srcM d ⟨s.way, !s.back⟩ = toM d s := by simp [srcM]
theorem trail_ok {m : Map} (ha : AllLeast d c fr m) : ∀ (k : Nat) (v : Int) (a : Int) (q : Nat), Least d c fr v a q → q < k → ∃ l, trailM d m fr k v = some l ∧ Tr d c fr v l ∧ (∀ s ∈ l, Tight d c fr s ∧ ∃ b j, j ≤ q ∧ Least d c fr (toM d s) b j) ∧ (l.map fun s => s.way).Nodup
  | 0, v, a, q, _, h => by omega
  | k + 1, v, a, q, hl, hq => by
    simp only [trailM]
    by_cases hv : v = fr
    · rw [if_pos hv]
      exact ⟨[], rfl, hv, fun s hs => (by cases hs), List.nodup_nil⟩
    · rw [if_neg hv]
      have hsome := ha.2 _ _ _ hl.1
      obtain ⟨f, hf⟩ := Option.isSome_iff_exists.1 hsome
      have hfar : m.far v = f := by simp [Map.far, hf]
      rw [hfar]
      obtain ⟨hlab, k2, hk2, hl2⟩ := ha.1 v f hf
      obtain ⟨ea, eq⟩ := hl.uniq hl2
      subst eq
      rcases hlab with ⟨h, _⟩ | ⟨b, j, hw, hc, ht, hcost, hmany⟩
      · exact absurd h hv
      have hqj : q = j + 1 := by omega
      subst hqj
      have hls : Least d c fr (srcM d f.by') b j := ⟨hw, fun b' i hi => by
        have := hl.2 _ _ (ht ▸ Walk.step f.by' hi hc)
        omega⟩
      have hlt : Least d c fr (toM d f.by') (b + priceM d f.by') (j + 1) := by rw [ht, ← hcost, ← ea]; exact hl
      obtain ⟨l, e1, e2, e3, e4⟩ := trail_ok ha k (srcM d f.by') b j hls (by omega)
      have e1' : trailM d m fr k (toM d ⟨f.by'.way, !f.by'.back⟩) = some l := e1
      rw [e1']
      refine ⟨f.by' :: l, rfl, ⟨hc, ht, e2⟩, fun s hs => ?_, ?_⟩
      · rcases List.mem_cons.1 hs with rfl | hs
        · exact ⟨⟨hc, b, j, hls, hlt⟩, _, _, Nat.le_refl _, hlt⟩
        · obtain ⟨h1, b', i, h2, h3⟩ := e3 s hs
          exact ⟨h1, b', i, by omega, h3⟩
      · rw [List.map_cons, List.nodup_cons]
        refine ⟨fun hm => ?_, e4⟩
        obtain ⟨s, hs, he⟩ := List.mem_map.1 hm
        obtain ⟨⟨_, b2, j2, t1, t2⟩, b', i, h2, h3⟩ := e3 s hs
        have hu := t2.uniq h3
        by_cases hb : s.back = f.by'.back
        · have hse : s = f.by' := by cases s; cases hh : f.by'; simp_all
          rw [hse] at h3
          have := h3.uniq hlt
          omega
        · have hse : s = ⟨f.by'.way, !f.by'.back⟩ := by
            cases s; cases hh : f.by'; rename_i x y z w; simp only [hh] at he hb ⊢
            subst he; cases y <;> cases w <;> simp_all
          have h4 : srcM d s = toM d f.by' := by rw [hse]; exact src_flip d _
          rw [h4] at t1
          have := t1.uniq hlt
          omega
structure Small (B : Int) (w : Way) : Prop where
  now : -B ≤ w.now ∧ w.now ≤ B
  sp : -100000000 ≤ w.sp.lo ∧ w.sp.lo ≤ w.sp.hi ∧ w.sp.hi ≤ 100000000
theorem room_fwd {B : Int} {w : Way} (h : Small B w) (hB : B ≤ 3000000000) : roomM w false = if w.now < w.sp.lo then (-1, w.sp.lo - w.now) else if w.now < w.sp.hi then (0, w.sp.hi - w.now) else (1, 10000000000) := by
  have h1 := h.now
  have h2 := h.sp
  unfold roomM
  simp only [Bool.false_eq_true, if_false]
  rw [wr_id (n := w.sp.lo - w.now) (by omega) (by omega), wr_id (n := w.sp.hi - w.now) (by omega) (by omega)]
theorem room_back {B : Int} {w : Way} (h : Small B w) (hB : B ≤ 3000000000) : roomM w true = if w.sp.hi < w.now then (-1, w.now - w.sp.hi) else if w.sp.lo < w.now then (0, w.now - w.sp.lo) else (1, 10000000000) := by
  have h1 := h.now
  have h2 := h.sp
  unfold roomM
  simp only [if_true]
  rw [wr_id (n := -w.now) (by omega) (by omega), wr_id (n := -w.sp.hi) (by omega) (by omega), wr_id (n := -w.sp.lo) (by omega) (by omega)]
  rw [wr_id (n := -w.sp.hi - -w.now) (by omega) (by omega), wr_id (n := -w.sp.lo - -w.now) (by omega) (by omega)]
  by_cases a : w.sp.hi < w.now
  · rw [if_pos a, if_pos (by omega)]; congr 1; omega
  · rw [if_neg a, if_neg (by omega)]
    by_cases b : w.sp.lo < w.now
    · rw [if_pos b, if_pos (by omega)]; congr 1; omega
    · rw [if_neg b, if_neg (by omega)]
def OptW (w : Way) (r : Int) : Prop := r = 0 ∧ w.sp.lo ≤ w.now ∧ w.now ≤ w.sp.hi ∨ r = 1 ∧ w.sp.hi ≤ w.now ∨ r = -1 ∧ w.now ≤ w.sp.lo
theorem optW_iff {B : Int} {w : Way} (h : Small B w) (hB : B ≤ 3000000000) (r : Int) : OptW w r ↔ r ≤ (roomM w false).1 ∧ -r ≤ (roomM w true).1 := by
  have h1 := h.now
  have h2 := h.sp
  rw [room_fwd h hB, room_back h hB]
  unfold OptW
  by_cases a : w.now < w.sp.lo <;> by_cases b : w.now < w.sp.hi <;> by_cases e : w.sp.hi < w.now <;> by_cases f : w.sp.lo < w.now <;> simp only [a, b, e, f, if_true, if_false] <;> omega
theorem room_pos {B : Int} {w : Way} (h : Small B w) (hB : B ≤ 3000000000) (b : Bool) : 1 ≤ (roomM w b).2 := by
  cases b
  · rw [room_fwd h hB]
    by_cases a : w.now < w.sp.lo <;> by_cases b : w.now < w.sp.hi <;> simp only [a, b, if_true, if_false] <;> omega
  · rw [room_back h hB]
    by_cases a : w.sp.hi < w.now <;> by_cases b : w.sp.lo < w.now <;> simp only [a, b, if_true, if_false] <;> omega
def moveW (q : Int) (b : Bool) (w : Way) : Way := { w with now := if b then w.now - q else w.now + q }
theorem optW_move {B : Int} {w : Way} (h : Small B w) (hB : B ≤ 3000000000) {q : Int} {b : Bool} (h0 : 0 ≤ q) (hq : q ≤ (roomM w b).2) : OptW (moveW q b w) (if b then -(roomM w b).1 else (roomM w b).1) := by
  have h1 := h.now
  have h2 := h.sp
  cases b
  · have e := room_fwd h hB
    rw [if_neg (by decide)]
    by_cases a : w.now < w.sp.lo
    · rw [if_pos a] at e; rw [e] at hq ⊢; simp only at hq
      right; right; exact ⟨rfl, by simp only [moveW, Bool.false_eq_true, if_false]; omega⟩
    · rw [if_neg a] at e
      by_cases b : w.now < w.sp.hi
      · rw [if_pos b] at e; rw [e] at hq ⊢; simp only at hq
        left; refine ⟨rfl, ?_, ?_⟩ <;> simp only [moveW, Bool.false_eq_true, if_false] <;> omega
      · rw [if_neg b] at e; rw [e]
        right; left; exact ⟨rfl, by simp only [moveW, Bool.false_eq_true, if_false]; omega⟩
  · have e := room_back h hB
    rw [if_pos rfl]
    by_cases a : w.sp.hi < w.now
    · rw [if_pos a] at e; rw [e] at hq ⊢; simp only at hq
      right; left; exact ⟨rfl, by simp only [moveW, if_true]; omega⟩
    · rw [if_neg a] at e
      by_cases b : w.sp.lo < w.now
      · rw [if_pos b] at e; rw [e] at hq ⊢; simp only at hq
        left; refine ⟨rfl, ?_, ?_⟩ <;> simp only [moveW, if_true] <;> omega
      · rw [if_neg b] at e; rw [e]
        right; right; exact ⟨rfl, by simp only [moveW, if_true]; omega⟩
theorem leastRoom_le : ∀ (l : List Step) (a : Int), leastRoom d a l ≤ a ∧ ∀ s ∈ l, leastRoom d a l ≤ (roomM (getW d.all s.way) s.back).2
  | [], a => ⟨Int.le_refl _, fun s hs => (by cases hs)⟩
  | s :: l, a => by
    simp only [leastRoom]
    obtain ⟨h1, h2⟩ := leastRoom_le l (min a (roomM (getW d.all s.way) s.back).2)
    refine ⟨by omega, fun t ht => ?_⟩
    rcases List.mem_cons.1 ht with rfl | ht
    · omega
    · exact h2 t ht
theorem leastRoom_pos : ∀ (l : List Step) (a : Int), 1 ≤ a → (∀ s ∈ l, 1 ≤ (roomM (getW d.all s.way) s.back).2) → 1 ≤ leastRoom d a l
  | [], a, h, _ => h
  | s :: l, a, h, hl => by
    simp only [leastRoom]
    have := hl s (by simp)
    exact leastRoom_pos l _ (by omega) fun t ht => hl t (by simp [ht])
theorem pushW_len (q : Int) (l : List Way) (s : Step) : (pushW q l s).length = l.length := by simp [pushW]
theorem pushAll_len (q : Int) : ∀ (l : List Step) (all : List Way), (pushAll q all l).length = all.length
  | [], _ => rfl
  | s :: l, all => by simp only [pushAll]; rw [pushAll_len q l, pushW_len]
theorem pushW_gD {q : Int} {all : List Way} {s : Step} (h : 0 ≤ s.way ∧ s.way < all.length) {B : Int} (hB : B ≤ 1000000000000) (hq : 0 ≤ q ∧ q ≤ B) (hs : ∀ i, i < all.length → -B ≤ (gD all i).now ∧ (gD all i).now ≤ B) (i : Nat) : gD (pushW q all s) i = if i = s.way.toNat then moveW q s.back (gD all i) else gD all i := by
  have hk : s.way.toNat < all.length := by omega
  unfold pushW
  rw [gD_modify hk]
  by_cases he : i = s.way.toNat
  · subst he
    have := hs _ hk
    rw [if_pos rfl, if_pos rfl]
    unfold moveW
    rw [wr_id (n := (gD all s.way.toNat).now - q) (by omega) (by omega), wr_id (n := (gD all s.way.toNat).now + q) (by omega) (by omega)]
  · rw [if_neg he, if_neg he]
theorem pushAll_spec {q B : Int} (hB : B ≤ 3000000000) (hq : 0 ≤ q ∧ q ≤ B) : ∀ (l : List Step) (all : List Way), (l.map fun s => s.way).Nodup → (∀ s ∈ l, 0 ≤ s.way ∧ s.way < all.length) → (∀ i, i < all.length → -(2 * B) ≤ (gD all i).now ∧ (gD all i).now ≤ 2 * B) →
    (∀ i : Nat, (∃ s ∈ l, s.way = i) → -B ≤ (gD all i).now ∧ (gD all i).now ≤ B) →
    ∀ i, i < all.length → (∃ s ∈ l, s.way = i ∧ gD (pushAll q all l) i = moveW q s.back (gD all i)) ∨ ((∀ s ∈ l, s.way ≠ i) ∧ gD (pushAll q all l) i = gD all i)
  | [], all, _, _, _, _, i, hi => .inr ⟨fun s hs => (by cases hs), rfl⟩
  | s :: l, all, hn, hw, hs, hs2, i, hi => by
    rw [List.map_cons, List.nodup_cons] at hn
    have hws := hw s (by simp)
    have e := fun i => pushW_gD (q := q) hws (B := 2 * B) (by omega) (by omega) hs i
    simp only [pushAll]
    have hh := hs2 s.way.toNat ⟨s, by simp, by omega⟩
    have := pushAll_spec hB hq l (pushW q all s) hn.2 (fun t ht => by rw [pushW_len]; exact hw t (by simp [ht])) (fun i hi => by
      rw [pushW_len] at hi
      rw [e]
      split
      · rename_i he; subst he
        unfold moveW; cases s.back <;> simp <;> omega
      · exact hs i hi) (fun i hi => by
      obtain ⟨t, ht, hte⟩ := hi
      rw [e, if_neg]
      · exact hs2 i ⟨t, by simp [ht], hte⟩
      · intro he
        refine hn.1 (List.mem_map.2 ⟨t, ht, ?_⟩)
        show t.way = s.way
        omega) i (by rw [pushW_len]; exact hi)
    rcases this with ⟨t, h1, h2, h3⟩ | ⟨h1, h2⟩
    · refine .inl ⟨t, by simp [h1], h2, ?_⟩
      rw [h3, e, if_neg]
      intro he
      refine hn.1 (List.mem_map.2 ⟨t, h1, ?_⟩)
      show t.way = s.way
      omega
    · by_cases he : i = s.way.toNat
      · refine .inl ⟨s, by simp, by omega, ?_⟩
        rw [h2, e, if_pos he]
      · refine .inr ⟨fun t ht => ?_, by rw [h2, e, if_neg he]⟩
        rcases List.mem_cons.1 ht with rfl | ht
        · omega
        · exact h1 t ht
def excW (v : Int) (w : Way) : Int := (if w.to = v then w.now else 0) - (if w.fr = v then w.now else 0)
def exc (v : Int) : List Way → Int
  | [] => 0
  | w :: l => excW v w + exc v l
theorem exc_modify' (v : Int) (f : Way → Way) (k : Int) : ∀ (l : List Way) (i : Nat), i < l.length → excW v (f (gD l i)) = excW v (gD l i) + k → exc v (l.modify i f) = exc v l + k
  | [], i, h, _ => by simp at h
  | w :: l, 0, _, hf => by
    have : gD (w :: l) 0 = w := rfl
    rw [this] at hf
    simp [exc, hf]; omega
  | w :: l, i + 1, h, hf => by
    have : gD (w :: l) (i + 1) = gD l i := rfl
    rw [this] at hf
    simp only [List.modify_succ_cons, exc, exc_modify' v f k l i (by simpa using h) hf]; omega
def ind (v u : Int) (q : Int) : Int := if u = v then q else 0
theorem exc_pushW {q : Int} {all : List Way} {s : Step} (h : 0 ≤ s.way ∧ s.way < all.length) {B : Int} (hB : B ≤ 1000000000000) (hq : 0 ≤ q ∧ q ≤ B) (hs : -B ≤ (gD all s.way.toNat).now ∧ (gD all s.way.toNat).now ≤ B) (v : Int) :
    exc v (pushW q all s) = exc v all + ind v (if s.back then (gD all s.way.toNat).fr else (gD all s.way.toNat).to) q - ind v (if s.back then (gD all s.way.toNat).to else (gD all s.way.toNat).fr) q := by
  unfold pushW
  rw [exc_modify' v _ (ind v (if s.back then (gD all s.way.toNat).fr else (gD all s.way.toNat).to) q - ind v (if s.back then (gD all s.way.toNat).to else (gD all s.way.toNat).fr) q) all s.way.toNat (by omega)]
  · omega
  · rw [wr_id (n := (gD all s.way.toNat).now - q) (by omega) (by omega), wr_id (n := (gD all s.way.toNat).now + q) (by omega) (by omega)]
    unfold excW ind
    cases s.back
    · by_cases h1 : (gD all s.way.toNat).fr = v <;> by_cases h2 : (gD all s.way.toNat).to = v <;> simp [h1, h2] <;> omega
    · by_cases h1 : (gD all s.way.toNat).fr = v <;> by_cases h2 : (gD all s.way.toNat).to = v <;> simp [h1, h2] <;> omega
end Go.Bal
