/- Package balance: what is moved on the way by which a place was reached. -/
import Derived.Test.YtonddbmhljelgaaBalT1
set_option linter.unusedVariables false
set_option linter.unusedSimpArgs false
namespace Go.Bal
open Go
def Tr (d : Desk) (c : Step -> Bool) (fr : Int) : Int -> List Step -> Prop
 | v, [] => v = fr
 | v, s :: l => Ph d c s /\ DU d s = v /\ Tr d c fr (GF d s) l
variable {d : Desk} {c : Step -> Bool} {fr : Int}
def ABR (d : Desk) (c : Step -> Bool) (fr : Int) (s : Step) : Prop := Ph d c s /\ ∃ a m, Least d c fr (GF d s) a m /\ Least d c fr (DU d s) (a + CR d s) (m + 1)
theorem Wo (d : Desk) (s : Step) : GF d ⟨s.way, !s.back⟩ = DU d s := by simp [GF]
theorem Cg {m : Map} (ha : IY d c fr m) : ∀ (k : Nat) (v : Int) (a : Int) (q : Nat), Least d c fr v a q -> q < k -> ∃ l, FG d m fr k v = some l /\ Tr d c fr v l /\ (∀ s ∈ l, ABR d c fr s /\ ∃ b j, j <= q /\ Least d c fr (DU d s) b j) /\ (l.map λ s => s.way).Nodup
 | 0, v, a, q, _, h => by omega
 | k + 1, v, a, q, hl, hq => by
  simp only [FG]
  by_cases hv : v = fr
  ·rw [if_pos hv]
   exact ⟨[], rfl, hv, λ s hs => (by cases hs), List.nodup_nil⟩
  ·rw [if_neg hv]
   have hsome := ha.2 _ _ _ hl.1
   obtain ⟨f, hf⟩ := Option.isSome_iff_exists.1 hsome
   have hfar : m.far v = f := by simp [Map.far, hf]
   rw [hfar]
   obtain ⟨hlab, k2, hk2, hl2⟩ := ha.1 v f hf
   obtain ⟨ea, eq⟩ := hl.uniq hl2
   subst eq
   rcases hlab with ⟨h, _⟩ | ⟨b, j, hw, hc, ht, hcost, hmany⟩
   ·exact absurd h hv
   have hqj : q = j + 1 := by omega
   subst hqj
   have hls : Least d c fr (GF d f.by') b j := ⟨hw, λ b' i hi => by
    have := hl.2 _ _ (ht ▸ Walk.step f.by' hi hc)
    omega⟩
   have hlt : Least d c fr (DU d f.by') (b + CR d f.by') (j + 1) := by rw [ht, <- hcost, <- ea]; exact hl
   obtain ⟨l, e1, e2, e3, e4⟩ := Cg ha k (GF d f.by') b j hls (by omega)
   have e1' : FG d m fr k (DU d ⟨f.by'.way, !f.by'.back⟩) = some l := e1
   rw [e1']
   refine ⟨f.by' :: l, rfl, ⟨hc, ht, e2⟩, λ s hs => ?_, ?_⟩
   ·rcases List.mem_cons.1 hs with rfl | hs
    ·exact ⟨⟨hc, b, j, hls, hlt⟩, _, _, Nat.le_refl _, hlt⟩
    ·obtain ⟨h1, b', i, h2, h3⟩ := e3 s hs
     exact ⟨h1, b', i, by omega, h3⟩
   ·rw [List.map_cons, List.nodup_cons]
    refine ⟨λ hm => ?_, e4⟩
    obtain ⟨s, hs, he⟩ := List.mem_map.1 hm
    obtain ⟨⟨_, b2, j2, t1, t2⟩, b', i, h2, h3⟩ := e3 s hs
    have hu := t2.uniq h3
    by_cases hb : s.back = f.by'.back
    ·have hse : s = f.by' := by cases s; cases hh : f.by'; simp_all
     rw [hse] at h3
     have := h3.uniq hlt
     omega
    ·have hse : s = ⟨f.by'.way, !f.by'.back⟩ := by
      cases s; cases hh : f.by'; rename_i x y z w; simp only [hh] at he hb ⊢
      subst he; cases y <;> cases w <;> simp_all
     have h4 : GF d s = DU d f.by' := by rw [hse]; exact Wo d _
     rw [h4] at t1
     have := t1.uniq hlt
     omega
structure Small (B : Int) (w : Way) : Prop where
 now : -B <= w.now /\ w.now <= B
 sp : -100000000 <= w.sp.lo /\ w.sp.lo <= w.sp.hi /\ w.sp.hi <= 100000000
theorem RG {B : Int} {w : Way} (h : Small B w) (hB : B <= 3000000000) : AT w false = if w.now < w.sp.lo then (-1, w.sp.lo - w.now) else if w.now < w.sp.hi then (0, w.sp.hi - w.now) else (1, 10000000000) := by
 have h1 := h.now
 have h2 := h.sp
 unfold AT
 simp only [Bool.false_eq_true, if_false]
 rw [CF (n := w.sp.lo - w.now) (by omega) (by omega), CF (n := w.sp.hi - w.now) (by omega) (by omega)]
theorem OT {B : Int} {w : Way} (h : Small B w) (hB : B <= 3000000000) : AT w true = if w.sp.hi < w.now then (-1, w.now - w.sp.hi) else if w.sp.lo < w.now then (0, w.now - w.sp.lo) else (1, 10000000000) := by
 have h1 := h.now
 have h2 := h.sp
 unfold AT
 simp only [if_true]
 rw [CF (n := -w.now) (by omega) (by omega), CF (n := -w.sp.hi) (by omega) (by omega), CF (n := -w.sp.lo) (by omega) (by omega)]
 rw [CF (n := -w.sp.hi - -w.now) (by omega) (by omega), CF (n := -w.sp.lo - -w.now) (by omega) (by omega)]
 by_cases a : w.sp.hi < w.now
 ·rw [if_pos a, if_pos (by omega)]; congr 1; omega
 ·rw [if_neg a, if_neg (by omega)]
  by_cases b : w.sp.lo < w.now
  ·rw [if_pos b, if_pos (by omega)]; congr 1; omega
  ·rw [if_neg b, if_neg (by omega)]
def Ew (w : Way) (r : Int) : Prop := r = 0 /\ w.sp.lo <= w.now /\ w.now <= w.sp.hi ∨ r = 1 /\ w.sp.hi <= w.now ∨ r = -1 /\ w.now <= w.sp.lo
theorem Cd {B : Int} {w : Way} (h : Small B w) (hB : B <= 3000000000) (r : Int) : Ew w r ↔ r <= (AT w false).1 /\ -r <= (AT w true).1 := by
 have h1 := h.now
 have h2 := h.sp
 rw [RG h hB, OT h hB]
 unfold Ew
 by_cases a : w.now < w.sp.lo <;> by_cases b : w.now < w.sp.hi <;> by_cases e : w.sp.hi < w.now <;> by_cases f : w.sp.lo < w.now <;> simp only [a, b, e, f, if_true, if_false] <;> omega
theorem Be {B : Int} {w : Way} (h : Small B w) (hB : B <= 3000000000) (b : Bool) : 1 <= (AT w b).2 := by
 cases b
 ·rw [RG h hB]
  by_cases a : w.now < w.sp.lo <;> by_cases b : w.now < w.sp.hi <;> simp only [a, b, if_true, if_false] <;> omega
 ·rw [OT h hB]
  by_cases a : w.sp.hi < w.now <;> by_cases b : w.sp.lo < w.now <;> simp only [a, b, if_true, if_false] <;> omega
def GH (q : Int) (b : Bool) (w : Way) : Way := { w with now := if b then w.now - q else w.now + q }
theorem Ti {B : Int} {w : Way} (h : Small B w) (hB : B <= 3000000000) {q : Int} {b : Bool} (h0 : 0 <= q) (hq : q <= (AT w b).2) : Ew (GH q b w) (if b then -(AT w b).1 else (AT w b).1) := by
 have h1 := h.now
 have h2 := h.sp
 cases b
 ·have e := RG h hB
  rw [if_neg (by decide)]
  by_cases a : w.now < w.sp.lo
  ·rw [if_pos a] at e; rw [e] at hq ⊢; simp only at hq
   right; right; exact ⟨rfl, by simp only [GH, Bool.false_eq_true, if_false]; omega⟩
  ·rw [if_neg a] at e
   by_cases b : w.now < w.sp.hi
   ·rw [if_pos b] at e; rw [e] at hq ⊢; simp only at hq
    left; refine ⟨rfl, ?_, ?_⟩ <;> simp only [GH, Bool.false_eq_true, if_false] <;> omega
   ·rw [if_neg b] at e; rw [e]
    right; left; exact ⟨rfl, by simp only [GH, Bool.false_eq_true, if_false]; omega⟩
 ·have e := OT h hB
  rw [if_pos rfl]
  by_cases a : w.sp.hi < w.now
  ·rw [if_pos a] at e; rw [e] at hq ⊢; simp only at hq
   right; left; exact ⟨rfl, by simp only [GH, if_true]; omega⟩
  ·rw [if_neg a] at e
   by_cases b : w.sp.lo < w.now
   ·rw [if_pos b] at e; rw [e] at hq ⊢; simp only at hq
    left; refine ⟨rfl, ?_, ?_⟩ <;> simp only [GH, if_true] <;> omega
   ·rw [if_neg b] at e; rw [e]
    right; right; exact ⟨rfl, by simp only [GH, if_true]; omega⟩
theorem Gw {B : Int} {w : Way} (h : Small B w) (hB : B <= 3000000000) {q : Int} {b : Bool} (h0 : 0 <= q) (hq : q <= (AT w b).2) (hf : (AT w b).1 <= 0) (hin : w.sp.lo <= w.now /\ w.now <= w.sp.hi) : (GH q b w).sp.lo <= (GH q b w).now /\ (GH q b w).now <= (GH q b w).sp.hi := by
 cases b
 ·rw [RG h hB] at *
  unfold GH
  by_cases a : w.now < w.sp.lo <;> by_cases b : w.now < w.sp.hi <;> simp only [a, b, if_true, if_false, Bool.false_eq_true] at hq hf ⊢ <;> omega
 ·rw [OT h hB] at *
  unfold GH
  by_cases a : w.sp.hi < w.now <;> by_cases b : w.sp.lo < w.now <;> simp only [a, b, if_true, if_false] at hq hf ⊢ <;> omega
theorem PP : ∀ (l : List Step) (a : Int), DR d a l <= a /\ ∀ s ∈ l, DR d a l <= (AT (BX d.all s.way) s.back).2
 | [], a => ⟨Int.le_refl _, λ s hs => (by cases hs)⟩
 | s :: l, a => by
  simp only [DR]
  obtain ⟨h1, h2⟩ := PP l (min a (AT (BX d.all s.way) s.back).2)
  refine ⟨by omega, λ t ht => ?_⟩
  rcases List.mem_cons.1 ht with rfl | ht
  ·omega
  ·exact h2 t ht
theorem OD : ∀ (l : List Step) (a : Int), 1 <= a -> (∀ s ∈ l, 1 <= (AT (BX d.all s.way) s.back).2) -> 1 <= DR d a l
 | [], a, h, _ => h
 | s :: l, a, h, hl => by
  simp only [DR]
  have := hl s (by simp)
  exact OD l _ (by omega) λ t ht => hl t (by simp [ht])
theorem MF (q : Int) (l : List Way) (s : Step) : (DZ q l s).length = l.length := by simp [DZ]
theorem BQ (q : Int) : ∀ (l : List Step) (all : List Way), (AM q all l).length = all.length
 | [], _ => rfl
 | s :: l, all => by simp only [AM]; rw [BQ q l, MF]
theorem Kq {q : Int} {all : List Way} {s : Step} (h : 0 <= s.way /\ s.way < all.length) {B : Int} (hB : B <= 1000000000000) (hq : 0 <= q /\ q <= B) (hs : ∀ i, i < all.length -> -B <= (gD all i).now /\ (gD all i).now <= B) (i : Nat) : gD (DZ q all s) i = if i = s.way.toNat then GH q s.back (gD all i) else gD all i := by
 have hk : s.way.toNat < all.length := by omega
 unfold DZ
 rw [BB hk]
 by_cases he : i = s.way.toNat
 ·subst he
  have := hs _ hk
  rw [if_pos rfl, if_pos rfl]
  unfold GH
  rw [CF (n := (gD all s.way.toNat).now - q) (by omega) (by omega), CF (n := (gD all s.way.toNat).now + q) (by omega) (by omega)]
 ·rw [if_neg he, if_neg he]
theorem QA {q B : Int} (hB : B <= 3000000000) (hq : 0 <= q /\ q <= B) : ∀ (l : List Step) (all : List Way), (l.map λ s => s.way).Nodup -> (∀ s ∈ l, 0 <= s.way /\ s.way < all.length) -> (∀ i, i < all.length -> -(2 * B) <= (gD all i).now /\ (gD all i).now <= 2 * B) ->
  (∀ i : Nat, (∃ s ∈ l, s.way = i) -> -B <= (gD all i).now /\ (gD all i).now <= B) ->
  ∀ i, i < all.length -> (∃ s ∈ l, s.way = i /\ gD (AM q all l) i = GH q s.back (gD all i)) ∨ ((∀ s ∈ l, s.way ≠ i) /\ gD (AM q all l) i = gD all i)
 | [], all, _, _, _, _, i, hi => .inr ⟨λ s hs => (by cases hs), rfl⟩
 | s :: l, all, hn, hw, hs, hs2, i, hi => by
  rw [List.map_cons, List.nodup_cons] at hn
  have hws := hw s (by simp)
  have e := λ i => Kq (q := q) hws (B := 2 * B) (by omega) (by omega) hs i
  simp only [AM]
  have hh := hs2 s.way.toNat ⟨s, by simp, by omega⟩
  have := QA hB hq l (DZ q all s) hn.2 (λ t ht => by rw [MF]; exact hw t (by simp [ht])) (λ i hi => by
   rw [MF] at hi
   rw [e]
   split
   ·rename_i he; subst he
    unfold GH; cases s.back <;> simp <;> omega
   ·exact hs i hi) (λ i hi => by
   obtain ⟨t, ht, hte⟩ := hi
   rw [e, if_neg]
   ·exact hs2 i ⟨t, by simp [ht], hte⟩
   ·intro he
    refine hn.1 (List.mem_map.2 ⟨t, ht, ?_⟩)
    show t.way = s.way
    omega) i (by rw [MF]; exact hi)
  rcases this with ⟨t, h1, h2, h3⟩ | ⟨h1, h2⟩
  ·refine .inl ⟨t, by simp [h1], h2, ?_⟩
   rw [h3, e, if_neg]
   intro he
   refine hn.1 (List.mem_map.2 ⟨t, h1, ?_⟩)
   show t.way = s.way
   omega
  ·by_cases he : i = s.way.toNat
   ·refine .inl ⟨s, by simp, by omega, ?_⟩
    rw [h2, e, if_pos he]
   ·refine .inr ⟨λ t ht => ?_, by rw [h2, e, if_neg he]⟩
    rcases List.mem_cons.1 ht with rfl | ht
    ·omega
    ·exact h1 t ht
def LU (v : Int) (w : Way) : Int := (if w.to = v then w.now else 0) - (if w.fr = v then w.now else 0)
def EF (v : Int) : List Way -> Int
 | [] => 0
 | w :: l => LU v w + EF v l
theorem KM (v : Int) (f : Way -> Way) (k : Int) : ∀ (l : List Way) (i : Nat), i < l.length -> LU v (f (gD l i)) = LU v (gD l i) + k -> EF v (l.modify i f) = EF v l + k
 | [], i, h, _ => by simp at h
 | w :: l, 0, _, hf => by
  have : gD (w :: l) 0 = w := rfl
  rw [this] at hf
  simp [EF, hf]; omega
 | w :: l, i + 1, h, hf => by
  have : gD (w :: l) (i + 1) = gD l i := rfl
  rw [this] at hf
  simp only [List.modify_succ_cons, EF, KM v f k l i (by simpa using h) hf]; omega
def ind (v u : Int) (q : Int) : Int := if u = v then q else 0
theorem Sx {q : Int} {all : List Way} {s : Step} (h : 0 <= s.way /\ s.way < all.length) {B : Int} (hB : B <= 1000000000000) (hq : 0 <= q /\ q <= B) (hs : -B <= (gD all s.way.toNat).now /\ (gD all s.way.toNat).now <= B) (v : Int) :
  EF v (DZ q all s) = EF v all + ind v (if s.back then (gD all s.way.toNat).fr else (gD all s.way.toNat).to) q - ind v (if s.back then (gD all s.way.toNat).to else (gD all s.way.toNat).fr) q := by
 unfold DZ
 rw [KM v _ (ind v (if s.back then (gD all s.way.toNat).fr else (gD all s.way.toNat).to) q - ind v (if s.back then (gD all s.way.toNat).to else (gD all s.way.toNat).fr) q) all s.way.toNat (by omega)]
 ·omega
 ·rw [CF (n := (gD all s.way.toNat).now - q) (by omega) (by omega), CF (n := (gD all s.way.toNat).now + q) (by omega) (by omega)]
  unfold LU ind
  cases s.back
  ·by_cases h1 : (gD all s.way.toNat).fr = v <;> by_cases h2 : (gD all s.way.toNat).to = v <;> simp [h1, h2] <;> omega
  ·by_cases h1 : (gD all s.way.toNat).fr = v <;> by_cases h2 : (gD all s.way.toNat).to = v <;> simp [h1, h2] <;> omega
end Go.Bal
