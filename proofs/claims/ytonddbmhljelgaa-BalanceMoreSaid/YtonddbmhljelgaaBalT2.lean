/- Package balance: what is moved on the way by which a place was reached. -/
import Derived.Test.YtonddbmhljelgaaBalT1
set_option linter.unusedVariables false
set_option linter.unusedSimpArgs false
namespace Go.Bal
open Go
def Tr (d : Desk) (c : Step -> Bool) (fr : Int) : Int -> List Step -> Prop
 | v, [] => v = fr
 | v, s :: l => Mg d c s /\ DB d s = v /\ Tr d c fr (FM d s) l
variable {d : Desk} {c : Step -> Bool} {fr : Int}
def Wa (d : Desk) (c : Step -> Bool) (fr : Int) (s : Step) : Prop := Mg d c s /\ ∃ a m, Least d c fr (FM d s) a m /\ Least d c fr (DB d s) (a + CL d s) (m + 1)
theorem Pk (d : Desk) (s : Step) : FM d ⟨s.way, !s.back⟩ = DB d s := by simp [FM]
theorem Ap {m : Map} (ha : IC d c fr m) : ∀ (k : Nat) (v : Int) (a : Int) (q : Nat), Least d c fr v a q -> q < k -> ∃ l, EK d m fr k v = some l /\ Tr d c fr v l /\ (∀ s ∈ l, Wa d c fr s /\ ∃ b j, j <= q /\ Least d c fr (DB d s) b j) /\ (l.map λ s => s.way).Nodup
 | 0, v, a, q, _, h => by omega
 | k + 1, v, a, q, hl, hq => by
  simp only [EK]
  by_cases hv : v = fr
  ·rw [if_pos hv]
   exact ⟨[], rfl, hv, λ s hs => (by cases hs), List.nodup_nil⟩
  ·rw [if_neg hv]
   have hsome := ha.2 _ _ _ hl.1
   obtain ⟨f, hf⟩ := Option.isSome_iff_exists.1 hsome
   have hfar : m.far v = f := by simp [Map.far, hf]
   rw [hfar]
   obtain ⟨hlab, k2, hk2, hl2⟩ := ha.1 v f hf
   obtain ⟨ea, eq⟩ := hl.uniq hl2
   subst eq
   rcases hlab with ⟨h, _⟩ | ⟨b, j, hw, hc, ht, hcost, hmany⟩
   ·exact absurd h hv
   have hqj : q = j + 1 := by omega
   subst hqj
   have hls : Least d c fr (FM d f.by') b j := ⟨hw, λ b' i hi => by
    have := hl.2 _ _ (ht ▸ Walk.step f.by' hi hc)
    omega⟩
   have hlt : Least d c fr (DB d f.by') (b + CL d f.by') (j + 1) := by rw [ht, <- hcost, <- ea]; exact hl
   obtain ⟨l, e1, e2, e3, e4⟩ := Ap ha k (FM d f.by') b j hls (by omega)
   have e1' : EK d m fr k (DB d ⟨f.by'.way, !f.by'.back⟩) = some l := e1
   rw [e1']
   refine ⟨f.by' :: l, rfl, ⟨hc, ht, e2⟩, λ s hs => ?_, ?_⟩
   ·rcases List.mem_cons.1 hs with rfl | hs
    ·exact ⟨⟨hc, b, j, hls, hlt⟩, _, _, Nat.le_refl _, hlt⟩
    ·obtain ⟨h1, b', i, h2, h3⟩ := e3 s hs
     exact ⟨h1, b', i, by omega, h3⟩
   ·rw [List.map_cons, List.nodup_cons]
    refine ⟨λ hm => ?_, e4⟩
    obtain ⟨s, hs, he⟩ := List.mem_map.1 hm
    obtain ⟨⟨_, b2, j2, t1, t2⟩, b', i, h2, h3⟩ := e3 s hs
    have hu := t2.uniq h3
    by_cases hb : s.back = f.by'.back
    ·have hse : s = f.by' := by cases s; cases hh : f.by'; simp_all
     rw [hse] at h3
     have := h3.uniq hlt
     omega
    ·have hse : s = ⟨f.by'.way, !f.by'.back⟩ := by
      cases s; cases hh : f.by'; rename_i x y z w; simp only [hh] at he hb ⊢
      subst he; cases y <;> cases w <;> simp_all
     have h4 : FM d s = DB d f.by' := by rw [hse]; exact Pk d _
     rw [h4] at t1
     have := t1.uniq hlt
     omega
structure Small (B : Int) (w : Way) : Prop where
 now : -B <= w.now /\ w.now <= B
 sp : -100000000 <= w.sp.lo /\ w.sp.lo <= w.sp.hi /\ w.sp.hi <= 100000000
theorem PU {B : Int} {w : Way} (h : Small B w) (hB : B <= 3000000000) : AV w false = if w.now < w.sp.lo then (-1, w.sp.lo - w.now) else if w.now < w.sp.hi then (0, w.sp.hi - w.now) else (1, 10000000000) := by
 have h1 := h.now
 have h2 := h.sp
 unfold AV
 simp only [Bool.false_eq_true, if_false]
 rw [DR (n := w.sp.lo - w.now) (by omega) (by omega), DR (n := w.sp.hi - w.now) (by omega) (by omega)]
theorem MZ {B : Int} {w : Way} (h : Small B w) (hB : B <= 3000000000) : AV w true = if w.sp.hi < w.now then (-1, w.now - w.sp.hi) else if w.sp.lo < w.now then (0, w.now - w.sp.lo) else (1, 10000000000) := by
 have h1 := h.now
 have h2 := h.sp
 unfold AV
 simp only [if_true]
 rw [DR (n := -w.now) (by omega) (by omega), DR (n := -w.sp.hi) (by omega) (by omega), DR (n := -w.sp.lo) (by omega) (by omega)]
 rw [DR (n := -w.sp.hi - -w.now) (by omega) (by omega), DR (n := -w.sp.lo - -w.now) (by omega) (by omega)]
 by_cases a : w.sp.hi < w.now
 ·rw [if_pos a, if_pos (by omega)]; congr 1; omega
 ·rw [if_neg a, if_neg (by omega)]
  by_cases b : w.sp.lo < w.now
  ·rw [if_pos b, if_pos (by omega)]; congr 1; omega
  ·rw [if_neg b, if_neg (by omega)]
def Iw (w : Way) (r : Int) : Prop := r = 0 /\ w.sp.lo <= w.now /\ w.now <= w.sp.hi ∨ r = 1 /\ w.sp.hi <= w.now ∨ r = -1 /\ w.now <= w.sp.lo
theorem Gm {B : Int} {w : Way} (h : Small B w) (hB : B <= 3000000000) (r : Int) : Iw w r ↔ r <= (AV w false).1 /\ -r <= (AV w true).1 := by
 have h1 := h.now
 have h2 := h.sp
 rw [PU h hB, MZ h hB]
 unfold Iw
 by_cases a : w.now < w.sp.lo <;> by_cases b : w.now < w.sp.hi <;> by_cases e : w.sp.hi < w.now <;> by_cases f : w.sp.lo < w.now <;> simp only [a, b, e, f, if_true, if_false] <;> omega
theorem ZG {B : Int} {w : Way} (h : Small B w) (hB : B <= 3000000000) (b : Bool) : 1 <= (AV w b).2 := by
 cases b
 ·rw [PU h hB]
  by_cases a : w.now < w.sp.lo <;> by_cases b : w.now < w.sp.hi <;> simp only [a, b, if_true, if_false] <;> omega
 ·rw [MZ h hB]
  by_cases a : w.sp.hi < w.now <;> by_cases b : w.sp.lo < w.now <;> simp only [a, b, if_true, if_false] <;> omega
def FS (q : Int) (b : Bool) (w : Way) : Way := { w with now := if b then w.now - q else w.now + q }
theorem Mj {B : Int} {w : Way} (h : Small B w) (hB : B <= 3000000000) {q : Int} {b : Bool} (h0 : 0 <= q) (hq : q <= (AV w b).2) : Iw (FS q b w) (if b then -(AV w b).1 else (AV w b).1) := by
 have h1 := h.now
 have h2 := h.sp
 cases b
 ·have e := PU h hB
  rw [if_neg (by decide)]
  by_cases a : w.now < w.sp.lo
  ·rw [if_pos a] at e; rw [e] at hq ⊢; simp only at hq
   right; right; exact ⟨rfl, by simp only [FS, Bool.false_eq_true, if_false]; omega⟩
  ·rw [if_neg a] at e
   by_cases b : w.now < w.sp.hi
   ·rw [if_pos b] at e; rw [e] at hq ⊢; simp only at hq
    left; refine ⟨rfl, ?_, ?_⟩ <;> simp only [FS, Bool.false_eq_true, if_false] <;> omega
   ·rw [if_neg b] at e; rw [e]
    right; left; exact ⟨rfl, by simp only [FS, Bool.false_eq_true, if_false]; omega⟩
 ·have e := MZ h hB
  rw [if_pos rfl]
  by_cases a : w.sp.hi < w.now
  ·rw [if_pos a] at e; rw [e] at hq ⊢; simp only at hq
   right; left; exact ⟨rfl, by simp only [FS, if_true]; omega⟩
  ·rw [if_neg a] at e
   by_cases b : w.sp.lo < w.now
   ·rw [if_pos b] at e; rw [e] at hq ⊢; simp only at hq
    left; refine ⟨rfl, ?_, ?_⟩ <;> simp only [FS, if_true] <;> omega
   ·rw [if_neg b] at e; rw [e]
    right; right; exact ⟨rfl, by simp only [FS, if_true]; omega⟩
theorem Cx {B : Int} {w : Way} (h : Small B w) (hB : B <= 3000000000) {q : Int} {b : Bool} (h0 : 0 <= q) (hq : q <= (AV w b).2) (hf : (AV w b).1 <= 0) (hin : w.sp.lo <= w.now /\ w.now <= w.sp.hi) : (FS q b w).sp.lo <= (FS q b w).now /\ (FS q b w).now <= (FS q b w).sp.hi := by
 cases b
 ·rw [PU h hB] at *
  unfold FS
  by_cases a : w.now < w.sp.lo <;> by_cases b : w.now < w.sp.hi <;> simp only [a, b, if_true, if_false, Bool.false_eq_true] at hq hf ⊢ <;> omega
 ·rw [MZ h hB] at *
  unfold FS
  by_cases a : w.sp.hi < w.now <;> by_cases b : w.sp.lo < w.now <;> simp only [a, b, if_true, if_false] at hq hf ⊢ <;> omega
theorem NG : ∀ (l : List Step) (a : Int), CY d a l <= a /\ ∀ s ∈ l, CY d a l <= (AV (BW d.all s.way) s.back).2
 | [], a => ⟨Int.le_refl _, λ s hs => (by cases hs)⟩
 | s :: l, a => by
  simp only [CY]
  obtain ⟨h1, h2⟩ := NG l (min a (AV (BW d.all s.way) s.back).2)
  refine ⟨by omega, λ t ht => ?_⟩
  rcases List.mem_cons.1 ht with rfl | ht
  ·omega
  ·exact h2 t ht
theorem LV : ∀ (l : List Step) (a : Int), 1 <= a -> (∀ s ∈ l, 1 <= (AV (BW d.all s.way) s.back).2) -> 1 <= CY d a l
 | [], a, h, _ => h
 | s :: l, a, h, hl => by
  simp only [CY]
  have := hl s (by simp)
  exact LV l _ (by omega) λ t ht => hl t (by simp [ht])
theorem KC (q : Int) (l : List Way) (s : Step) : (DH q l s).length = l.length := by simp [DH]
theorem BJ (q : Int) : ∀ (l : List Step) (all : List Way), (AI q all l).length = all.length
 | [], _ => rfl
 | s :: l, all => by simp only [AI]; rw [BJ q l, KC]
theorem Gn {q : Int} {all : List Way} {s : Step} (h : 0 <= s.way /\ s.way < all.length) {B : Int} (hB : B <= 1000000000000) (hq : 0 <= q /\ q <= B) (hs : ∀ i, i < all.length -> -B <= (gD all i).now /\ (gD all i).now <= B) (i : Nat) : gD (DH q all s) i = if i = s.way.toNat then FS q s.back (gD all i) else gD all i := by
 have hk : s.way.toNat < all.length := by omega
 unfold DH
 rw [BR hk]
 by_cases he : i = s.way.toNat
 ·subst he
  have := hs _ hk
  rw [if_pos rfl, if_pos rfl]
  unfold FS
  rw [DR (n := (gD all s.way.toNat).now - q) (by omega) (by omega), DR (n := (gD all s.way.toNat).now + q) (by omega) (by omega)]
 ·rw [if_neg he, if_neg he]
theorem NM {q B : Int} (hB : B <= 3000000000) (hq : 0 <= q /\ q <= B) : ∀ (l : List Step) (all : List Way), (l.map λ s => s.way).Nodup -> (∀ s ∈ l, 0 <= s.way /\ s.way < all.length) -> (∀ i, i < all.length -> -(2 * B) <= (gD all i).now /\ (gD all i).now <= 2 * B) ->
  (∀ i : Nat, (∃ s ∈ l, s.way = i) -> -B <= (gD all i).now /\ (gD all i).now <= B) ->
  ∀ i, i < all.length -> (∃ s ∈ l, s.way = i /\ gD (AI q all l) i = FS q s.back (gD all i)) ∨ ((∀ s ∈ l, s.way ≠ i) /\ gD (AI q all l) i = gD all i)
 | [], all, _, _, _, _, i, hi => .inr ⟨λ s hs => (by cases hs), rfl⟩
 | s :: l, all, hn, hw, hs, hs2, i, hi => by
  rw [List.map_cons, List.nodup_cons] at hn
  have hws := hw s (by simp)
  have e := λ i => Gn (q := q) hws (B := 2 * B) (by omega) (by omega) hs i
  simp only [AI]
  have hh := hs2 s.way.toNat ⟨s, by simp, by omega⟩
  have := NM hB hq l (DH q all s) hn.2 (λ t ht => by rw [KC]; exact hw t (by simp [ht])) (λ i hi => by
   rw [KC] at hi
   rw [e]
   split
   ·rename_i he; subst he
    unfold FS; cases s.back <;> simp <;> omega
   ·exact hs i hi) (λ i hi => by
   obtain ⟨t, ht, hte⟩ := hi
   rw [e, if_neg]
   ·exact hs2 i ⟨t, by simp [ht], hte⟩
   ·intro he
    refine hn.1 (List.mem_map.2 ⟨t, ht, ?_⟩)
    show t.way = s.way
    omega) i (by rw [KC]; exact hi)
  rcases this with ⟨t, h1, h2, h3⟩ | ⟨h1, h2⟩
  ·refine .inl ⟨t, by simp [h1], h2, ?_⟩
   rw [h3, e, if_neg]
   intro he
   refine hn.1 (List.mem_map.2 ⟨t, h1, ?_⟩)
   show t.way = s.way
   omega
  ·by_cases he : i = s.way.toNat
   ·refine .inl ⟨s, by simp, by omega, ?_⟩
    rw [h2, e, if_pos he]
   ·refine .inr ⟨λ t ht => ?_, by rw [h2, e, if_neg he]⟩
    rcases List.mem_cons.1 ht with rfl | ht
    ·omega
    ·exact h1 t ht
def MF (v : Int) (w : Way) : Int := (if w.to = v then w.now else 0) - (if w.fr = v then w.now else 0)
def EU (v : Int) : List Way -> Int
 | [] => 0
 | w :: l => MF v w + EU v l
theorem QH (v : Int) (f : Way -> Way) (k : Int) : ∀ (l : List Way) (i : Nat), i < l.length -> MF v (f (gD l i)) = MF v (gD l i) + k -> EU v (l.modify i f) = EU v l + k
 | [], i, h, _ => by simp at h
 | w :: l, 0, _, hf => by
  have : gD (w :: l) 0 = w := rfl
  rw [this] at hf
  simp [EU, hf]; omega
 | w :: l, i + 1, h, hf => by
  have : gD (w :: l) (i + 1) = gD l i := rfl
  rw [this] at hf
  simp only [List.modify_succ_cons, EU, QH v f k l i (by simpa using h) hf]; omega
def ind (v u : Int) (q : Int) : Int := if u = v then q else 0
theorem Me {q : Int} {all : List Way} {s : Step} (h : 0 <= s.way /\ s.way < all.length) {B : Int} (hB : B <= 1000000000000) (hq : 0 <= q /\ q <= B) (hs : -B <= (gD all s.way.toNat).now /\ (gD all s.way.toNat).now <= B) (v : Int) :
  EU v (DH q all s) = EU v all + ind v (if s.back then (gD all s.way.toNat).fr else (gD all s.way.toNat).to) q - ind v (if s.back then (gD all s.way.toNat).to else (gD all s.way.toNat).fr) q := by
 unfold DH
 rw [QH v _ (ind v (if s.back then (gD all s.way.toNat).fr else (gD all s.way.toNat).to) q - ind v (if s.back then (gD all s.way.toNat).to else (gD all s.way.toNat).fr) q) all s.way.toNat (by omega)]
 ·omega
 ·rw [DR (n := (gD all s.way.toNat).now - q) (by omega) (by omega), DR (n := (gD all s.way.toNat).now + q) (by omega) (by omega)]
  unfold MF ind
  cases s.back
  ·by_cases h1 : (gD all s.way.toNat).fr = v <;> by_cases h2 : (gD all s.way.toNat).to = v <;> simp [h1, h2] <;> omega
  ·by_cases h1 : (gD all s.way.toNat).fr = v <;> by_cases h2 : (gD all s.way.toNat).to = v <;> simp [h1, h2] <;> omega
end Go.Bal
