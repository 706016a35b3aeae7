/- Package balance: what is shifted: as much as there may be. -/
import Derived.Test.YtonddbmhljelgaaBalT6
set_option linter.unusedVariables false
set_option linter.unusedSimpArgs false
namespace Go.Bal
open Go
variable {d : Desk}
structure InS (d : Desk) : Prop where
 ok : d.ok
 sp : ∀ i, i < d.all.length -> -100000000 <= (gD d.all i).sp.lo /\ (gD d.all i).sp.lo <= (gD d.all i).sp.hi /\ (gD d.all i).sp.hi <= 100000000
 now : ∀ i, i < d.all.length -> (gD d.all i).sp.lo <= (gD d.all i).now /\ (gD d.all i).now <= (gD d.all i).sp.hi
 zero : ∀ v : Nat, v < 10 -> EF v d.all = 0
theorem InS.small (h : InS d) {i : Nat} (hi : i < d.all.length) : Small 3000000000 (gD d.all i) := by
 have := h.now i hi
 have := h.sp i hi
 exact ⟨by omega, h.sp i hi⟩
theorem Cs {at' : Int} {s : Step} (h : BV d at' s = true) : CR d s = 0 /\ s.way ≠ at' := by
 unfold BV at h
 simp only [Bool.and_eq_true, decide_eq_true_eq] at h
 refine ⟨h.1.1, λ he => ?_⟩
 obtain ⟨w, b⟩ := s
 simp only at he
 subst he
 cases b
 ·exact h.2 rfl
 ·exact h.1.2 rfl
theorem Ud (at' : Int) : Pot d (BV d at') (λ _ => 0) := λ s hs => by
 have := (Cs hs.2).1
 show (0 : Int) <= 0 + CR d s
 omega
def Pt (d : Desk) (at' : Int) (up : Bool) : Prop := 0 < (AT (BX d.all at') (!up)).1 ∨
 ∃ S : Int -> Prop, S (DU d ⟨at', !up⟩) /\ ¬ S (DU d ⟨at', up⟩) /\ ∀ s, Ph d (BV d at') s -> S (GF d s) -> S (DU d s)
theorem Ma (h : InS d) {at' : Int} (ha : 0 <= at' /\ at' < d.all.length) {up : Bool} {rf : RT} (hrf : EP d (BV d at') (DU d ⟨at', !up⟩) = some rf) (hal : IY d (BV d at') (DU d ⟨at', !up⟩) rf.m)
  (hto : (rf.m.at (DU d ⟨at', up⟩)).isSome = true) (hp : ¬ 0 < (AT (BX d.all at') (!up)).1) {rest : Int} (hrest : 1 <= rest /\ rest <= 1000000000) :
  ∃ d1 n, LJ d (DU d ⟨at', !up⟩) (DU d ⟨at', up⟩) rf.m (min (AT (BX d.all at') (!up)).2 rest) = some (d1, n) /\ 1 <= n /\ n <= rest /\
   InS ⟨BH d1.all at' up n, d1.out, d1.nR⟩ /\ Alike d ⟨BH d1.all at' up n, d1.out, d1.nR⟩ /\ (gD (BH d1.all at' up n) at'.toNat).now = (gD d.all at'.toNat).now + if up then n else -n := by
 have hlen := h.ok.len
 have hout := h.ok.out
 have hbd : ∀ i, i < d.all.length -> -3000000000 <= (gD d.all i).now /\ (gD d.all i).now <= 3000000000 := λ i hi => (h.small hi).now
 have hk : at'.toNat < d.all.length := by omega
 have hgw : BX d.all at' = gD d.all at'.toNat := rfl
 obtain ⟨f, hf⟩ := Option.isSome_iff_exists.1 hto
 obtain ⟨_, q, _, hlq⟩ := hal.1 _ _ hf
 have hfrin : 0 <= DU d ⟨at', !up⟩ /\ DU d ⟨at', !up⟩ < d.out + 2 := UX h.ok ha
 have hq2 := hlq.many_lt h.ok hfrin
 have hfuel := Da
 obtain ⟨l, hl1, hl2, hl3, hl4⟩ := Cg hal fuel _ f.cost q hlq (by omega)
 have hrange : ∀ s ∈ l, 0 <= s.way /\ s.way < d.all.length := λ s hs => (hl3 s hs).1.1.1
 have hfree : ∀ s ∈ l, (AT (gD d.all s.way.toNat) s.back).1 = 0 /\ s.way ≠ at' := λ s hs => Cs (hl3 s hs).1.1.2
 have hlr : ∀ s ∈ l, 1 <= (AT (BX d.all s.way) s.back).2 := λ s hs => by
  have := hrange s hs
  exact Be (h.small (i := s.way.toNat) (by omega)) (by omega) _
 have hr1 : 1 <= (AT (BX d.all at') (!up)).2 := Be (h.small hk) (by omega) _
 obtain ⟨Q, hQ⟩ : ∃ Q, Q = DR d (min (AT (BX d.all at') (!up)).2 rest) l := ⟨_, rfl⟩
 have hQ1 : 1 <= Q := by rw [hQ]; exact OD l _ (by omega) hlr
 obtain ⟨hQ2, hQ3⟩ := PP (d := d) l (min (AT (BX d.all at') (!up)).2 rest)
 rw [<- hQ] at hQ2 hQ3
 have hll : l.length <= 1000 := by
  have := Dl d.all.length (l.map λ s => s.way) hl4 (λ x hx => by obtain ⟨s, hs, rfl⟩ := List.mem_map.1 hx; exact hrange s hs)
  rw [List.length_map] at this
  omega
 have hallb : (l.all λ s => decide (0 <= s.way) && decide (s.way < d.all.length)) = true := by
  rw [List.all_eq_true]
  intro s hs
  have := hrange s hs
  simp [this]
 have hQB : 0 <= Q /\ Q <= 3000000000 := by omega
 have hps := QA (q := Q) (B := 3000000000) (by omega) hQB l d.all hl4 hrange (λ i hi => by have := hbd i hi; omega) (λ i hi => by
  obtain ⟨s, hs, he⟩ := hi
  exact hbd i (by have := hrange s hs; omega))
 have hexc : ∀ v : Nat, EF v (AM Q d.all l) = EF v d.all + ind v (DU d ⟨at', up⟩) Q - ind v (DU d ⟨at', !up⟩) Q := λ v =>
  RQ (c := BV d at') (by omega) hQB v l _ d.all hl2 rfl hl4 (λ i hi => ⟨⟨rfl, rfl⟩, by have := hbd i hi; omega⟩) (λ i hi => by
   obtain ⟨s, hs, he⟩ := hi
   exact hbd i (by have := hrange s hs; omega))
 have hat : gD (AM Q d.all l) at'.toNat = gD d.all at'.toNat := by
  rcases hps at'.toNat hk with ⟨s, hs, hsi, _⟩ | ⟨_, e⟩
  ·exact absurd (by omega) (hfree s hs).2
  ·exact e
 have hadd : ∀ i, i < d.all.length -> gD (BH (AM Q d.all l) at' up Q) i = if i = at'.toNat then GH Q (!up) (gD d.all at'.toNat) else gD (AM Q d.all l) i := λ i hi => by
  unfold BH
  rw [BB (by rw [BQ]; exact hk)]
  by_cases he : i = at'.toNat
  ·rw [if_pos he, if_pos he, hat]
   have := hbd _ hk
   unfold GH
   cases up
   ·simp only [Bool.false_eq_true, if_false, Bool.not_false, if_true]
    rw [CF (by omega) (by omega)]
   ·simp only [Bool.false_eq_true, if_false, Bool.not_true, if_true]
    rw [CF (by omega) (by omega)]
  ·rw [if_neg he, if_neg he]
 have hin : ∀ i, i < d.all.length -> (∃ b, gD (BH (AM Q d.all l) at' up Q) i = GH Q b (gD d.all i) /\ (gD d.all i).sp.lo <= (GH Q b (gD d.all i)).now /\ (GH Q b (gD d.all i)).now <= (gD d.all i).sp.hi) ∨ gD (BH (AM Q d.all l) at' up Q) i = gD d.all i := λ i hi => by
  rw [hadd i hi]
  by_cases he : i = at'.toNat
  ·subst he
   rw [if_pos rfl]
   exact .inl ⟨_, rfl, Gw (h.small hk) (by omega) (by omega) (by rw [hgw] at hQ2; omega) (by rw [hgw] at hp; omega) (h.now _ hk)⟩
  ·rw [if_neg he]
   rcases hps i hi with ⟨s, hs, hsi, e⟩ | ⟨_, e⟩
   ·rw [e]
    have hsn : s.way.toNat = i := by omega
    have h1 := (hfree s hs).1
    have h2 := hQ3 s hs
    rw [hsn] at h1
    unfold BX at h2
    rw [hsn] at h2
    exact .inl ⟨_, rfl, Gw (h.small hi) (by omega) (by omega) h2 (by omega) (h.now _ hi)⟩
   ·exact .inr e
 have halike : Alike d ⟨BH (AM Q d.all l) at' up Q, d.out, d.nR⟩ := ⟨rfl, rfl, by show (BH _ _ _ _).length = _; unfold BH; rw [List.length_modify, BQ], λ i hi => by
  show (gD (BH (AM Q d.all l) at' up Q) i).fr = _ /\ (gD (BH (AM Q d.all l) at' up Q) i).to = _ /\ (gD (BH (AM Q d.all l) at' up Q) i).sp = _
  rcases hin i hi with ⟨b, e, _⟩ | e <;> rw [e]
  ·exact ⟨rfl, rfl, rfl⟩
  ·exact ⟨rfl, rfl, rfl⟩⟩
 refine ⟨⟨AM Q d.all l, d.out, d.nR⟩, Q, ?_, hQ1, by omega, ⟨h.ok.alike halike, λ i hi => ?_, λ i hi => ?_, λ v hv => ?_⟩, halike, ?_⟩
 ·unfold LJ
  rw [hl1]
  simp only [hallb, hll, decide_true, Bool.and_self, if_true, <- hQ]
 ·rw [halike.len] at hi
  rw [(halike.way i hi).2.2]; exact h.sp i hi
 ·rw [halike.len] at hi
  rw [(halike.way i hi).2.2]
  rcases hin i hi with ⟨b, e, e1⟩ | e
  ·show _ <= (gD (BH (AM Q d.all l) at' up Q) i).now /\ _
   rw [e]; exact e1
  ·show _ <= (gD (BH (AM Q d.all l) at' up Q) i).now /\ _
   rw [e]; exact h.now i hi
 ·show EF v (BH (AM Q d.all l) at' up Q) = 0
  unfold BH
  rw [KM v _ (ind v (DU d ⟨at', !up⟩) Q - ind v (DU d ⟨at', up⟩) Q) _ _ (by rw [BQ]; exact hk) ?_, hexc v, h.zero v hv]
  ·omega
  ·rw [hat]
   have := hbd _ hk
   rw [TY, TY]
   unfold LU ind
   cases up
   ·simp only [Bool.false_eq_true, if_false, Bool.not_false, if_true]
    rw [CF (by omega) (by omega)]
    by_cases h1 : (gD d.all at'.toNat).fr = v <;> by_cases h2 : (gD d.all at'.toNat).to = v <;> simp [h1, h2] <;> omega
   ·simp only [Bool.false_eq_true, if_false, Bool.not_true, if_true]
    rw [CF (by omega) (by omega)]
    by_cases h1 : (gD d.all at'.toNat).fr = v <;> by_cases h2 : (gD d.all at'.toNat).to = v <;> simp [h1, h2] <;> omega
 ·rw [hadd _ hk, if_pos rfl]
  unfold GH
  cases up
  ·simp only [Bool.false_eq_true, if_false, Bool.not_false, if_true]; omega
  ·simp only [Bool.false_eq_true, if_false, Bool.not_true, if_true]
end Go.Bal

namespace Go.Bal
open Go
variable {d : Desk}
theorem LZ {at' : Int} {up : Bool} {most : Int} (hm : most <= 1000000000) : ∀ (k : Nat) (d : Desk) (total : Int), InS d -> 0 <= at' /\ at' < d.all.length -> 0 <= total -> 0 < k /\ most - total < k ->
  ∃ d' t, JZ at' up most k d total = some (d', t) /\ InS d' /\ Alike d d' /\ total <= t /\ (t <= most ∨ t = total) /\ (gD d'.all at'.toNat).now = (gD d.all at'.toNat).now + (if up then t - total else -(t - total)) /\ (most <= t ∨ Pt d' at' up)
 | 0, d, total, h, ha, h0, hk => by omega
 | k + 1, d, total, h, ha, h0, hk => by
  simp only [JZ]
  by_cases hlt : total < most
  ·rw [if_pos hlt]
   have hfr : 0 <= DU d ⟨at', !up⟩ /\ DU d ⟨at', !up⟩ < d.out + 2 := UX h.ok ha
   obtain ⟨rf, h1, _, hal⟩ := SY (c := BV d at') (fr := DU d ⟨at', !up⟩) h.ok hfr (Ud at')
   rw [h1]
   simp only
   by_cases hst : ((rf.m.at (DU d ⟨at', up⟩)).isNone || decide (0 < (AT (BX d.all at') (!up)).1)) = true
   ·rw [if_pos (by simpa using hst)]
    refine ⟨d, total, rfl, h, Alike.refl d, Int.le_refl _, .inr rfl, by cases up <;> simp, .inr ?_⟩
    rw [Bool.or_eq_true, decide_eq_true_eq] at hst
    rcases hst with hst | hst
    ·refine .inr ⟨λ v => (rf.m.at v).isSome = true, hal.2 _ _ _ .nil, λ hh => ?_, λ s hs hsrc => ?_⟩
     ·rw [Option.isNone_iff_eq_none] at hst
      rw [hst] at hh; cases hh
     ·obtain ⟨g, hg⟩ := Option.isSome_iff_exists.1 hsrc
      obtain ⟨_, q, _, hq⟩ := hal.1 _ _ hg
      exact hal.2 _ _ _ (Walk.step s hq.1 hs)
    ·exact .inl hst
   ·rw [if_neg (by simpa using hst)]
    have hst : (rf.m.at (DU d ⟨at', up⟩)).isSome = true /\ ¬ 0 < (AT (BX d.all at') (!up)).1 := by
     simp only [Bool.or_eq_true, decide_eq_true_eq, not_or] at hst
     refine ⟨?_, hst.2⟩
     cases hx : rf.m.at (DU d ⟨at', up⟩) with
     | none => rw [hx] at hst; simp at hst
     | some _ => rfl
    have hwr : wr (most - total) = most - total := CF (by omega) (by omega)
    obtain ⟨d1, n, h2, h3, h4, h5, h6, h7⟩ := Ma h ha h1 hal hst.1 hst.2 (rest := most - total) (by omega)
    rw [hwr, h2]
    simp only
    rw [CF (n := total + n) (by omega) (by omega)]
    obtain ⟨d', t, g1, g2, g3, g4, g5, g6, g7⟩ := LZ hm k ⟨BH d1.all at' up n, d1.out, d1.nR⟩ (total + n) h5 (by rw [h6.len]; exact ha) (by omega) (by omega)
    refine ⟨d', t, g1, g2, h6.trans g3, by omega, .inl (by omega), ?_, g7⟩
    rw [g6]
    show (gD (BH d1.all at' up n) at'.toNat).now + _ = _
    rw [h7]
    cases up <;> simp only [Bool.false_eq_true, if_true, if_false] <;> omega
  ·rw [if_neg hlt]
   exact ⟨d, total, rfl, h, Alike.refl d, Int.le_refl _, .inr rfl, by cases up <;> simp, .inl (by omega)⟩
end Go.Bal

namespace Go.Bal
open Go
variable {d d' : Desk}
theorem OL (f : Nat -> Int) : ∀ n, BM (n + 1) f = f 0 + BM n λ i => f (i + 1)
 | 0 => by simp [BM]
 | n + 1 => by
  rw [BM, OL f n]
  simp only [BM]
  omega
theorem KT {α : Type} [Inhabited α] (f : α -> Int) : ∀ l : List α, EV f l = BM l.length λ i => f (gD l i)
 | [] => rfl
 | w :: l => by
  rw [List.length_cons, OL]
  simp only [EV]
  rw [KT f l]
  rfl
theorem InS.circ (h : InS d) (π : Int -> Int) : BM d.all.length (λ i => (π (gD d.all i).to - π (gD d.all i).fr) * (gD d.all i).now) = 0 := by
 have := YV π (l := d.all) (λ w hw => by
  obtain ⟨i, hi, rfl⟩ := II hw
  have := h.ok.ends i hi
  have := h.ok.out
  omega) h.zero
 rw [KT] at this
 exact this
theorem KJ {w : Way} (h : Small 3000000000 w) (hin : w.sp.lo <= w.now /\ w.now <= w.sp.hi) (hp : (AT w false).1 ≠ 0) : w.now = w.sp.hi := by
 rw [RG h (by omega)] at hp
 by_cases a : w.now < w.sp.lo
 ·omega
 ·rw [if_neg a] at hp
  by_cases e : w.now < w.sp.hi
  ·rw [if_pos e] at hp; simp at hp
  ·omega
theorem JL {w : Way} (h : Small 3000000000 w) (hin : w.sp.lo <= w.now /\ w.now <= w.sp.hi) (hp : (AT w true).1 ≠ 0) : w.now = w.sp.lo := by
 rw [OT h (by omega)] at hp
 by_cases a : w.sp.hi < w.now
 ·omega
 ·rw [if_neg a] at hp
  by_cases e : w.sp.lo < w.now
  ·rw [if_pos e] at hp; simp at hp
  ·omega
theorem Sd {f : Nat -> Int} {n k : Nat} (hk : k < n) (h : ∀ i, i < n -> i ≠ k -> 0 <= f i) (hz : BM n f = 0) : f k <= 0 := by
 have h1 : BM n (λ i => if i = k then f k else 0) <= BM n f := QI λ i hi => by
  by_cases he : i = k
  ·subst he; simp
  ·rw [if_neg he]; exact h i hi he
 rw [FS, if_pos hk, hz] at h1
 exact h1
theorem UO (h : InS d) (h' : InS d') (hl : Alike d d') {at' : Int} (ha : 0 <= at' /\ at' < d.all.length) {up : Bool} (hs : Pt d at' up) :
  if up then (gD d'.all at'.toNat).now <= (gD d.all at'.toNat).now else (gD d.all at'.toNat).now <= (gD d'.all at'.toNat).now := by
 have hk : at'.toNat < d.all.length := by omega
 have hsp := (hl.way at'.toNat hk).2.2
 have hn' := h'.now at'.toNat (by rw [hl.len]; exact hk)
 rw [hsp] at hn'
 rcases hs with hs | ⟨S, hS1, hS2, hS3⟩
 ·unfold BX at hs
  cases up
  ·have := JL (h.small hk) (h.now _ hk) (by simp only [Bool.not_false] at hs; omega)
   simp only [Bool.false_eq_true, if_false]; omega
  ·have := KJ (h.small hk) (h.now _ hk) (by simp only [Bool.not_true] at hs; omega)
   simp only [if_true]; omega
 ·classical
  obtain ⟨π, hπ⟩ : ∃ π : Int -> Int, π = λ v => if S v then 1 else 0 := ⟨_, rfl⟩
  have p1 : ∀ v, S v -> π v = 1 := λ v hv => by rw [hπ]; simp only; rw [if_pos hv]
  have p0 : ∀ v, ¬ S v -> π v = 0 := λ v hv => by rw [hπ]; simp only; rw [if_neg hv]
  have c1 := h.circ π
  have c2 := h'.circ π
  rw [hl.len, AX (g := λ i => (π (gD d.all i).to - π (gD d.all i).fr) * (gD d.all i).now + (π (gD d.all i).to - π (gD d.all i).fr) * ((gD d'.all i).now - (gD d.all i).now)) λ i hi => by
   obtain ⟨a, b, _⟩ := hl.way i hi
   rw [a, b, <- Int.mul_add]
   congr 1; omega, FL (λ i => (π (gD d.all i).to - π (gD d.all i).fr) * (gD d.all i).now), c1, Int.zero_add] at c2
  have key := Sd hk (λ i hi hne => by
   have hni := h'.now i (by rw [hl.len]; exact hi)
   rw [(hl.way i hi).2.2] at hni
   have hcnt : ∀ b : Bool, (AT (gD d.all i) b).1 = 0 -> Ph d (BV d at') ⟨(i : Int), b⟩ := λ b hb => by
    refine ⟨⟨by simp only; omega, by simp only; omega⟩, ?_⟩
    unfold BV BX
    have e : (i : Int).toNat = i := by omega
    simp only [e, hb, Bool.and_eq_true, decide_eq_true_eq]
    refine ⟨⟨trivial, λ he => ?_⟩, λ he => ?_⟩
    ·have : (i : Int) = at' := congrArg Step.way he
     omega
    ·have : (i : Int) = at' := congrArg Step.way he
     omega
   by_cases s1 : S (gD d.all i).to <;> by_cases s2 : S (gD d.all i).fr
   ·rw [p1 _ s1, p1 _ s2]; simp
   ·rw [p1 _ s1, p0 _ s2]
    have := JL (h.small hi) (h.now i hi) λ hb => s2 (hS3 _ (hcnt true hb) s1)
    omega
   ·rw [p0 _ s1, p1 _ s2]
    have := KJ (h.small hi) (h.now i hi) λ hb => s1 (hS3 _ (hcnt false hb) s2)
    omega
   ·rw [p0 _ s1, p0 _ s2]; simp) c2
  rw [TY] at hS1 hS2
  cases up
  ·simp only [Bool.not_false, if_true, Bool.false_eq_true, if_false] at hS1 hS2 ⊢
   rw [p1 _ hS1, p0 _ hS2] at key
   omega
  ·simp only [Bool.not_true, if_true, Bool.false_eq_true, if_false] at hS1 hS2 ⊢
   rw [p1 _ hS1, p0 _ hS2] at key
   omega
end Go.Bal

namespace Go.Bal
open Go
theorem GR {α : Type} {f : α -> Int} : ∀ {l : List α}, (∀ w ∈ l, 0 <= f w) -> 0 <= EV f l
 | [], _ => Int.le_refl _
 | w :: l, h => by
  simp only [EV]
  have h1 := GR (f := f) λ x hx => h x (List.mem_cons_of_mem w hx)
  have h2 := h w (by simp)
  omega
theorem XU {α : Type} {f : α -> Int} : ∀ {l : List α}, (∀ w ∈ l, 0 <= f w) -> EV f l = 0 -> ∀ w ∈ l, f w = 0
 | [], _, _, w, hw => by cases hw
 | x :: l, h, hz, w, hw => by
  simp only [EV] at hz
  have h1 := GR (f := f) λ y hy => h y (List.mem_cons_of_mem x hy)
  have h2 := h x (by simp)
  rcases List.mem_cons.1 hw with rfl | hw
  ·omega
  ·exact XU (λ y hy => h y (List.mem_cons_of_mem x hy)) (by omega) w hw
theorem WW {α : Type} {f : α -> Int} {K : Int} : ∀ {l : List α}, (∀ w ∈ l, f w <= K) -> EV f l <= K * l.length
 | [], _ => by simp [EV]
 | w :: l, h => by
  simp only [EV]
  have h1 := WW (f := f) (K := K) λ x hx => h x (List.mem_cons_of_mem w hx)
  have h2 := h w (by simp)
  rw [List.length_cons, Int.natCast_add, Int.mul_add]
  omega
theorem Br : ∀ (l : List Int) (a : Int), (∀ x ∈ l, 0 <= x) -> 0 <= a -> a + EV (λ x => x) l <= 9000000000000000000 -> EC a l = a + EV (λ x => x) l
 | [], a, _, _, _ => by simp [EC, EV]
 | x :: l, a, h, ha, hs => by
  have hx := h x (by simp)
  have hl := GR (f := λ x : Int => x) λ y hy => h y (List.mem_cons_of_mem x hy)
  simp only [EV] at hs
  simp only [EC, EV]
  rw [CF (by omega) (by omega), Br l (a + x) (λ y hy => h y (List.mem_cons_of_mem x hy)) (by omega) (by omega)]
  omega
theorem Uh {x : Int} {s : Span} (hx : -1000000000000000 <= x /\ x <= 1000000000000000) (hs : -100000000 <= s.lo /\ s.hi <= 100000000) (hs' : s.lo <= 100000000 /\ -100000000 <= s.hi) : QZ x s = LQ x s := by
 unfold QZ LQ
 rw [CF (n := s.lo - x) (by omega) (by omega), CF (n := x - s.hi) (by omega) (by omega)]
 omega
theorem UF (f : Nat -> Int) : ∀ n, EV (λ x => x) ((List.range n).map f) = BM n f
 | 0 => rfl
 | n + 1 => by
  rw [List.range_succ, List.map_append, RU, UF f n]
  simp [EV, BM]
theorem JS (f : Nat -> Int) (a : Nat) : ∀ b, BM (a + b) f = BM a f + BM b λ j => f (a + j)
 | 0 => by simp [BM]
 | b + 1 => by
  rw [show a + (b + 1) = a + b + 1 from rfl, BM, JS f a b, BM]
  omega
theorem EN {N : NetL} {d : Desk} (hl : Alike (AJ N) d) : d.all.length = N.r.length + N.g.length /\ (∀ i, i < N.r.length -> (gD d.all i).sp = (gD N.r i).sp /\ (gD d.all i).fr = (gD N.r i).fr /\ (gD d.all i).to = (gD N.r i).to) /\
  ∀ i, i < N.g.length -> (gD d.all (N.r.length + i)).sp = gD N.g i /\ (gD d.all (N.r.length + i)).fr = N.g.length /\ (gD d.all (N.r.length + i)).to = i := by
 have hlen := BJ N
 refine ⟨hl.len.trans hlen, λ i hi => ?_, λ i hi => ?_⟩
 ·obtain ⟨a, b, e⟩ := hl.way i (by omega)
  rw [a, b, e, DK, JB _ (by rw [EM]; omega), NO hi]
  exact ⟨rfl, rfl, rfl⟩
 ·obtain ⟨a, b, e⟩ := hl.way (N.r.length + i) (by omega)
  rw [a, b, e, DK, JB _ (by rw [EM]; omega), NS hi]
  exact ⟨rfl, rfl, rfl⟩
structure GoodW (N : NetL) : Prop where
 g1 : 1 <= N.g.length
 g8 : N.g.length <= 8
 r14 : N.r.length <= 14
 g : ∀ i, i < N.g.length -> (-100000000 <= (gD N.g i).lo /\ (gD N.g i).lo <= (gD N.g i).hi) /\ (gD N.g i).hi <= 100000000
 r : ∀ i, i < N.r.length -> ((-100000000 <= (gD N.r i).sp.lo /\ (gD N.r i).sp.lo <= (gD N.r i).sp.hi) /\ (gD N.r i).sp.hi <= 100000000) /\ (0 <= (gD N.r i).fr /\ (gD N.r i).fr < N.g.length) /\ (0 <= (gD N.r i).to /\ (gD N.r i).to < N.g.length) /\ (gD N.r i).fr ≠ (gD N.r i).to
theorem Good.w {N : NetL} (h : Good N) : GoodW N :=
 ⟨h.g1, h.g8, h.r14, λ i hi => by have := h.g i hi; omega, λ i hi => by obtain ⟨a, b⟩ := h.r i hi; exact ⟨by omega, b⟩⟩
theorem YF {N : NetL} {d : Desk} (hg : GoodW N) (hl : Alike (AJ N) d) (hb : ∀ i, i < d.all.length -> -1000000000000000 <= (gD d.all i).now /\ (gD d.all i).now <= 1000000000000000) : EW N (AL d) = JK d.all := by
 obtain ⟨h1, h2, h3⟩ := EN hl
 have hnR : d.nR = N.r.length := hl.nR
 have hout : d.out = N.g.length := hl.out
 have hf : ∀ i, i < N.r.length -> QZ (gD (AL d).f i) (gD N.r i).sp = LQ (gD d.all i).now (gD d.all i).sp := λ i hi => by
  have e : gD (AL d).f i = (gD d.all i).now := by
   show gD ((List.range d.nR).map λ i => (gD d.all i).now) i = _
   exact BZ (λ i => (gD d.all i).now) (by omega)
  rw [e, (h2 i hi).1]
  have := (hg.r i hi).1
  exact Uh (hb i (by omega)) (by omega) (by omega)
 have ht : ∀ i, i < N.g.length -> QZ (gD (AL d).t i) (gD N.g i) = LQ (gD d.all (N.r.length + i)).now (gD d.all (N.r.length + i)).sp := λ i hi => by
  have e : gD (AL d).t i = (gD d.all (N.r.length + i)).now := by
   show gD ((List.range d.out).map λ i => (gD d.all (d.nR + i)).now) i = _
   rw [BZ (λ i => (gD d.all (d.nR + i)).now) (by omega), hnR]
  rw [e, (h3 i hi).1]
  have := hg.g i hi
  exact Uh (hb _ (by omega)) (by omega) (by omega)
 have hs : EV (λ x => x) (FJ N (AL d)) = JK d.all := by
  unfold FJ JK
  rw [RU, UF, UF, KT, h1, JS]
  rw [AX hf, AX ht]
 have hn : ∀ x ∈ FJ N (AL d), 0 <= x := λ x hx => by
  unfold FJ at hx
  rcases List.mem_append.1 hx with hx | hx <;> obtain ⟨i, hi, rfl⟩ := List.mem_map.1 hx <;> rw [List.mem_range] at hi
  ·rw [hf i hi]; unfold LQ; omega
  ·rw [ht i hi]; unfold LQ; omega
 have hcap : JK d.all <= 2000000000000000 * d.all.length := WW λ w hw => by
  obtain ⟨i, hi, rfl⟩ := II hw
  have h4 := hb i hi
  have h5 : -100000000 <= (gD d.all i).sp.lo /\ (gD d.all i).sp.hi <= 100000000 /\ (gD d.all i).sp.lo <= (gD d.all i).sp.hi := by
   by_cases hr : i < N.r.length
   ·rw [(h2 i hr).1]; have := (hg.r i hr).1; omega
   ·obtain ⟨j, rfl⟩ : ∃ j, i = N.r.length + j := ⟨i - N.r.length, by omega⟩
    rw [(h3 j (by omega)).1]; have := hg.g j (by omega); omega
  unfold LQ; omega
 have h8 := hg.g8
 have h14 := hg.r14
 have h0 : 0 <= JK d.all := GR λ w _ => by unfold LQ; omega
 unfold EW
 rw [Br _ 0 hn (by omega) (by rw [hs]; omega), hs]
 omega
end Go.Bal

namespace Go.Bal
open Go
theorem WK {N : NetL} (h : AC N = 0) : BK N = JK (AB N).all := by
 obtain ⟨h1, π, hs⟩ := BD h
 rw [(XY h1).2]
 refine YF (AS h).w hs.like λ i hi => ?_
 have := (hs.fit.small (by omega) hi).now
 omega
theorem FY {N : NetL} (h : AC N = 0) : 0 <= BK N := by
 rw [WK h]
 exact GR λ w _ => by unfold LQ; omega
theorem Nu {N : NetL} (h : AC N = 0) (hc : ¬ 0 < BK N) : InS (AB N) := by
 obtain ⟨h1, π, hs⟩ := BD h
 have h0 := FY h
 have hz : JK (AB N).all = 0 := by rw [<- WK h]; omega
 refine ⟨hs.fit.lay.ok, hs.fit.sp, λ i hi => ?_, hs.zero⟩
 have := XU (λ w _ => by unfold LQ; omega) hz (gD (AB N).all i) (JG hi)
 unfold LQ at this
 omega
theorem Ko {d : Desk} (h : InS d) {at' : Nat} (ha : at' < d.all.length) (hw : ∀ d', InS d' -> Alike d d' -> (gD d'.all at').now - (gD d.all at').now < 100000000 /\ (gD d.all at').now - (gD d'.all at').now < 100000000) :
  ∃ s dl dh, CX d at' = some s /\ (InS dl /\ Alike d dl /\ (gD dl.all at').now = s.lo) /\ (InS dh /\ Alike d dh /\ (gD dh.all at').now = s.hi) /\ ∀ d', InS d' -> Alike d d' -> s.lo <= (gD d'.all at').now /\ (gD d'.all at').now <= s.hi := by
 have hfu : (3000000000 : Int) < fuel := by unfold fuel; decide
 have e : ((at' : Nat) : Int).toNat = at' := by omega
 have hr : 0 <= (at' : Int) /\ (at' : Int) < d.all.length := by omega
 obtain ⟨dl, tl, l1, l2, l3, l4, l5, l6, l7⟩ := LZ (at' := (at' : Int)) (up := false) (most := 100000000) (by omega) fuel d 0 h hr (by omega) (by omega)
 obtain ⟨dh, th, h1, h2, h3, h4, h5, h6, h7⟩ := LZ (at' := (at' : Int)) (up := true) (most := 100000000) (by omega) fuel d 0 h hr (by omega) (by omega)
 rw [e] at l6 h6
 simp only [Bool.false_eq_true, if_false, if_true] at l6 h6
 have wl := hw dl l2 l3
 have wh := hw dh h2 h3
 have sl := l7.resolve_left (by omega)
 have sh := h7.resolve_left (by omega)
 have back : ∀ {d1 d' : Desk}, Alike d d1 -> Alike d d' -> Alike d1 d' := λ a b => ⟨b.out.trans a.out.symm, b.nR.trans a.nR.symm, b.len.trans a.len.symm, λ i hi => by
  obtain ⟨a1, a2, a3⟩ := a.way i (by rw [<- a.len]; exact hi)
  obtain ⟨b1, b2, b3⟩ := b.way i (by rw [<- a.len]; exact hi)
  exact ⟨b1.trans a1.symm, b2.trans a2.symm, b3.trans a3.symm⟩⟩
 refine ⟨⟨(gD dl.all at').now, (gD dh.all at').now⟩, dl, dh, ?_, ⟨l2, l3, rfl⟩, ⟨h2, h3, rfl⟩, λ d' i1 i2 => ?_⟩
 ·unfold CX HT
  rw [l1, h1]
  simp only [BX, e]
 ·have m1 := UO l2 i1 (back l3 i2) (at' := (at' : Int)) (by rw [l3.len]; exact hr) sl
  have m2 := UO h2 i1 (back h3 i2) (at' := (at' : Int)) (by rw [h3.len]; exact hr) sh
  rw [e] at m1 m2
  simp only [Bool.false_eq_true, if_false, if_true] at m1 m2
  exact ⟨m1, m2⟩
theorem Xn {N : NetL} (h : AC N = 0) (hc : ¬ 0 < BK N) {i : Nat} (hi : i < (AB N).all.length) :
  ∃ s dl dh, CX (AB N) i = some s /\ (InS dl /\ Alike (AB N) dl /\ (gD dl.all i).now = s.lo) /\ (InS dh /\ Alike (AB N) dh /\ (gD dh.all i).now = s.hi) /\ ∀ d', InS d' -> Alike (AB N) d' -> s.lo <= (gD d'.all i).now /\ (gD d'.all i).now <= s.hi := by
 obtain ⟨h1, π, hs⟩ := BD h
 have hS := Nu h hc
 refine Ko hS hi λ d' h' hl => ?_
 have h2 := hS.now i hi
 have h3 := h'.now i (by rw [hl.len]; exact hi)
 rw [(hl.way i hi).2.2] at h3
 have h4 : -1000000 <= (gD (AB N).all i).sp.lo /\ (gD (AB N).all i).sp.hi <= 1000000 := by
  have hb := hs.like.len
  have := (FR (AS h) (i := i) (by omega)).1
  rw [<- (hs.like.way i (by omega)).2.2] at this
  omega
 omega
end Go.Bal

namespace Go.Bal
open Go
theorem Qz {d : Desk} {π : Int -> Int} {M : Int} (h : Fit d π M) (hM : M <= 3000000000) {o : Int} (ho : 0 <= o /\ o <= d.out) : ∃ rf, EP d any o = some rf /\ (∀ v : Int, 0 <= v -> v <= d.out -> (rf.m.at v).isSome = true) /\ (rf.m.far o).cost = 0 /\ Fit d (λ v => (rf.m.far v).cost) M := by
 obtain ⟨rf, hrf, _, hal⟩ := SY (c := any) (fr := o) h.lay.ok (by omega) (h.pot hM)
 have hreach : ∀ v : Int, 0 <= v -> v <= d.out -> (rf.m.at v).isSome = true := λ v h0 h1 => by
  obtain ⟨a, q, w⟩ := h.lay.walk ho ⟨h0, h1⟩
  exact hal.2 v a q w
 have lab : ∀ v : Int, 0 <= v -> v <= d.out -> ∃ k : Nat, Least d any o v (rf.m.far v).cost k := λ v h0 h1 => by
  obtain ⟨g, hg⟩ := Option.isSome_iff_exists.1 (hreach v h0 h1)
  obtain ⟨_, k, _, hk⟩ := hal.1 v g hg
  have : rf.m.far v = g := by simp [Map.far, hg]
  rw [this]; exact ⟨k, hk⟩
 refine ⟨rf, hrf, hreach, ?_, h.lay, h.sp, h.now, λ i hi => ?_⟩
 ·obtain ⟨k, hk⟩ := lab o ho.1 ho.2
  have h1 := hk.2 _ _ .nil
  have h2 := Walk.pot (h.pot hM) hk.1
  omega
 ·have hsm := h.small hM hi
  have hen := h.lay.ends i hi
  refine (Cd hsm (by omega) _).2 ?_
  obtain ⟨k1, hk1⟩ := lab (gD d.all i).fr hen.1.1 hen.1.2
  obtain ⟨k2, hk2⟩ := lab (gD d.all i).to hen.2.1 hen.2.2
  have f1 := Walk.step (d := d) (c := any) (fr := o) ⟨(i : Int), false⟩ (by rw [OA]; exact hk1.1) ⟨by constructor <;> simp only <;> omega, rfl⟩
  have f2 := Walk.step (d := d) (c := any) (fr := o) ⟨(i : Int), true⟩ (by rw [OA]; exact hk2.1) ⟨by constructor <;> simp only <;> omega, rfl⟩
  have g1 := hk2.2 _ _ f1
  have g2 := hk1.2 _ _ f2
  have p1 : CR d ⟨(i : Int), false⟩ = (AT (gD d.all i) false).1 := rfl
  have p2 : CR d ⟨(i : Int), true⟩ = (AT (gD d.all i) true).1 := rfl
  rw [p1] at g1
  rw [p2] at g2
  omega
end Go.Bal
