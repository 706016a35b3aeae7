/- Package balance: what is shifted: as much as there may be. -/
import Derived.Test.YtonddbmhljelgaaBalT6
set_option linter.unusedVariables false
set_option linter.unusedSimpArgs false
namespace Go.Bal
open Go
variable {d : Desk}
structure InS (d : Desk) : Prop where
 ok : d.ok
 sp : ∀ i, i < d.all.length -> -100000000 <= (gD d.all i).sp.lo /\ (gD d.all i).sp.lo <= (gD d.all i).sp.hi /\ (gD d.all i).sp.hi <= 100000000
 now : ∀ i, i < d.all.length -> (gD d.all i).sp.lo <= (gD d.all i).now /\ (gD d.all i).now <= (gD d.all i).sp.hi
 zero : ∀ v : Nat, v < 10 -> LM v d.all = 0
theorem InS.small (h : InS d) {i : Nat} (hi : i < d.all.length) : Small 3000000000 (gD d.all i) := by
 have := h.now i hi
 have := h.sp i hi
 exact ⟨by omega, h.sp i hi⟩
theorem ABJ {at' : Int} {s : Step} (h : EM d at' s = true) : GY d s = 0 /\ s.way ≠ at' := by
 unfold EM at h
 simp only [Bool.and_eq_true, decide_eq_true_eq] at h
 refine ⟨h.1.1, λ he => ?_⟩
 obtain ⟨w, b⟩ := s
 simp only at he
 subst he
 cases b
 ·exact h.2 rfl
 ·exact h.1.2 rfl
theorem BIY (at' : Int) : Pot d (EM d at') (λ _ => 0) := λ s hs => by
 have := (ABJ hs.2).1
 show (0 : Int) <= 0 + GY d s
 omega
def AYY (d : Desk) (at' : Int) (up : Bool) : Prop := 0 < (BO (EW d.all at') (!up)).1 ∨
 ∃ S : Int -> Prop, S (KF d ⟨at', !up⟩) /\ ¬ S (KF d ⟨at', up⟩) /\ ∀ s, Cnt d (EM d at') s -> S (TV d s) -> S (KF d s)
theorem APM (h : InS d) {at' : Int} (ha : 0 <= at' /\ at' < d.all.length) {up : Bool} {rf : RT} (hrf : NP d (EM d at') (KF d ⟨at', !up⟩) = some rf) (hal : Ef d (EM d at') (KF d ⟨at', !up⟩) rf.m)
  (hto : (rf.m.at (KF d ⟨at', up⟩)).isSome = true) (hp : ¬ 0 < (BO (EW d.all at') (!up)).1) {rest : Int} (hrest : 1 <= rest /\ rest <= 1000000000) :
  ∃ d1 n, Nn d (KF d ⟨at', !up⟩) (KF d ⟨at', up⟩) rf.m (min (BO (EW d.all at') (!up)).2 rest) = some (d1, n) /\ 1 <= n /\ n <= rest /\
   InS ⟨CM d1.all at' up n, d1.out, d1.nR⟩ /\ Alike d ⟨CM d1.all at' up n, d1.out, d1.nR⟩ /\ (gD (CM d1.all at' up n) at'.toNat).now = (gD d.all at'.toNat).now + if up then n else -n := by
 have hlen := h.ok.len
 have hout := h.ok.out
 have hbd : ∀ i, i < d.all.length -> -3000000000 <= (gD d.all i).now /\ (gD d.all i).now <= 3000000000 := λ i hi => (h.small hi).now
 have hk : at'.toNat < d.all.length := by omega
 have hgw : EW d.all at' = gD d.all at'.toNat := rfl
 obtain ⟨f, hf⟩ := Option.isSome_iff_exists.1 hto
 obtain ⟨_, q, _, hlq⟩ := hal.1 _ _ hf
 have hfrin : 0 <= KF d ⟨at', !up⟩ /\ KF d ⟨at', !up⟩ < d.out + 2 := vP h.ok ha
 have hq2 := hlq.many_lt h.ok hfrin
 have hfuel := AEE
 obtain ⟨l, hl1, hl2, hl3, hl4⟩ := ABX hal fuel _ f.cost q hlq (by omega)
 have hrange : ∀ s ∈ l, 0 <= s.way /\ s.way < d.all.length := λ s hs => (hl3 s hs).1.1.1
 have hfree : ∀ s ∈ l, (BO (gD d.all s.way.toNat) s.back).1 = 0 /\ s.way ≠ at' := λ s hs => ABJ (hl3 s hs).1.1.2
 have hlr : ∀ s ∈ l, 1 <= (BO (EW d.all s.way) s.back).2 := λ s hs => by
  have := hrange s hs
  exact AFM (h.small (i := s.way.toNat) (by omega)) (by omega) _
 have hr1 : 1 <= (BO (EW d.all at') (!up)).2 := AFM (h.small hk) (by omega) _
 obtain ⟨Q, hQ⟩ : ∃ Q, Q = JS d (min (BO (EW d.all at') (!up)).2 rest) l := ⟨_, rfl⟩
 have hQ1 : 1 <= Q := by rw [hQ]; exact Wg l _ (by omega) hlr
 obtain ⟨hQ2, hQ3⟩ := eW (d := d) l (min (BO (EW d.all at') (!up)).2 rest)
 rw [<- hQ] at hQ2 hQ3
 have hll : l.length <= 1000 := by
  have := W8 d.all.length (l.map λ s => s.way) hl4 (λ x hx => by obtain ⟨s, hs, rfl⟩ := List.mem_map.1 hx; exact hrange s hs)
  rw [List.length_map] at this
  omega
 have hallb : (l.all λ s => decide (0 <= s.way) && decide (s.way < d.all.length)) = true := by
  rw [List.all_eq_true]
  intro s hs
  have := hrange s hs
  simp [this]
 have hQB : 0 <= Q /\ Q <= 3000000000 := by omega
 have hps := eP (q := Q) (B := 3000000000) (by omega) hQB l d.all hl4 hrange (λ i hi => by have := hbd i hi; omega) (λ i hi => by
  obtain ⟨s, hs, he⟩ := hi
  exact hbd i (by have := hrange s hs; omega))
 have hexc : ∀ v : Nat, LM v (AQ Q d.all l) = LM v d.all + ind v (KF d ⟨at', up⟩) Q - ind v (KF d ⟨at', !up⟩) Q := λ v =>
  kK (c := EM d at') (by omega) hQB v l _ d.all hl2 rfl hl4 (λ i hi => ⟨⟨rfl, rfl⟩, by have := hbd i hi; omega⟩) (λ i hi => by
   obtain ⟨s, hs, he⟩ := hi
   exact hbd i (by have := hrange s hs; omega))
 have hat : gD (AQ Q d.all l) at'.toNat = gD d.all at'.toNat := by
  rcases hps at'.toNat hk with ⟨s, hs, hsi, _⟩ | ⟨_, e⟩
  ·exact absurd (by omega) (hfree s hs).2
  ·exact e
 have hadd : ∀ i, i < d.all.length -> gD (CM (AQ Q d.all l) at' up Q) i = if i = at'.toNat then UN Q (!up) (gD d.all at'.toNat) else gD (AQ Q d.all l) i := λ i hi => by
  unfold CM
  rw [BD (by rw [DR]; exact hk)]
  by_cases he : i = at'.toNat
  ·rw [if_pos he, if_pos he, hat]
   have := hbd _ hk
   unfold UN
   cases up
   ·simp only [Bool.false_eq_true, if_false, Bool.not_false, if_true]
    rw [FK (by omega) (by omega)]
   ·simp only [Bool.false_eq_true, if_false, Bool.not_true, if_true]
    rw [FK (by omega) (by omega)]
  ·rw [if_neg he, if_neg he]
 have hin : ∀ i, i < d.all.length -> (∃ b, gD (CM (AQ Q d.all l) at' up Q) i = UN Q b (gD d.all i) /\ (gD d.all i).sp.lo <= (UN Q b (gD d.all i)).now /\ (UN Q b (gD d.all i)).now <= (gD d.all i).sp.hi) ∨ gD (CM (AQ Q d.all l) at' up Q) i = gD d.all i := λ i hi => by
  rw [hadd i hi]
  by_cases he : i = at'.toNat
  ·subst he
   rw [if_pos rfl]
   exact .inl ⟨_, rfl, AJK (h.small hk) (by omega) (by omega) (by rw [hgw] at hQ2; omega) (by rw [hgw] at hp; omega) (h.now _ hk)⟩
  ·rw [if_neg he]
   rcases hps i hi with ⟨s, hs, hsi, e⟩ | ⟨_, e⟩
   ·rw [e]
    have hsn : s.way.toNat = i := by omega
    have h1 := (hfree s hs).1
    have h2 := hQ3 s hs
    rw [hsn] at h1
    unfold EW at h2
    rw [hsn] at h2
    exact .inl ⟨_, rfl, AJK (h.small hi) (by omega) (by omega) h2 (by omega) (h.now _ hi)⟩
   ·exact .inr e
 have halike : Alike d ⟨CM (AQ Q d.all l) at' up Q, d.out, d.nR⟩ := ⟨rfl, rfl, by show (CM _ _ _ _).length = _; unfold CM; rw [List.length_modify, DR], λ i hi => by
  show (gD (CM (AQ Q d.all l) at' up Q) i).fr = _ /\ (gD (CM (AQ Q d.all l) at' up Q) i).to = _ /\ (gD (CM (AQ Q d.all l) at' up Q) i).sp = _
  rcases hin i hi with ⟨b, e, _⟩ | e <;> rw [e]
  ·exact ⟨rfl, rfl, rfl⟩
  ·exact ⟨rfl, rfl, rfl⟩⟩
 refine ⟨⟨AQ Q d.all l, d.out, d.nR⟩, Q, ?_, hQ1, by omega, ⟨h.ok.alike halike, λ i hi => ?_, λ i hi => ?_, λ v hv => ?_⟩, halike, ?_⟩
 ·unfold Nn
  rw [hl1]
  simp only [hallb, hll, decide_true, Bool.and_self, if_true, <- hQ]
 ·rw [halike.len] at hi
  rw [(halike.way i hi).2.2]; exact h.sp i hi
 ·rw [halike.len] at hi
  rw [(halike.way i hi).2.2]
  rcases hin i hi with ⟨b, e, e1⟩ | e
  ·show _ <= (gD (CM (AQ Q d.all l) at' up Q) i).now /\ _
   rw [e]; exact e1
  ·show _ <= (gD (CM (AQ Q d.all l) at' up Q) i).now /\ _
   rw [e]; exact h.now i hi
 ·show LM v (CM (AQ Q d.all l) at' up Q) = 0
  unfold CM
  rw [Lv v _ (ind v (KF d ⟨at', !up⟩) Q - ind v (KF d ⟨at', up⟩) Q) _ _ (by rw [DR]; exact hk) ?_, hexc v, h.zero v hv]
  ·omega
  ·rw [hat]
   have := hbd _ hk
   rw [qP, qP]
   unfold Pi ind
   cases up
   ·simp only [Bool.false_eq_true, if_false, Bool.not_false, if_true]
    rw [FK (by omega) (by omega)]
    by_cases h1 : (gD d.all at'.toNat).fr = v <;> by_cases h2 : (gD d.all at'.toNat).to = v <;> simp [h1, h2] <;> omega
   ·simp only [Bool.false_eq_true, if_false, Bool.not_true, if_true]
    rw [FK (by omega) (by omega)]
    by_cases h1 : (gD d.all at'.toNat).fr = v <;> by_cases h2 : (gD d.all at'.toNat).to = v <;> simp [h1, h2] <;> omega
 ·rw [hadd _ hk, if_pos rfl]
  unfold UN
  cases up
  ·simp only [Bool.false_eq_true, if_false, Bool.not_false, if_true]; omega
  ·simp only [Bool.false_eq_true, if_false, Bool.not_true, if_true]
end Go.Bal

namespace Go.Bal
open Go
variable {d : Desk}
theorem Pk {at' : Int} {up : Bool} {most : Int} (hm : most <= 1000000000) : ∀ (k : Nat) (d : Desk) (total : Int), InS d -> 0 <= at' /\ at' < d.all.length -> 0 <= total -> 0 < k /\ most - total < k ->
  ∃ d' t, YP at' up most k d total = some (d', t) /\ InS d' /\ Alike d d' /\ total <= t /\ (t <= most ∨ t = total) /\ (gD d'.all at'.toNat).now = (gD d.all at'.toNat).now + (if up then t - total else -(t - total)) /\ (most <= t ∨ AYY d' at' up)
 | 0, d, total, h, ha, h0, hk => by omega
 | k + 1, d, total, h, ha, h0, hk => by
  simp only [YP]
  by_cases hlt : total < most
  ·rw [if_pos hlt]
   have hfr : 0 <= KF d ⟨at', !up⟩ /\ KF d ⟨at', !up⟩ < d.out + 2 := vP h.ok ha
   obtain ⟨rf, h1, _, hal⟩ := pF (c := EM d at') (fr := KF d ⟨at', !up⟩) h.ok hfr (BIY at')
   rw [h1]
   simp only
   by_cases hst : ((rf.m.at (KF d ⟨at', up⟩)).isNone || decide (0 < (BO (EW d.all at') (!up)).1)) = true
   ·rw [if_pos (by simpa using hst)]
    refine ⟨d, total, rfl, h, Alike.refl d, Int.le_refl _, .inr rfl, by cases up <;> simp, .inr ?_⟩
    rw [Bool.or_eq_true, decide_eq_true_eq] at hst
    rcases hst with hst | hst
    ·refine .inr ⟨λ v => (rf.m.at v).isSome = true, hal.2 _ _ _ .nil, λ hh => ?_, λ s hs hsrc => ?_⟩
     ·rw [Option.isNone_iff_eq_none] at hst
      rw [hst] at hh; cases hh
     ·obtain ⟨g, hg⟩ := Option.isSome_iff_exists.1 hsrc
      obtain ⟨_, q, _, hq⟩ := hal.1 _ _ hg
      exact hal.2 _ _ _ (Walk.step s hq.1 hs)
    ·exact .inl hst
   ·rw [if_neg (by simpa using hst)]
    have hst : (rf.m.at (KF d ⟨at', up⟩)).isSome = true /\ ¬ 0 < (BO (EW d.all at') (!up)).1 := by
     simp only [Bool.or_eq_true, decide_eq_true_eq, not_or] at hst
     refine ⟨?_, hst.2⟩
     cases hx : rf.m.at (KF d ⟨at', up⟩) with
     | none => rw [hx] at hst; simp at hst
     | some _ => rfl
    have hwr : wr (most - total) = most - total := FK (by omega) (by omega)
    obtain ⟨d1, n, h2, h3, h4, h5, h6, h7⟩ := APM h ha h1 hal hst.1 hst.2 (rest := most - total) (by omega)
    rw [hwr, h2]
    simp only
    rw [FK (n := total + n) (by omega) (by omega)]
    obtain ⟨d', t, g1, g2, g3, g4, g5, g6, g7⟩ := Pk hm k ⟨CM d1.all at' up n, d1.out, d1.nR⟩ (total + n) h5 (by rw [h6.len]; exact ha) (by omega) (by omega)
    refine ⟨d', t, g1, g2, h6.trans g3, by omega, .inl (by omega), ?_, g7⟩
    rw [g6]
    show (gD (CM d1.all at' up n) at'.toNat).now + _ = _
    rw [h7]
    cases up <;> simp only [Bool.false_eq_true, if_true, if_false] <;> omega
  ·rw [if_neg hlt]
   exact ⟨d, total, rfl, h, Alike.refl d, Int.le_refl _, .inr rfl, by cases up <;> simp, .inl (by omega)⟩
end Go.Bal

namespace Go.Bal
open Go
variable {d d' : Desk}
theorem Yn (f : Nat -> Int) : ∀ n, DG (n + 1) f = f 0 + DG n λ i => f (i + 1)
 | 0 => by simp [DG]
 | n + 1 => by
  rw [DG, Yn f n]
  simp only [DG]
  omega
theorem Ld {α : Type} [Inhabited α] (f : α -> Int) : ∀ l : List α, OY f l = DG l.length λ i => f (gD l i)
 | [] => rfl
 | w :: l => by
  rw [List.length_cons, Yn]
  simp only [OY]
  rw [Ld f l]
  rfl
theorem InS.circ (h : InS d) (π : Int -> Int) : DG d.all.length (λ i => (π (gD d.all i).to - π (gD d.all i).fr) * (gD d.all i).now) = 0 := by
 have := H6 π (l := d.all) (λ w hw => by
  obtain ⟨i, hi, rfl⟩ := Au hw
  have := h.ok.ends i hi
  have := h.ok.out
  omega) h.zero
 rw [Ld] at this
 exact this
theorem Ks {w : Way} (h : Small 3000000000 w) (hin : w.sp.lo <= w.now /\ w.now <= w.sp.hi) (hp : (BO w false).1 ≠ 0) : w.now = w.sp.hi := by
 rw [mD h (by omega)] at hp
 by_cases a : w.now < w.sp.lo
 ·omega
 ·rw [if_neg a] at hp
  by_cases e : w.now < w.sp.hi
  ·rw [if_pos e] at hp; simp at hp
  ·omega
theorem Ea {w : Way} (h : Small 3000000000 w) (hin : w.sp.lo <= w.now /\ w.now <= w.sp.hi) (hp : (BO w true).1 ≠ 0) : w.now = w.sp.lo := by
 rw [Yv h (by omega)] at hp
 by_cases a : w.sp.hi < w.now
 ·omega
 ·rw [if_neg a] at hp
  by_cases e : w.sp.lo < w.now
  ·rw [if_pos e] at hp; simp at hp
  ·omega
theorem BCI {f : Nat -> Int} {n k : Nat} (hk : k < n) (h : ∀ i, i < n -> i ≠ k -> 0 <= f i) (hz : DG n f = 0) : f k <= 0 := by
 have h1 : DG n (λ i => if i = k then f k else 0) <= DG n f := bI λ i hi => by
  by_cases he : i = k
  ·subst he; simp
  ·rw [if_neg he]; exact h i hi he
 rw [SG, if_pos hk, hz] at h1
 exact h1
theorem tZ (h : InS d) (h' : InS d') (hl : Alike d d') {at' : Int} (ha : 0 <= at' /\ at' < d.all.length) {up : Bool} (hs : AYY d at' up) :
  if up then (gD d'.all at'.toNat).now <= (gD d.all at'.toNat).now else (gD d.all at'.toNat).now <= (gD d'.all at'.toNat).now := by
 have hk : at'.toNat < d.all.length := by omega
 have hsp := (hl.way at'.toNat hk).2.2
 have hn' := h'.now at'.toNat (by rw [hl.len]; exact hk)
 rw [hsp] at hn'
 rcases hs with hs | ⟨S, hS1, hS2, hS3⟩
 ·unfold EW at hs
  cases up
  ·have := Ea (h.small hk) (h.now _ hk) (by simp only [Bool.not_false] at hs; omega)
   simp only [Bool.false_eq_true, if_false]; omega
  ·have := Ks (h.small hk) (h.now _ hk) (by simp only [Bool.not_true] at hs; omega)
   simp only [if_true]; omega
 ·classical
  obtain ⟨π, hπ⟩ : ∃ π : Int -> Int, π = λ v => if S v then 1 else 0 := ⟨_, rfl⟩
  have p1 : ∀ v, S v -> π v = 1 := λ v hv => by rw [hπ]; simp only; rw [if_pos hv]
  have p0 : ∀ v, ¬ S v -> π v = 0 := λ v hv => by rw [hπ]; simp only; rw [if_neg hv]
  have c1 := h.circ π
  have c2 := h'.circ π
  rw [hl.len, BQ (g := λ i => (π (gD d.all i).to - π (gD d.all i).fr) * (gD d.all i).now + (π (gD d.all i).to - π (gD d.all i).fr) * ((gD d'.all i).now - (gD d.all i).now)) λ i hi => by
   obtain ⟨a, b, _⟩ := hl.way i hi
   rw [a, b, <- Int.mul_add]
   congr 1; omega, QM (λ i => (π (gD d.all i).to - π (gD d.all i).fr) * (gD d.all i).now), c1, Int.zero_add] at c2
  have key := BCI hk (λ i hi hne => by
   have hni := h'.now i (by rw [hl.len]; exact hi)
   rw [(hl.way i hi).2.2] at hni
   have hcnt : ∀ b : Bool, (BO (gD d.all i) b).1 = 0 -> Cnt d (EM d at') ⟨(i : Int), b⟩ := λ b hb => by
    refine ⟨⟨by simp only; omega, by simp only; omega⟩, ?_⟩
    unfold EM EW
    have e : (i : Int).toNat = i := by omega
    simp only [e, hb, Bool.and_eq_true, decide_eq_true_eq]
    refine ⟨⟨trivial, λ he => ?_⟩, λ he => ?_⟩
    ·have : (i : Int) = at' := congrArg Step.way he
     omega
    ·have : (i : Int) = at' := congrArg Step.way he
     omega
   by_cases s1 : S (gD d.all i).to <;> by_cases s2 : S (gD d.all i).fr
   ·rw [p1 _ s1, p1 _ s2]; simp
   ·rw [p1 _ s1, p0 _ s2]
    have := Ea (h.small hi) (h.now i hi) λ hb => s2 (hS3 _ (hcnt true hb) s1)
    omega
   ·rw [p0 _ s1, p1 _ s2]
    have := Ks (h.small hi) (h.now i hi) λ hb => s1 (hS3 _ (hcnt false hb) s2)
    omega
   ·rw [p0 _ s1, p0 _ s2]; simp) c2
  rw [qP] at hS1 hS2
  cases up
  ·simp only [Bool.not_false, if_true, Bool.false_eq_true, if_false] at hS1 hS2 ⊢
   rw [p1 _ hS1, p0 _ hS2] at key
   omega
  ·simp only [Bool.not_true, if_true, Bool.false_eq_true, if_false] at hS1 hS2 ⊢
   rw [p1 _ hS1, p0 _ hS2] at key
   omega
end Go.Bal

namespace Go.Bal
open Go
theorem XP {α : Type} {f : α -> Int} : ∀ {l : List α}, (∀ w ∈ l, 0 <= f w) -> 0 <= OY f l
 | [], _ => Int.le_refl _
 | w :: l, h => by
  simp only [OY]
  have h1 := XP (f := f) λ x hx => h x (List.mem_cons_of_mem w hx)
  have h2 := h w (by simp)
  omega
theorem H7 {α : Type} {f : α -> Int} : ∀ {l : List α}, (∀ w ∈ l, 0 <= f w) -> OY f l = 0 -> ∀ w ∈ l, f w = 0
 | [], _, _, w, hw => by cases hw
 | x :: l, h, hz, w, hw => by
  simp only [OY] at hz
  have h1 := XP (f := f) λ y hy => h y (List.mem_cons_of_mem x hy)
  have h2 := h x (by simp)
  rcases List.mem_cons.1 hw with rfl | hw
  ·omega
  ·exact H7 (λ y hy => h y (List.mem_cons_of_mem x hy)) (by omega) w hw
theorem A8 {α : Type} {f : α -> Int} {K : Int} : ∀ {l : List α}, (∀ w ∈ l, f w <= K) -> OY f l <= K * l.length
 | [], _ => by simp [OY]
 | w :: l, h => by
  simp only [OY]
  have h1 := A8 (f := f) (K := K) λ x hx => h x (List.mem_cons_of_mem w hx)
  have h2 := h w (by simp)
  rw [List.length_cons, Int.natCast_add, Int.mul_add]
  omega
theorem AFD : ∀ (l : List Int) (a : Int), (∀ x ∈ l, 0 <= x) -> 0 <= a -> a + OY (λ x => x) l <= 9000000000000000000 -> Ak a l = a + OY (λ x => x) l
 | [], a, _, _, _ => by simp [Ak, OY]
 | x :: l, a, h, ha, hs => by
  have hx := h x (by simp)
  have hl := XP (f := λ x : Int => x) λ y hy => h y (List.mem_cons_of_mem x hy)
  simp only [OY] at hs
  simp only [Ak, OY]
  rw [FK (by omega) (by omega), AFD l (a + x) (λ y hy => h y (List.mem_cons_of_mem x hy)) (by omega) (by omega)]
  omega
theorem BJB {x : Int} {s : Span} (hx : -1000000000000000 <= x /\ x <= 1000000000000000) (hs : -100000000 <= s.lo /\ s.hi <= 100000000) (hs' : s.lo <= 100000000 /\ -100000000 <= s.hi) : Yd x s = Ph x s := by
 unfold Yd Ph
 rw [FK (n := s.lo - x) (by omega) (by omega), FK (n := x - s.hi) (by omega) (by omega)]
 omega
theorem uU (f : Nat -> Int) : ∀ n, OY (λ x => x) ((List.range n).map f) = DG n f
 | 0 => rfl
 | n + 1 => by
  rw [List.range_succ, List.map_append, mF, uU f n]
  simp [OY, DG]
theorem Il (f : Nat -> Int) (a : Nat) : ∀ b, DG (a + b) f = DG a f + DG b λ j => f (a + j)
 | 0 => by simp [DG]
 | b + 1 => by
  rw [show a + (b + 1) = a + b + 1 from rfl, DG, Il f a b, DG]
  omega
theorem OC {N : NetL} {d : Desk} (hl : Alike (AO N) d) : d.all.length = N.r.length + N.g.length /\ (∀ i, i < N.r.length -> (gD d.all i).sp = (gD N.r i).sp /\ (gD d.all i).fr = (gD N.r i).fr /\ (gD d.all i).to = (gD N.r i).to) /\
  ∀ i, i < N.g.length -> (gD d.all (N.r.length + i)).sp = gD N.g i /\ (gD d.all (N.r.length + i)).fr = N.g.length /\ (gD d.all (N.r.length + i)).to = i := by
 have hlen := CW N
 refine ⟨hl.len.trans hlen, λ i hi => ?_, λ i hi => ?_⟩
 ·obtain ⟨a, b, e⟩ := hl.way i (by omega)
  rw [a, b, e, IZ, Ex _ (by rw [NY]; omega), Xh hi]
  exact ⟨rfl, rfl, rfl⟩
 ·obtain ⟨a, b, e⟩ := hl.way (N.r.length + i) (by omega)
  rw [a, b, e, IZ, Ex _ (by rw [NY]; omega), Vw hi]
  exact ⟨rfl, rfl, rfl⟩
structure GoodW (N : NetL) : Prop where
 g1 : 1 <= N.g.length
 g8 : N.g.length <= 8
 r14 : N.r.length <= 14
 g : ∀ i, i < N.g.length -> (-100000000 <= (gD N.g i).lo /\ (gD N.g i).lo <= (gD N.g i).hi) /\ (gD N.g i).hi <= 100000000
 r : ∀ i, i < N.r.length -> ((-100000000 <= (gD N.r i).sp.lo /\ (gD N.r i).sp.lo <= (gD N.r i).sp.hi) /\ (gD N.r i).sp.hi <= 100000000) /\ (0 <= (gD N.r i).fr /\ (gD N.r i).fr < N.g.length) /\ (0 <= (gD N.r i).to /\ (gD N.r i).to < N.g.length) /\ (gD N.r i).fr ≠ (gD N.r i).to
theorem Good.w {N : NetL} (h : Good N) : GoodW N :=
 ⟨h.g1, h.g8, h.r14, λ i hi => by have := h.g i hi; omega, λ i hi => by obtain ⟨a, b⟩ := h.r i hi; exact ⟨by omega, b⟩⟩
theorem K9 {N : NetL} {d : Desk} (hg : GoodW N) (hl : Alike (AO N) d) (hb : ∀ i, i < d.all.length -> -1000000000000000 <= (gD d.all i).now /\ (gD d.all i).now <= 1000000000000000) : VV N (AW d) = Fe d.all := by
 obtain ⟨h1, h2, h3⟩ := OC hl
 have hnR : d.nR = N.r.length := hl.nR
 have hout : d.out = N.g.length := hl.out
 have hf : ∀ i, i < N.r.length -> Yd (gD (AW d).f i) (gD N.r i).sp = Ph (gD d.all i).now (gD d.all i).sp := λ i hi => by
  have e : gD (AW d).f i = (gD d.all i).now := by
   show gD ((List.range d.nR).map λ i => (gD d.all i).now) i = _
   exact DY (λ i => (gD d.all i).now) (by omega)
  rw [e, (h2 i hi).1]
  have := (hg.r i hi).1
  exact BJB (hb i (by omega)) (by omega) (by omega)
 have ht : ∀ i, i < N.g.length -> Yd (gD (AW d).t i) (gD N.g i) = Ph (gD d.all (N.r.length + i)).now (gD d.all (N.r.length + i)).sp := λ i hi => by
  have e : gD (AW d).t i = (gD d.all (N.r.length + i)).now := by
   show gD ((List.range d.out).map λ i => (gD d.all (d.nR + i)).now) i = _
   rw [DY (λ i => (gD d.all (d.nR + i)).now) (by omega), hnR]
  rw [e, (h3 i hi).1]
  have := hg.g i hi
  exact BJB (hb _ (by omega)) (by omega) (by omega)
 have hs : OY (λ x => x) (Ha N (AW d)) = Fe d.all := by
  unfold Ha Fe
  rw [mF, uU, uU, Ld, h1, Il]
  rw [BQ hf, BQ ht]
 have hn : ∀ x ∈ Ha N (AW d), 0 <= x := λ x hx => by
  unfold Ha at hx
  rcases List.mem_append.1 hx with hx | hx <;> obtain ⟨i, hi, rfl⟩ := List.mem_map.1 hx <;> rw [List.mem_range] at hi
  ·rw [hf i hi]; unfold Ph; omega
  ·rw [ht i hi]; unfold Ph; omega
 have hcap : Fe d.all <= 2000000000000000 * d.all.length := A8 λ w hw => by
  obtain ⟨i, hi, rfl⟩ := Au hw
  have h4 := hb i hi
  have h5 : -100000000 <= (gD d.all i).sp.lo /\ (gD d.all i).sp.hi <= 100000000 /\ (gD d.all i).sp.lo <= (gD d.all i).sp.hi := by
   by_cases hr : i < N.r.length
   ·rw [(h2 i hr).1]; have := (hg.r i hr).1; omega
   ·obtain ⟨j, rfl⟩ : ∃ j, i = N.r.length + j := ⟨i - N.r.length, by omega⟩
    rw [(h3 j (by omega)).1]; have := hg.g j (by omega); omega
  unfold Ph; omega
 have h8 := hg.g8
 have h14 := hg.r14
 have h0 : 0 <= Fe d.all := XP λ w _ => by unfold Ph; omega
 unfold VV
 rw [AFD _ 0 hn (by omega) (by rw [hs]; omega), hs]
 omega
end Go.Bal

namespace Go.Bal
open Go
theorem xV {N : NetL} (h : AB N = 0) : EV N = Fe (AI N).all := by
 obtain ⟨h1, π, hs⟩ := BY h
 rw [(K4 h1).2]
 refine K9 (BB h).w hs.like λ i hi => ?_
 have := (hs.fit.small (by omega) hi).now
 omega
theorem TJ {N : NetL} (h : AB N = 0) : 0 <= EV N := by
 rw [xV h]
 exact XP λ w _ => by unfold Ph; omega
theorem ATA {N : NetL} (h : AB N = 0) (hc : ¬ 0 < EV N) : InS (AI N) := by
 obtain ⟨h1, π, hs⟩ := BY h
 have h0 := TJ h
 have hz : Fe (AI N).all = 0 := by rw [<- xV h]; omega
 refine ⟨hs.fit.lay.ok, hs.fit.sp, λ i hi => ?_, hs.zero⟩
 have := H7 (λ w _ => by unfold Ph; omega) hz (gD (AI N).all i) (Fi hi)
 unfold Ph at this
 omega
theorem ARP {d : Desk} (h : InS d) {at' : Nat} (ha : at' < d.all.length) (hw : ∀ d', InS d' -> Alike d d' -> (gD d'.all at').now - (gD d.all at').now < 100000000 /\ (gD d.all at').now - (gD d'.all at').now < 100000000) :
  ∃ s dl dh, JM d at' = some s /\ (InS dl /\ Alike d dl /\ (gD dl.all at').now = s.lo) /\ (InS dh /\ Alike d dh /\ (gD dh.all at').now = s.hi) /\ ∀ d', InS d' -> Alike d d' -> s.lo <= (gD d'.all at').now /\ (gD d'.all at').now <= s.hi := by
 have hfu : (3000000000 : Int) < fuel := by unfold fuel; decide
 have e : ((at' : Nat) : Int).toNat = at' := by omega
 have hr : 0 <= (at' : Int) /\ (at' : Int) < d.all.length := by omega
 obtain ⟨dl, tl, l1, l2, l3, l4, l5, l6, l7⟩ := Pk (at' := (at' : Int)) (up := false) (most := 100000000) (by omega) fuel d 0 h hr (by omega) (by omega)
 obtain ⟨dh, th, h1, h2, h3, h4, h5, h6, h7⟩ := Pk (at' := (at' : Int)) (up := true) (most := 100000000) (by omega) fuel d 0 h hr (by omega) (by omega)
 rw [e] at l6 h6
 simp only [Bool.false_eq_true, if_false, if_true] at l6 h6
 have wl := hw dl l2 l3
 have wh := hw dh h2 h3
 have sl := l7.resolve_left (by omega)
 have sh := h7.resolve_left (by omega)
 have back : ∀ {d1 d' : Desk}, Alike d d1 -> Alike d d' -> Alike d1 d' := λ a b => ⟨b.out.trans a.out.symm, b.nR.trans a.nR.symm, b.len.trans a.len.symm, λ i hi => by
  obtain ⟨a1, a2, a3⟩ := a.way i (by rw [<- a.len]; exact hi)
  obtain ⟨b1, b2, b3⟩ := b.way i (by rw [<- a.len]; exact hi)
  exact ⟨b1.trans a1.symm, b2.trans a2.symm, b3.trans a3.symm⟩⟩
 refine ⟨⟨(gD dl.all at').now, (gD dh.all at').now⟩, dl, dh, ?_, ⟨l2, l3, rfl⟩, ⟨h2, h3, rfl⟩, λ d' i1 i2 => ?_⟩
 ·unfold JM YG
  rw [l1, h1]
  simp only [EW, e]
 ·have m1 := tZ l2 i1 (back l3 i2) (at' := (at' : Int)) (by rw [l3.len]; exact hr) sl
  have m2 := tZ h2 i1 (back h3 i2) (at' := (at' : Int)) (by rw [h3.len]; exact hr) sh
  rw [e] at m1 m2
  simp only [Bool.false_eq_true, if_false, if_true] at m1 m2
  exact ⟨m1, m2⟩
theorem BGR {N : NetL} (h : AB N = 0) (hc : ¬ 0 < EV N) {i : Nat} (hi : i < (AI N).all.length) :
  ∃ s dl dh, JM (AI N) i = some s /\ (InS dl /\ Alike (AI N) dl /\ (gD dl.all i).now = s.lo) /\ (InS dh /\ Alike (AI N) dh /\ (gD dh.all i).now = s.hi) /\ ∀ d', InS d' -> Alike (AI N) d' -> s.lo <= (gD d'.all i).now /\ (gD d'.all i).now <= s.hi := by
 obtain ⟨h1, π, hs⟩ := BY h
 have hS := ATA h hc
 refine ARP hS hi λ d' h' hl => ?_
 have h2 := hS.now i hi
 have h3 := h'.now i (by rw [hl.len]; exact hi)
 rw [(hl.way i hi).2.2] at h3
 have h4 : -1000000 <= (gD (AI N).all i).sp.lo /\ (gD (AI N).all i).sp.hi <= 1000000 := by
  have hb := hs.like.len
  have := (SI (BB h) (i := i) (by omega)).1
  rw [<- (hs.like.way i (by omega)).2.2] at this
  omega
 omega
end Go.Bal

namespace Go.Bal
open Go
theorem BBL {d : Desk} {π : Int -> Int} {M : Int} (h : Fit d π M) (hM : M <= 3000000000) {o : Int} (ho : 0 <= o /\ o <= d.out) : ∃ rf, NP d any o = some rf /\ (∀ v : Int, 0 <= v -> v <= d.out -> (rf.m.at v).isSome = true) /\ (rf.m.far o).cost = 0 /\ Fit d (λ v => (rf.m.far v).cost) M := by
 obtain ⟨rf, hrf, _, hal⟩ := pF (c := any) (fr := o) h.lay.ok (by omega) (h.pot hM)
 have hreach : ∀ v : Int, 0 <= v -> v <= d.out -> (rf.m.at v).isSome = true := λ v h0 h1 => by
  obtain ⟨a, q, w⟩ := h.lay.walk ho ⟨h0, h1⟩
  exact hal.2 v a q w
 have lab : ∀ v : Int, 0 <= v -> v <= d.out -> ∃ k : Nat, Least d any o v (rf.m.far v).cost k := λ v h0 h1 => by
  obtain ⟨g, hg⟩ := Option.isSome_iff_exists.1 (hreach v h0 h1)
  obtain ⟨_, k, _, hk⟩ := hal.1 v g hg
  have : rf.m.far v = g := by simp [Map.far, hg]
  rw [this]; exact ⟨k, hk⟩
 refine ⟨rf, hrf, hreach, ?_, h.lay, h.sp, h.now, λ i hi => ?_⟩
 ·obtain ⟨k, hk⟩ := lab o ho.1 ho.2
  have h1 := hk.2 _ _ .nil
  have h2 := Walk.pot (h.pot hM) hk.1
  omega
 ·have hsm := h.small hM hi
  have hen := h.lay.ends i hi
  refine (ABM hsm (by omega) _).2 ?_
  obtain ⟨k1, hk1⟩ := lab (gD d.all i).fr hen.1.1 hen.1.2
  obtain ⟨k2, hk2⟩ := lab (gD d.all i).to hen.2.1 hen.2.2
  have f1 := Walk.step (d := d) (c := any) (fr := o) ⟨(i : Int), false⟩ (by rw [Vf]; exact hk1.1) ⟨by constructor <;> simp only <;> omega, rfl⟩
  have f2 := Walk.step (d := d) (c := any) (fr := o) ⟨(i : Int), true⟩ (by rw [Vf]; exact hk2.1) ⟨by constructor <;> simp only <;> omega, rfl⟩
  have g1 := hk2.2 _ _ f1
  have g2 := hk1.2 _ _ f2
  have p1 : GY d ⟨(i : Int), false⟩ = (BO (gD d.all i) false).1 := rfl
  have p2 : GY d ⟨(i : Int), true⟩ = (BO (gD d.all i) true).1 := rfl
  rw [p1] at g1
  rw [p2] at g2
  omega
end Go.Bal
