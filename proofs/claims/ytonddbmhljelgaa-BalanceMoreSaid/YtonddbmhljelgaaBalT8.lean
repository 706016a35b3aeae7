/- Package balance: what is shifted: as much as there may be. -/
import Derived.Test.YtonddbmhljelgaaBalT6
set_option linter.unusedVariables false
set_option linter.unusedSimpArgs false
namespace Go.Bal
open Go
variable {d : Desk}
structure InS (d : Desk) : Prop where
 ok : d.ok
 sp : ∀ i, i < d.all.length -> -100000000 <= (gD d.all i).sp.lo /\ (gD d.all i).sp.lo <= (gD d.all i).sp.hi /\ (gD d.all i).sp.hi <= 100000000
 now : ∀ i, i < d.all.length -> (gD d.all i).sp.lo <= (gD d.all i).now /\ (gD d.all i).now <= (gD d.all i).sp.hi
 zero : ∀ v : Nat, v < 10 -> EU v d.all = 0
theorem InS.small (h : InS d) {i : Nat} (hi : i < d.all.length) : Small 3000000000 (gD d.all i) := by
 have := h.now i hi
 have := h.sp i hi
 exact ⟨by omega, h.sp i hi⟩
theorem ZU {at' : Int} {s : Step} (h : BP d at' s = true) : CL d s = 0 /\ s.way ≠ at' := by
 unfold BP at h
 simp only [Bool.and_eq_true, decide_eq_true_eq] at h
 refine ⟨h.1.1, λ he => ?_⟩
 obtain ⟨w, b⟩ := s
 simp only at he
 subst he
 cases b
 ·exact h.2 rfl
 ·exact h.1.2 rfl
theorem Nx (at' : Int) : Tj d (BP d at') (λ _ => 0) := λ s hs => by
 have := (ZU hs.2).1
 show (0 : Int) <= 0 + CL d s
 omega
def Ry (d : Desk) (at' : Int) (up : Bool) : Prop := 0 < (AV (BW d.all at') (!up)).1 ∨
 ∃ S : Int -> Prop, S (DB d ⟨at', !up⟩) /\ ¬ S (DB d ⟨at', up⟩) /\ ∀ s, Mg d (BP d at') s -> S (FM d s) -> S (DB d s)
theorem Fg (h : InS d) {at' : Int} (ha : 0 <= at' /\ at' < d.all.length) {up : Bool} {rf : RT} (hrf : EJ d (BP d at') (DB d ⟨at', !up⟩) = some rf) (hal : IC d (BP d at') (DB d ⟨at', !up⟩) rf.m)
  (hto : (rf.m.at (DB d ⟨at', up⟩)).isSome = true) (hp : ¬ 0 < (AV (BW d.all at') (!up)).1) {rest : Int} (hrest : 1 <= rest /\ rest <= 1000000000) :
  ∃ d1 n, JT d (DB d ⟨at', !up⟩) (DB d ⟨at', up⟩) rf.m (min (AV (BW d.all at') (!up)).2 rest) = some (d1, n) /\ 1 <= n /\ n <= rest /\
   InS ⟨BC d1.all at' up n, d1.out, d1.nR⟩ /\ Alike d ⟨BC d1.all at' up n, d1.out, d1.nR⟩ /\ (gD (BC d1.all at' up n) at'.toNat).now = (gD d.all at'.toNat).now + if up then n else -n := by
 have hlen := h.ok.len
 have hout := h.ok.out
 have hbd : ∀ i, i < d.all.length -> -3000000000 <= (gD d.all i).now /\ (gD d.all i).now <= 3000000000 := λ i hi => (h.small hi).now
 have hk : at'.toNat < d.all.length := by omega
 have hgw : BW d.all at' = gD d.all at'.toNat := rfl
 obtain ⟨f, hf⟩ := Option.isSome_iff_exists.1 hto
 obtain ⟨_, q, _, hlq⟩ := hal.1 _ _ hf
 have hfrin : 0 <= DB d ⟨at', !up⟩ /\ DB d ⟨at', !up⟩ < d.out + 2 := RY h.ok ha
 have hq2 := hlq.many_lt h.ok hfrin
 have hfuel := ZF
 obtain ⟨l, hl1, hl2, hl3, hl4⟩ := Ap hal fuel _ f.cost q hlq (by omega)
 have hrange : ∀ s ∈ l, 0 <= s.way /\ s.way < d.all.length := λ s hs => (hl3 s hs).1.1.1
 have hfree : ∀ s ∈ l, (AV (gD d.all s.way.toNat) s.back).1 = 0 /\ s.way ≠ at' := λ s hs => ZU (hl3 s hs).1.1.2
 have hlr : ∀ s ∈ l, 1 <= (AV (BW d.all s.way) s.back).2 := λ s hs => by
  have := hrange s hs
  exact ZG (h.small (i := s.way.toNat) (by omega)) (by omega) _
 have hr1 : 1 <= (AV (BW d.all at') (!up)).2 := ZG (h.small hk) (by omega) _
 obtain ⟨Q, hQ⟩ : ∃ Q, Q = CY d (min (AV (BW d.all at') (!up)).2 rest) l := ⟨_, rfl⟩
 have hQ1 : 1 <= Q := by rw [hQ]; exact LV l _ (by omega) hlr
 obtain ⟨hQ2, hQ3⟩ := NG (d := d) l (min (AV (BW d.all at') (!up)).2 rest)
 rw [<- hQ] at hQ2 hQ3
 have hll : l.length <= 1000 := by
  have := Dx d.all.length (l.map λ s => s.way) hl4 (λ x hx => by obtain ⟨s, hs, rfl⟩ := List.mem_map.1 hx; exact hrange s hs)
  rw [List.length_map] at this
  omega
 have hallb : (l.all λ s => decide (0 <= s.way) && decide (s.way < d.all.length)) = true := by
  rw [List.all_eq_true]
  intro s hs
  have := hrange s hs
  simp [this]
 have hQB : 0 <= Q /\ Q <= 3000000000 := by omega
 have hps := NM (q := Q) (B := 3000000000) (by omega) hQB l d.all hl4 hrange (λ i hi => by have := hbd i hi; omega) (λ i hi => by
  obtain ⟨s, hs, he⟩ := hi
  exact hbd i (by have := hrange s hs; omega))
 have hexc : ∀ v : Nat, EU v (AI Q d.all l) = EU v d.all + ind v (DB d ⟨at', up⟩) Q - ind v (DB d ⟨at', !up⟩) Q := λ v =>
  PT (c := BP d at') (by omega) hQB v l _ d.all hl2 rfl hl4 (λ i hi => ⟨⟨rfl, rfl⟩, by have := hbd i hi; omega⟩) (λ i hi => by
   obtain ⟨s, hs, he⟩ := hi
   exact hbd i (by have := hrange s hs; omega))
 have hat : gD (AI Q d.all l) at'.toNat = gD d.all at'.toNat := by
  rcases hps at'.toNat hk with ⟨s, hs, hsi, _⟩ | ⟨_, e⟩
  ·exact absurd (by omega) (hfree s hs).2
  ·exact e
 have hadd : ∀ i, i < d.all.length -> gD (BC (AI Q d.all l) at' up Q) i = if i = at'.toNat then FS Q (!up) (gD d.all at'.toNat) else gD (AI Q d.all l) i := λ i hi => by
  unfold BC
  rw [BR (by rw [BJ]; exact hk)]
  by_cases he : i = at'.toNat
  ·rw [if_pos he, if_pos he, hat]
   have := hbd _ hk
   unfold FS
   cases up
   ·simp only [Bool.false_eq_true, if_false, Bool.not_false, if_true]
    rw [DR (by omega) (by omega)]
   ·simp only [Bool.false_eq_true, if_false, Bool.not_true, if_true]
    rw [DR (by omega) (by omega)]
  ·rw [if_neg he, if_neg he]
 have hin : ∀ i, i < d.all.length -> (∃ b, gD (BC (AI Q d.all l) at' up Q) i = FS Q b (gD d.all i) /\ (gD d.all i).sp.lo <= (FS Q b (gD d.all i)).now /\ (FS Q b (gD d.all i)).now <= (gD d.all i).sp.hi) ∨ gD (BC (AI Q d.all l) at' up Q) i = gD d.all i := λ i hi => by
  rw [hadd i hi]
  by_cases he : i = at'.toNat
  ·subst he
   rw [if_pos rfl]
   exact .inl ⟨_, rfl, Cx (h.small hk) (by omega) (by omega) (by rw [hgw] at hQ2; omega) (by rw [hgw] at hp; omega) (h.now _ hk)⟩
  ·rw [if_neg he]
   rcases hps i hi with ⟨s, hs, hsi, e⟩ | ⟨_, e⟩
   ·rw [e]
    have hsn : s.way.toNat = i := by omega
    have h1 := (hfree s hs).1
    have h2 := hQ3 s hs
    rw [hsn] at h1
    unfold BW at h2
    rw [hsn] at h2
    exact .inl ⟨_, rfl, Cx (h.small hi) (by omega) (by omega) h2 (by omega) (h.now _ hi)⟩
   ·exact .inr e
 have halike : Alike d ⟨BC (AI Q d.all l) at' up Q, d.out, d.nR⟩ := ⟨rfl, rfl, by show (BC _ _ _ _).length = _; unfold BC; rw [List.length_modify, BJ], λ i hi => by
  show (gD (BC (AI Q d.all l) at' up Q) i).fr = _ /\ (gD (BC (AI Q d.all l) at' up Q) i).to = _ /\ (gD (BC (AI Q d.all l) at' up Q) i).sp = _
  rcases hin i hi with ⟨b, e, _⟩ | e <;> rw [e]
  ·exact ⟨rfl, rfl, rfl⟩
  ·exact ⟨rfl, rfl, rfl⟩⟩
 refine ⟨⟨AI Q d.all l, d.out, d.nR⟩, Q, ?_, hQ1, by omega, ⟨h.ok.alike halike, λ i hi => ?_, λ i hi => ?_, λ v hv => ?_⟩, halike, ?_⟩
 ·unfold JT
  rw [hl1]
  simp only [hallb, hll, decide_true, Bool.and_self, if_true, <- hQ]
 ·rw [halike.len] at hi
  rw [(halike.way i hi).2.2]; exact h.sp i hi
 ·rw [halike.len] at hi
  rw [(halike.way i hi).2.2]
  rcases hin i hi with ⟨b, e, e1⟩ | e
  ·show _ <= (gD (BC (AI Q d.all l) at' up Q) i).now /\ _
   rw [e]; exact e1
  ·show _ <= (gD (BC (AI Q d.all l) at' up Q) i).now /\ _
   rw [e]; exact h.now i hi
 ·show EU v (BC (AI Q d.all l) at' up Q) = 0
  unfold BC
  rw [QH v _ (ind v (DB d ⟨at', !up⟩) Q - ind v (DB d ⟨at', up⟩) Q) _ _ (by rw [BJ]; exact hk) ?_, hexc v, h.zero v hv]
  ·omega
  ·rw [hat]
   have := hbd _ hk
   rw [UJ, UJ]
   unfold MF ind
   cases up
   ·simp only [Bool.false_eq_true, if_false, Bool.not_false, if_true]
    rw [DR (by omega) (by omega)]
    by_cases h1 : (gD d.all at'.toNat).fr = v <;> by_cases h2 : (gD d.all at'.toNat).to = v <;> simp [h1, h2] <;> omega
   ·simp only [Bool.false_eq_true, if_false, Bool.not_true, if_true]
    rw [DR (by omega) (by omega)]
    by_cases h1 : (gD d.all at'.toNat).fr = v <;> by_cases h2 : (gD d.all at'.toNat).to = v <;> simp [h1, h2] <;> omega
 ·rw [hadd _ hk, if_pos rfl]
  unfold FS
  cases up
  ·simp only [Bool.false_eq_true, if_false, Bool.not_false, if_true]; omega
  ·simp only [Bool.false_eq_true, if_false, Bool.not_true, if_true]
end Go.Bal

namespace Go.Bal
open Go
variable {d : Desk}
theorem WH {at' : Int} {up : Bool} {most : Int} (hm : most <= 1000000000) : ∀ (k : Nat) (d : Desk) (total : Int), InS d -> 0 <= at' /\ at' < d.all.length -> 0 <= total -> 0 < k /\ most - total < k ->
  ∃ d' t, IT at' up most k d total = some (d', t) /\ InS d' /\ Alike d d' /\ total <= t /\ (t <= most ∨ t = total) /\ (gD d'.all at'.toNat).now = (gD d.all at'.toNat).now + (if up then t - total else -(t - total)) /\ (most <= t ∨ Ry d' at' up)
 | 0, d, total, h, ha, h0, hk => by omega
 | k + 1, d, total, h, ha, h0, hk => by
  simp only [IT]
  by_cases hlt : total < most
  ·rw [if_pos hlt]
   have hfr : 0 <= DB d ⟨at', !up⟩ /\ DB d ⟨at', !up⟩ < d.out + 2 := RY h.ok ha
   obtain ⟨rf, h1, _, hal⟩ := Cy (c := BP d at') (fr := DB d ⟨at', !up⟩) h.ok hfr (Nx at')
   rw [h1]
   simp only
   by_cases hst : ((rf.m.at (DB d ⟨at', up⟩)).isNone || decide (0 < (AV (BW d.all at') (!up)).1)) = true
   ·rw [if_pos (by simpa using hst)]
    refine ⟨d, total, rfl, h, Alike.refl d, Int.le_refl _, .inr rfl, by cases up <;> simp, .inr ?_⟩
    rw [Bool.or_eq_true, decide_eq_true_eq] at hst
    rcases hst with hst | hst
    ·refine .inr ⟨λ v => (rf.m.at v).isSome = true, hal.2 _ _ _ .nil, λ hh => ?_, λ s hs hsrc => ?_⟩
     ·rw [Option.isNone_iff_eq_none] at hst
      rw [hst] at hh; cases hh
     ·obtain ⟨g, hg⟩ := Option.isSome_iff_exists.1 hsrc
      obtain ⟨_, q, _, hq⟩ := hal.1 _ _ hg
      exact hal.2 _ _ _ (Walk.step s hq.1 hs)
    ·exact .inl hst
   ·rw [if_neg (by simpa using hst)]
    have hst : (rf.m.at (DB d ⟨at', up⟩)).isSome = true /\ ¬ 0 < (AV (BW d.all at') (!up)).1 := by
     simp only [Bool.or_eq_true, decide_eq_true_eq, not_or] at hst
     refine ⟨?_, hst.2⟩
     cases hx : rf.m.at (DB d ⟨at', up⟩) with
     | none => rw [hx] at hst; simp at hst
     | some _ => rfl
    have hwr : wr (most - total) = most - total := DR (by omega) (by omega)
    obtain ⟨d1, n, h2, h3, h4, h5, h6, h7⟩ := Fg h ha h1 hal hst.1 hst.2 (rest := most - total) (by omega)
    rw [hwr, h2]
    simp only
    rw [DR (n := total + n) (by omega) (by omega)]
    obtain ⟨d', t, g1, g2, g3, g4, g5, g6, g7⟩ := WH hm k ⟨BC d1.all at' up n, d1.out, d1.nR⟩ (total + n) h5 (by rw [h6.len]; exact ha) (by omega) (by omega)
    refine ⟨d', t, g1, g2, h6.trans g3, by omega, .inl (by omega), ?_, g7⟩
    rw [g6]
    show (gD (BC d1.all at' up n) at'.toNat).now + _ = _
    rw [h7]
    cases up <;> simp only [Bool.false_eq_true, if_true, if_false] <;> omega
  ·rw [if_neg hlt]
   exact ⟨d, total, rfl, h, Alike.refl d, Int.le_refl _, .inr rfl, by cases up <;> simp, .inl (by omega)⟩
end Go.Bal

namespace Go.Bal
open Go
variable {d d' : Desk}
theorem WF (f : Nat -> Int) : ∀ n, BQ (n + 1) f = f 0 + BQ n λ i => f (i + 1)
 | 0 => by simp [BQ]
 | n + 1 => by
  rw [BQ, WF f n]
  simp only [BQ]
  omega
theorem NA {α : Type} [Inhabited α] (f : α -> Int) : ∀ l : List α, FE f l = BQ l.length λ i => f (gD l i)
 | [] => rfl
 | w :: l => by
  rw [List.length_cons, WF]
  simp only [FE]
  rw [NA f l]
  rfl
theorem InS.circ (h : InS d) (π : Int -> Int) : BQ d.all.length (λ i => (π (gD d.all i).to - π (gD d.all i).fr) * (gD d.all i).now) = 0 := by
 have := WD π (l := d.all) (λ w hw => by
  obtain ⟨i, hi, rfl⟩ := NR hw
  have := h.ok.ends i hi
  have := h.ok.out
  omega) h.zero
 rw [NA] at this
 exact this
theorem RR {w : Way} (h : Small 3000000000 w) (hin : w.sp.lo <= w.now /\ w.now <= w.sp.hi) (hp : (AV w false).1 ≠ 0) : w.now = w.sp.hi := by
 rw [PU h (by omega)] at hp
 by_cases a : w.now < w.sp.lo
 ·omega
 ·rw [if_neg a] at hp
  by_cases e : w.now < w.sp.hi
  ·rw [if_pos e] at hp; simp at hp
  ·omega
theorem PB {w : Way} (h : Small 3000000000 w) (hin : w.sp.lo <= w.now /\ w.now <= w.sp.hi) (hp : (AV w true).1 ≠ 0) : w.now = w.sp.lo := by
 rw [MZ h (by omega)] at hp
 by_cases a : w.sp.hi < w.now
 ·omega
 ·rw [if_neg a] at hp
  by_cases e : w.sp.lo < w.now
  ·rw [if_pos e] at hp; simp at hp
  ·omega
theorem Mh {f : Nat -> Int} {n k : Nat} (hk : k < n) (h : ∀ i, i < n -> i ≠ k -> 0 <= f i) (hz : BQ n f = 0) : f k <= 0 := by
 have h1 : BQ n (λ i => if i = k then f k else 0) <= BQ n f := NE λ i hi => by
  by_cases he : i = k
  ·subst he; simp
  ·rw [if_neg he]; exact h i hi he
 rw [FR, if_pos hk, hz] at h1
 exact h1
theorem Aq (h : InS d) (h' : InS d') (hl : Alike d d') {at' : Int} (ha : 0 <= at' /\ at' < d.all.length) {up : Bool} (hs : Ry d at' up) :
  if up then (gD d'.all at'.toNat).now <= (gD d.all at'.toNat).now else (gD d.all at'.toNat).now <= (gD d'.all at'.toNat).now := by
 have hk : at'.toNat < d.all.length := by omega
 have hsp := (hl.way at'.toNat hk).2.2
 have hn' := h'.now at'.toNat (by rw [hl.len]; exact hk)
 rw [hsp] at hn'
 rcases hs with hs | ⟨S, hS1, hS2, hS3⟩
 ·unfold BW at hs
  cases up
  ·have := PB (h.small hk) (h.now _ hk) (by simp only [Bool.not_false] at hs; omega)
   simp only [Bool.false_eq_true, if_false]; omega
  ·have := RR (h.small hk) (h.now _ hk) (by simp only [Bool.not_true] at hs; omega)
   simp only [if_true]; omega
 ·classical
  obtain ⟨π, hπ⟩ : ∃ π : Int -> Int, π = λ v => if S v then 1 else 0 := ⟨_, rfl⟩
  have p1 : ∀ v, S v -> π v = 1 := λ v hv => by rw [hπ]; simp only; rw [if_pos hv]
  have p0 : ∀ v, ¬ S v -> π v = 0 := λ v hv => by rw [hπ]; simp only; rw [if_neg hv]
  have c1 := h.circ π
  have c2 := h'.circ π
  rw [hl.len, BL (g := λ i => (π (gD d.all i).to - π (gD d.all i).fr) * (gD d.all i).now + (π (gD d.all i).to - π (gD d.all i).fr) * ((gD d'.all i).now - (gD d.all i).now)) λ i hi => by
   obtain ⟨a, b, _⟩ := hl.way i hi
   rw [a, b, <- Int.mul_add]
   congr 1; omega, GL (λ i => (π (gD d.all i).to - π (gD d.all i).fr) * (gD d.all i).now), c1, Int.zero_add] at c2
  have key := Mh hk (λ i hi hne => by
   have hni := h'.now i (by rw [hl.len]; exact hi)
   rw [(hl.way i hi).2.2] at hni
   have hcnt : ∀ b : Bool, (AV (gD d.all i) b).1 = 0 -> Mg d (BP d at') ⟨(i : Int), b⟩ := λ b hb => by
    refine ⟨⟨by simp only; omega, by simp only; omega⟩, ?_⟩
    unfold BP BW
    have e : (i : Int).toNat = i := by omega
    simp only [e, hb, Bool.and_eq_true, decide_eq_true_eq]
    refine ⟨⟨trivial, λ he => ?_⟩, λ he => ?_⟩
    ·have : (i : Int) = at' := congrArg Step.way he
     omega
    ·have : (i : Int) = at' := congrArg Step.way he
     omega
   by_cases s1 : S (gD d.all i).to <;> by_cases s2 : S (gD d.all i).fr
   ·rw [p1 _ s1, p1 _ s2]; simp
   ·rw [p1 _ s1, p0 _ s2]
    have := PB (h.small hi) (h.now i hi) λ hb => s2 (hS3 _ (hcnt true hb) s1)
    omega
   ·rw [p0 _ s1, p1 _ s2]
    have := RR (h.small hi) (h.now i hi) λ hb => s1 (hS3 _ (hcnt false hb) s2)
    omega
   ·rw [p0 _ s1, p0 _ s2]; simp) c2
  rw [UJ] at hS1 hS2
  cases up
  ·simp only [Bool.not_false, if_true, Bool.false_eq_true, if_false] at hS1 hS2 ⊢
   rw [p1 _ hS1, p0 _ hS2] at key
   omega
  ·simp only [Bool.not_true, if_true, Bool.false_eq_true, if_false] at hS1 hS2 ⊢
   rw [p1 _ hS1, p0 _ hS2] at key
   omega
end Go.Bal
