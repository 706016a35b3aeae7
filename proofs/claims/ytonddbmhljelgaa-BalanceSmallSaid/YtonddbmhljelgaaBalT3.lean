/- Package balance: what is settled: what lies outside ends, and what each way bears fits heights. -/
import Derived.Test.YtonddbmhljelgaaBalT1
set_option linter.unusedVariables false
set_option linter.unusedSimpArgs false
namespace Go.Bal
open Go
variable {d : Desk} {c : Step -> Bool} {fr : Int}
def DG : Nat -> (Nat -> Int) -> Int
 | 0, _ => 0
 | n + 1, f => DG n f + f n
theorem QM (f g : Nat -> Int) : ∀ n, DG n (λ i => f i + g i) = DG n f + DG n g
 | 0 => rfl
 | n + 1 => by simp only [DG, QM f g n]; omega
theorem BQ {f g : Nat -> Int} : ∀ {n : Nat}, (∀ i, i < n -> f i = g i) -> DG n f = DG n g
 | 0, _ => rfl
 | n + 1, h => by rw [DG, DG, BQ (n := n) λ i hi => h i (by omega), h n (by omega)]
theorem bI {f g : Nat -> Int} : ∀ {n : Nat}, (∀ i, i < n -> f i <= g i) -> DG n f <= DG n g
 | 0, _ => Int.le_refl _
 | n + 1, h => by
  simp only [DG]
  have := bI λ i (hi : i < n) => h i (by omega)
  have := h n (by omega)
  omega
theorem YA : ∀ n, DG n (λ _ => 0) = 0
 | 0 => rfl
 | n + 1 => by simp only [DG, YA n]; rfl
theorem SG (u : Nat) (q : Int) : ∀ n, DG n (λ i => if i = u then q else 0) = if u < n then q else 0
 | 0 => by simp [DG]
 | n + 1 => by
  simp only [DG, SG u q n]
  by_cases h1 : u < n
  ·rw [if_pos h1, if_neg (by omega), if_pos (by omega)]; omega
  ·by_cases h2 : n = u
   ·rw [if_neg h1, if_pos h2, if_pos (by omega)]; omega
   ·rw [if_neg h1, if_neg h2, if_neg (by omega)]; omega
theorem AEK {f : Nat -> Int} {n k : Nat} (h : ∀ i, i < n -> 0 <= f i) (hk : k < n) : f k <= DG n f := by
 have h1 : DG n (λ i => if i = k then f k else 0) <= DG n f := bI λ i hi => by
  by_cases he : i = k
  ·subst he; simp
  ·rw [if_neg he]; exact h i hi
 rw [SG, if_pos hk] at h1
 exact h1
structure Lay (d : Desk) : Prop where
 ok : d.ok
 ends : ∀ i, i < d.all.length -> (0 <= (gD d.all i).fr /\ (gD d.all i).fr <= d.out) /\ 0 <= (gD d.all i).to /\ (gD d.all i).to <= d.out
 gain : ∀ i, i < d.out -> (gD d.all (d.nR + i)).fr = d.out /\ (gD d.all (d.nR + i)).to = i
theorem BIJ {w : Way} (h : (0 <= w.fr /\ w.fr < 10) /\ 0 <= w.to /\ w.to < 10) : DG 10 (λ v => Pi v w) = 0 := by
 have e : ∀ v : Nat, Pi v w = (if v = w.to.toNat then w.now else 0) + (if v = w.fr.toNat then -w.now else 0) := λ v => by
  unfold Pi
  by_cases h1 : w.to = v <;> by_cases h2 : w.fr = v
  ·rw [if_pos h1, if_pos h2, if_pos (by omega), if_pos (by omega)]; omega
  ·rw [if_pos h1, if_neg h2, if_pos (by omega), if_neg (by omega)]; omega
  ·rw [if_neg h1, if_pos h2, if_neg (by omega), if_pos (by omega)]; omega
  ·rw [if_neg h1, if_neg h2, if_neg (by omega), if_neg (by omega)]; omega
 rw [BQ λ v _ => e v, QM, SG, SG, if_pos (by omega), if_pos (by omega)]
 omega
theorem BAE : ∀ {l : List Way}, (∀ w ∈ l, (0 <= w.fr /\ w.fr < 10) /\ 0 <= w.to /\ w.to < 10) -> DG 10 (λ v => LM v l) = 0
 | [], _ => rfl
 | w :: l, h => by
  simp only [LM]
  rw [QM (λ v => Pi v w) (λ v => LM v l), BIJ (h w (by simp)), BAE λ x hx => h x (by simp [hx])]
  rfl
theorem X2 {B : Int} (hB : 0 <= B /\ B <= 1000000000000) : ∀ (r : List Way) (l : List Int) (K : Int), l.length = 10 -> (∀ w ∈ r, ((0 <= w.fr /\ w.fr < 10) /\ 0 <= w.to /\ w.to < 10) /\ -B <= w.now /\ w.now <= B) ->
  (∀ v, v < 10 -> -K <= gD l v /\ gD l v <= K) -> K + 2 * B * r.length <= 1000000000000000 -> (Zs l r).length = 10 /\ ∀ v : Nat, v < 10 -> gD (Zs l r) v = gD l v + LM v r
 | [], l, K, hl, _, _, _ => ⟨hl, λ v _ => by simp [Zs, LM]⟩
 | w :: r, l, K, hl, hw, hk, hK => by
  obtain ⟨⟨hf, ht⟩, hn⟩ := hw w (by simp)
  have hlen : (2 * B * ((w :: r).length : Nat) : Int) = 2 * B * r.length + 2 * B := by rw [List.length_cons, Int.natCast_add, Int.mul_add]; omega
  rw [hlen] at hK
  have hp : 0 <= 2 * B * (r.length : Int) := Int.mul_nonneg (by omega) (by omega)
  have e1 : ∀ v : Nat, v < 10 -> gD (l.modify w.fr.toNat λ x => wr (x - w.now)) v = gD l v - (if w.fr = v then w.now else 0) := λ v hv => by
   rw [BD (by omega)]
   by_cases he : v = w.fr.toNat
   ·rw [if_pos he, if_pos (by omega)]
    subst he
    have := hk _ hv
    exact FK (by omega) (by omega)
   ·rw [if_neg he, if_neg (by omega)]; omega
  have e2 : ∀ v : Nat, v < 10 -> gD ((l.modify w.fr.toNat λ x => wr (x - w.now)).modify w.to.toNat λ x => wr (x + w.now)) v = gD l v + Pi v w := λ v hv => by
   rw [BD (by rw [List.length_modify]; omega)]
   unfold Pi
   have hh := hk _ hv
   by_cases he : v = w.to.toNat
   ·rw [if_pos he, if_pos (show w.to = v by omega)]
    subst he
    rw [e1 _ hv, FK (by split <;> omega) (by split <;> omega)]
    omega
   ·rw [if_neg he, if_neg (show ¬ w.to = v by omega), e1 v hv]
    omega
  simp only [Zs, LM]
  obtain ⟨h1, h2⟩ := X2 hB r ((l.modify w.fr.toNat λ x => wr (x - w.now)).modify w.to.toNat λ x => wr (x + w.now)) (K + 2 * B) (by rw [List.length_modify, List.length_modify]; exact hl) (λ x hx => hw x (by simp [hx])) (λ v hv => by
   rw [e2 v hv]
   have := hk v hv
   unfold Pi
   split <;> split <;> omega) (by omega)
  exact ⟨h1, λ v hv => by rw [h2 v hv, e2 v hv]; omega⟩
theorem AHM {B : Int} (hB : 0 <= B /\ B <= 3000000000) (hd : d.ok) (hs : ∀ i, i < d.all.length -> -B <= (gD d.all i).now /\ (gD d.all i).now <= B) : (EI d).length = 10 /\ ∀ v : Nat, v < 10 -> gD (EI d) v = LM v d.all := by
 have hmem : ∀ w ∈ d.all, ((0 <= w.fr /\ w.fr < 10) /\ 0 <= w.to /\ w.to < 10) /\ -B <= w.now /\ w.now <= B := λ w hw => by
  obtain ⟨i, hi, rfl⟩ := List.getElem_of_mem hw
  have e : gD d.all i = d.all[i] := by simp [gD, hi]
  have h1 := hd.ends i hi
  have h2 := hs i hi
  have := hd.out
  rw [e] at h1 h2
  omega
 have hl := hd.len
 obtain ⟨h1, h2⟩ := X2 (B := B) ⟨hB.1, by omega⟩ d.all (List.replicate 10 0) 0 (by simp) hmem (λ v hv => by rw [GN, if_pos hv]; omega) (by
  have : (d.all.length : Int) <= 23 := by omega
  have : 2 * B * (d.all.length : Int) <= 2 * B * 23 := Int.mul_le_mul_of_nonneg_left this (by omega)
  omega)
 exact ⟨h1, λ v hv => by rw [show EI d = Zs (List.replicate 10 0) d.all from rfl, h2 v hv, GN, if_pos hv]; omega⟩
theorem ASL {p : Nat -> Bool} : ∀ {n k i : Nat}, k <= i -> i < k + n -> p i = true -> ∃ j : Nat, gO p n k = j /\ k <= j /\ j < k + n /\ p j = true
 | 0, k, i, h1, h2, _ => by omega
 | n + 1, k, i, h1, h2, h3 => by
  simp only [gO]
  by_cases h : p k = true
  ·rw [if_pos h]; exact ⟨k, rfl, Nat.le_refl _, by omega, h⟩
  ·rw [if_neg h]
   have hne : k ≠ i := λ he => h (he ▸ h3)
   obtain ⟨j, h4, h5, h6, h7⟩ := ASL (p := p) (n := n) (k := k + 1) (i := i) (by omega) (by omega) h3
   exact ⟨j, h4, by omega, by omega, h7⟩
def Cand (m : Map) (over : Nat -> Int) (v : Int) : Prop := ∃ i : Nat, v = i /\ over i < 0 /\ (m.at v).isSome = true
theorem yI {m : Map} {fr : Int} {f : Nat -> Int} (hfr : ∀ i : Nat, fr = i -> ¬ f i < 0) : ∀ (l : List Int) (p : Nat) (st : Int × Far), (∀ i, i < l.length -> gD l i = f (p + i)) -> (st.1 = fr ∨ Cand m f st.1) ->
  (∃ i, i < l.length /\ gD l i < 0 /\ (m.at (p + i : Nat)).isSome = true) ∨ Cand m f st.1 -> Cand m f (UH m fr l p st).1
 | [], p, st, _, h1, h2 => by
  rcases h2 with ⟨i, hi, _⟩ | h2
  ·simp at hi
  ·exact h2
 | x :: l, p, st, hl, h1, h2 => by
  have hx : x = f p := hl 0 (by simp)
  have hl' : ∀ i, i < l.length -> gD l i = f (p + 1 + i) := λ i hi => by
   have := hl (i + 1) (by simpa using hi)
   rw [show p + 1 + i = p + (i + 1) by omega, <- this]; rfl
  simp only [UH]
  have tail : ∀ st', (st'.1 = fr ∨ Cand m f st'.1) -> ((∃ i, i < l.length /\ gD l i < 0 /\ (m.at ((p + 1) + i : Nat)).isSome = true) ∨ Cand m f st'.1) -> Cand m f (UH m fr l (p + 1) st').1 := λ st' a b => yI hfr l (p + 1) st' hl' a b
  have shift : (∃ i, i < (x :: l).length /\ gD (x :: l) i < 0 /\ (m.at (p + i : Nat)).isSome = true) -> (x < 0 /\ (m.at (p : Nat)).isSome = true) ∨ ∃ i, i < l.length /\ gD l i < 0 /\ (m.at ((p + 1) + i : Nat)).isSome = true := by
   rintro ⟨i, hi, h3, h4⟩
   match i with
   | 0 => exact .inl ⟨h3, h4⟩
   | i + 1 => exact .inr ⟨i, by simpa using hi, h3, by rw [show p + 1 + i = p + (i + 1) by omega]; exact h4⟩
  cases hm : m.at (p : Nat) with
  | none =>
   refine tail st h1 (h2.imp (λ h => ?_) id)
   rcases shift h with ⟨_, h⟩ | h
   ·rw [hm] at h; cases h
   ·exact h
  | some g =>
   simp only
   by_cases hx0 : 0 <= x
   ·rw [if_pos hx0]
    refine tail st h1 (h2.imp (λ h => ?_) id)
    rcases shift h with ⟨h, _⟩ | h
    ·omega
    ·exact h
   ·rw [if_neg hx0]
    have hc : Cand m f (p : Int) := ⟨p, rfl, by rw [<- hx]; omega, by rw [hm]; rfl⟩
    by_cases hst : (st.1 = fr || better g st.2) = true
    ·rw [if_pos (by simpa using hst)]
     exact tail _ (.inr hc) (.inr hc)
    ·rw [if_neg (by simpa using hst)]
     have hne : st.1 ≠ fr := λ he => hst (by simp [he])
     have hcs := h1.resolve_left hne
     exact tail st h1 (.inr hcs)
end Go.Bal

namespace Go.Bal
open Go
variable {d : Desk} {c : Step -> Bool} {fr : Int}
theorem Vf (d : Desk) (s : Step) : TV d s = if s.back then (gD d.all s.way.toNat).to else (gD d.all s.way.toNat).fr := by
 unfold TV KF EW
 cases s.back <;> rfl
theorem qP (d : Desk) (s : Step) : KF d s = if s.back then (gD d.all s.way.toNat).fr else (gD d.all s.way.toNat).to := rfl
theorem kK {q B : Int} (hB : B <= 3000000000) (hq : 0 <= q /\ q <= B) (u : Int) : ∀ (l : List Step) (v : Int) (all : List Way), Tr d c fr v l -> all.length = d.all.length -> (l.map λ s => s.way).Nodup ->
  (∀ i, i < all.length -> ((gD all i).fr = (gD d.all i).fr /\ (gD all i).to = (gD d.all i).to) /\ -(2 * B) <= (gD all i).now /\ (gD all i).now <= 2 * B) ->
  (∀ i : Nat, (∃ s ∈ l, s.way = i) -> -B <= (gD all i).now /\ (gD all i).now <= B) -> LM u (AQ q all l) = LM u all + ind u v q - ind u fr q
 | [], v, all, ht, _, _, _, _ => by
  have ht : v = fr := ht
  subst ht
  simp only [AQ]; omega
 | s :: l, v, all, ht, hl, hn, hs, hs2 => by
  obtain ⟨hc, hv, ht⟩ := ht
  have hws : 0 <= s.way /\ s.way < all.length := by have := hc.1; omega
  rw [List.map_cons, List.nodup_cons] at hn
  have e := λ i => ASF (q := q) hws (B := 2 * B) (by omega) (by omega) (λ i hi => (hs i hi).2) i
  have hk := hs s.way.toNat (by omega)
  have hh := hs2 s.way.toNat ⟨s, by simp, by omega⟩
  simp only [AQ]
  rw [kK hB hq u l (TV d s) (Ae q all s) ht (by rw [Po]; exact hl) hn.2 (λ i hi => by
   rw [Po] at hi
   rw [e]
   split
   ·rename_i he; subst he
    refine ⟨hk.1, ?_⟩
    unfold UN; cases s.back <;> simp <;> omega
   ·exact hs i hi) (λ i hi => by
   obtain ⟨t, ht', hte⟩ := hi
   rw [e, if_neg]
   ·exact hs2 i ⟨t, by simp [ht'], hte⟩
   ·intro he
    refine hn.1 (List.mem_map.2 ⟨t, ht', ?_⟩)
    show t.way = s.way
    omega)]
  rw [BCZ hws (B := 2 * B) (by omega) (by omega) hk.2]
  rw [hk.1.1, hk.1.2, <- hv, qP, Vf]
  omega
def JJ (d : Desk) : Int := DG 10 λ v => max 0 (LM v d.all)
theorem Eu (d : Desk) : 0 <= JJ d := by
 have := bI (f := λ _ => 0) (g := λ v : Nat => max 0 (LM v d.all)) (n := 10) λ i _ => by omega
 rw [YA] at this
 exact this
theorem mY (d : Desk) {v : Nat} (hv : v < 10) : LM v d.all <= JJ d := by
 have := AEK (f := λ v : Nat => max 0 (LM v d.all)) (n := 10) (k := v) (λ i _ => by omega) hv
 have e : (max 0 (LM v d.all) : Int) <= JJ d := this
 omega
theorem AQI : ∀ {l : List Way} {v : Int}, (∀ w ∈ l, w.fr ≠ v /\ w.to ≠ v) -> LM v l = 0
 | [], _, _ => rfl
 | w :: l, v, h => by
  have := h w (by simp)
  simp only [LM, Pi]
  rw [if_neg this.2, if_neg this.1, AQI λ x hx => h x (by simp [hx])]
  rfl
structure Alike (d d' : Desk) : Prop where
 out : d'.out = d.out
 nR : d'.nR = d.nR
 len : d'.all.length = d.all.length
 way : ∀ i, i < d.all.length -> (gD d'.all i).fr = (gD d.all i).fr /\ (gD d'.all i).to = (gD d.all i).to /\ (gD d'.all i).sp = (gD d.all i).sp
theorem Alike.refl (d : Desk) : Alike d d := ⟨rfl, rfl, rfl, λ _ _ => ⟨rfl, rfl, rfl⟩⟩
theorem Alike.trans {d d' d'' : Desk} (h : Alike d d') (k : Alike d' d'') : Alike d d'' :=
 ⟨k.out.trans h.out, k.nR.trans h.nR, k.len.trans h.len, λ i hi => by
  obtain ⟨a, b, e⟩ := h.way i hi
  obtain ⟨a', b', e'⟩ := k.way i (by rw [h.len]; exact hi)
  exact ⟨a'.trans a, b'.trans b, e'.trans e⟩⟩
theorem Desk.ok.alike {d d' : Desk} (h : d.ok) (k : Alike d d') : d'.ok := by
 refine ⟨by rw [k.out]; exact h.out, by rw [k.len]; exact h.len, by rw [k.nR, k.out, k.len]; exact h.cut, λ i hi => ?_⟩
 rw [k.len] at hi
 obtain ⟨a, b, _⟩ := k.way i hi
 rw [a, b, k.out]
 exact h.ends i hi
theorem Lay.alike {d d' : Desk} (h : Lay d) (k : Alike d d') : Lay d' := by
 refine ⟨h.ok.alike k, λ i hi => ?_, λ i hi => ?_⟩
 ·rw [k.len] at hi
  obtain ⟨a, b, _⟩ := k.way i hi
  rw [a, b, k.out]; exact h.ends i hi
 ·rw [k.out] at hi
  obtain ⟨a, b, _⟩ := k.way (d.nR + i) (by have := h.ok.cut; omega)
  rw [k.nR, a, b, k.out]; exact h.gain i hi
structure Fit (d : Desk) (π : Int -> Int) (M : Int) : Prop where
 lay : Lay d
 sp : ∀ i, i < d.all.length -> -100000000 <= (gD d.all i).sp.lo /\ (gD d.all i).sp.lo <= (gD d.all i).sp.hi /\ (gD d.all i).sp.hi <= 100000000
 now : ∀ i, i < d.all.length -> -(M - JJ d) <= (gD d.all i).now /\ (gD d.all i).now <= M - JJ d
 opt : ∀ i, i < d.all.length -> OptW (gD d.all i) (π (gD d.all i).to - π (gD d.all i).fr)
theorem Fit.small {π : Int -> Int} {M : Int} (h : Fit d π M) (hM : M <= 3000000000) {i : Nat} (hi : i < d.all.length) : Small 3000000000 (gD d.all i) := by
 have := h.now i hi
 have := Eu d
 exact ⟨by omega, h.sp i hi⟩
theorem Fit.pot {π : Int -> Int} {M : Int} (h : Fit d π M) (hM : M <= 3000000000) : Pot d c π := by
 intro s hs
 have hk : s.way.toNat < d.all.length := by have := hs.1; omega
 have := (ABM (h.small hM hk) (by omega) _).1 (h.opt _ hk)
 rw [qP, Vf]
 show _ <= _ + (BO (gD d.all s.way.toNat) s.back).1
 cases hb : s.back <;> simp only [Bool.false_eq_true, if_true, if_false] <;> omega
theorem Lay.walk (h : Lay d) (hfr : 0 <= fr /\ fr <= d.out) {v : Int} (hv : 0 <= v /\ v <= d.out) : ∃ a k, Walk d any fr v a k := by
 have hcut := h.ok.cut
 have up : ∃ a k, Walk d any fr d.out a k := by
  by_cases he : fr = d.out
  ·rw [<- he]; exact ⟨0, 0, .nil⟩
  ·have g := h.gain fr.toNat (by omega)
   have w := Walk.step (d := d) (c := any) (fr := fr) (a := 0) (m := 0) ⟨((d.nR + fr.toNat : Nat) : Int), true⟩ (by
    rw [Vf]
    simp only [if_true, Int.toNat_natCast]
    rw [g.2, Int.toNat_of_nonneg hfr.1]
    exact .nil) ⟨by constructor <;> simp only <;> omega, rfl⟩
   rw [qP] at w
   simp only [if_true, Int.toNat_natCast] at w
   rw [g.1] at w
   exact ⟨_, _, w⟩
 by_cases he : v = d.out
 ·rw [he]; exact up
 ·obtain ⟨a, k, w0⟩ := up
  have g := h.gain v.toNat (by omega)
  have w := Walk.step (d := d) (c := any) (fr := fr) (a := a) (m := k) ⟨((d.nR + v.toNat : Nat) : Int), false⟩ (by
   rw [Vf]
   simp only [Bool.false_eq_true, if_false, Int.toNat_natCast]
   rw [g.1]
   exact w0) ⟨by constructor <;> simp only <;> omega, rfl⟩
  rw [qP] at w
  simp only [Bool.false_eq_true, if_false, Int.toNat_natCast] at w
  rw [g.2, Int.toNat_of_nonneg hv.1] at w
  exact ⟨_, _, w⟩
end Go.Bal

namespace Go.Bal
open Go
variable {d : Desk} {π : Int -> Int} {M : Int}
theorem Au {l : List Way} {w : Way} (h : w ∈ l) : ∃ i, i < l.length /\ gD l i = w := by
 obtain ⟨i, hi, rfl⟩ := List.getElem_of_mem h
 exact ⟨i, hi, by simp [gD, hi]⟩
theorem Lay.mem (h : Lay d) {w : Way} (hw : w ∈ d.all) : ((0 <= w.fr /\ w.fr <= d.out) /\ 0 <= w.to /\ w.to <= d.out) := by
 obtain ⟨i, hi, rfl⟩ := Au hw
 exact h.ends i hi
theorem Lay.sum (h : Lay d) : DG 10 (λ v => LM v d.all) = 0 := BAE λ w hw => by
 have := h.mem hw
 have := h.ok.out
 omega
theorem Lay.zero (h : Lay d) {v : Nat} (hv : d.out < v) : LM v d.all = 0 := AQI λ w hw => by
 have := h.mem hw
 omega
theorem Lay.both (h : Lay d) {k : Nat} (hk : k < 10) (hne : LM k d.all ≠ 0) : (∃ v : Nat, v < 10 /\ 0 < LM v d.all) /\ ∃ v : Nat, v < 10 /\ LM v d.all < 0 := by
 have hs := h.sum
 refine ⟨?_, ?_⟩
 ·refine Classical.byContradiction λ hno => ?_
  have hno : ∀ v : Nat, v < 10 -> LM v d.all <= 0 := λ v hv => by
   refine Classical.byContradiction λ hh => hno ⟨v, hv, by omega⟩
  have h1 := AEK (f := λ v : Nat => - LM v d.all) (n := 10) (k := k) (λ i hi => by have := hno i hi; omega) hk
  have h2 := QM (λ v : Nat => LM v d.all) (λ v : Nat => - LM v d.all) 10
  rw [BQ (g := λ _ => 0) (λ i _ => by omega), YA, hs] at h2
  have h3 := hno k hk
  have h1 : - LM k d.all <= DG 10 (λ v : Nat => - LM v d.all) := h1
  omega
 ·refine Classical.byContradiction λ hno => ?_
  have hno : ∀ v : Nat, v < 10 -> 0 <= LM v d.all := λ v hv => by
   refine Classical.byContradiction λ hh => hno ⟨v, hv, by omega⟩
  have h1 := AEK (f := λ v : Nat => LM v d.all) (n := 10) (k := k) hno hk
  rw [hs] at h1
  have h3 := hno k hk
  omega
theorem AGZ (hd : d.ok) {B : Int} (hB : 0 <= B /\ B <= 3000000000) (hs : ∀ i, i < d.all.length -> -B <= (gD d.all i).now /\ (gD d.all i).now <= B) : EI d = List.replicate 10 0 ↔ ∀ v : Nat, v < 10 -> LM v d.all = 0 := by
 obtain ⟨h1, h2⟩ := AHM hB hd hs
 constructor
 ·intro h v hv
  rw [<- h2 v hv, h, GN, if_pos hv]
 ·intro h
  refine Jc (by rw [h1]; simp) λ i hi => ?_
  rw [h1] at hi
  rw [h2 i hi, h i hi, GN, if_pos hi]
theorem AHV (h : Fit d π M) (hM : M <= 3000000000) (hne : EI d ≠ List.replicate 10 0) :
  ∃ d' π', XO d (EI d) = some d' /\ Fit d' π' M /\ JJ d' < JJ d /\ Alike d d' := by
 have hP := Eu d
 have hlen := h.lay.ok.len
 have hout := h.lay.ok.out
 have hcut := h.lay.ok.cut
 have hbd : ∀ i, i < d.all.length -> -3000000000 <= (gD d.all i).now /\ (gD d.all i).now <= 3000000000 := λ i hi => (h.small hM hi).now
 obtain ⟨ho1, ho2⟩ := AHM (B := 3000000000) (by omega) h.lay.ok hbd
 have hne' : ∃ k : Nat, k < 10 /\ LM k d.all ≠ 0 := Classical.byContradiction λ hno => hne ((AGZ h.lay.ok (B := 3000000000) (by omega) hbd).2 λ v hv => Classical.byContradiction λ hh => hno ⟨v, hv, hh⟩)
 obtain ⟨k, hk, hek⟩ := hne'
 obtain ⟨⟨v1, hv1, hp1⟩, ⟨v2, hv2, hp2⟩⟩ := h.lay.both hk hek
 obtain ⟨j, hj, _, hj10, hjp⟩ := ASL (p := λ i => decide (0 < gD (EI d) i)) (n := 10) (k := 0) (i := v1) (by omega) (by omega) (by rw [decide_eq_true_eq, ho2 v1 hv1]; exact hp1)
 have hjp : 0 < LM j d.all := by rw [decide_eq_true_eq, ho2 j (by omega)] at hjp; exact hjp
 have hfp : ID (EI d) = j := hj
 have hjo : j <= d.out := Classical.byContradiction λ hh => by have := h.lay.zero (v := j) (by omega); omega
 have hv2o : v2 <= d.out := Classical.byContradiction λ hh => by have := h.lay.zero (v := v2) (by omega); omega
 obtain ⟨rf, hrf, hrl, hal⟩ := pF (c := any) (fr := (j : Int)) h.lay.ok (by omega) (h.pot hM)
 have hreach : ∀ v : Int, 0 <= v -> v <= d.out -> (rf.m.at v).isSome = true := λ v h0 h1 => by
  obtain ⟨a, q, w⟩ := h.lay.walk (fr := (j : Int)) (by omega) ⟨h0, h1⟩
  exact hal.2 v a q w
 have hc := yI (m := rf.m) (fr := (j : Int)) (f := λ i => LM i d.all) (λ i he => by
  have : j = i := by omega
  subst this; omega) (EI d) 0 ((j : Int), ⟨0, 0, ⟨0, false⟩⟩) (λ i hi => by rw [ho2 i (by omega), Nat.zero_add]) (.inl rfl) (.inl ⟨v2, by omega, by rw [ho2 v2 hv2]; exact hp2, by
   rw [Nat.zero_add]; exact hreach v2 (by omega) (by omega)⟩)
 obtain ⟨t, ht, htn, hts⟩ := hc
 have htn : LM t d.all < 0 := htn
 rw [ht] at hts
 have ht10 : t < 10 := by
  refine Classical.byContradiction λ hh => ?_
  have := h.lay.zero (v := t) (by omega)
  omega
 have hto : t <= d.out := Classical.byContradiction λ hh => by have := h.lay.zero (v := t) (by omega); omega
 obtain ⟨f, hf⟩ := Option.isSome_iff_exists.1 hts
 obtain ⟨_, q, _, hlq⟩ := hal.1 _ _ hf
 have hq2 := hlq.many_lt h.lay.ok (by omega)
 have hfuel := AEE
 obtain ⟨l, hl1, hl2, hl3, hl4⟩ := ABX hal fuel (t : Int) f.cost q hlq (by omega)
 have hP1 := mY d (v := j) (by omega)
 have hE : ∀ v : Nat, v < 10 -> LM v d.all <= JJ d := λ v hv => mY d hv
 have hlow : -230000000000 <= LM t d.all := by
  have hs := h.lay.sum
  have h1 := bI (f := λ v : Nat => LM v d.all) (g := λ v : Nat => JJ d + if v = t then LM t d.all - JJ d else 0) (n := 10) λ i hi => by
   by_cases he : i = t
   ·subst he; rw [if_pos rfl]; omega
   ·rw [if_neg he]; have := hE i hi; omega
  rw [hs, QM (λ _ => JJ d) (λ v : Nat => if v = t then LM t d.all - JJ d else 0), SG, if_pos ht10] at h1
  have h2 : DG 10 (λ _ => JJ d) = 10 * JJ d := by simp only [DG]; omega
  have h3 : JJ d <= M := by
   have := h.now 0
   by_cases h0 : 0 < d.all.length
   ·have := h.now 0 h0; omega
   ·have hz : d.all = [] := List.eq_nil_of_length_eq_zero (by omega)
    rw [hz] at hjp; simp [LM] at hjp
  omega
 have hwr : wr (-(gD (EI d) t)) = - LM t d.all := by rw [ho2 t ht10]; exact FK (by omega) (by omega)
 have hlr : ∀ s ∈ l, 1 <= (BO (EW d.all s.way) s.back).2 := λ s hs => by
  have := (hl3 s hs).1.1.1
  exact AFM (h.small hM (i := s.way.toNat) (by omega)) (by omega) _
 obtain ⟨Q, hQ⟩ : ∃ Q, Q = JS d (min (LM j d.all) (- LM t d.all)) l := ⟨_, rfl⟩
 have hQ1 : 1 <= Q := by rw [hQ]; exact Wg l _ (by omega) hlr
 obtain ⟨hQ2, hQ3⟩ := eW (d := d) l (min (LM j d.all) (- LM t d.all))
 rw [<- hQ] at hQ2 hQ3
 have hrange : ∀ s ∈ l, 0 <= s.way /\ s.way < d.all.length := λ s hs => (hl3 s hs).1.1.1
 have hll : l.length <= 1000 := by
  have := W8 d.all.length (l.map λ s => s.way) hl4 (λ x hx => by obtain ⟨s, hs, rfl⟩ := List.mem_map.1 hx; exact hrange s hs)
  rw [List.length_map] at this
  omega
 have hallb : (l.all λ s => decide (0 <= s.way) && decide (s.way < d.all.length)) = true := by
  rw [List.all_eq_true]
  intro s hs
  have := hrange s hs
  simp [this]
 have hstep : XO d (EI d) = some ⟨AQ Q d.all l, d.out, d.nR⟩ := by
  unfold XO
  simp only [hfp, hrf]
  rw [if_neg (by omega)]
  simp only [ht, Int.toNat_natCast, hwr, ho2 j (by omega)]
  unfold Nn
  rw [hl1]
  simp only [hallb, hll, decide_true, Bool.and_self, if_true, <- hQ]
 have hM0 : JJ d <= M := by
  have hpos : 0 < d.all.length := by
   refine Classical.byContradiction λ h0 => ?_
   have hz : d.all = [] := List.eq_nil_of_length_eq_zero (by omega)
   rw [hz] at hjp; simp [LM] at hjp
  have := h.now 0 hpos
  omega
 have hQB : 0 <= Q /\ Q <= 3000000000 := by omega
 have hps := eP (q := Q) (B := 3000000000) (by omega) hQB l d.all hl4 hrange (λ i hi => by have := hbd i hi; omega) (λ i hi => by
  obtain ⟨s, hs, he⟩ := hi
  exact hbd i (by have := hrange s hs; omega))
 have hal' : Alike d ⟨AQ Q d.all l, d.out, d.nR⟩ := ⟨rfl, rfl, DR _ _ _, λ i hi => by
  show (gD (AQ Q d.all l) i).fr = _ /\ (gD (AQ Q d.all l) i).to = _ /\ (gD (AQ Q d.all l) i).sp = _
  rcases hps i hi with ⟨s, _, _, e⟩ | ⟨_, e⟩ <;> rw [e]
  ·exact ⟨rfl, rfl, rfl⟩
  ·exact ⟨rfl, rfl, rfl⟩⟩
 have hexc : ∀ v : Nat, LM v (AQ Q d.all l) = LM v d.all + ind v t Q - ind v j Q := λ v =>
  kK (c := any) (by omega) hQB v l t d.all hl2 rfl hl4 (λ i hi => ⟨⟨rfl, rfl⟩, by have := hbd i hi; omega⟩) (λ i hi => by
   obtain ⟨s, hs, he⟩ := hi
   exact hbd i (by have := hrange s hs; omega))
 have htj : t ≠ j := λ he => by subst he; omega
 have hoP : JJ ⟨AQ Q d.all l, d.out, d.nR⟩ = JJ d - Q := by
  unfold JJ
  rw [BQ (g := λ v : Nat => max 0 (LM v d.all) + if v = j then -Q else 0) λ v hv => ?_, QM, SG, if_pos (by omega)]
  ·omega
  ·show max 0 (LM v (AQ Q d.all l)) = _
   rw [hexc v]
   unfold ind
   by_cases h1 : v = j
   ·subst h1
    rw [if_neg (by omega), if_pos rfl, if_pos rfl]; omega
   ·by_cases h2 : v = t
    ·subst h2
     rw [if_pos rfl, if_neg (by omega), if_neg h1]; omega
    ·rw [if_neg (by omega), if_neg (by omega), if_neg h1]; omega
 refine ⟨_, λ v => (rf.m.far v).cost, hstep, ⟨h.lay.alike hal', ?_, ?_, ?_⟩, by omega, hal'⟩
 ·intro i hi
  rw [hal'.len] at hi
  rw [(hal'.way i hi).2.2]
  exact h.sp i hi
 ·intro i hi
  rw [hal'.len] at hi
  have := h.now i hi
  rw [hoP]
  show _ <= (gD (AQ Q d.all l) i).now /\ _
  rcases hps i hi with ⟨s, _, _, e⟩ | ⟨_, e⟩
  ·rw [e]
   unfold UN
   cases s.back <;> simp only [Bool.false_eq_true, if_true, if_false] <;> omega
  ·rw [e]; omega
 ·intro i hi
  rw [hal'.len] at hi
  have hen := h.lay.ends i hi
  have lab : ∀ v : Int, 0 <= v -> v <= d.out -> ∃ k : Nat, Least d any j v (rf.m.far v).cost k := λ v h0 h1 => by
   obtain ⟨g, hg⟩ := Option.isSome_iff_exists.1 (hreach v h0 h1)
   obtain ⟨_, k, _, hk⟩ := hal.1 v g hg
   have : rf.m.far v = g := by simp [Map.far, hg]
   rw [this]; exact ⟨k, hk⟩
  rw [(hal'.way i hi).1, (hal'.way i hi).2.1]
  show OptW (gD (AQ Q d.all l) i) _
  have hsm := h.small hM hi
  rcases hps i hi with ⟨s, hs, hsi, e⟩ | ⟨hno, e⟩
  ·rw [e]
   obtain ⟨⟨hcnt, a, m, hla, hlb⟩, _⟩ := hl3 s hs
   have hsn : s.way.toNat = i := by omega
   obtain ⟨k1, hk1⟩ := lab (TV d s) (by have := BAI h.lay.ok hcnt.1; omega) (by rw [Vf, hsn]; split <;> omega)
   obtain ⟨k2, hk2⟩ := lab (KF d s) (by have := vP h.lay.ok hcnt.1; omega) (by rw [qP, hsn]; split <;> omega)
   have e1 := (hk1.uniq hla).1
   have e2 := (hk2.uniq hlb).1
   rw [Vf, hsn] at e1
   rw [qP, hsn] at e2
   have hr : GY d s = (BO (gD d.all i) s.back).1 := by unfold GY EW; rw [hsn]
   have := BDF hsm (by omega) (q := Q) (b := s.back) (by omega) (by have := hQ3 s hs; unfold EW at this; rw [hsn] at this; exact this)
   have e3 : (if s.back then -(BO (gD d.all i) s.back).1 else (BO (gD d.all i) s.back).1) = (rf.m.far (gD d.all i).to).cost - (rf.m.far (gD d.all i).fr).cost := by
    cases hb : s.back <;> rw [hb] at e1 e2 hr <;> simp only [Bool.false_eq_true, if_true, if_false] at e1 e2 ⊢ <;> omega
   rw [<- e3]; exact this
  ·rw [e]
   refine (ABM hsm (by omega) _).2 ?_
   obtain ⟨k1, hk1⟩ := lab (gD d.all i).fr hen.1.1 hen.1.2
   obtain ⟨k2, hk2⟩ := lab (gD d.all i).to hen.2.1 hen.2.2
   have f1 := Walk.step (d := d) (c := any) (fr := (j : Int)) ⟨(i : Int), false⟩ (by rw [Vf]; exact hk1.1) ⟨by constructor <;> simp only <;> omega, rfl⟩
   have f2 := Walk.step (d := d) (c := any) (fr := (j : Int)) ⟨(i : Int), true⟩ (by rw [Vf]; exact hk2.1) ⟨by constructor <;> simp only <;> omega, rfl⟩
   have g1 := hk2.2 _ _ f1
   have g2 := hk1.2 _ _ f2
   have p1 : GY d ⟨(i : Int), false⟩ = (BO (gD d.all i) false).1 := rfl
   have p2 : GY d ⟨(i : Int), true⟩ = (BO (gD d.all i) true).1 := rfl
   rw [p1] at g1
   rw [p2] at g2
   omega
end Go.Bal
