/- Package balance: what is settled: what lies outside ends, and what each way bears fits heights. -/
import Derived.Test.YtonddbmhljelgaaBalT2
set_option linter.unusedVariables false
set_option linter.unusedSimpArgs false
namespace Go.Bal
open Go
variable {d : Desk} {c : Step -> Bool} {fr : Int}
def BQ : Nat -> (Nat -> Int) -> Int
 | 0, _ => 0
 | n + 1, f => BQ n f + f n
theorem GL (f g : Nat -> Int) : ∀ n, BQ n (λ i => f i + g i) = BQ n f + BQ n g
 | 0 => rfl
 | n + 1 => by simp only [BQ, GL f g n]; omega
theorem BL {f g : Nat -> Int} : ∀ {n : Nat}, (∀ i, i < n -> f i = g i) -> BQ n f = BQ n g
 | 0, _ => rfl
 | n + 1, h => by rw [BQ, BQ, BL (n := n) λ i hi => h i (by omega), h n (by omega)]
theorem NE {f g : Nat -> Int} : ∀ {n : Nat}, (∀ i, i < n -> f i <= g i) -> BQ n f <= BQ n g
 | 0, _ => Int.le_refl _
 | n + 1, h => by
  simp only [BQ]
  have := NE λ i (hi : i < n) => h i (by omega)
  have := h n (by omega)
  omega
theorem KB : ∀ n, BQ n (λ _ => 0) = 0
 | 0 => rfl
 | n + 1 => by simp only [BQ, KB n]; rfl
theorem FR (u : Nat) (q : Int) : ∀ n, BQ n (λ i => if i = u then q else 0) = if u < n then q else 0
 | 0 => by simp [BQ]
 | n + 1 => by
  simp only [BQ, FR u q n]
  by_cases h1 : u < n
  ·rw [if_pos h1, if_neg (by omega), if_pos (by omega)]; omega
  ·by_cases h2 : n = u
   ·rw [if_neg h1, if_pos h2, if_pos (by omega)]; omega
   ·rw [if_neg h1, if_neg h2, if_neg (by omega)]; omega
theorem YZ {f : Nat -> Int} {n k : Nat} (h : ∀ i, i < n -> 0 <= f i) (hk : k < n) : f k <= BQ n f := by
 have h1 : BQ n (λ i => if i = k then f k else 0) <= BQ n f := NE λ i hi => by
  by_cases he : i = k
  ·subst he; simp
  ·rw [if_neg he]; exact h i hi
 rw [FR, if_pos hk] at h1
 exact h1
structure Lay (d : Desk) : Prop where
 ok : d.ok
 ends : ∀ i, i < d.all.length -> (0 <= (gD d.all i).fr /\ (gD d.all i).fr <= d.out) /\ 0 <= (gD d.all i).to /\ (gD d.all i).to <= d.out
 gain : ∀ i, i < d.out -> (gD d.all (d.nR + i)).fr = d.out /\ (gD d.all (d.nR + i)).to = i
theorem Nh {w : Way} (h : (0 <= w.fr /\ w.fr < 10) /\ 0 <= w.to /\ w.to < 10) : BQ 10 (λ v => MF v w) = 0 := by
 have e : ∀ v : Nat, MF v w = (if v = w.to.toNat then w.now else 0) + (if v = w.fr.toNat then -w.now else 0) := λ v => by
  unfold MF
  by_cases h1 : w.to = v <;> by_cases h2 : w.fr = v
  ·rw [if_pos h1, if_pos h2, if_pos (by omega), if_pos (by omega)]; omega
  ·rw [if_pos h1, if_neg h2, if_pos (by omega), if_neg (by omega)]; omega
  ·rw [if_neg h1, if_pos h2, if_neg (by omega), if_pos (by omega)]; omega
  ·rw [if_neg h1, if_neg h2, if_neg (by omega), if_neg (by omega)]; omega
 rw [BL λ v _ => e v, GL, FR, FR, if_pos (by omega), if_pos (by omega)]
 omega
theorem Jv : ∀ {l : List Way}, (∀ w ∈ l, (0 <= w.fr /\ w.fr < 10) /\ 0 <= w.to /\ w.to < 10) -> BQ 10 (λ v => EU v l) = 0
 | [], _ => rfl
 | w :: l, h => by
  simp only [EU]
  rw [GL (λ v => MF v w) (λ v => EU v l), Nh (h w (by simp)), Jv λ x hx => h x (by simp [hx])]
  rfl
theorem Am {B : Int} (hB : 0 <= B /\ B <= 1000000000000) : ∀ (r : List Way) (l : List Int) (K : Int), l.length = 10 -> (∀ w ∈ r, ((0 <= w.fr /\ w.fr < 10) /\ 0 <= w.to /\ w.to < 10) /\ -B <= w.now /\ w.now <= B) ->
  (∀ v, v < 10 -> -K <= gD l v /\ gD l v <= K) -> K + 2 * B * r.length <= 1000000000000000 -> (PX l r).length = 10 /\ ∀ v : Nat, v < 10 -> gD (PX l r) v = gD l v + EU v r
 | [], l, K, hl, _, _, _ => ⟨hl, λ v _ => by simp [PX, EU]⟩
 | w :: r, l, K, hl, hw, hk, hK => by
  obtain ⟨⟨hf, ht⟩, hn⟩ := hw w (by simp)
  have hlen : (2 * B * ((w :: r).length : Nat) : Int) = 2 * B * r.length + 2 * B := by rw [List.length_cons, Int.natCast_add, Int.mul_add]; omega
  rw [hlen] at hK
  have hp : 0 <= 2 * B * (r.length : Int) := Int.mul_nonneg (by omega) (by omega)
  have e1 : ∀ v : Nat, v < 10 -> gD (l.modify w.fr.toNat λ x => wr (x - w.now)) v = gD l v - (if w.fr = v then w.now else 0) := λ v hv => by
   rw [BR (by omega)]
   by_cases he : v = w.fr.toNat
   ·rw [if_pos he, if_pos (by omega)]
    subst he
    have := hk _ hv
    exact DR (by omega) (by omega)
   ·rw [if_neg he, if_neg (by omega)]; omega
  have e2 : ∀ v : Nat, v < 10 -> gD ((l.modify w.fr.toNat λ x => wr (x - w.now)).modify w.to.toNat λ x => wr (x + w.now)) v = gD l v + MF v w := λ v hv => by
   rw [BR (by rw [List.length_modify]; omega)]
   unfold MF
   have hh := hk _ hv
   by_cases he : v = w.to.toNat
   ·rw [if_pos he, if_pos (show w.to = v by omega)]
    subst he
    rw [e1 _ hv, DR (by split <;> omega) (by split <;> omega)]
    omega
   ·rw [if_neg he, if_neg (show ¬ w.to = v by omega), e1 v hv]
    omega
  simp only [PX, EU]
  obtain ⟨h1, h2⟩ := Am hB r ((l.modify w.fr.toNat λ x => wr (x - w.now)).modify w.to.toNat λ x => wr (x + w.now)) (K + 2 * B) (by rw [List.length_modify, List.length_modify]; exact hl) (λ x hx => hw x (by simp [hx])) (λ v hv => by
   rw [e2 v hv]
   have := hk v hv
   unfold MF
   split <;> split <;> omega) (by omega)
  exact ⟨h1, λ v hv => by rw [h2 v hv, e2 v hv]; omega⟩
theorem ZI {B : Int} (hB : 0 <= B /\ B <= 3000000000) (hd : d.ok) (hs : ∀ i, i < d.all.length -> -B <= (gD d.all i).now /\ (gD d.all i).now <= B) : (AY d).length = 10 /\ ∀ v : Nat, v < 10 -> gD (AY d) v = EU v d.all := by
 have hmem : ∀ w ∈ d.all, ((0 <= w.fr /\ w.fr < 10) /\ 0 <= w.to /\ w.to < 10) /\ -B <= w.now /\ w.now <= B := λ w hw => by
  obtain ⟨i, hi, rfl⟩ := List.getElem_of_mem hw
  have e : gD d.all i = d.all[i] := by simp [gD, hi]
  have h1 := hd.ends i hi
  have h2 := hs i hi
  have := hd.out
  rw [e] at h1 h2
  omega
 have hl := hd.len
 obtain ⟨h1, h2⟩ := Am (B := B) ⟨hB.1, by omega⟩ d.all (List.replicate 10 0) 0 (by simp) hmem (λ v hv => by rw [FK, if_pos hv]; omega) (by
  have : (d.all.length : Int) <= 23 := by omega
  have : 2 * B * (d.all.length : Int) <= 2 * B * 23 := Int.mul_le_mul_of_nonneg_left this (by omega)
  omega)
 exact ⟨h1, λ v hv => by rw [show AY d = PX (List.replicate 10 0) d.all from rfl, h2 v hv, FK, if_pos hv]; omega⟩
theorem Ge {p : Nat -> Bool} : ∀ {n k i : Nat}, k <= i -> i < k + n -> p i = true -> ∃ j : Nat, GC p n k = j /\ k <= j /\ j < k + n /\ p j = true
 | 0, k, i, h1, h2, _ => by omega
 | n + 1, k, i, h1, h2, h3 => by
  simp only [GC]
  by_cases h : p k = true
  ·rw [if_pos h]; exact ⟨k, rfl, Nat.le_refl _, by omega, h⟩
  ·rw [if_neg h]
   have hne : k ≠ i := λ he => h (he ▸ h3)
   obtain ⟨j, h4, h5, h6, h7⟩ := Ge (p := p) (n := n) (k := k + 1) (i := i) (by omega) (by omega) h3
   exact ⟨j, h4, by omega, by omega, h7⟩
def Jh (m : Map) (over : Nat -> Int) (v : Int) : Prop := ∃ i : Nat, v = i /\ over i < 0 /\ (m.at v).isSome = true
theorem TU {m : Map} {fr : Int} {f : Nat -> Int} (hfr : ∀ i : Nat, fr = i -> ¬ f i < 0) : ∀ (l : List Int) (p : Nat) (st : Int × Far), (∀ i, i < l.length -> gD l i = f (p + i)) -> (st.1 = fr ∨ Jh m f st.1) ->
  (∃ i, i < l.length /\ gD l i < 0 /\ (m.at (p + i : Nat)).isSome = true) ∨ Jh m f st.1 -> Jh m f (FA m fr l p st).1
 | [], p, st, _, h1, h2 => by
  rcases h2 with ⟨i, hi, _⟩ | h2
  ·simp at hi
  ·exact h2
 | x :: l, p, st, hl, h1, h2 => by
  have hx : x = f p := hl 0 (by simp)
  have hl' : ∀ i, i < l.length -> gD l i = f (p + 1 + i) := λ i hi => by
   have := hl (i + 1) (by simpa using hi)
   rw [show p + 1 + i = p + (i + 1) by omega, <- this]; rfl
  simp only [FA]
  have tail : ∀ st', (st'.1 = fr ∨ Jh m f st'.1) -> ((∃ i, i < l.length /\ gD l i < 0 /\ (m.at ((p + 1) + i : Nat)).isSome = true) ∨ Jh m f st'.1) -> Jh m f (FA m fr l (p + 1) st').1 := λ st' a b => TU hfr l (p + 1) st' hl' a b
  have shift : (∃ i, i < (x :: l).length /\ gD (x :: l) i < 0 /\ (m.at (p + i : Nat)).isSome = true) -> (x < 0 /\ (m.at (p : Nat)).isSome = true) ∨ ∃ i, i < l.length /\ gD l i < 0 /\ (m.at ((p + 1) + i : Nat)).isSome = true := by
   rintro ⟨i, hi, h3, h4⟩
   match i with
   | 0 => exact .inl ⟨h3, h4⟩
   | i + 1 => exact .inr ⟨i, by simpa using hi, h3, by rw [show p + 1 + i = p + (i + 1) by omega]; exact h4⟩
  cases hm : m.at (p : Nat) with
  | none =>
   refine tail st h1 (h2.imp (λ h => ?_) id)
   rcases shift h with ⟨_, h⟩ | h
   ·rw [hm] at h; cases h
   ·exact h
  | some g =>
   simp only
   by_cases hx0 : 0 <= x
   ·rw [if_pos hx0]
    refine tail st h1 (h2.imp (λ h => ?_) id)
    rcases shift h with ⟨h, _⟩ | h
    ·omega
    ·exact h
   ·rw [if_neg hx0]
    have hc : Jh m f (p : Int) := ⟨p, rfl, by rw [<- hx]; omega, by rw [hm]; rfl⟩
    by_cases hst : (st.1 = fr || better g st.2) = true
    ·rw [if_pos (by simpa using hst)]
     exact tail _ (.inr hc) (.inr hc)
    ·rw [if_neg (by simpa using hst)]
     have hne : st.1 ≠ fr := λ he => hst (by simp [he])
     have hcs := h1.resolve_left hne
     exact tail st h1 (.inr hcs)
end Go.Bal

namespace Go.Bal
open Go
variable {d : Desk} {c : Step -> Bool} {fr : Int}
theorem PR (d : Desk) (s : Step) : FM d s = if s.back then (gD d.all s.way.toNat).to else (gD d.all s.way.toNat).fr := by
 unfold FM DB BW
 cases s.back <;> rfl
theorem UJ (d : Desk) (s : Step) : DB d s = if s.back then (gD d.all s.way.toNat).fr else (gD d.all s.way.toNat).to := rfl
theorem PT {q B : Int} (hB : B <= 3000000000) (hq : 0 <= q /\ q <= B) (u : Int) : ∀ (l : List Step) (v : Int) (all : List Way), Tr d c fr v l -> all.length = d.all.length -> (l.map λ s => s.way).Nodup ->
  (∀ i, i < all.length -> ((gD all i).fr = (gD d.all i).fr /\ (gD all i).to = (gD d.all i).to) /\ -(2 * B) <= (gD all i).now /\ (gD all i).now <= 2 * B) ->
  (∀ i : Nat, (∃ s ∈ l, s.way = i) -> -B <= (gD all i).now /\ (gD all i).now <= B) -> EU u (AI q all l) = EU u all + ind u v q - ind u fr q
 | [], v, all, ht, _, _, _, _ => by
  have ht : v = fr := ht
  subst ht
  simp only [AI]; omega
 | s :: l, v, all, ht, hl, hn, hs, hs2 => by
  obtain ⟨hc, hv, ht⟩ := ht
  have hws : 0 <= s.way /\ s.way < all.length := by have := hc.1; omega
  rw [List.map_cons, List.nodup_cons] at hn
  have e := λ i => Gn (q := q) hws (B := 2 * B) (by omega) (by omega) (λ i hi => (hs i hi).2) i
  have hk := hs s.way.toNat (by omega)
  have hh := hs2 s.way.toNat ⟨s, by simp, by omega⟩
  simp only [AI]
  rw [PT hB hq u l (FM d s) (DH q all s) ht (by rw [KC]; exact hl) hn.2 (λ i hi => by
   rw [KC] at hi
   rw [e]
   split
   ·rename_i he; subst he
    refine ⟨hk.1, ?_⟩
    unfold FS; cases s.back <;> simp <;> omega
   ·exact hs i hi) (λ i hi => by
   obtain ⟨t, ht', hte⟩ := hi
   rw [e, if_neg]
   ·exact hs2 i ⟨t, by simp [ht'], hte⟩
   ·intro he
    refine hn.1 (List.mem_map.2 ⟨t, ht', ?_⟩)
    show t.way = s.way
    omega)]
  rw [Me hws (B := 2 * B) (by omega) (by omega) hk.2]
  rw [hk.1.1, hk.1.2, <- hv, UJ, PR]
  omega
def CW (d : Desk) : Int := BQ 10 λ v => max 0 (EU v d.all)
theorem II (d : Desk) : 0 <= CW d := by
 have := NE (f := λ _ => 0) (g := λ v : Nat => max 0 (EU v d.all)) (n := 10) λ i _ => by omega
 rw [KB] at this
 exact this
theorem OY (d : Desk) {v : Nat} (hv : v < 10) : EU v d.all <= CW d := by
 have := YZ (f := λ v : Nat => max 0 (EU v d.all)) (n := 10) (k := v) (λ i _ => by omega) hv
 have e : (max 0 (EU v d.all) : Int) <= CW d := this
 omega
theorem Fh : ∀ {l : List Way} {v : Int}, (∀ w ∈ l, w.fr ≠ v /\ w.to ≠ v) -> EU v l = 0
 | [], _, _ => rfl
 | w :: l, v, h => by
  have := h w (by simp)
  simp only [EU, MF]
  rw [if_neg this.2, if_neg this.1, Fh λ x hx => h x (by simp [hx])]
  rfl
structure Alike (d d' : Desk) : Prop where
 out : d'.out = d.out
 nR : d'.nR = d.nR
 len : d'.all.length = d.all.length
 way : ∀ i, i < d.all.length -> (gD d'.all i).fr = (gD d.all i).fr /\ (gD d'.all i).to = (gD d.all i).to /\ (gD d'.all i).sp = (gD d.all i).sp
theorem Alike.refl (d : Desk) : Alike d d := ⟨rfl, rfl, rfl, λ _ _ => ⟨rfl, rfl, rfl⟩⟩
theorem Alike.trans {d d' d'' : Desk} (h : Alike d d') (k : Alike d' d'') : Alike d d'' :=
 ⟨k.out.trans h.out, k.nR.trans h.nR, k.len.trans h.len, λ i hi => by
  obtain ⟨a, b, e⟩ := h.way i hi
  obtain ⟨a', b', e'⟩ := k.way i (by rw [h.len]; exact hi)
  exact ⟨a'.trans a, b'.trans b, e'.trans e⟩⟩
theorem Desk.ok.alike {d d' : Desk} (h : d.ok) (k : Alike d d') : d'.ok := by
 refine ⟨by rw [k.out]; exact h.out, by rw [k.len]; exact h.len, by rw [k.nR, k.out, k.len]; exact h.cut, λ i hi => ?_⟩
 rw [k.len] at hi
 obtain ⟨a, b, _⟩ := k.way i hi
 rw [a, b, k.out]
 exact h.ends i hi
theorem Lay.alike {d d' : Desk} (h : Lay d) (k : Alike d d') : Lay d' := by
 refine ⟨h.ok.alike k, λ i hi => ?_, λ i hi => ?_⟩
 ·rw [k.len] at hi
  obtain ⟨a, b, _⟩ := k.way i hi
  rw [a, b, k.out]; exact h.ends i hi
 ·rw [k.out] at hi
  obtain ⟨a, b, _⟩ := k.way (d.nR + i) (by have := h.ok.cut; omega)
  rw [k.nR, a, b, k.out]; exact h.gain i hi
structure Fit (d : Desk) (π : Int -> Int) (M : Int) : Prop where
 lay : Lay d
 sp : ∀ i, i < d.all.length -> -100000000 <= (gD d.all i).sp.lo /\ (gD d.all i).sp.lo <= (gD d.all i).sp.hi /\ (gD d.all i).sp.hi <= 100000000
 now : ∀ i, i < d.all.length -> -(M - CW d) <= (gD d.all i).now /\ (gD d.all i).now <= M - CW d
 opt : ∀ i, i < d.all.length -> Iw (gD d.all i) (π (gD d.all i).to - π (gD d.all i).fr)
theorem Fit.small {π : Int -> Int} {M : Int} (h : Fit d π M) (hM : M <= 3000000000) {i : Nat} (hi : i < d.all.length) : Small 3000000000 (gD d.all i) := by
 have := h.now i hi
 have := II d
 exact ⟨by omega, h.sp i hi⟩
theorem Fit.pot {π : Int -> Int} {M : Int} (h : Fit d π M) (hM : M <= 3000000000) : Tj d c π := by
 intro s hs
 have hk : s.way.toNat < d.all.length := by have := hs.1; omega
 have := (Gm (h.small hM hk) (by omega) _).1 (h.opt _ hk)
 rw [UJ, PR]
 show _ <= _ + (AV (gD d.all s.way.toNat) s.back).1
 cases hb : s.back <;> simp only [Bool.false_eq_true, if_true, if_false] <;> omega
theorem Lay.walk (h : Lay d) (hfr : 0 <= fr /\ fr <= d.out) {v : Int} (hv : 0 <= v /\ v <= d.out) : ∃ a k, Walk d any fr v a k := by
 have hcut := h.ok.cut
 have up : ∃ a k, Walk d any fr d.out a k := by
  by_cases he : fr = d.out
  ·rw [<- he]; exact ⟨0, 0, .nil⟩
  ·have g := h.gain fr.toNat (by omega)
   have w := Walk.step (d := d) (c := any) (fr := fr) (a := 0) (m := 0) ⟨((d.nR + fr.toNat : Nat) : Int), true⟩ (by
    rw [PR]
    simp only [if_true, Int.toNat_natCast]
    rw [g.2, Int.toNat_of_nonneg hfr.1]
    exact .nil) ⟨by constructor <;> simp only <;> omega, rfl⟩
   rw [UJ] at w
   simp only [if_true, Int.toNat_natCast] at w
   rw [g.1] at w
   exact ⟨_, _, w⟩
 by_cases he : v = d.out
 ·rw [he]; exact up
 ·obtain ⟨a, k, w0⟩ := up
  have g := h.gain v.toNat (by omega)
  have w := Walk.step (d := d) (c := any) (fr := fr) (a := a) (m := k) ⟨((d.nR + v.toNat : Nat) : Int), false⟩ (by
   rw [PR]
   simp only [Bool.false_eq_true, if_false, Int.toNat_natCast]
   rw [g.1]
   exact w0) ⟨by constructor <;> simp only <;> omega, rfl⟩
  rw [UJ] at w
  simp only [Bool.false_eq_true, if_false, Int.toNat_natCast] at w
  rw [g.2, Int.toNat_of_nonneg hv.1] at w
  exact ⟨_, _, w⟩
end Go.Bal
