/- Package rating: the stages at which a flow can be; how far it can be dry (no program in sight). -/
import Derived.Test.YtoihhodbkimedaaRT3
set_option linter.unusedVariables false
set_option linter.unusedSimpArgs false
namespace Go.Bal
open Go Go.Sym Go.Proofs
theorem brk_zero : ∀ (l : List Int) (x : Int), 0 <= x /\ x <= 2000 -> asc l -> (∀ y ∈ l, x < y /\ y <= 2000) -> brk x l = 0
 | [], _, _, _, _ => rfl
 | z :: l, x, hx, ha, h => by
  have hz := h z (List.mem_cons_self ..)
  obtain ⟨h1, h2⟩ := List.pairwise_cons.1 ha
  unfold brk
  have : inM z (wr (x + 1)) 2000 = true := by
   unfold inM wr
   rw [w64 (n := x + 1) (by omega) (by omega)]
   simp only [Bool.and_eq_true, decide_eq_true_eq]; omega
  rw [this]
  exact brk_zero l z (by omega) h2 (λ y hy => ⟨h1 y hy, (h y (List.mem_cons_of_mem _ hy)).2⟩)
theorem check_zero {l : List Gau} (h : 1 <= l.length /\ l.length <= 24) (ho : ∀ g ∈ l, okG g) : checkG l = 0 := by
 unfold checkG
 have e1 : inM l.length 1 24 = true := by unfold inM; simp only [Bool.and_eq_true, decide_eq_true_eq]; omega
 have e2 : l.all riG = true := List.all_eq_true.2 λ g hg => by
  obtain ⟨h1, h2, h3, h4, h5⟩ := ho g hg
  unfold riG inM; simp only [Bool.and_eq_true, decide_eq_true_eq]; omega
 rw [e1, e2]; rfl
theorem brk_ok0 {b : List Int} (h1 : asc b) (h2 : ∀ x ∈ b, 1 <= x /\ x <= 2000) (h3 : b.length <= 24) : checkBM b = 0 := by
 unfold checkBM
 rw [if_neg (by omega)]
 exact brk_zero b 0 (by omega) h1 (λ y hy => by have := h2 y hy; omega)
theorem open_zero {l : List Gau} {b : List Int} (h : 1 <= l.length /\ l.length <= 24) (ho : ∀ g ∈ l, okG g) (h1 : asc b) (h2 : ∀ x ∈ b, 1 <= x /\ x <= 2000) (h3 : b.length <= 24) : openE ⟨l, b⟩ = 0 := by
 unfold openE
 rw [check_zero h ho]
 exact brk_ok0 h1 h2 h3
def partS (l : List Gau) (b : List Int) (k : Int) : List Gau := insM (newB ⟨l, b⟩) k
theorem part_mem {l : List Gau} {b : List Int} {k : Int} {g : Gau} : g ∈ partS l b k ↔ g ∈ l /\ (leC b g.st : Int) = k := by
 unfold partS insM newB
 rw [List.mem_filter, beq_iff_eq]
theorem part_ok {l : List Gau} {b : List Int} {k : Int} (ho : ∀ g ∈ l, okG g) : ∀ g ∈ partS l b k, okG g := λ g hg => ho g (part_mem.1 hg).1
theorem leC_le (b : List Int) (t : Int) : leC b t <= b.length := List.countP_le_length
structure Thru (l : List Gau) (b : List Int) : Prop where
 len : 1 <= l.length /\ l.length <= 24
 ok : ∀ g ∈ l, okG g
 asc : asc b
 brk : ∀ x ∈ b, 1 <= x /\ x <= 2000
 few : b.length <= 24
 thru : ∀ k : Nat, k <= b.length -> ∃ x, okL x /\ (rlL x).passes (partS l b k)
theorem Fits.thru {l : List Gau} {r : Rtg} (h : Fits l r) (h2 : l.length <= 24) : Thru l r.b := ⟨⟨h.len, h2⟩, h.ok, h.asc, λ x hx => by have := h.brk x hx; omega, by have := h.two; omega, λ k hk => ⟨gD r.l k, h.rise _ (gD_mem (by rw [h.lines]; omega)), λ g hg => by
 obtain ⟨h3, h4⟩ := part_mem.1 hg
 have := h.pass g h3
 rw [show leC r.b g.st = k by omega] at this; exact this⟩⟩
theorem Thru.open {l : List Gau} {b : List Int} (h : Thru l b) : openE ⟨l, b⟩ = 0 := open_zero h.len h.ok h.asc h.brk h.few
theorem Thru.bk {l : List Gau} {b : List Int} (h : Thru l b) : bkOk l b := open_ok h.open
theorem Thru.ne {l : List Gau} {b : List Int} (h : Thru l b) {k : Nat} (hk : k <= b.length) {t : Int} (ht : 0 <= t /\ t <= 2000) : lnsM (partS l b k) t ≠ [] := by
 obtain ⟨x, h1, h2⟩ := h.thru k hk
 exact lns_ne (part_ok h.ok) ht (rlL_ok h1) h2
theorem Thru.flow {l : List Gau} {b : List Int} (h : Thru l b) {t : Int} (ht : 0 <= t /\ t <= 2000) : flowE ⟨l, b, t⟩ = 0 /\ flowB ⟨l, b, t⟩ = bdS (partS l b (leC b t)) t := by
 have hne := h.ne (leC_le b t) ht
 have e : flowE ⟨l, b, t⟩ = 0 := by
  unfold flowE
  rw [show openE (gbt ⟨l, b, t⟩) = 0 from h.open, show inT ⟨l, b, t⟩ = true by unfold inT inM; simpa using ht, decide_eq_false (show ¬(lB (bkT ⟨l, b, t⟩)).length = 0 from λ hc => hne (List.eq_nil_of_length_eq_zero hc))]
  rfl
 refine ⟨e, ?_⟩
 unfold flowB; rw [e]; rfl
theorem Thru.in {l : List Gau} {b : List Int} (h : Thru l b) {k : Nat} (hk : k <= b.length) {t : Int} (ht : 0 <= t /\ t <= 2000) : okR (bdS (partS l b k) t).lo /\ okR (bdS (partS l b k) t).hi /\ leR (bdS (partS l b k) t).lo (bdS (partS l b k) t).hi := bdS_in (part_ok h.ok) ht (h.ne hk ht)
theorem bel_iff {a b : Rt} (ha : okR a) (hb : okR b) : belM a b = false ↔ leR b a := by
 unfold belM leR; rw [mul_okR ha hb, mul_okR hb ha, decide_eq_false_iff_not]; omega
theorem snd_ok {b : Bnd} (h1 : okR b.lo) (h2 : okR b.hi) (h3 : leR b.lo b.hi) : sndM b = true := by
 have fs : ∀ r : Rt, okR r -> fsM r = true := λ r hr => by
  obtain ⟨⟨a1, a2⟩, a3, a4⟩ := hr
  have e : wr (200000 * r.d) = 200000 * r.d := w64 (by omega) (by omega)
  unfold fsM; rw [e, decide_eq_false (by omega), decide_eq_false (by omega), decide_eq_false (by omega), decide_eq_false (by omega)]; rfl
 unfold sndM
 rw [fs _ h1, fs _ h2, (bel_iff h2 h1).2 h3]; rfl
theorem upL_spec {pr : Int -> Bool} : ∀ (n : Nat) (lo hi : Int), lo <= hi -> (hi - lo).toNat <= n -> (∀ m m' : Int, lo < m -> m <= m' -> m' <= hi -> pr m' = true -> pr m = true) -> (∀ m, lo < m -> m <= upL pr n lo hi -> pr m = true) /\ ∀ m, upL pr n lo hi < m -> m <= hi -> pr m = false
 | 0, lo, hi, h, hn, _ => ⟨λ m h1 h2 => by have : m <= lo := h2; omega, λ m h1 h2 => by have : lo < m := h1; omega⟩
 | n + 1, lo, hi, h, hn, hm => by
  unfold upL
  by_cases hl : lo < hi
  ·obtain ⟨h3, h4⟩ := mid_in hl
   rw [decide_eq_true hl]
   generalize hM : lo + (hi - lo + 1).tdiv 2 = M at *
   cases hp : pr M with
   | true =>
    obtain ⟨r1, r2⟩ := upL_spec n M hi h4 (by omega) (λ m m' a b c d => hm m m' (by omega) b c d)
    refine ⟨λ m a1 a2 => ?_, r2⟩
    by_cases hc : m <= M
    ·exact hm m M a1 hc h4 hp
    ·exact r1 m (by omega) a2
   | false =>
    obtain ⟨r1, r2⟩ := upL_spec n lo (M - 1) (by omega) (by omega) (λ m m' a b c d => hm m m' a b (by omega) d)
    refine ⟨r1, λ m a1 a2 => ?_⟩
    by_cases hc : m <= M - 1
    ·exact r2 m a1 hc
    ·cases hq : pr m with
     | false => rfl
     | true =>
      have := hm M m h3 (by omega) a2 hq
      rw [this] at hp; cases hp
  ·rw [decide_eq_false hl]
   exact ⟨λ m h1 h2 => by have : m <= lo := h2; omega, λ m h1 h2 => by have : lo < m := h1; omega⟩
def qR (q : Int) : Rt := ⟨q, 1⟩
theorem qR_ok {q : Int} (h : 0 <= q /\ q <= 200000) : okR (qR q) := ⟨⟨Int.one_pos, by show (1 : Int) <= 2000; omega⟩, h.1, by show q <= 200000 * 1; omega⟩
def spK (b : List Int) (k : Nat) : Span := spanM (newB ⟨[], b⟩) k
theorem Thru.span {l : List Gau} {b : List Int} (h : Thru l b) {k : Nat} (hk : k <= b.length) : 0 <= (spK b k).lo /\ (spK b k).lo <= (spK b k).hi /\ (spK b k).hi <= 2000 /\ ∀ m : Int, (spK b k).lo <= m -> m <= (spK b k).hi -> leC b m = k := by
 obtain ⟨h1, h2, h3, h4⟩ := span_ok (w := newB ⟨l, b⟩) (k := k) h.bk (by omega) (Int.ofNat_le.2 hk)
 exact ⟨h1, h2, h3, λ m a c => Int.ofNat.inj (h4 m a c)⟩
theorem Thru.up {l : List Gau} {b : List Int} (h : Thru l b) {q : Int} (hq : 0 <= q /\ q <= 200000) {k : Nat} (hk : k <= b.length) (v : BnF -> Bool) (c : Bnd -> Prop) (hv : ∀ t, (spK b k).lo <= t -> t <= (spK b k).hi -> (v ⟨bdS (partS l b k) t, qR q⟩ = true ↔ c (bdS (partS l b k) t))) (hm : ∀ t u, (spK b k).lo <= t -> t <= u -> u <= (spK b k).hi -> c (bdS (partS l b k) u) -> c (bdS (partS l b k) t)) : ((spK b k).lo - 1 <= upM v ⟨newB ⟨l, b⟩, k, qR q⟩ /\ upM v ⟨newB ⟨l, b⟩, k, qR q⟩ <= (spK b k).hi) /\ (∀ t, (spK b k).lo <= t -> t <= upM v ⟨newB ⟨l, b⟩, k, qR q⟩ -> c (bdS (partS l b k) t)) /\ ∀ t, upM v ⟨newB ⟨l, b⟩, k, qR q⟩ < t -> t <= (spK b k).hi -> ¬c (bdS (partS l b k) t) := by
 obtain ⟨s1, s2, s3, s4⟩ := h.span hk
 have hi := upM_in (v := v) (a := ⟨newB ⟨l, b⟩, k, qR q⟩) h.bk (Int.natCast_nonneg _) (Int.ofNat_le.2 hk)
 have hp : ∀ t, (spK b k).lo <= t -> t <= (spK b k).hi -> (upP v ⟨newB ⟨l, b⟩, k, qR q⟩ t = true ↔ c (bdS (partS l b k) t)) := λ t a d => by
  have e : upP v ⟨newB ⟨l, b⟩, k, qR q⟩ t = v ⟨bdS (partS l b (leC b t)) t, qR q⟩ := rfl
  rw [e, s4 t a d]; exact hv t a d
 have hs := upL_spec (pr := upP v ⟨newB ⟨l, b⟩, k, qR q⟩) 3000 ((spK b k).lo - 1) (spK b k).hi (by omega) (by omega) (λ m m' a d e f => (hp m (by omega) (by omega)).2 (hm m m' (by omega) d e ((hp m' (by omega) e).1 f)))
 have ho : upM v ⟨newB ⟨l, b⟩, k, qR q⟩ = upL (upP v ⟨newB ⟨l, b⟩, k, qR q⟩) 3000 ((spK b k).lo - 1) (spK b k).hi := rfl
 rw [<- ho] at hs
 have i1 : (spK b k).lo - 1 <= upM v ⟨newB ⟨l, b⟩, k, qR q⟩ := hi.1
 have i2 : upM v ⟨newB ⟨l, b⟩, k, qR q⟩ <= (spK b k).hi := hi.2.1
 refine ⟨⟨i1, i2⟩, λ t a d => (hp t a (by omega)).1 (hs.1 t (by omega) d), λ t a d hc => ?_⟩
 have := hs.2 t a d
 rw [(hp t (by omega) d).2 hc] at this; cases this
theorem lt_of_not {a b : Rt} : ¬leR a b ↔ b.n * a.d < a.n * b.d := by unfold leR; omega
theorem Thru.first {l : List Gau} {b : List Int} (h : Thru l b) {q : Int} (hq : 0 <= q /\ q <= 200000) {k : Nat} (hk : k <= b.length) : ((spK b k).lo <= stF ⟨⟨l, b⟩, q⟩ k /\ stF ⟨⟨l, b⟩, q⟩ k <= (spK b k).hi + 1) /\ (∀ t, (spK b k).lo <= t -> t < stF ⟨⟨l, b⟩, q⟩ k -> ¬leR (qR q) (bdS (partS l b k) t).hi) /\ ∀ t, stF ⟨⟨l, b⟩, q⟩ k <= t -> t <= (spK b k).hi -> leR (qR q) (bdS (partS l b k) t).hi := by
 obtain ⟨s1, s2, s3, s4⟩ := h.span hk
 have oq := qR_ok hq
 obtain ⟨⟨r0, r1⟩, r2, r3⟩ := h.up hq hk st1 (λ B => ¬leR (qR q) B.hi) (λ t a d => by
  have := (h.in hk (t := t) (by omega)).2.1
  unfold st1; rw [decide_eq_true_eq, cmpR_lt this oq, lt_of_not]) (λ t u a d e hc h2 => hc (by
  have h1 := (h.in hk (t := t) (by omega)).2.1
  have h3 := (h.in hk (t := u) (by omega)).2.1
  have := (bdS_rise (part_ok h.ok) (show 0 <= t by omega) d (by omega) (h.ne hk (t := t) (by omega))).2
  exact leR_trans (Int.le_of_lt oq.1.1) h1.1.1 (Int.le_of_lt h3.1.1) h2 this))
 have e : stF ⟨⟨l, b⟩, q⟩ k = upM st1 ⟨newB ⟨l, b⟩, k, qR q⟩ + 1 := rfl
 rw [e]
 exact ⟨⟨by omega, by omega⟩, λ t a d => r2 t a (by omega), λ t a d => Classical.byContradiction λ hc => r3 t (by omega) d hc⟩
theorem Thru.last {l : List Gau} {b : List Int} (h : Thru l b) {q : Int} (hq : 0 <= q /\ q <= 200000) {k : Nat} (hk : k <= b.length) : ((spK b k).lo - 1 <= stL ⟨⟨l, b⟩, q⟩ k /\ stL ⟨⟨l, b⟩, q⟩ k <= (spK b k).hi) /\ (∀ t, (spK b k).lo <= t -> t <= stL ⟨⟨l, b⟩, q⟩ k -> leR (bdS (partS l b k) t).lo (qR q)) /\ ∀ t, stL ⟨⟨l, b⟩, q⟩ k < t -> t <= (spK b k).hi -> ¬leR (bdS (partS l b k) t).lo (qR q) := by
 obtain ⟨s1, s2, s3, s4⟩ := h.span hk
 have oq := qR_ok hq
 exact h.up hq hk st2 (λ B => leR B.lo (qR q)) (λ t a d => by
  have := (h.in hk (t := t) (by omega)).1
  unfold st2; rw [decide_eq_true_eq]
  show cmpR (bdS (partS l b k) t).lo (qR q) <= 0 ↔ _
  have := cmpR_gt this oq
  unfold leR; omega) (λ t u a d e hc => by
  have h1 := (h.in hk (t := t) (by omega)).1
  have h3 := (h.in hk (t := u) (by omega)).1
  have := (bdS_rise (part_ok h.ok) (show 0 <= t by omega) d (by omega) (h.ne hk (t := t) (by omega))).1
  exact leR_trans (Int.le_of_lt h1.1.1) h3.1.1 (Int.le_of_lt oq.1.1) this hc)
theorem spK_lo (b : List Int) (k : Nat) : (spK b k).lo = if 0 < k then gD b (k - 1) else 0 := by
 show (bif decide ((k : Int) > 0) then gD b ((k : Int) - 1).toNat else 0) = _
 by_cases h0 : 0 < k
 ·rw [decide_eq_true (show (k : Int) > 0 by omega), if_pos h0, show ((k : Int) - 1).toNat = k - 1 by omega]; rfl
 ·rw [decide_eq_false (show ¬(k : Int) > 0 by omega), if_neg h0]; rfl
theorem spK_hi {b : List Int} (hb : ∀ x ∈ b, 1 <= x /\ x <= 2000) (k : Nat) : (spK b k).hi = if k < b.length then gD b k - 1 else 2000 := by
 show (bif decide ((k : Int) < b.length) then wr (gD b (k : Int).toNat - 1) else 2000) = _
 by_cases h0 : k < b.length
 ·have := hb _ (gD_mem h0)
  rw [decide_eq_true (show (k : Int) < b.length by omega), if_pos h0, Int.toNat_natCast]
  unfold wr; rw [w64 (by omega) (by omega)]; rfl
 ·rw [decide_eq_false (show ¬(k : Int) < b.length by omega), if_neg h0]; rfl
theorem leC_at {b : List Int} {t : Int} (hb : asc b) : (∀ j, j < leC b t -> gD b j <= t) /\ ∀ j, leC b t <= j -> j < b.length -> t < gD b j := by
 have h := ptK_spec (b := b) (t := t) b.length 0
 have e : ptK b t b.length 0 = leC b t := ptM_eq hb
 rw [e] at h
 refine ⟨λ j hj => h.1 j (Nat.zero_le _) hj, λ j hj hj2 => ?_⟩
 have h3 := h.2 (by omega)
 by_cases he : leC b t = j
 ·rw [he] at h3; omega
 ·have := asc_lt hb (show leC b t < j by omega) hj2; omega
theorem Thru.at {l : List Gau} {b : List Int} (h : Thru l b) {t : Int} (ht : 0 <= t /\ t <= 2000) : (spK b (leC b t)).lo <= t /\ t <= (spK b (leC b t)).hi := by
 obtain ⟨h1, h2⟩ := leC_at (t := t) h.asc
 rw [spK_lo, spK_hi h.brk]
 constructor
 ·split
  ·exact h1 _ (by omega)
  ·exact ht.1
 ·split
  ·rename_i hl
   have := h2 _ (Nat.le_refl _) hl; omega
  ·exact ht.2
theorem Thru.next {l : List Gau} {b : List Int} (h : Thru l b) {i j : Nat} (hij : i < j) (hj : j <= b.length) : (spK b i).hi < (spK b j).lo := by
 rw [spK_lo, spK_hi h.brk, if_pos (by omega), if_pos (by omega)]
 by_cases he : i = j - 1
 ·rw [he]; omega
 ·have := asc_lt h.asc (show i < j - 1 by omega) (by omega); omega
end Go.Bal
