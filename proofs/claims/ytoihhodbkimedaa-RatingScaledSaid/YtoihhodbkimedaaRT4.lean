/- Package rating: the stages at which a flow can be; how far it can be dry (no program in sight). -/
import Derived.Test.YtoihhodbkimedaaRT3
set_option linter.unusedVariables false
set_option linter.unusedSimpArgs false
namespace Go.Bal
open Go Go.Sym Go.Proofs
theorem BJQ : ∀ (l : List Int) (x : Int), 0 <= x /\ x <= 2000 -> asc l -> (∀ y ∈ l, x < y /\ y <= 2000) -> brk x l = 0
 | [], _, _, _, _ => rfl
 | z :: l, x, hx, ha, h => by
  have hz := h z (List.mem_cons_self ..)
  obtain ⟨h1, h2⟩ := List.pairwise_cons.1 ha
  unfold brk
  have : FT z (wr (x + 1)) 2000 = true := by
   unfold FT wr
   rw [EO (n := x + 1) (by omega) (by omega)]
   simp only [Bool.and_eq_true, decide_eq_true_eq]; omega
  rw [this]
  exact BJQ l z (by omega) h2 (λ y hy => ⟨h1 y hy, (h y (List.mem_cons_of_mem _ hy)).2⟩)
theorem NZ {l : List Gau} (h : 1 <= l.length /\ l.length <= 24) (ho : ∀ g ∈ l, GY g) : AT l = 0 := by
 unfold AT
 have e1 : FT l.length 1 24 = true := by unfold FT; simp only [Bool.and_eq_true, decide_eq_true_eq]; omega
 have e2 : l.all Tf = true := List.all_eq_true.2 λ g hg => by
  obtain ⟨h1, h2, h3, h4, h5⟩ := ho g hg
  unfold Tf FT; simp only [Bool.and_eq_true, decide_eq_true_eq]; omega
 rw [e1, e2]; rfl
theorem BRE {b : List Int} (h1 : asc b) (h2 : ∀ x ∈ b, 1 <= x /\ x <= 2000) (h3 : b.length <= 24) : GN b = 0 := by
 unfold GN
 rw [if_neg (by omega)]
 exact BJQ b 0 (by omega) h1 (λ y hy => by have := h2 y hy; omega)
theorem BVH {l : List Gau} {b : List Int} (h : 1 <= l.length /\ l.length <= 24) (ho : ∀ g ∈ l, GY g) (h1 : asc b) (h2 : ∀ x ∈ b, 1 <= x /\ x <= 2000) (h3 : b.length <= 24) : AV ⟨l, b⟩ = 0 := by
 unfold AV
 rw [NZ h ho]
 exact BRE h1 h2 h3
def CH (l : List Gau) (b : List Int) (k : Int) : List Gau := LD (BG ⟨l, b⟩) k
theorem DU {l : List Gau} {b : List Int} {k : Int} {g : Gau} : g ∈ CH l b k ↔ g ∈ l /\ (LI b g.st : Int) = k := by
 unfold CH LD BG
 rw [List.mem_filter, beq_iff_eq]
theorem FV {l : List Gau} {b : List Int} {k : Int} (ho : ∀ g ∈ l, GY g) : ∀ g ∈ CH l b k, GY g := λ g hg => ho g (DU.1 hg).1
theorem RS (b : List Int) (t : Int) : LI b t <= b.length := List.countP_le_length
structure Thru (l : List Gau) (b : List Int) : Prop where
 len : 1 <= l.length /\ l.length <= 24
 ok : ∀ g ∈ l, GY g
 asc : asc b
 brk : ∀ x ∈ b, 1 <= x /\ x <= 2000
 few : b.length <= 24
 thru : ∀ k : Nat, k <= b.length -> ∃ x, DS x /\ (DD x).passes (CH l b k)
theorem Fits.thru {l : List Gau} {r : Rtg} (h : Fits l r) (h2 : l.length <= 24) : Thru l r.b := ⟨⟨h.len, h2⟩, h.ok, h.asc, λ x hx => by have := h.brk x hx; omega, by have := h.two; omega, λ k hk => ⟨gD r.l k, h.rise _ (BZ (by rw [h.lines]; omega)), λ g hg => by
 obtain ⟨h3, h4⟩ := DU.1 hg
 have := h.pass g h3
 rw [show LI r.b g.st = k by omega] at this; exact this⟩⟩
theorem Thru.open {l : List Gau} {b : List Int} (h : Thru l b) : AV ⟨l, b⟩ = 0 := BVH h.len h.ok h.asc h.brk h.few
theorem Thru.bk {l : List Gau} {b : List Int} (h : Thru l b) : HI l b := AIG h.open
theorem Thru.ne {l : List Gau} {b : List Int} (h : Thru l b) {k : Nat} (hk : k <= b.length) {t : Int} (ht : 0 <= t /\ t <= 2000) : DW (CH l b k) t ≠ [] := by
 obtain ⟨x, h1, h2⟩ := h.thru k hk
 exact AXL (FV h.ok) ht (AX h1) h2
theorem Thru.flow {l : List Gau} {b : List Int} (h : Thru l b) {t : Int} (ht : 0 <= t /\ t <= 2000) : GD ⟨l, b, t⟩ = 0 /\ AS ⟨l, b, t⟩ = IP (CH l b (LI b t)) t := by
 have hne := h.ne (RS b t) ht
 have e : GD ⟨l, b, t⟩ = 0 := by
  unfold GD
  rw [show AV (KI ⟨l, b, t⟩) = 0 from h.open, show inT ⟨l, b, t⟩ = true by unfold inT FT; simpa using ht, decide_eq_false (show ¬(lB (bkT ⟨l, b, t⟩)).length = 0 from λ hc => hne (List.eq_nil_of_length_eq_zero hc))]
  rfl
 refine ⟨e, ?_⟩
 unfold AS; rw [e]; rfl
theorem Thru.in {l : List Gau} {b : List Int} (h : Thru l b) {k : Nat} (hk : k <= b.length) {t : Int} (ht : 0 <= t /\ t <= 2000) : As (IP (CH l b k) t).lo /\ As (IP (CH l b k) t).hi /\ FQ (IP (CH l b k) t).lo (IP (CH l b k) t).hi := AMS (FV h.ok) ht (h.ne hk ht)
theorem CEO {a b : Rt} (ha : As a) (hb : As b) : belM a b = false ↔ FQ b a := by
 unfold belM FQ; rw [Ou ha hb, Ou hb ha, decide_eq_false_iff_not]; omega
theorem CMK {b : Bnd} (h1 : As b.lo) (h2 : As b.hi) (h3 : FQ b.lo b.hi) : A9 b = true := by
 have fs : ∀ r : Rt, As r -> fsM r = true := λ r hr => by
  obtain ⟨⟨a1, a2⟩, a3, a4⟩ := hr
  have e : wr (200000 * r.d) = 200000 * r.d := EO (by omega) (by omega)
  unfold fsM; rw [e, decide_eq_false (by omega), decide_eq_false (by omega), decide_eq_false (by omega), decide_eq_false (by omega)]; rfl
 unfold A9
 rw [fs _ h1, fs _ h2, (CEO h2 h1).2 h3]; rfl
theorem ATS {pr : Int -> Bool} : ∀ (n : Nat) (lo hi : Int), lo <= hi -> (hi - lo).toNat <= n -> (∀ m m' : Int, lo < m -> m <= m' -> m' <= hi -> pr m' = true -> pr m = true) -> (∀ m, lo < m -> m <= yL pr n lo hi -> pr m = true) /\ ∀ m, yL pr n lo hi < m -> m <= hi -> pr m = false
 | 0, lo, hi, h, hn, _ => ⟨λ m h1 h2 => by have : m <= lo := h2; omega, λ m h1 h2 => by have : lo < m := h1; omega⟩
 | n + 1, lo, hi, h, hn, hm => by
  unfold yL
  by_cases hl : lo < hi
  ·obtain ⟨h3, h4⟩ := gR hl
   rw [decide_eq_true hl]
   generalize hM : lo + (hi - lo + 1).tdiv 2 = M at *
   cases hp : pr M with
   | true =>
    obtain ⟨r1, r2⟩ := ATS n M hi h4 (by omega) (λ m m' a b c d => hm m m' (by omega) b c d)
    refine ⟨λ m a1 a2 => ?_, r2⟩
    by_cases hc : m <= M
    ·exact hm m M a1 hc h4 hp
    ·exact r1 m (by omega) a2
   | false =>
    obtain ⟨r1, r2⟩ := ATS n lo (M - 1) (by omega) (by omega) (λ m m' a b c d => hm m m' a b (by omega) d)
    refine ⟨r1, λ m a1 a2 => ?_⟩
    by_cases hc : m <= M - 1
    ·exact r2 m a1 hc
    ·cases hq : pr m with
     | false => rfl
     | true =>
      have := hm M m h3 (by omega) a2 hq
      rw [this] at hp; cases hp
  ·rw [decide_eq_false hl]
   exact ⟨λ m h1 h2 => by have : m <= lo := h2; omega, λ m h1 h2 => by have : lo < m := h1; omega⟩
def qR (q : Int) : Rt := ⟨q, 1⟩
theorem CHV {q : Int} (h : 0 <= q /\ q <= 200000) : As (qR q) := ⟨⟨Int.one_pos, by show (1 : Int) <= 2000; omega⟩, h.1, by show q <= 200000 * 1; omega⟩
def Hu (b : List Int) (k : Nat) : Span := AR (BG ⟨[], b⟩) k
theorem Thru.span {l : List Gau} {b : List Int} (h : Thru l b) {k : Nat} (hk : k <= b.length) : 0 <= (Hu b k).lo /\ (Hu b k).lo <= (Hu b k).hi /\ (Hu b k).hi <= 2000 /\ ∀ m : Int, (Hu b k).lo <= m -> m <= (Hu b k).hi -> LI b m = k := by
 obtain ⟨h1, h2, h3, h4⟩ := Ha (w := BG ⟨l, b⟩) (k := k) h.bk (by omega) (Int.ofNat_le.2 hk)
 exact ⟨h1, h2, h3, λ m a c => Int.ofNat.inj (h4 m a c)⟩
theorem Thru.up {l : List Gau} {b : List Int} (h : Thru l b) {q : Int} (hq : 0 <= q /\ q <= 200000) {k : Nat} (hk : k <= b.length) (v : BnF -> Bool) (c : Bnd -> Prop) (hv : ∀ t, (Hu b k).lo <= t -> t <= (Hu b k).hi -> (v ⟨IP (CH l b k) t, qR q⟩ = true ↔ c (IP (CH l b k) t))) (hm : ∀ t u, (Hu b k).lo <= t -> t <= u -> u <= (Hu b k).hi -> c (IP (CH l b k) u) -> c (IP (CH l b k) t)) : ((Hu b k).lo - 1 <= upM v ⟨BG ⟨l, b⟩, k, qR q⟩ /\ upM v ⟨BG ⟨l, b⟩, k, qR q⟩ <= (Hu b k).hi) /\ (∀ t, (Hu b k).lo <= t -> t <= upM v ⟨BG ⟨l, b⟩, k, qR q⟩ -> c (IP (CH l b k) t)) /\ ∀ t, upM v ⟨BG ⟨l, b⟩, k, qR q⟩ < t -> t <= (Hu b k).hi -> ¬c (IP (CH l b k) t) := by
 obtain ⟨s1, s2, s3, s4⟩ := h.span hk
 have hi := BWW (v := v) (a := ⟨BG ⟨l, b⟩, k, qR q⟩) h.bk (Int.natCast_nonneg _) (Int.ofNat_le.2 hk)
 have hp : ∀ t, (Hu b k).lo <= t -> t <= (Hu b k).hi -> (upP v ⟨BG ⟨l, b⟩, k, qR q⟩ t = true ↔ c (IP (CH l b k) t)) := λ t a d => by
  have e : upP v ⟨BG ⟨l, b⟩, k, qR q⟩ t = v ⟨IP (CH l b (LI b t)) t, qR q⟩ := rfl
  rw [e, s4 t a d]; exact hv t a d
 have hs := ATS (pr := upP v ⟨BG ⟨l, b⟩, k, qR q⟩) 3000 ((Hu b k).lo - 1) (Hu b k).hi (by omega) (by omega) (λ m m' a d e f => (hp m (by omega) (by omega)).2 (hm m m' (by omega) d e ((hp m' (by omega) e).1 f)))
 have ho : upM v ⟨BG ⟨l, b⟩, k, qR q⟩ = yL (upP v ⟨BG ⟨l, b⟩, k, qR q⟩) 3000 ((Hu b k).lo - 1) (Hu b k).hi := rfl
 rw [<- ho] at hs
 have i1 : (Hu b k).lo - 1 <= upM v ⟨BG ⟨l, b⟩, k, qR q⟩ := hi.1
 have i2 : upM v ⟨BG ⟨l, b⟩, k, qR q⟩ <= (Hu b k).hi := hi.2.1
 refine ⟨⟨i1, i2⟩, λ t a d => (hp t a (by omega)).1 (hs.1 t (by omega) d), λ t a d hc => ?_⟩
 have := hs.2 t a d
 rw [(hp t (by omega) d).2 hc] at this; cases this
theorem BUW {a b : Rt} : ¬FQ a b ↔ b.n * a.d < a.n * b.d := by unfold FQ; omega
theorem Thru.first {l : List Gau} {b : List Int} (h : Thru l b) {q : Int} (hq : 0 <= q /\ q <= 200000) {k : Nat} (hk : k <= b.length) : ((Hu b k).lo <= stF ⟨⟨l, b⟩, q⟩ k /\ stF ⟨⟨l, b⟩, q⟩ k <= (Hu b k).hi + 1) /\ (∀ t, (Hu b k).lo <= t -> t < stF ⟨⟨l, b⟩, q⟩ k -> ¬FQ (qR q) (IP (CH l b k) t).hi) /\ ∀ t, stF ⟨⟨l, b⟩, q⟩ k <= t -> t <= (Hu b k).hi -> FQ (qR q) (IP (CH l b k) t).hi := by
 obtain ⟨s1, s2, s3, s4⟩ := h.span hk
 have oq := CHV hq
 obtain ⟨⟨r0, r1⟩, r2, r3⟩ := h.up hq hk cB (λ B => ¬FQ (qR q) B.hi) (λ t a d => by
  have := (h.in hk (t := t) (by omega)).2.1
  unfold cB; rw [decide_eq_true_eq, BIE this oq, BUW]) (λ t u a d e hc h2 => hc (by
  have h1 := (h.in hk (t := t) (by omega)).2.1
  have h3 := (h.in hk (t := u) (by omega)).2.1
  have := (BLW (FV h.ok) (show 0 <= t by omega) d (by omega) (h.ne hk (t := t) (by omega))).2
  exact DP (Int.le_of_lt oq.1.1) h1.1.1 (Int.le_of_lt h3.1.1) h2 this))
 have e : stF ⟨⟨l, b⟩, q⟩ k = upM cB ⟨BG ⟨l, b⟩, k, qR q⟩ + 1 := rfl
 rw [e]
 exact ⟨⟨by omega, by omega⟩, λ t a d => r2 t a (by omega), λ t a d => Classical.byContradiction λ hc => r3 t (by omega) d hc⟩
theorem Thru.last {l : List Gau} {b : List Int} (h : Thru l b) {q : Int} (hq : 0 <= q /\ q <= 200000) {k : Nat} (hk : k <= b.length) : ((Hu b k).lo - 1 <= stL ⟨⟨l, b⟩, q⟩ k /\ stL ⟨⟨l, b⟩, q⟩ k <= (Hu b k).hi) /\ (∀ t, (Hu b k).lo <= t -> t <= stL ⟨⟨l, b⟩, q⟩ k -> FQ (IP (CH l b k) t).lo (qR q)) /\ ∀ t, stL ⟨⟨l, b⟩, q⟩ k < t -> t <= (Hu b k).hi -> ¬FQ (IP (CH l b k) t).lo (qR q) := by
 obtain ⟨s1, s2, s3, s4⟩ := h.span hk
 have oq := CHV hq
 exact h.up hq hk wP (λ B => FQ B.lo (qR q)) (λ t a d => by
  have := (h.in hk (t := t) (by omega)).1
  unfold wP; rw [decide_eq_true_eq]
  show Of (IP (CH l b k) t).lo (qR q) <= 0 ↔ _
  have := BHX this oq
  unfold FQ; omega) (λ t u a d e hc => by
  have h1 := (h.in hk (t := t) (by omega)).1
  have h3 := (h.in hk (t := u) (by omega)).1
  have := (BLW (FV h.ok) (show 0 <= t by omega) d (by omega) (h.ne hk (t := t) (by omega))).1
  exact DP (Int.le_of_lt h1.1.1) h3.1.1 (Int.le_of_lt oq.1.1) this hc)
theorem BXN (b : List Int) (k : Nat) : (Hu b k).lo = if 0 < k then gD b (k - 1) else 0 := by
 show (bif decide ((k : Int) > 0) then gD b ((k : Int) - 1).toNat else 0) = _
 by_cases h0 : 0 < k
 ·rw [decide_eq_true (show (k : Int) > 0 by omega), if_pos h0, show ((k : Int) - 1).toNat = k - 1 by omega]; rfl
 ·rw [decide_eq_false (show ¬(k : Int) > 0 by omega), if_neg h0]; rfl
theorem CBC {b : List Int} (hb : ∀ x ∈ b, 1 <= x /\ x <= 2000) (k : Nat) : (Hu b k).hi = if k < b.length then gD b k - 1 else 2000 := by
 show (bif decide ((k : Int) < b.length) then wr (gD b (k : Int).toNat - 1) else 2000) = _
 by_cases h0 : k < b.length
 ·have := hb _ (BZ h0)
  rw [decide_eq_true (show (k : Int) < b.length by omega), if_pos h0, Int.toNat_natCast]
  unfold wr; rw [EO (by omega) (by omega)]; rfl
 ·rw [decide_eq_false (show ¬(k : Int) < b.length by omega), if_neg h0]; rfl
theorem CNF {b : List Int} {t : Int} (hb : asc b) : (∀ j, j < LI b t -> gD b j <= t) /\ ∀ j, LI b t <= j -> j < b.length -> t < gD b j := by
 have h := AZY (b := b) (t := t) b.length 0
 have e : ptK b t b.length 0 = LI b t := BWZ hb
 rw [e] at h
 refine ⟨λ j hj => h.1 j (Nat.zero_le _) hj, λ j hj hj2 => ?_⟩
 have h3 := h.2 (by omega)
 by_cases he : LI b t = j
 ·rw [he] at h3; omega
 ·have := Ax hb (show LI b t < j by omega) hj2; omega
theorem Thru.at {l : List Gau} {b : List Int} (h : Thru l b) {t : Int} (ht : 0 <= t /\ t <= 2000) : (Hu b (LI b t)).lo <= t /\ t <= (Hu b (LI b t)).hi := by
 obtain ⟨h1, h2⟩ := CNF (t := t) h.asc
 rw [BXN, CBC h.brk]
 constructor
 ·split
  ·exact h1 _ (by omega)
  ·exact ht.1
 ·split
  ·rename_i hl
   have := h2 _ (Nat.le_refl _) hl; omega
  ·exact ht.2
theorem Thru.next {l : List Gau} {b : List Int} (h : Thru l b) {i j : Nat} (hij : i < j) (hj : j <= b.length) : (Hu b i).hi < (Hu b j).lo := by
 rw [BXN, CBC h.brk, if_pos (by omega), if_pos (by omega)]
 by_cases he : i = j - 1
 ·rw [he]; omega
 ·have := Ax h.asc (show i < j - 1 by omega) (by omega); omega
end Go.Bal
