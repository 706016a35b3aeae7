/- Package rating: the stages at which a flow can be; how far it can be dry (no program in sight). -/
import Derived.Test.YtoihhodbkimedaaGreatRatU
set_option linter.unusedVariables false
set_option linter.unusedSimpArgs false
namespace Go.Bal
open Go Go.Sym Go.Proofs
theorem BOC : ∀ (l : List Int) (x : Int), 0 <= x /\ x <= 2000 -> asc l -> (∀ y ∈ l, x < y /\ y <= 2000) -> brk x l = 0
 | [], _, _, _, _ => rfl
 | z :: l, x, hx, ha, h => by
  have hz := h z (List.mem_cons_self ..)
  obtain ⟨h1, h2⟩ := List.pairwise_cons.1 ha
  unfold brk
  have : BY z (wr (x + 1)) 2000 = true := by
   unfold BY wr
   rw [EV (n := x + 1) (by omega) (by omega)]
   simp only [Bool.and_eq_true, decide_eq_true_eq]; omega
  rw [this]
  exact BOC l z (by omega) h2 (λ y hy => ⟨h1 y hy, (h y (List.mem_cons_of_mem _ hy)).2⟩)
theorem BQZ {l : List Gau} (h : 1 <= l.length /\ l.length <= 24) (ho : ∀ g ∈ l, DJ g) : AQ l = 0 := by
 unfold AQ
 have e1 : BY l.length 1 24 = true := by unfold BY; simp only [Bool.and_eq_true, decide_eq_true_eq]; omega
 have e2 : l.all Ck = true := List.all_eq_true.2 λ g hg => by
  obtain ⟨h1, h2, h3, h4, h5⟩ := ho g hg
  unfold Ck BY; simp only [Bool.and_eq_true, decide_eq_true_eq]; omega
 rw [e1, e2]; rfl
theorem CKY {b : List Int} (h1 : asc b) (h2 : ∀ x ∈ b, 1 <= x /\ x <= 2000) (h3 : b.length <= 24) : DQ b = 0 := by
 unfold DQ
 rw [if_neg (by omega)]
 exact BOC b 0 (by omega) h1 (λ y hy => by have := h2 y hy; omega)
theorem BYU {l : List Gau} {b : List Int} (h : 1 <= l.length /\ l.length <= 24) (ho : ∀ g ∈ l, DJ g) (h1 : asc b) (h2 : ∀ x ∈ b, 1 <= x /\ x <= 2000) (h3 : b.length <= 24) : AH ⟨l, b⟩ = 0 := by
 unfold AH
 rw [BQZ h ho]
 exact CKY h1 h2 h3
def BE (l : List Gau) (b : List Int) (k : Int) : List Gau := KY (AP ⟨l, b⟩) k
theorem BNE {l : List Gau} {b : List Int} {k : Int} {g : Gau} : g ∈ BE l b k ↔ g ∈ l /\ (ET b g.st : Int) = k := by
 unfold BE KY AP
 rw [List.mem_filter, beq_iff_eq]
theorem JS {l : List Gau} {b : List Int} {k : Int} (ho : ∀ g ∈ l, DJ g) : ∀ g ∈ BE l b k, DJ g := λ g hg => ho g (BNE.1 hg).1
theorem BSN (b : List Int) (t : Int) : ET b t <= b.length := List.countP_le_length
structure Thru (l : List Gau) (b : List Int) : Prop where
 len : 1 <= l.length /\ l.length <= 24
 ok : ∀ g ∈ l, DJ g
 asc : asc b
 brk : ∀ x ∈ b, 1 <= x /\ x <= 2000
 few : b.length <= 24
 thru : ∀ k : Nat, k <= b.length -> ∃ x, DR x /\ (CH x).passes (BE l b k)
theorem Fits.thru {l : List Gau} {r : Rtg} (h : Fits l r) (h2 : l.length <= 24) : Thru l r.b := ⟨⟨h.len, h2⟩, h.ok, h.asc, λ x hx => by have := h.brk x hx; omega, by have := h.two; omega, λ k hk => ⟨gD r.l k, h.rise _ (BM (by rw [h.lines]; omega)), λ g hg => by
 obtain ⟨h3, h4⟩ := BNE.1 hg
 have := h.pass g h3
 rw [show ET r.b g.st = k by omega] at this; exact this⟩⟩
theorem Thru.open {l : List Gau} {b : List Int} (h : Thru l b) : AH ⟨l, b⟩ = 0 := BYU h.len h.ok h.asc h.brk h.few
theorem Thru.bk {l : List Gau} {b : List Int} (h : Thru l b) : GZ l b := HP h.open
theorem Thru.ne {l : List Gau} {b : List Int} (h : Thru l b) {k : Nat} (hk : k <= b.length) {t : Int} (ht : 0 <= t /\ t <= 2000) : CR (BE l b k) t ≠ [] := by
 obtain ⟨x, h1, h2⟩ := h.thru k hk
 exact Ge (JS h.ok) ht (BO h1) h2
theorem Thru.flow {l : List Gau} {b : List Int} (h : Thru l b) {t : Int} (ht : 0 <= t /\ t <= 2000) : BD ⟨l, b, t⟩ = 0 /\ AU ⟨l, b, t⟩ = FU (BE l b (ET b t)) t := by
 have hne := h.ne (BSN b t) ht
 have e : BD ⟨l, b, t⟩ = 0 := by
  unfold BD
  rw [show AH (GA ⟨l, b, t⟩) = 0 from h.open, show inT ⟨l, b, t⟩ = true by unfold inT BY; simpa using ht, decide_eq_false (show ¬(lB (bkT ⟨l, b, t⟩)).length = 0 from λ hc => hne (List.eq_nil_of_length_eq_zero hc))]
  rfl
 refine ⟨e, ?_⟩
 unfold AU; rw [e]; rfl
theorem Thru.in {l : List Gau} {b : List Int} (h : Thru l b) {k : Nat} (hk : k <= b.length) {t : Int} (ht : 0 <= t /\ t <= 2000) : Jg (FU (BE l b k) t).lo /\ Jg (FU (BE l b k) t).hi /\ HC (FU (BE l b k) t).lo (FU (BE l b k) t).hi := cR (JS h.ok) ht (h.ne hk ht)
def belM (a b : Rt) : Bool := decide (wr (a.n * b.d) < wr (b.n * a.d))
theorem CNU {a b : Rt} (ha : Jg a) (hb : Jg b) : belM a b = false ↔ HC b a := by
 unfold belM HC; rw [Qv ha hb, Qv hb ha, decide_eq_false_iff_not]; omega
theorem rP {pr : Int -> Bool} : ∀ (n : Nat) (lo hi : Int), lo <= hi -> (hi - lo).toNat <= n -> (∀ m m' : Int, lo < m -> m <= m' -> m' <= hi -> pr m' = true -> pr m = true) -> (∀ m, lo < m -> m <= wB pr n lo hi -> pr m = true) /\ ∀ m, wB pr n lo hi < m -> m <= hi -> pr m = false
 | 0, lo, hi, h, hn, _ => ⟨λ m h1 h2 => by have : m <= lo := h2; omega, λ m h1 h2 => by have : lo < m := h1; omega⟩
 | n + 1, lo, hi, h, hn, hm => by
  unfold wB
  by_cases hl : lo < hi
  ·obtain ⟨h3, h4⟩ := aB hl
   rw [decide_eq_true hl]
   generalize hM : lo + (hi - lo + 1).tdiv 2 = M at *
   cases hp : pr M with
   | true =>
    obtain ⟨r1, r2⟩ := rP n M hi h4 (by omega) (λ m m' a b c d => hm m m' (by omega) b c d)
    refine ⟨λ m a1 a2 => ?_, r2⟩
    by_cases hc : m <= M
    ·exact hm m M a1 hc h4 hp
    ·exact r1 m (by omega) a2
   | false =>
    obtain ⟨r1, r2⟩ := rP n lo (M - 1) (by omega) (by omega) (λ m m' a b c d => hm m m' a b (by omega) d)
    refine ⟨r1, λ m a1 a2 => ?_⟩
    by_cases hc : m <= M - 1
    ·exact r2 m a1 hc
    ·cases hq : pr m with
     | false => rfl
     | true =>
      have := hm M m h3 (by omega) a2 hq
      rw [this] at hp; cases hp
  ·rw [decide_eq_false hl]
   exact ⟨λ m h1 h2 => by have : m <= lo := h2; omega, λ m h1 h2 => by have : lo < m := h1; omega⟩
def qR (q : Int) : Rt := ⟨q, 1⟩
theorem BUM {q : Int} (h : 0 <= q /\ q <= 200000) : Jg (qR q) := ⟨⟨Int.one_pos, by show (1 : Int) <= 2000; omega⟩, h.1, by show q <= 200000 * 1; omega⟩
def CX (b : List Int) (k : Nat) : Span := AR (AP ⟨[], b⟩) k
theorem Thru.span {l : List Gau} {b : List Int} (h : Thru l b) {k : Nat} (hk : k <= b.length) : 0 <= (CX b k).lo /\ (CX b k).lo <= (CX b k).hi /\ (CX b k).hi <= 2000 /\ ∀ m : Int, (CX b k).lo <= m -> m <= (CX b k).hi -> ET b m = k := by
 obtain ⟨h1, h2, h3, h4⟩ := JA (w := AP ⟨l, b⟩) (k := k) h.bk (by omega) (Int.ofNat_le.2 hk)
 exact ⟨h1, h2, h3, λ m a c => Int.ofNat.inj (h4 m a c)⟩
theorem Thru.up {l : List Gau} {b : List Int} (h : Thru l b) {q : Int} (hq : 0 <= q /\ q <= 200000) {k : Nat} (hk : k <= b.length) (v : BnF -> Bool) (c : Bnd -> Prop) (hv : ∀ t, (CX b k).lo <= t -> t <= (CX b k).hi -> (v ⟨FU (BE l b k) t, qR q⟩ = true ↔ c (FU (BE l b k) t))) (hm : ∀ t u, (CX b k).lo <= t -> t <= u -> u <= (CX b k).hi -> c (FU (BE l b k) u) -> c (FU (BE l b k) t)) : ((CX b k).lo - 1 <= upM v ⟨AP ⟨l, b⟩, k, qR q⟩ /\ upM v ⟨AP ⟨l, b⟩, k, qR q⟩ <= (CX b k).hi) /\ (∀ t, (CX b k).lo <= t -> t <= upM v ⟨AP ⟨l, b⟩, k, qR q⟩ -> c (FU (BE l b k) t)) /\ ∀ t, upM v ⟨AP ⟨l, b⟩, k, qR q⟩ < t -> t <= (CX b k).hi -> ¬c (FU (BE l b k) t) := by
 obtain ⟨s1, s2, s3, s4⟩ := h.span hk
 have hi := CHQ (v := v) (a := ⟨AP ⟨l, b⟩, k, qR q⟩) h.bk (Int.natCast_nonneg _) (Int.ofNat_le.2 hk)
 have hp : ∀ t, (CX b k).lo <= t -> t <= (CX b k).hi -> (upP v ⟨AP ⟨l, b⟩, k, qR q⟩ t = true ↔ c (FU (BE l b k) t)) := λ t a d => by
  have e : upP v ⟨AP ⟨l, b⟩, k, qR q⟩ t = v ⟨FU (BE l b (ET b t)) t, qR q⟩ := rfl
  rw [e, s4 t a d]; exact hv t a d
 have hs := rP (pr := upP v ⟨AP ⟨l, b⟩, k, qR q⟩) 3000 ((CX b k).lo - 1) (CX b k).hi (by omega) (by omega) (λ m m' a d e f => (hp m (by omega) (by omega)).2 (hm m m' (by omega) d e ((hp m' (by omega) e).1 f)))
 have ho : upM v ⟨AP ⟨l, b⟩, k, qR q⟩ = wB (upP v ⟨AP ⟨l, b⟩, k, qR q⟩) 3000 ((CX b k).lo - 1) (CX b k).hi := rfl
 rw [<- ho] at hs
 have i1 : (CX b k).lo - 1 <= upM v ⟨AP ⟨l, b⟩, k, qR q⟩ := hi.1
 have i2 : upM v ⟨AP ⟨l, b⟩, k, qR q⟩ <= (CX b k).hi := hi.2.1
 refine ⟨⟨i1, i2⟩, λ t a d => (hp t a (by omega)).1 (hs.1 t (by omega) d), λ t a d hc => ?_⟩
 have := hs.2 t a d
 rw [(hp t (by omega) d).2 hc] at this; cases this
theorem BYG {a b : Rt} : ¬HC a b ↔ b.n * a.d < a.n * b.d := by unfold HC; omega
theorem Thru.first {l : List Gau} {b : List Int} (h : Thru l b) {q : Int} (hq : 0 <= q /\ q <= 200000) {k : Nat} (hk : k <= b.length) : ((CX b k).lo <= Yn ⟨⟨l, b⟩, q⟩ k /\ Yn ⟨⟨l, b⟩, q⟩ k <= (CX b k).hi + 1) /\ (∀ t, (CX b k).lo <= t -> t < Yn ⟨⟨l, b⟩, q⟩ k -> ¬HC (qR q) (FU (BE l b k) t).hi) /\ ∀ t, Yn ⟨⟨l, b⟩, q⟩ k <= t -> t <= (CX b k).hi -> HC (qR q) (FU (BE l b k) t).hi := by
 obtain ⟨s1, s2, s3, s4⟩ := h.span hk
 have oq := BUM hq
 obtain ⟨⟨r0, r1⟩, r2, r3⟩ := h.up hq hk eT (λ B => ¬HC (qR q) B.hi) (λ t a d => by
  have := (h.in hk (t := t) (by omega)).2.1
  unfold eT; rw [decide_eq_true_eq, BDY this oq, BYG]) (λ t u a d e hc h2 => hc (by
  have h1 := (h.in hk (t := t) (by omega)).2.1
  have h3 := (h.in hk (t := u) (by omega)).2.1
  have := (rQ (JS h.ok) (show 0 <= t by omega) d (by omega) (h.ne hk (t := t) (by omega))).2
  exact CQ (Int.le_of_lt oq.1.1) h1.1.1 (Int.le_of_lt h3.1.1) h2 this))
 have e : Yn ⟨⟨l, b⟩, q⟩ k = upM eT ⟨AP ⟨l, b⟩, k, qR q⟩ + 1 := rfl
 rw [e]
 exact ⟨⟨by omega, by omega⟩, λ t a d => r2 t a (by omega), λ t a d => Classical.byContradiction λ hc => r3 t (by omega) d hc⟩
theorem Thru.last {l : List Gau} {b : List Int} (h : Thru l b) {q : Int} (hq : 0 <= q /\ q <= 200000) {k : Nat} (hk : k <= b.length) : ((CX b k).lo - 1 <= Yo ⟨⟨l, b⟩, q⟩ k /\ Yo ⟨⟨l, b⟩, q⟩ k <= (CX b k).hi) /\ (∀ t, (CX b k).lo <= t -> t <= Yo ⟨⟨l, b⟩, q⟩ k -> HC (FU (BE l b k) t).lo (qR q)) /\ ∀ t, Yo ⟨⟨l, b⟩, q⟩ k < t -> t <= (CX b k).hi -> ¬HC (FU (BE l b k) t).lo (qR q) := by
 obtain ⟨s1, s2, s3, s4⟩ := h.span hk
 have oq := BUM hq
 exact h.up hq hk Ym (λ B => HC B.lo (qR q)) (λ t a d => by
  have := (h.in hk (t := t) (by omega)).1
  unfold Ym; rw [decide_eq_true_eq]
  show YB (FU (BE l b k) t).lo (qR q) <= 0 ↔ _
  have := BHP this oq
  unfold HC; omega) (λ t u a d e hc => by
  have h1 := (h.in hk (t := t) (by omega)).1
  have h3 := (h.in hk (t := u) (by omega)).1
  have := (rQ (JS h.ok) (show 0 <= t by omega) d (by omega) (h.ne hk (t := t) (by omega))).1
  exact CQ (Int.le_of_lt h1.1.1) h3.1.1 (Int.le_of_lt oq.1.1) this hc)
theorem ATA {x : GBf} : ∀ (n k : Nat) (o : Span) (m : Bool), (∀ j, k <= j -> j < k + n -> (lnK x.a j).length ≠ 0) -> ((LF x n k o m).2 = 0 /\ (m = true ∨ ∃ j, k <= j /\ j < k + n /\ Yn x j <= Yo x j) ∨ ((LF x n k o m).2 = 5 /\ m = false /\ ∀ j, k <= j -> j < k + n -> Yo x j < Yn x j)) /\ ((LF x n k o m).2 = 0 -> (m = true /\ (LF x n k o m).1.lo = o.lo ∨ m = false /\ ∃ j, k <= j /\ j < k + n /\ Yn x j <= Yo x j /\ (LF x n k o m).1.lo = Yn x j /\ ∀ i, k <= i -> i < j -> Yo x i < Yn x i) /\ ((m = true /\ (LF x n k o m).1.hi = o.hi /\ ∀ i, k <= i -> i < k + n -> Yo x i < Yn x i) ∨ ∃ j, k <= j /\ j < k + n /\ Yn x j <= Yo x j /\ (LF x n k o m).1.hi = Yo x j /\ ∀ i, j < i -> i < k + n -> Yo x i < Yn x i))
 | 0, k, o, m, _ => by
  cases m with
  | true => exact ⟨.inl ⟨rfl, .inl rfl⟩, λ _ => ⟨.inl ⟨rfl, rfl⟩, .inl ⟨rfl, rfl, λ i a b => by omega⟩⟩⟩
  | false => exact ⟨.inr ⟨rfl, rfl, λ j a b => by omega⟩, λ h => by cases h⟩
 | n + 1, k, o, m, hl => by
  have e0 : decide ((lnK x.a k).length = 0) = false := decide_eq_false (hl k (Nat.le_refl _) (by omega))
  by_cases hc : Yo x k < Yn x k
  ·have e : LF x (n + 1) k o m = LF x n (k + 1) o m := by
    show (bif decide ((lnK x.a k).length = 0) then _ else bif decide (Yo x k < Yn x k) then _ else _) = _
    rw [e0, decide_eq_true hc]; rfl
   obtain ⟨r1, r2⟩ := ATA n (k + 1) o m (λ j a b => hl j (by omega) (by omega))
   rw [e]
   have ext : ∀ i, k <= i -> i < k + (n + 1) -> (k + 1 <= i -> Yo x i < Yn x i) -> Yo x i < Yn x i := λ i a b c => by
    by_cases hi : i = k
    ·rw [hi]; exact hc
    ·exact c (by omega)
   refine ⟨?_, λ h0 => ?_⟩
   ·rcases r1 with ⟨h1, h2⟩ | ⟨h1, h2, h3⟩
    ·refine .inl ⟨h1, ?_⟩
     rcases h2 with h2 | ⟨j, a, b, c⟩
     ·exact .inl h2
     ·exact .inr ⟨j, by omega, by omega, c⟩
    ·exact .inr ⟨h1, h2, λ j a b => ext j a b λ c => h3 j c (by omega)⟩
   ·obtain ⟨g1, g2⟩ := r2 h0
    refine ⟨?_, ?_⟩
    ·rcases g1 with g1 | ⟨h2, j, a, b, c, d, f⟩
     ·exact .inl g1
     ·exact .inr ⟨h2, j, by omega, by omega, c, d, λ i p q => ext i p (by omega) λ r => f i r q⟩
    ·rcases g2 with ⟨h2, h3, h4⟩ | ⟨j, a, b, c, d, f⟩
     ·exact .inl ⟨h2, h3, λ i a b => ext i a b λ c => h4 i c (by omega)⟩
     ·exact .inr ⟨j, by omega, by omega, c, d, λ i p q => f i p (by omega)⟩
  ·have e : LF x (n + 1) k o m = LF x n (k + 1) ⟨bif m then o.lo else Yn x k, Yo x k⟩ true := by
    show (bif decide ((lnK x.a k).length = 0) then _ else bif decide (Yo x k < Yn x k) then _ else _) = _
    rw [e0, decide_eq_false hc]; rfl
   obtain ⟨r1, r2⟩ := ATA n (k + 1) ⟨bif m then o.lo else Yn x k, Yo x k⟩ true (λ j a b => hl j (by omega) (by omega))
   rw [e]
   have hok : Yn x k <= Yo x k := by omega
   refine ⟨?_, λ h0 => ?_⟩
   ·rcases r1 with ⟨h1, h2⟩ | ⟨h1, h2, h3⟩
    ·exact .inl ⟨h1, .inr ⟨k, Nat.le_refl _, by omega, hok⟩⟩
    ·cases h2
   ·obtain ⟨g1, g2⟩ := r2 h0
    refine ⟨?_, ?_⟩
    ·rcases g1 with ⟨_, g1⟩ | ⟨h2, _⟩
     ·cases m with
      | true => exact .inl ⟨rfl, g1⟩
      | false => exact .inr ⟨rfl, k, Nat.le_refl _, by omega, hok, g1, λ i p q => by omega⟩
     ·cases h2
    ·rcases g2 with ⟨h2, h3, h4⟩ | ⟨j, a, b, c, d, f⟩
     ·exact .inr ⟨k, Nat.le_refl _, by omega, hok, h3, λ i p q => h4 i (by omega) (by omega)⟩
     ·exact .inr ⟨j, by omega, by omega, c, d, λ i p q => f i p (by omega)⟩
theorem fS (b : List Int) (k : Nat) : (CX b k).lo = if 0 < k then gD b (k - 1) else 0 := by
 show (bif decide ((k : Int) > 0) then gD b ((k : Int) - 1).toNat else 0) = _
 by_cases h0 : 0 < k
 ·rw [decide_eq_true (show (k : Int) > 0 by omega), if_pos h0, show ((k : Int) - 1).toNat = k - 1 by omega]; rfl
 ·rw [decide_eq_false (show ¬(k : Int) > 0 by omega), if_neg h0]; rfl
theorem E5 {b : List Int} (hb : ∀ x ∈ b, 1 <= x /\ x <= 2000) (k : Nat) : (CX b k).hi = if k < b.length then gD b k - 1 else 2000 := by
 show (bif decide ((k : Int) < b.length) then wr (gD b (k : Int).toNat - 1) else 2000) = _
 by_cases h0 : k < b.length
 ·have := hb _ (BM h0)
  rw [decide_eq_true (show (k : Int) < b.length by omega), if_pos h0, Int.toNat_natCast]
  unfold wr; rw [EV (by omega) (by omega)]; rfl
 ·rw [decide_eq_false (show ¬(k : Int) < b.length by omega), if_neg h0]; rfl
theorem CCU {b : List Int} {t : Int} (hb : asc b) : (∀ j, j < ET b t -> gD b j <= t) /\ ∀ j, ET b t <= j -> j < b.length -> t < gD b j := by
 have h := AOI (b := b) (t := t) b.length 0
 have e : ptK b t b.length 0 = ET b t := CRU hb
 rw [e] at h
 refine ⟨λ j hj => h.1 j (Nat.zero_le _) hj, λ j hj hj2 => ?_⟩
 have h3 := h.2 (by omega)
 by_cases he : ET b t = j
 ·rw [he] at h3; omega
 ·have := Gd hb (show ET b t < j by omega) hj2; omega
theorem Thru.at {l : List Gau} {b : List Int} (h : Thru l b) {t : Int} (ht : 0 <= t /\ t <= 2000) : (CX b (ET b t)).lo <= t /\ t <= (CX b (ET b t)).hi := by
 obtain ⟨h1, h2⟩ := CCU (t := t) h.asc
 rw [fS, E5 h.brk]
 constructor
 ·split
  ·exact h1 _ (by omega)
  ·exact ht.1
 ·split
  ·rename_i hl
   have := h2 _ (Nat.le_refl _) hl; omega
  ·exact ht.2
theorem Thru.next {l : List Gau} {b : List Int} (h : Thru l b) {i j : Nat} (hij : i < j) (hj : j <= b.length) : (CX b i).hi < (CX b j).lo := by
 rw [fS, E5 h.brk, if_pos (by omega), if_pos (by omega)]
 by_cases he : i = j - 1
 ·rw [he]; omega
 ·have := Gd h.asc (show i < j - 1 by omega) (by omega); omega
def Ol (l : List Gau) (b : List Int) (q t : Int) : Prop := HC (AU ⟨l, b, t⟩).lo (qR q) /\ HC (qR q) (AU ⟨l, b, t⟩).hi
theorem Thru.stages {l : List Gau} {b : List Int} (h : Thru l b) {q : Int} (hq : 0 <= q /\ q <= 200000) : ((CA ⟨⟨l, b⟩, q⟩).2 = 0 ∨ (CA ⟨⟨l, b⟩, q⟩).2 = 5) /\ (∀ t, 0 <= t /\ t <= 2000 -> Ol l b q t -> (CA ⟨⟨l, b⟩, q⟩).2 = 0 /\ (CA ⟨⟨l, b⟩, q⟩).1.lo <= t /\ t <= (CA ⟨⟨l, b⟩, q⟩).1.hi) /\ ((CA ⟨⟨l, b⟩, q⟩).2 = 0 -> ((0 <= (CA ⟨⟨l, b⟩, q⟩).1.lo /\ (CA ⟨⟨l, b⟩, q⟩).1.lo <= 2000) /\ Ol l b q (CA ⟨⟨l, b⟩, q⟩).1.lo) /\ (0 <= (CA ⟨⟨l, b⟩, q⟩).1.hi /\ (CA ⟨⟨l, b⟩, q⟩).1.hi <= 2000) /\ Ol l b q (CA ⟨⟨l, b⟩, q⟩).1.hi) := by
 have e : CA ⟨⟨l, b⟩, q⟩ = LF ⟨⟨l, b⟩, q⟩ (b.length + 1) 0 default false := by
  unfold CA; rw [h.open, show inF ⟨⟨l, b⟩, q⟩ = true by unfold inF BY; simpa using hq]; rfl
 have hl : ∀ j, 0 <= j -> j < 0 + (b.length + 1) -> (lnK ⟨l, b⟩ j).length ≠ 0 := λ j _ hj hc => by
  have hs := h.span (k := j) (by omega)
  exact h.ne (k := j) (by omega) (t := (CX b j).lo) (by omega) (List.eq_nil_of_length_eq_zero hc)
 obtain ⟨r1, r2⟩ := ATA (x := ⟨⟨l, b⟩, q⟩) (b.length + 1) 0 default false hl
 rw [<- e] at r1 r2
 -- where a flow can be, its part says so
 have key : ∀ t, 0 <= t /\ t <= 2000 -> Ol l b q t -> Yn ⟨⟨l, b⟩, q⟩ (ET b t) <= t /\ t <= Yo ⟨⟨l, b⟩, q⟩ (ET b t) := λ t ht hc => by
  obtain ⟨c1, c2⟩ := hc
  have hk := BSN b t
  rw [(h.flow ht).2] at c1 c2
  obtain ⟨a1, a2⟩ := h.at ht
  obtain ⟨_, f2, _⟩ := h.first hq hk
  obtain ⟨_, _, l3⟩ := h.last hq hk
  constructor
  ·exact Classical.byContradiction λ hc => f2 t a1 (by omega) c2
  ·exact Classical.byContradiction λ hc => l3 t (by omega) a2 c1
 -- a stage between both is one at which it can be
 have back : ∀ j, j <= b.length -> ∀ t, Yn ⟨⟨l, b⟩, q⟩ j <= t -> t <= Yo ⟨⟨l, b⟩, q⟩ j -> (0 <= t /\ t <= 2000) /\ Ol l b q t := λ j hj t h1 h2 => by
  obtain ⟨s1, s2, s3, s4⟩ := h.span hj
  obtain ⟨⟨f0, _⟩, f2, f3⟩ := h.first hq hj
  obtain ⟨⟨_, l0⟩, l2, l3⟩ := h.last hq hj
  have ht : 0 <= t /\ t <= 2000 := by omega
  refine ⟨ht, ?_⟩
  unfold Ol
  rw [(h.flow ht).2, s4 t (by omega) (by omega)]
  exact ⟨l2 t (by omega) h2, f3 t h1 (by omega)⟩
 refine ⟨?_, λ t ht hc => ?_, λ h0 => ?_⟩
 ·rcases r1 with r1 | r1
  ·exact .inl r1.1
  ·exact .inr r1.1
 ·obtain ⟨k1, k2⟩ := key t ht hc
  have hk := BSN b t
  obtain ⟨a1, a2⟩ := h.at ht
  have h0 : (CA ⟨⟨l, b⟩, q⟩).2 = 0 := by
   rcases r1 with r1 | ⟨_, _, r3⟩
   ·exact r1.1
   ·have := r3 (ET b t) (Nat.zero_le _) (by omega); omega
  obtain ⟨g1, g2⟩ := r2 h0
  refine ⟨h0, ?_, ?_⟩
  ·rcases g1 with ⟨g1, _⟩ | ⟨_, j, _, j2, j3, j4, j5⟩
   ·cases g1
   ·rw [j4]
    by_cases hj : j = ET b t
    ·rw [hj]; exact k1
    ·by_cases hj2 : j < ET b t
     ·have n1 := h.next hj2 hk
      have l0 := (h.last hq (k := j) (by omega)).1.2
      omega
     ·have := j5 (ET b t) (Nat.zero_le _) (by omega); omega
  ·rcases g2 with ⟨g1, _⟩ | ⟨j, _, j2, j3, j4, j5⟩
   ·cases g1
   ·rw [j4]
    by_cases hj : j = ET b t
    ·rw [hj]; exact k2
    ·by_cases hj2 : ET b t < j
     ·have n1 := h.next hj2 (show j <= b.length by omega)
      have l0 := (h.first hq (k := j) (by omega)).1.1
      omega
     ·have := j5 (ET b t) (by omega) (by omega); omega
 ·obtain ⟨g1, g2⟩ := r2 h0
  constructor
  ·rcases g1 with ⟨g1, _⟩ | ⟨_, j, _, j2, j3, j4, j5⟩
   ·cases g1
   ·rw [j4]; exact back j (by omega) _ (Int.le_refl _) j3
  ·rcases g2 with ⟨g1, _⟩ | ⟨j, _, j2, j3, j4, j5⟩
   ·cases g1
   ·rw [j4]; exact back j (by omega) _ j3 (Int.le_refl _)
theorem BCH {x : Ln} {t : Int} (h : DR x) : dryR (BT x t) = true ↔ (BT x t).n = 0 := by
 unfold dryR
 rw [Bool.and_eq_true, beq_iff_eq, beq_iff_eq]
 refine ⟨λ a => a.1, λ h0 => ⟨h0, ?_⟩⟩
 unfold BT CT at *
 split
 ·rfl
 ·rename_i c1
  rw [if_neg c1] at h0
  split
  ·rfl
  ·rename_i c2
   rw [if_neg c2] at h0
   rw [AJN] at *
   have hW := (BO h).1
   have hv := WS (n := (CH x).num t) hW
   have hd := (iE (n := (CH x).num t) hW).1
   rw [h0, Int.zero_mul] at hv
   have hz : (CH x).num t = 0 := by
    rcases Int.mul_eq_zero.1 hv.symm with h1 | h1
    ·exact h1
    ·omega
   rw [hz]
   show (CH x).w.tdiv ((Nat.gcd (0 : Int).natAbs (CH x).w.natAbs : Nat) : Int) = 1
   rw [show (0 : Int).natAbs = 0 from rfl, Nat.gcd_zero_left, Int.natAbs_of_nonneg (Int.le_of_lt hW)]
   exact Int.tdiv_self (by omega)
theorem CIY {s : List Gau} {t : Int} (hs : ∀ g ∈ s, DJ g) (h : CR s t ≠ []) : (dryR (FU s t).lo = true ↔ (FU s t).lo.n = 0) /\ (dryR (FU s t).hi = true ↔ (FU s t).hi.n = 0) := by
 obtain ⟨⟨z, oz, pz, ez⟩, y, oy, py, ey⟩ := IC hs h
 rw [ez, ey]; exact ⟨BCH oz, BCH oy⟩
theorem BJF {a b : Rt} (ha : Jg a) (hb : Jg b) (h : HC a b) (h0 : b.n = 0) : a.n = 0 := by
 unfold HC at h
 rw [h0, Int.zero_mul] at h
 have := Int.mul_nonneg ha.2.1 (Int.le_of_lt hb.1.1)
 have h1 : a.n * b.d = 0 := by omega
 rcases Int.mul_eq_zero.1 h1 with h2 | h2
 ·exact h2
 ·have := hb.1.1; omega
end Go.Bal
