/- Package chart: pairs that prove how many stops there must be (no program in sight). -/
import Derived.Test.YtdbjalgfomknhaaGreatChL
import Derived.Test.YtdbjalgfomknhaaGreatChT7
import Derived.Test.YtdbjalgfomknhaaGreatChZd
set_option linter.unusedVariables false
set_option linter.unusedSimpArgs false
namespace Go.Bal
open Go Go.Sym Go.Proofs
theorem AKV {x : Prv} {i : Nat} : ∀ n, mtF x n i = true ↔ ∃ k, k < n /\ Aj x k <= i /\ (i : Int) < yM x k
 | 0 => ⟨λ h => (by cases h), λ ⟨k, h, _⟩ => absurd h (Nat.not_lt_zero _)⟩
 | n + 1 => by
  show (mtF x n i || (decide (Aj x n <= i) && decide ((i : Int) < yM x n))) = true ↔ _
  rw [Bool.or_eq_true, AKV n, Bool.and_eq_true, decide_eq_true_eq, decide_eq_true_eq]
  constructor
  ·rintro (⟨k, a, b⟩ | b)
   ·exact ⟨k, by omega, b⟩
   ·exact ⟨n, Nat.lt_succ_self n, b⟩
  ·rintro ⟨k, a, b⟩
   rcases Nat.lt_or_ge k n with q | q
   ·exact .inl ⟨k, q, b⟩
   ·obtain rfl : k = n := by omega
    exact .inr b
theorem ARA {f : Nat -> Bool} {a : Nat} : ∀ j, qJ f a j = true ↔ ∃ t, t < j /\ f (a + t) = true
 | 0 => ⟨λ h => (by cases h), λ ⟨k, h, _⟩ => absurd h (Nat.not_lt_zero _)⟩
 | n + 1 => by
  show (qJ f a n || f (a + n)) = true ↔ _
  rw [Bool.or_eq_true, ARA n]
  constructor
  ·rintro (⟨k, q, b⟩ | b)
   ·exact ⟨k, by omega, b⟩
   ·exact ⟨n, Nat.lt_succ_self n, b⟩
  ·rintro ⟨k, q, b⟩
   rcases Nat.lt_or_ge k n with r | r
   ·exact .inl ⟨k, r, b⟩
   ·obtain rfl : k = n := by omega
    exact .inr b
def disP (x : Prv) (j k : Nat) : Prop := ∀ i : Nat, ¬ ((Aj x j <= i /\ (i : Int) < yM x j) /\ Aj x k <= i /\ (i : Int) < yM x k)
theorem ADY {x : Prv} : ∀ n, (∀ k, k < n -> 0 <= Aj x k) -> (vZ x n = true ↔ (∀ k, k < n -> QT x.c (gD x.l k) = true) /\ ∀ j k, j < k -> k < n -> disP x j k)
 | 0, _ => ⟨λ _ => ⟨λ k h => absurd h (Nat.not_lt_zero _), λ j k _ h => absurd h (Nat.not_lt_zero _)⟩, λ _ => rfl⟩
 | n + 1, h0 => by
  show (vZ x n && QT x.c (gD x.l n) && !qJ (mtF x n) (Aj x n).toNat (yM x n - Aj x n).toNat) = true ↔ _
  rw [Bool.and_eq_true, Bool.and_eq_true, ADY n λ k hk => h0 k (by omega), Bool.not_eq_true', <- Bool.not_eq_true, ARA]
  have a0 := h0 n (Nat.lt_succ_self n)
  constructor
  ·rintro ⟨⟨⟨h1, h2⟩, h3⟩, h4⟩
   refine ⟨λ k hk => ?_, λ j k hjk hk i hi => ?_⟩
   ·rcases Nat.lt_or_ge k n with q | q
    ·exact h1 k q
    ·obtain rfl : k = n := by omega
     exact h3
   ·rcases Nat.lt_or_ge k n with q | q
    ·exact h2 j k hjk q i hi
    ·obtain rfl : k = n := by omega
     exact h4 ⟨i - (Aj x k).toNat, by omega, (AKV k).2 ⟨j, hjk, by rw [show (Aj x k).toNat + (i - (Aj x k).toNat) = i by omega]; exact hi.1⟩⟩
  ·rintro ⟨h1, h2⟩
   refine ⟨⟨⟨λ k hk => h1 k (by omega), λ j k hjk hk => h2 j k hjk (by omega)⟩, h1 n (Nat.lt_succ_self n)⟩, ?_⟩
   rintro ⟨t, ht, hm⟩
   obtain ⟨k, hk, q⟩ := (AKV n).1 hm
   exact h2 k n hk (Nat.lt_succ_self n) _ ⟨q, by omega, by omega⟩
theorem BQB {x : Prv} {j k : Nat} (hj : 0 <= Aj x j /\ Aj x j < yM x j) (hk : 0 <= Aj x k /\ Aj x k < yM x k) : disP x j k ↔ ¬ (Aj x k < yM x j /\ Aj x j < yM x k) := by
 constructor
 ·intro h ⟨q1, q2⟩
  by_cases e : Aj x j <= Aj x k
  ·exact h (Aj x k).toNat ⟨⟨by omega, by omega⟩, by omega, by omega⟩
  ·exact h (Aj x j).toNat ⟨⟨by omega, by omega⟩, by omega, by omega⟩
 ·intro h i hi
  apply h; omega
end Go.Bal

namespace Go.Bal
open Go Go.Sym Go.Proofs
theorem AZZ {c : Cht} (h : ChOk c) {p : Pr} (hp : PD c p = true) (hl : QT c p = true) : (0 <= (nA c p).mi /\ (nA c p).mi < (nB c p).mi /\ (nB c p).mi < c.ms.length) /\ ltM c (nA c p).mi.toNat (nB c p).mi.toNat := by
 have hn := h.n
 obtain ⟨⟨⟨a0, a1⟩, b0, b1⟩, lt⟩ := AAD (by omega) hp
 have k1 := (h.nt (nA c p) (HW (by omega))).mi
 have k2 := (h.nt (nB c p) (HW (by omega))).mi
 refine ⟨by omega, ?_⟩
 have e : p = ⟨((p.a.toNat : Nat) : Int), ((p.b.toNat : Nat) : Int)⟩ := by
  obtain ⟨a, b⟩ := p
  show (⟨a, b⟩ : Pr) = ⟨((a.toNat : Nat) : Int), ((b.toNat : Nat) : Int)⟩
  rw [Int.toNat_of_nonneg a0, Int.toNat_of_nonneg b0]
 rw [e] at hl
 exact (N1 h (a := p.a.toNat) (b := p.b.toNat) (by omega) (by omega)).1 hl
structure PrI (c : Cht) (k : Nat) (s : FwS) : Prop where
 len : s.r.length = s.q.length
 ok : ∀ p ∈ s.r, (PD c p = true /\ QT c p = true) /\ (nB c p).mi - 1 <= s.la
 dis : s.r.Pairwise λ a b => (nB c a).mi <= (nA c b).mi
 le : s.q.length <= k
theorem wS {c : Cht} (h : ChOk c) : ∀ k, k <= c.ns.length -> PrI c k (XA c k)
 | 0, _ => ⟨rfl, λ p hp => (by cases hp), .nil, Nat.le_refl _⟩
 | k + 1, hk => by
  have ih := wS h k (by omega)
  have I := nL h k (by omega)
  have hk' : k < c.ns.length := by omega
  have hn := h.n
  have bk := AJS h hk'
  show PrI c (k + 1) (fwN c (XA c k) (gD (DF c) k) (((DF c).take k).find? (X2 c (XA c k).la (gD (DF c) k))))
  have lt : ((DF c).take k).length = k := by rw [List.length_take, Oz]; omega
  cases ea : ((DF c).take k).find? (X2 c (XA c k).la (gD (DF c) k)) with
  | none => exact ⟨ih.len, ih.ok, ih.dis, Nat.le_succ_of_le ih.le⟩
  | some a =>
   have am := List.mem_of_find?_eq_some ea
   have ap := List.find?_some ea
   obtain ⟨j, hj, ej⟩ := OV am
   rw [lt] at hj
   rw [Ko hj] at ej
   subst ej
   obtain ⟨p1, p2⟩ := (APQ h (show j < _ by omega) hk').1 ap
   have jk := AJL h hj hk'
   have bj := AJS h (show j < _ by omega)
   have hm40 := h.m
   have lt' : QT c ⟨gD (DF c) j, gD (DF c) k⟩ = true := by
    unfold X2 at ap
    cases q : decide (miA c (gD (DF c) j) > (XA c k).la) with
    | true => rw [q] at ap; exact ap
    | false => rw [q] at ap; cases ap
   obtain ⟨ja, ja1, ja2⟩ := dR c (show j < _ by omega)
   obtain ⟨ka, ka1, ka2⟩ := dR c hk'
   have eA : (nA c ⟨gD (DF c) j, gD (DF c) k⟩).mi = mO c j := rfl
   have eB : (nB c ⟨gD (DF c) j, gD (DF c) k⟩).mi = mO c k := rfl
   have pm : PD c ⟨gD (DF c) j, gD (DF c) k⟩ = true := by
    unfold PD
    have q1 : Ym c.ns.length ⟨gD (DF c) j, gD (DF c) k⟩ = true := by
     unfold Ym wr TD
     rw [TC (by omega) (by omega), ja2, ka2]
     simp only [Bool.and_eq_true, decide_eq_true_eq]
     omega
    have q2 : (!((Pr.mk (gD (DF c) j) (gD (DF c) k)).a == (Pr.mk (gD (DF c) j) (gD (DF c) k)).b && (Pr.mk (gD (DF c) j) (gD (DF c) k)).b == (Pr.mk (gD (DF c) j) (gD (DF c) k)).a)) = true := by
     show (!(gD (DF c) j == gD (DF c) k && gD (DF c) k == gD (DF c) j)) = true
     have ne : gD (DF c) j ≠ gD (DF c) k := λ e => by
      have : mO c j = mO c k := by unfold mO; rw [e]
      omega
     simp [ne]
    rw [q1, q2, eA, eB]
    exact decide_eq_true jk
   have e : wr (miA c (gD (DF c) k) - 1) = mO c k - 1 := TC (by show -9223372036854775808 <= mO c k - 1; omega) (by show mO c k - 1 <= 9223372036854775807; omega)
   show PrI c (k + 1) ⟨wr (miA c (gD (DF c) k) - 1), (XA c k).q ++ [wr (miA c (gD (DF c) k) - 1)], (XA c k).r ++ [⟨gD (DF c) j, gD (DF c) k⟩]⟩
   rw [e]
   refine ⟨?_, λ p hp => ?_, ?_, ?_⟩
   ·show ((XA c k).r ++ [_]).length = ((XA c k).q ++ [_]).length
    rw [List.length_append, List.length_append, ih.len]; rfl
   ·show _ /\ (nB c p).mi - 1 <= mO c k - 1
    rcases List.mem_append.1 hp with hp | hp
    ·obtain ⟨q1, q2⟩ := ih.ok p hp
     exact ⟨q1, by omega⟩
    ·obtain rfl := List.mem_singleton.1 hp
     exact ⟨⟨pm, lt'⟩, by rw [eB]; omega⟩
   ·show ((XA c k).r ++ [_]).Pairwise _
    rw [List.pairwise_append]
    refine ⟨ih.dis, List.pairwise_singleton _ _, λ p hp q hq => ?_⟩
    obtain rfl := List.mem_singleton.1 hq
    have := (ih.ok p hp).2
    rw [eA]; omega
   ·show ((XA c k).q ++ [_]).length <= k + 1
    have := ih.le
    rw [List.length_append]; show _ + 1 <= _; omega
end Go.Bal

namespace Go.Bal
open Go Go.Sym Go.Proofs
def C_zNoP : Ctr := { α := CP, xs := xCP, val := λ x => .bool (!PD x.c x.p), keep := λ _ => [], pre := λ x => [AI x.c = 0] }
def BIZ (x : CP) : Prop := CF Try.prog (ann 38 [(E0, ABF)]) D6 (AH D6) (xCP x) (AB []) (.bool (!PD x.c x.p)) [] [] []
abbrev lP a:=LZ (KV (CY a))
attribute [go_sem] lP
theorem BLX (x : CP) : (BIZ x) = (BC (HX (not (Mq (Ef (TJ x) (lP x)) (VF x) (lP x))) (TJ x) (AO (CY x))) (HX (not (Mq (Ef (TJ x) (lP x)) (VF x) (lP x))) (VF x) (AO (CY x))) (JH (not (Ht (CY x) (Sm x))) (PP (Mq (Ef (TJ x) (lP x)) (VF x) (lP x)) (jA (PW (CY x) (TJ x)) (PW (CY x) (VF x)))))) := by kernel_rfl
theorem BAV : AK Try.prog bQ (C_zNoP.spec dCP) := VV C_zNoP (λ _ => ann 38 [(E0, ABF)]) [] [] AWL (λ _ => by kernel_rfl) (λ _ => AA APW AC) (λ (x : CP) h => by
 have h0 : AI x.c = 0 := h
 have hn := (MA.1 h0).n
 have ew : IntKind.i64.wrap ((x.c.ns.length : Int) - 1) = (x.c.ns.length : Int) - 1 := TC (by omega) (by omega)
 show BIZ x; rw [BLX]<;> delta JH zU jA EN MM ON Ep CN BE FY MN DV FW EY LC EP QW QS Ht CY Sm CI AO HI BW DK GO BX BC CS LZ HO PF SX HF PP HX KV Nn PW TJ VF Ef Mq lP
 have hb : (bif !TD x.p.a 0 (IntKind.i64.wrap ((x.c.ns.length : Int) - 1)) then true else !TD x.p.b 0 (IntKind.i64.wrap ((x.c.ns.length : Int) - 1))) = false -> (0 <= x.p.a /\ x.p.a < x.c.ns.length) /\ 0 <= x.p.b /\ x.p.b < x.c.ns.length := λ q => by
  cases q1 : TD x.p.a 0 (IntKind.i64.wrap ((x.c.ns.length : Int) - 1)) with
  | false => rw [q1] at q; cases q
  | true =>
   cases q2 : TD x.p.b 0 (IntKind.i64.wrap ((x.c.ns.length : Int) - 1)) with
   | false => rw [q1, q2] at q; cases q
   | true => rw [ew] at q1 q2; have := KJ.1 q1; have := KJ.1 q2; omega
 refine ⟨⟨λ q => (hb ((Bool.not_eq_true' _).mp q)).1, λ q => (hb ((Bool.not_eq_true' _).mp q)).2⟩, ?_⟩
 unfold PD Ym nA nB wr
 cases TD x.p.a 0 (IntKind.i64.wrap ((x.c.ns.length : Int) - 1)) with
 | false => rfl
 | true =>
  cases TD x.p.b 0 (IntKind.i64.wrap ((x.c.ns.length : Int) - 1)) with
  | false => rfl
  | true =>
   show (!(bif !(x.p.a == x.p.b && x.p.b == x.p.a) then decide ((gD x.c.ns x.p.a.toNat).mi < (gD x.c.ns x.p.b.toNat).mi) else false)) = decide ((gD x.c.ns x.p.a.toNat).mi >= (gD x.c.ns x.p.b.toNat).mi)
   by_cases e : x.p.a = x.p.b
   ·rw [e, show (x.p.b == x.p.b && x.p.b == x.p.b) = true by simp, decide_eq_true (Int.le_refl _)]; rfl
   ·rw [show (x.p.a == x.p.b && x.p.b == x.p.a) = false by simp [e]]
    show (!decide _) = _
    by_cases q : (gD x.c.ns x.p.a.toNat).mi < (gD x.c.ns x.p.b.toNat).mi
    ·rw [decide_eq_true q, decide_eq_false (by omega)]; rfl
    ·rw [decide_eq_false q, decide_eq_true (by omega)]; rfl) (λ _ => WY rfl rfl) _
def lzP (x : CP) (k : Nat) : Int := x.c.p.hi * ((gD x.c.ms ((nA x.c x.p).mi.toNat + k)).pl - (gD x.c.ms (nA x.c x.p).mi.toNat).pl)
def lzN (n : Nt) : HCell := .live (.box [.int n.mi, .int n.t.lo, .int n.t.hi, .int n.s.lo, .int n.s.hi])
def lz4 (x : CP) : Shape := { α := Nat, dflt := 0, T := λ k => ⟨[(2, .bptr 201 0), (5, .bptr 203 0), (6, .bptr 204 0), (7, .int (lzP x k)), (8, .int ((nA x.c x.p).mi + k))], [(201, .live (gI x.c)), (203, lzN (nA x.c x.p)), (204, lzN (nB x.c x.p))]⟩, inv := λ k => k <= ((nB x.c x.p).mi - (nA x.c x.p).mi).toNat, meas := λ k => 50 - k, first := [(201, 1000), (203, 2192), (204, 2208)] }
def C_zLt : Ctr := { α := CP, xs := xCP, val := λ x => .bool (QT x.c x.p), keep := λ _ => [], pre := λ x => [AI x.c = 0 /\ PD x.c x.p = true] }
def BSW (x : CP) : Ann := { ann 43 [(Z3, C_zMos.spec dCZG)] with loops := λ id => if id = 4 then some [lz4 x] else none }
def BTJ (x : CP) : Prop := CF Try.prog (BSW x) AMW (AH AMW) (xCP x) (AB []) (.bool (QT x.c x.p)) [] [] []
abbrev AJF:=@default Int Int.instInhabited
abbrev Am a b:=nB (CY a) (Sm b)
abbrev Jj a:=nA (CY a) (Sm a)
abbrev P8 a:=EN (Jj a)
abbrev Zk a b:=NT (P8 a) (BE b)
attribute [go_sem] AJF Am Jj P8 Zk
theorem BWD (x : CP) : (BTJ x) = (GG (SB (TJ x) (AO (CY x)) (VF x)) (HA (λ i=>EG (IM (lzP x i)) (AS (Zk x i) (PW (CY x) (TJ x))) (aF x) (AL (CY x)) (ZO (CY x) (EV (Jj x) (CY x) (EP (TJ x))) (AR (BJ (EB (Jj x)) (BD (CY x) (EP (TJ x)))) (AW (EB (Jj x)) (BD (CY x) (EP (TJ x)))) (BJ (EA (Jj x)) (BK (CY x) (EP (TJ x)))) (AW (EA (Jj x)) (BK (CY x) (EP (TJ x)))) (EV (Am x x) (CY x) (EP (VF x))) (BJ (EB (Am x x)) (BD (CY x) (EP (VF x)))) (AW (EB (Am x x)) (BD (CY x) (EP (VF x)))) (BJ (EA (Am x x)) (BK (CY x) (EP (VF x)))) (AW (EA (Am x x)) (BK (CY x) (EP (VF x)))))) (GZ i (EP (Ep (EN (Am x x)) (P8 x)))))) (λ i=>IR (GZ i (EP (Ep (EN (Am x x)) (P8 x)))) (Zk x i) (EN (Am x x)) (DT (aF x) (AL (CY x)) (AM (CY x)) (AN (CY x)) (AQ (CY x)) (BP (CY x)) (PN (CY x) (BN (CY x)) (λ j=>BG j (CY x)) (Vx (RU 0 (λ j=>AJF))) (Vx (RU 0 (λ j=>AJF))) (AE (Zk x i)) (SX (Zk x i) (NT (Zk x i) 1) (EH (CY x))) (RR (RU 0 (λ j=>AJF))) (LB (Du x)))) (HA (λ j=>DW (Gd (AS (lzP x j) (GH (lzP x i) (qT (Bq (Du x) (RU 0 (λ k=>AJF))) (Zk x i)))) (AS (Zk x j) (DO (Zk x i))) (aF x) (CY x) (CY x) (VJ (Jj x)) (AR (BL (EB (Jj x))) (AV (EB (Jj x))) (BL (EA (Jj x))) (AV (EA (Jj x))) (VJ (Am x x)) (BL (EB (Am x x))) (AV (EB (Am x x))) (BL (EA (Am x x))) (AV (EA (Am x x))))) (GZ j (EP (Ep (EN (Am x x)) (P8 x)))) 50 j i)) (JH (Xw (CY x) (Sm x)) (JL (GH (BF (EB (Jj x))) (lzP x i)) (BI (EB (Am x x))))))) := by kernel_rfl
theorem BAQ {x : CP} (h0 : AI x.c = 0) (hp : PD x.c x.p = true) : ((0 <= x.p.a /\ x.p.a < x.c.ns.length) /\ 0 <= x.p.b /\ x.p.b < x.c.ns.length) /\ (nA x.c x.p).mi < (nB x.c x.p).mi := by
 have hn := (MA.1 h0).n
 unfold PD at hp
 cases q : Ym x.c.ns.length x.p with
 | false => rw [q] at hp; cases hp
 | true =>
  rw [q] at hp
  cases q2 : (!(x.p.a == x.p.b && x.p.b == x.p.a)) with
  | false => rw [q2] at hp; cases hp
  | true =>
   rw [q2] at hp
   have hp : decide ((nA x.c x.p).mi < (nB x.c x.p).mi) = true := hp
   refine ⟨?_, of_decide_eq_true hp⟩
   unfold Ym wr at q
   rw [TC (by omega) (by omega), Bool.and_eq_true, KJ, KJ] at q
   omega
theorem CAL (x : CP) (h : AI x.c = 0 /\ PD x.c x.p = true) : BTJ x := by
 obtain ⟨h0, hp⟩ := h
 have hc := MA.1 h0
 obtain ⟨⟨b1, b2⟩, b3⟩ := BAQ h0 hp
 have ha := hc.nt _ (show nA x.c x.p ∈ x.c.ns from HW (by omega))
 have hb := hc.nt _ (show nB x.c x.p ∈ x.c.ns from HW (by omega))
 obtain ⟨a1, a2⟩ := ha.mi
 obtain ⟨a3, a4⟩ := hb.mi
 obtain ⟨m1, m2⟩ := hc.m
 obtain ⟨p1, p2, p3⟩ := hc.p
 have step : ∀ k : Nat, (nA x.c x.p).mi + (k : Int) + 1 < x.c.ms.length -> lzP x (k + 1) = lzP x k + x.c.p.hi * RJ x.c ((nA x.c x.p).mi.toNat + k) := λ k _ => by
  unfold lzP RJ
  rw [<- Int.mul_add, show (nA x.c x.p).mi.toNat + (k + 1) = (nA x.c x.p).mi.toNat + k + 1 by omega]
  congr 1; omega
 have bd : ∀ k : Nat, (nA x.c x.p).mi + (k : Int) < x.c.ms.length -> 0 <= lzP x k /\ lzP x k <= 240000000 := λ k => by
  induction k with
  | zero =>
   intro _
   have : lzP x 0 = 0 := by unfold lzP; rw [Nat.add_zero, Int.sub_self, Int.mul_zero]
   omega
  | succ k ih =>
   intro hk
   have h1 := ih (by omega)
   have q0 := hc.mks ((nA x.c x.p).mi.toNat + (k + 1)) (by omega)
   have q1 := hc.mks (nA x.c x.p).mi.toNat (by omega)
   have g := hc.gap (λ _ => false) (g := (nA x.c x.p).mi.toNat + k) (by omega)
   rw [step k (by omega)]
   have up : ∀ j : Nat, (nA x.c x.p).mi + (j : Int) < x.c.ms.length -> lzP x j <= 6000000 * j := λ j => by
    induction j with
    | zero =>
     intro _
     have : lzP x 0 = 0 := by unfold lzP; rw [Nat.add_zero, Int.sub_self, Int.mul_zero]
     omega
    | succ j jh =>
     intro hj
     have g := hc.gap (λ _ => false) (g := (nA x.c x.p).mi.toNat + j) (by omega)
     rw [step j (by omega)]
     have := jh (by omega)
     omega
   have := up k (by omega)
   omega
 rw [BWD]<;> delta JH BI BF EN MM ON Ep EB EA BY AF CN CO AS BE EC JL FY MN NT LS ET GW FK HV IB HK GV FU HC DV FW EY LD HA EP GZ CJ RU Bq QW QS Xw CY Sm qT AJF AD CI AU FT GN AG GK AZ AX AE FA BM AW JP BL BD AO AR DD BA BK II JQ BO BJ CX HI BW BV AJ AQ JD AV EH FC NH CK AN AL GH JE JO HG FX FQ FO MR AM IV FD HE DK ID DR ES BX CG DO IW HS DX JA CE EZ EV EQ CU FH HQ EW DU LL JB ED HR FZ GI BN GA GC EO HD PF LG IM SX IS DT LB GU QV VQ BP MQ EI BH BG LM IR DW GG EG Ch VJ PW HM Jj RR TJ VF SP ZO Am eC Gd Ei Du P8 SB Zk PN aF Vx; simp only [CC, eq_self, implies_true, forall_const, CL]
 refine ⟨⟨b1, b2⟩, ⟨0, ⟨?_, ?_, rfl, rfl, rfl, rfl, rfl, rfl, rfl, rfl, rfl, rfl⟩, Nat.zero_le _⟩, λ k hk => ⟨λ hlt => ⟨⟨⟨by omega, by omega⟩, by omega, h0⟩, k + 1, ⟨?_, ?_⟩, by omega, by omega⟩, λ hge => ?_⟩⟩
 ·unfold lzP; rw [Nat.add_zero, Int.sub_self, Int.mul_zero]
 ·show _ + ((0 : Nat) : Int) = _; unfold nA; omega
 ·have e : Pe ⟨x.c, ME 0 λ _ => default⟩ ((nA x.c x.p).mi + (k : Int)) = x.c.p.hi * RJ x.c ((nA x.c x.p).mi.toNat + k) := by
   show x.c.p.hi * RJ x.c ((nA x.c x.p).mi + (k : Int)).toNat = _
   rw [show ((nA x.c x.p).mi + (k : Int)).toNat = (nA x.c x.p).mi.toNat + k by omega]
  have b := bd (k + 1) (by omega)
  rw [e, <- step k (by omega), TC (by omega) (by omega)]
 ·rw [TC (by omega) (by omega)]; omega
 ·have ek : (nA x.c x.p).mi.toNat + k = (nB x.c x.p).mi.toNat := by omega
  have b := bd k (by omega)
  have t1 := ha.t
  have t2 := hb.t
  have q0 := hc.mks (nA x.c x.p).mi.toNat (by omega)
  have q1 := hc.mks (nB x.c x.p).mi.toNat (by omega)
  have el : lzP x k = x.c.p.hi * ((gD x.c.ms (nB x.c x.p).mi.toNat).pl - (gD x.c.ms (nA x.c x.p).mi.toNat).pl) := by unfold lzP; rw [ek]
  have el2 : wr (x.c.p.hi * wr ((gD x.c.ms (nB x.c x.p).mi.toNat).pl - (gD x.c.ms (nA x.c x.p).mi.toNat).pl)) = lzP x k := by
   unfold wr
   rw [TC (n := (gD x.c.ms (nB x.c x.p).mi.toNat).pl - (gD x.c.ms (nA x.c x.p).mi.toNat).pl) (by omega) (by omega), <- el, TC (by omega) (by omega)]
  unfold QT
  rw [el2]
  unfold wr
  rw [TC (by omega) (by omega), TC (by omega) (by omega)]
  by_cases q : (nB x.c x.p).t.lo - (nA x.c x.p).t.hi > lzP x k
  ·rw [decide_eq_true q, decide_eq_true (by omega)]
  ·rw [decide_eq_false q, decide_eq_false (by omega)]
theorem AUJ : AK Try.prog nM (C_zLt.spec dCP) := VV C_zLt BSW [] [] BEW (λ _ => by kernel_rfl) (λ _ => AA AZX AC) (λ x h => CAL x h) (λ _ => WY rfl rfl) _
def AXF (x : CP) : Prop := CF Try.prog (ann 18 [(Ph, C_Check.spec aM), (bQ, C_zNoP.spec dCP), (nM, C_zLt.spec dCP)]) ANV (AH ANV) (xCP x) (AB []) (.tup [.bool (Zh x).1, .int (Zh x).2]) [] [] []
theorem BEZ (x : CP) : (AXF x) = (SA (CY x) (CY x) (RP (CY x)) (PV (CY x)) (ED (XN (CY x)) (GR (iS (Zh x))) (AS (aZ (Zh x)) (SQ (CY x))) (GP (aF x) (AL (CY x)) (AM (CY x)) (JJ (AN (CY x)) (CY x) (BP (CY x)) (HM (CY x)) (BN (CY x)) (λ i=>BG i (CY x)) (AE (TJ x)) (AE (VF x)) (LB (Du x))) (ED (not (Ht (Du x) (Sm x))) (GR (iS (Zh x))) (AS (aZ (Zh x)) 2) (AD (AG (aF x) (AL (CY x)) (AM (CY x)) (AN (CY x)) (GU (AQ (CY x)) (BP (CY x)) (λ i=>BH i (CY x)) (BN (CY x)) (FN (CY x)) (AE (TJ x)) (AE (VF x)) (LB (Du x)) (CS (Ht (Du x) (Sm x))))) (JH (iS (Zh x)) (Xw (Du x) (Sm x))) (IM (aZ (Zh x)))))))) := by kernel_rfl
theorem BFZ : AK Try.prog ANA (C_Late.spec dCP) := VV C_Late (λ _ => ann 18 [(Ph, C_Check.spec aM), (bQ, C_zNoP.spec dCP), (nM, C_zLt.spec dCP)]) [] [] BKN (λ _ => by kernel_rfl) (λ _ => AA bY (AA BAV (AA AUJ AC))) (λ (x : CP) h => by
 have h : x.c.ms.length < 4611686018427387904 /\ x.c.ns.length < 4611686018427387904 := h
 show AXF x; rw [BEZ]<;> delta JH Hi BI BF EN EB EA BY AF CN CO AS EC ET GW FK HV IB HK GV FU HC DV FW EY LD LC SI QW QS Ht Xw iS aZ CY Sm AD CI AU FT GN AG GK AZ AX AE FA AW JP BL BD AO AR DD BA BK II JQ BO BJ CX BW BV AJ AQ JD AV EH NH CK AN AL JE JO FO MR AM IV FD ES CG BC IW JA EZ CS EV EQ CU FH EW DU ED HR FZ GI BN GA GC HD IM IS EX LB GU GR BP BH BG LM HB IN SQ HM GP TJ FN VF MH PV JJ RP Du Cc XN Ft YW XV SA aF; simp only [CC, eq_self, implies_true, forall_const, CL]
 refine ⟨h, λ q => ?_, λ q => ?_⟩
 ·have q' : (AI x.c == 0) = false := by simpa using q
  unfold Zh; rw [q']; exact ⟨rfl, rfl⟩
 ·have h0 : AI x.c = 0 := by simpa using q
  have e : Zh x = J7 x := by unfold Zh; rw [h0]; rfl
  rw [e]; unfold J7
  refine ⟨h0, λ r => ?_, λ r => ⟨⟨h0, r⟩, ?_⟩⟩
  ·rw [r]; exact ⟨rfl, rfl⟩
  ·rw [r]; exact ⟨rfl, rfl⟩) (λ _ => WY rfl rfl) _
end Go.Bal
