/- Package chart: truths that are returned, and which truths can be (no program in sight). -/
import Derived.Test.YtdbjalgfomknhaaChQ
import Derived.Test.YtdbjalgfomknhaaChT8
set_option linter.unusedVariables false
set_option linter.unusedSimpArgs false
namespace Go.Bal
open Go Go.Sym Go.Proofs
theorem ArcOk.ext2 {N M s : Nat -> Span} {n : Nat} (h : ArcOk N s n) (e : ∀ i, i <= n -> N i = M i) : ArcOk M s n := by
 refine ⟨λ i hi => by rw [<- e i hi]; exact h.ne i hi, λ g hg x hx => ?_, λ g hg y hy => ?_⟩
 ·rw [<- e (g + 1) (by omega)]; exact h.up g hg x (by rw [e g (by omega)]; exact hx)
 ·obtain ⟨x, h1, h2⟩ := h.down g hg y (by rw [e (g + 1) (by omega)]; exact hy)
  exact ⟨x, by rw [<- e g (by omega)]; exact h1, h2⟩
theorem CQA {x : TrI} (hr : AS x.a = 0) {i : Nat} (hi : i < x.a.c.ms.length) (hm : 0 <= x.m) (v : Int) : (gD (IC x) i).has v ↔ (gD (GV x.a) i).has v /\ (i = x.m.toNat -> v = x.t) := by
 obtain ⟨_, _, _, _, e⟩ := Bj hr
 have nl : (UV x.a).length = x.a.c.ms.length := by unfold UV; rw [PW, CJ]
 unfold IC
 rw [BD _ _ _ (by omega), e]
 by_cases q : i = x.m.toNat
 ·rw [decide_eq_true q]
  show (Ql (gD (UV x.a) x.m.toNat) ⟨x.t, x.t⟩).has v ↔ _
  rw [SA, <- q]
  constructor
  ·rintro ⟨h1, h2, h3⟩
   have h2 : x.t <= v := h2
   have h3 : v <= x.t := h3
   exact ⟨h1, λ _ => by omega⟩
  ·rintro ⟨h1, h2⟩
   have h3 := h2 rfl
   exact ⟨h1, (show x.t <= v by omega), (show v <= x.t by omega)⟩
 ·rw [decide_eq_false q]
  exact ⟨λ h => ⟨h, λ e => absurd e q⟩, λ h => h.1⟩
theorem CXA {x : TrI} (h : ChOk x.a.c) (hr : AS x.a = 0) (ht : -1000000000 <= x.t /\ x.t <= 1000000000) {i : Nat} (hi : i < x.a.c.ms.length) : Dg 1000000000 (gD (IC x) i) := by
 obtain ⟨_, _, _, _, e⟩ := Bj hr
 have nl : (UV x.a).length = x.a.c.ms.length := by unfold UV; rw [PW, CJ]
 have b := DBI h hr hi
 rw [e] at b
 unfold IC
 rw [BD _ _ _ (by omega)]
 by_cases q : i = x.m.toNat
 ·rw [decide_eq_true q]
  show Dg 1000000000 (Ql (gD (UV x.a) x.m.toNat) ⟨x.t, x.t⟩)
  rw [<- q]
  generalize gD (UV x.a) i = L at *
  unfold Dg Ql at *
  unfold DD RN
  simp only
  constructor
  ·split <;> omega
  ·split <;> omega
 ·rw [decide_eq_false q]
  show Dg 1000000000 (gD (UV x.a) i)
  unfold Dg at *; omega
theorem CYG {x : TrI} (h : ChOk x.a.c) (hr : AS x.a = 0) (hm : 0 <= x.m /\ x.m < x.a.c.ms.length) (ht : -1000000000 <= x.t /\ x.t <= 1000000000) : (PG x).all DZ = true ↔ ∃ u, TrC x.a.c (AB x.a).sp u /\ u x.m.toNat = x.t := by
 unfold PG
 rw [CRJ h hr (Si x) (λ i hi => CXA h hr ht hi) (λ i hi v => CQA hr hi hm.1 v)]
 exact ⟨λ ⟨u, u1, u2⟩ => ⟨u, u1, u2 _ (by omega) rfl⟩, λ ⟨u, u1, u2⟩ => ⟨u, u1, λ i _ e => by rw [e]; exact u2⟩⟩
theorem DQK {x : TrI} (h : ChOk x.a.c) (hr : AS x.a = 0) (hm : 0 <= x.m /\ x.m < x.a.c.ms.length) (ht : -1000000000 <= x.t /\ x.t <= 1000000000) (hk : (PG x).all DZ = true) : TrC x.a.c (AB x.a).sp (To x) /\ To x x.m.toNat = x.t := by
 have hl := h.m
 have l1 := Si x
 have l2 := CJB x
 have b1 : gpOk (BM (AB x.a)) (x.a.c.ms.length - 1) := BIK (w := AB x.a) h
 have b2 : ∀ g, g < x.a.c.ms.length - 1 -> (BM (AB x.a) g).lo <= (BM (AB x.a) g).hi := BLA (w := AB x.a) h
 have b1' : gpOk (BM (AB x.a)) ((IC x).length - 1) := by rw [l1]; exact b1
 have bd := λ i (hi : i < x.a.c.ms.length) => CXA h hr ht hi
 have e : ∀ i, i < x.a.c.ms.length -> gD (PG x) i = nar (gD (IC x)) (BM (AB x.a)) (x.a.c.ms.length - 1) i := λ i hi => by
  have := BLG (w := AB x.a) (l := IC x) (by omega) (by omega) (λ i hi => bd i (by omega)) b1' (i := i) (by omega)
  rw [l1] at this
  exact this
 have hle : ∀ i, i < x.a.c.ms.length -> (gD (PG x) i).lo <= (gD (PG x) i).hi := λ i hi => ACG.1 hk i (by omega)
 have arc : ArcOk (gD (PG x)) (BM (AB x.a)) (x.a.c.ms.length - 1) := (CYD (l := gD (IC x)) b2 (λ i hi => by rw [<- e i (by omega)]; exact hle i (by omega))).ext2 λ i hi => (e i (by omega)).symm
 have low := arc.low
 have eq : ∀ i, i < x.a.c.ms.length -> To x i = lowT (gD (PG x)) (BM (AB x.a)) i := by
  intro i
  induction i with
  | zero => intro _; rfl
  | succ g ih =>
   intro hg
   have ih := ih (by omega)
   have at_ := low.at_ g (by omega)
   have nb := DQL (l := gD (IC x)) (s := BM (AB x.a)) (n := x.a.c.ms.length - 1) (i := g) (by omega)
   rw [<- e g (by omega)] at nb
   have bg := bd g (by omega)
   have gb := b1 g (by omega)
   show DD (gD (PG x) (g + 1)).lo (wr (To x g + (BM (AB x.a) g).lo)) = DD (gD (PG x) (g + 1)).lo (lowT (gD (PG x)) (BM (AB x.a)) g + (BM (AB x.a) g).lo)
   rw [ih]
   unfold Span.has at at_
   unfold Dg at bg
   have w : wr (lowT (gD (PG x)) (BM (AB x.a)) g + (BM (AB x.a) g).lo) = lowT (gD (PG x)) (BM (AB x.a)) g + (BM (AB x.a) g).lo := EN (by omega) (by omega)
   rw [w]
 have low' : Tr (gD (PG x)) (BM (AB x.a)) (x.a.c.ms.length - 1) (To x) :=
  ⟨λ i hi => by rw [eq i (by omega)]; exact low.at_ i hi, λ g hg => by rw [eq g (by omega), eq (g + 1) (by omega)]; exact low.gap g hg⟩
 have in1 : ∀ i, i < x.a.c.ms.length -> (gD (GV x.a) i).has (To x i) /\ (i = x.m.toNat -> To x i = x.t) := λ i hi => by
  have := low'.at_ i (by omega)
  rw [e i hi] at this
  exact (CQA hr hi hm.1 _).1 (CWO (by omega) this)
 refine ⟨⟨λ i hi => ?_, λ k hk => ?_⟩, (in1 _ (by omega)).2 rfl⟩
 ·obtain ⟨v, v1, v2⟩ := (BOE h hr (by omega)).1 (in1 i (by omega)).1
  have := v1.note (i := i) (by omega)
  rw [v2] at this; exact this
 ·have := low'.gap k hk
  rw [Cx (w := AB x.a) h (by show k + 1 < x.a.c.ms.length; omega)] at this; exact this
theorem CYU (x : CT) : ∀ n, hdN x n = true ↔ ∀ k, k < n -> hd1 x k = true
 | 0 => ⟨λ _ k h => absurd h (Nat.not_lt_zero _), λ _ => rfl⟩
 | n + 1 => by
  show (hdN x n && hd1 x n) = true ↔ _
  rw [Bool.and_eq_true, CYU x n]
  constructor
  ·rintro ⟨h1, h2⟩ k hk
   rcases Nat.lt_or_ge k n with q | q
   ·exact h1 k q
   ·obtain rfl : k = n := by omega
    exact h2
  ·intro h; exact ⟨λ k hk => h k (by omega), h n (Nat.lt_succ_self _)⟩
theorem CYK (x : CT) : ∀ n, hgN x n = true ↔ ∀ k, k < n -> hg1 x k = true
 | 0 => ⟨λ _ k h => absurd h (Nat.not_lt_zero _), λ _ => rfl⟩
 | n + 1 => by
  show (hgN x n && hg1 x n) = true ↔ _
  rw [Bool.and_eq_true, CYK x n]
  constructor
  ·rintro ⟨h1, h2⟩ k hk
   rcases Nat.lt_or_ge k n with q | q
   ·exact h1 k q
   ·obtain rfl : k = n := by omega
    exact h2
  ·intro h; exact ⟨λ k hk => h k (by omega), h n (Nat.lt_succ_self _)⟩
theorem DGQ {x : CT} (h : ChOk x.c) (hz : okZ ⟨x.c, x.t.z⟩ = true) (l1 : x.t.t.length = x.c.ms.length) (l2 : x.t.s.length = x.c.ms.length) (hb : ∀ i, i < x.c.ms.length -> -100000000 <= gD x.t.t i /\ gD x.t.t i <= 100000000) :
  (IK x).2 = 0 /\ ((IK x).1 = true ↔ TrC x.c (AB ⟨x.c, x.t.z⟩).sp (gD x.t.t) /\ ∀ i, i < x.c.ms.length -> (FN x.c i).has (gD x.t.s i)) := by
 have hm := h.m
 have e0 : GD (DY x) = 0 := by
  have : okZ (DY x) = true := hz
  unfold GD; rw [show AM (DY x).c = 0 from BNU.2 h, this]; rfl
 have e1 : inT x.t.t = true := List.all_eq_true.2 λ a ha => by
  obtain ⟨i, hi, rfl⟩ := Oe ha
  exact CK.2 (hb i (by omega))
 have e2 : IK x = (hdN x x.c.ms.length && hgN x (x.c.ms.length - 1), 0) := by
  unfold IK hldO; rw [e0, decide_eq_true (show x.t.t.length = x.c.ms.length /\ x.t.s.length = x.c.ms.length from ⟨l1, l2⟩), e1]; rfl
 rw [e2]
 refine ⟨rfl, ?_⟩
 show (hdN x x.c.ms.length && hgN x (x.c.ms.length - 1)) = true ↔ _
 rw [Bool.and_eq_true, CYU, CYK]
 have a1 : ∀ i, i < x.c.ms.length -> (hd1 x i = true ↔ (notM x.c i).has (gD x.t.t i) /\ (FN x.c i).has (gD x.t.s i)) := λ i hi => by
  unfold hd1
  rw [Bool.and_eq_true, CK, CK, BJI hi]; exact Iff.rfl
 have a2 : ∀ g, g < x.c.ms.length - 1 -> (hg1 x g = true ↔ (gapP x.c (AB ⟨x.c, x.t.z⟩).sp g).has (gD x.t.t (g + 1) - gD x.t.t g)) := λ g hg => by
  have q1 := hb g (by omega)
  have q2 := hb (g + 1) (by omega)
  have w : wr (gD x.t.t (g + 1) - gD x.t.t g) = gD x.t.t (g + 1) - gD x.t.t g := EN (by omega) (by omega)
  unfold hg1
  rw [CK, w]
  have e := Cx (w := AB (DY x)) h (g := g) (by show g + 1 < x.c.ms.length; omega)
  rw [e]; exact Iff.rfl
 constructor
 ·rintro ⟨h1, h2⟩
  exact ⟨⟨λ i hi => ((a1 i (by omega)).1 (h1 i (by omega))).1, λ g hg => (a2 g hg).1 (h2 g hg)⟩, λ i hi => ((a1 i hi).1 (h1 i hi)).2⟩
 ·rintro ⟨h1, h2⟩
  exact ⟨λ i hi => (a1 i hi).2 ⟨h1.note hi, h2 i hi⟩, λ g hg => (a2 g hg).2 (h1.gap g hg)⟩
end Go.Bal
