/- Package chart: times of a chart, as truths (no program in sight). -/
import Derived.Test.YtdbjalgfomknhaaChT3
import Derived.Test.YtdbjalgfomknhaaChW
import Derived.Test.YtdbjalgfomknhaaChK
set_option linter.unusedVariables false
set_option linter.unusedSimpArgs false
namespace Go.Bal
open Go Go.Sym Go.Proofs
def RP (c : Cht) (g : Nat) : Int := (gD c.ms (g + 1)).pl - (gD c.ms g).pl
def gapP (c : Cht) (sp : Nat -> Bool) (g : Nat) : Span := ⟨c.p.lo * RP c g, bif sp g then 200000000 else c.p.hi * RP c g⟩
theorem ChOk.far {c : Cht} (h : ChOk c) {g : Nat} (hg : g + 1 < c.ms.length) : 1 <= RP c g /\ RP c g <= 10000 := by
 have h1 := h.up g hg
 have h2 := h.mks g (by omega)
 have h3 := h.mks (g + 1) hg
 unfold RP; omega
theorem ChOk.gap {c : Cht} (h : ChOk c) (sp : Nat -> Bool) {g : Nat} (hg : g + 1 < c.ms.length) : (1 <= c.p.lo * RP c g /\ c.p.lo * RP c g <= 6000000) /\ (c.p.lo * RP c g <= c.p.hi * RP c g /\ c.p.hi * RP c g <= 6000000) /\ (gapP c sp g).lo <= (gapP c sp g).hi := by
 obtain ⟨f1, f2⟩ := h.far hg
 obtain ⟨p1, p2, p3⟩ := h.p
 have a1 := mulb (a := c.p.lo) (b := RP c g) (A := 600) (B := 10000) (by omega) (by omega) (by omega) f2
 have a2 := mulb (a := c.p.hi) (b := RP c g) (A := 600) (B := 10000) (by omega) (by omega) (by omega) f2
 have a3 : c.p.lo * RP c g <= c.p.hi * RP c g := Int.mul_le_mul_of_nonneg_right p2 (by omega)
 have a4 : 1 * 1 <= c.p.lo * RP c g := Int.mul_le_mul p1 f1 (by omega) (by omega)
 refine ⟨by omega, by omega, ?_⟩
 show c.p.lo * RP c g <= bif sp g then 200000000 else c.p.hi * RP c g
 cases sp g
 ·exact a3
 ·show _ <= (200000000 : Int); omega
theorem Cx {w : Dk} (h : ChOk w.c) {g : Nat} (hg : g + 1 < w.c.ms.length) : BM w g = gapP w.c w.sp g := by
 obtain ⟨f1, f2⟩ := h.far hg
 obtain ⟨a1, a2, _⟩ := h.gap w.sp hg
 have e : farM w.c g = RP w.c g := by unfold farM wr; unfold RP at *; exact EN (by omega) (by omega)
 unfold BM gapP
 rw [e]
 unfold wr
 rw [EN (by omega) (by omega), EN (by omega) (by omega)]
theorem BIK {w : Dk} (h : ChOk w.c) : gpOk (BM w) (w.c.ms.length - 1) := λ g hg => by
 obtain ⟨a1, a2, a3⟩ := h.gap w.sp (g := g) (by omega)
 rw [Cx h (by omega)]
 refine ⟨⟨by show 0 <= w.c.p.lo * RP w.c g; omega, by show w.c.p.lo * RP w.c g <= _; omega⟩, by have : (gapP w.c w.sp g).lo = w.c.p.lo * RP w.c g := rfl; omega, ?_⟩
 show (bif w.sp g then 200000000 else w.c.p.hi * RP w.c g) <= _
 cases w.sp g
 ·show w.c.p.hi * RP w.c g <= _; omega
 ·show (200000000 : Int) <= _; omega
theorem BLA {w : Dk} (h : ChOk w.c) : ∀ g, g < w.c.ms.length - 1 -> (BM w g).lo <= (BM w g).hi := λ g hg => by
 rw [Cx h (by omega)]; exact (h.gap w.sp (by omega)).2.2
theorem CFH {c : Cht} (h : ChOk c) (j : Int) : Dg 100000000 (notM c j) /\ (notM c j).lo <= (notM c j).hi := by
 unfold notM
 cases hj : hasN c.ns j with
 | false => show Dg 100000000 farS /\ farS.lo <= farS.hi; exact ⟨⟨by decide, by decide⟩, by decide⟩
 | true =>
  obtain ⟨hm, _⟩ := AFF hj
  have := (h.nt _ hm).t
  refine ⟨?_, this.2.1⟩
  show Dg _ (ntOf c.ns j).t
  unfold Dg; omega
theorem BJI {c : Cht} {i : Nat} (hi : i < c.ms.length) : gD (DQ c) i = notM c i := BD _ _ _ hi
theorem Tr.ext2 {l l' s s' : Nat -> Span} {n : Nat} {t : Nat -> Int} (h : Tr l s n t) (h1 : ∀ i, i <= n -> l i = l' i) (h2 : ∀ g, g < n -> s g = s' g) : Tr l' s' n t := ⟨λ i hi => by rw [<- h1 i hi]; exact h.at_ i hi, λ g hg => by rw [<- h2 g hg]; exact h.gap g hg⟩
def TrC (c : Cht) (sp : Nat -> Bool) (t : Nat -> Int) : Prop := Tr (λ i => notM c i) (gapP c sp) (c.ms.length - 1) t
theorem BXL {w : Dk} (h : ChOk w.c) {t : Nat -> Int} : Tr (gD (DQ w.c)) (BM w) (w.c.ms.length - 1) t ↔ TrC w.c w.sp t := by
 have := h.m
 exact ⟨λ q => q.ext2 (λ i hi => BJI (by omega)) (λ g hg => Cx h (by omega)), λ q => q.ext2 (λ i hi => (BJI (by omega)).symm) (λ g hg => (Cx h (by omega)).symm)⟩
theorem CYT {c : Cht} (h : ChOk c) : ∀ i, i < (DQ c).length -> Dg 1000000000 (gD (DQ c) i) := λ i hi => by
 rw [CJ] at hi
 rw [BJI hi]
 have := (CFH h i).1
 unfold Dg at *; omega
theorem BRT {w : Dk} (h : ChOk w.c) : (AZ w).2 = true ↔ FG w.c = true /\ ∃ t, TrC w.c w.sp t := by
 have hm := h.m
 have hk := DER (w := w) (l := DQ w.c) (by rw [CJ]; omega) (by rw [CJ]; omega) (CYT h) (by rw [CJ]; exact BIK h) (by rw [CJ]; exact BLA h)
 rw [CJ] at hk
 unfold AZ
 cases hs : FG w.c with
 | false => exact ⟨λ h => (by cases h), λ h => (by cases h.1)⟩
 | true =>
  show (CR w (DQ w.c)).all DZ = true ↔ _
  rw [hk]
  exact ⟨λ ⟨t, ht⟩ => ⟨rfl, t, (BXL h).1 ht⟩, λ ⟨_, t, ht⟩ => ⟨t, (BXL h).2 ht⟩⟩
theorem DEX {w : Dk} (h : ChOk w.c) (hk : (AZ w).2 = true) {i : Nat} (hi : i < w.c.ms.length) {x : Int} : (gD (AZ w).1 i).has x ↔ ∃ t, TrC w.c w.sp t /\ t i = x := by
 have hm := h.m
 obtain ⟨hs, t, ht⟩ := (BRT h).1 hk
 have e : (AZ w).1 = CR w (DQ w.c) := by unfold AZ; rw [hs]; rfl
 have b1 := BIK h
 have b2 := BLA h
 rw [e, BLG (by rw [CJ]; omega) (by rw [CJ]; omega) (CYT h) (by rw [CJ]; exact b1) (by rw [CJ]; exact hi), CJ]
 rw [CXB b2 ((CQC b2).2 ⟨t, (BXL h).2 ht⟩) (by omega)]
 exact ⟨λ ⟨t, a, b⟩ => ⟨t, (BXL h).1 a, b⟩, λ ⟨t, a, b⟩ => ⟨t, (BXL h).2 a, b⟩⟩
theorem DBF {w : Dk} (hk : (AZ w).2 = true) {i : Nat} (hi : i < w.c.ms.length) : (gD (AZ w).1 i).lo <= (gD (AZ w).1 i).hi := by
 unfold AZ at hk ⊢
 cases hs : FG w.c with
 | false => rw [hs] at hk; cases hk
 | true =>
  rw [hs] at hk
  have hk : (CR w (DQ w.c)).all DZ = true := hk
  exact ACG.1 hk i (by rw [PW, CJ]; exact hi)
end Go.Bal

namespace Go.Bal
open Go Go.Sym Go.Proofs
theorem BOE {a : CZ} (h : ChOk a.c) (hr : AS a = 0) {i : Nat} (hi : i < a.c.ms.length) {x : Int} : (gD (GV a) i).has x ↔ ∃ t, TrC a.c (AB a).sp t /\ t i = x :=
 DEX (w := AB a) h (PO hr).2.2 hi
theorem DMS {a : CZ} (hr : AS a = 0) {i : Nat} (hi : i < a.c.ms.length) : (gD (GV a) i).lo <= (gD (GV a) i).hi := DBF (w := AB a) (PO hr).2.2 hi
theorem TrC.note {c : Cht} {sp : Nat -> Bool} {t : Nat -> Int} (h : TrC c sp t) {i : Nat} (hi : i < c.ms.length) : (notM c i).has (t i) := h.at_ i (by omega)
theorem DBI {a : CZ} (h : ChOk a.c) (hr : AS a = 0) {i : Nat} (hi : i < a.c.ms.length) : Dg 100000000 (gD (GV a) i) := by
 have hle := DMS hr hi
 obtain ⟨t1, a1, b1⟩ := (BOE h hr hi).1 ⟨Int.le_refl _, hle⟩
 obtain ⟨t2, a2, b2⟩ := (BOE h hr hi).1 ⟨hle, Int.le_refl _⟩
 have c1 := a1.note hi
 have c2 := a2.note hi
 have d := (CFH h i).1
 rw [b1] at c1; rw [b2] at c2
 unfold Span.has Dg at *; omega
end Go.Bal

namespace Go.Bal
open Go Go.Sym Go.Proofs
theorem DIT (s : Stm) : Stm.mk s.bs s.used s.mix = s := rfl
theorem FK {K : Int} {s : Stm} (h : StmB K s) (hK : K <= 1000000000000000) (lo hi : Int) : StmB (K + 1) (LS s lo hi) := h.next hK _
theorem CGK {a : MkI} (h : preM a) : StmB 1 (gS1 a.s) /\ StmB 2 (gS2 a.s) /\ StmB 3 (gS3 a.s) /\ StmB 4 (gS4 a.s) /\ StmB 5 (gS5 a.s) /\ StmB 6 (gS6 a.s) := by
 have b1 : StmB 1 (gS1 a.s) := (FK h.1 (by omega) 1 12).mono (by omega)
 have b2 : StmB 2 (gS2 a.s) := (FK b1 (by omega) (-50) 400).mono (by omega)
 have b3 : StmB 3 (gS3 a.s) := (b2.next (by omega) 12).mono (by omega)
 have b4 : StmB 4 (gS4 a.s) := (b3.next (by omega) 9).mono (by omega)
 have b5 : StmB 5 (gS5 a.s) := (b4.next (by omega) 6).mono (by omega)
 exact ⟨b1, b2, b3, b4, b5, (b5.next (by omega) 300).mono (by omega)⟩
theorem DHT {a : MkI} (h : preM a) : (mN a : Int) = WZ (gS6 a.s) 1 a.m /\ 1 <= mN a /\ (mN a : Int) <= a.m := by
 obtain ⟨_, _, _, _, _, b6⟩ := CGK h
 obtain ⟨_, m1, m2⟩ := h
 have := qV b6 (by omega) (lo := 1) (hi := a.m) (by omega) m1 (by omega)
 unfold mN; omega
theorem go_0 {a : MkI} {x : MS} (h : x.ms = []) : goM a x = x := by unfold goM; rw [h]; rfl
theorem go_1 {a : MkI} {x : MS} (h : 0 < x.ms.length) : goM a x = advZ a (advA a x) := by unfold goM; rw [decide_eq_true h]; rfl
theorem CSO {a : MkI} {k : Nat} {x : MS} (h : 0 < k) : Pz a k x = Pz a (k - 1) (G8 a (goM a x)) := by
 obtain ⟨n, rfl⟩ : ∃ n, k = n + 1 := ⟨k - 1, by omega⟩
 rfl
theorem n_lt {i n k : Nat} (h : (bif decide ((i : Int) < n) then decide ((k : Int) < 20) else false) = true) : i < n := by
 cases hd : decide ((i : Int) < n) with
 | false => rw [hd] at h; cases h
 | true => have := of_decide_eq_true hd; omega
theorem n_ge {i n k : Nat} (hk : k < 20) (h : (bif decide ((i : Int) < n) then decide ((k : Int) < 20) else false) = false) : ¬ i < n := by
 intro hi
 rw [decide_eq_true (show (i : Int) < n by omega), decide_eq_true (show (k : Int) < 20 by omega)] at h; cases h
theorem DMU {a : MkI} {i : Nat} {x : NSt} (h : i < (mS a).ms.length) : mkN a ((mS a).ms.length - i) i x = mkN a ((mS a).ms.length - (i + 1)) (i + 1) (addN a (AP x.s 2 == 0) i ⟨AR x.s 2, x.ns⟩) := by
 obtain ⟨n, hn⟩ : ∃ n, (mS a).ms.length - i = n + 1 := ⟨(mS a).ms.length - i - 1, by omega⟩
 rw [hn, show (mS a).ms.length - (i + 1) = n by omega]; rfl
theorem Bp (l : List Nt) (i k : Nat) : (swN l i k).length = l.length := by simp [swN]
theorem CWN {l : List Nt} {j i : Nat} {x : Nt} (hj : j < l.length) : gD (l.set j x) i = bif decide (i = j) then x else gD l i := by
 unfold gD
 rw [List.getD_eq_getElem?_getD, List.getD_eq_getElem?_getD, List.getElem?_set]
 by_cases h : i = j
 ·subst h; simp [hj]
 ·simp [h, Ne.symm h]
theorem DAZ {l : List Nt} {i k : Nat} (hi : i < l.length) (hk : k < l.length) {t : Nat} : gD (swN l i k) t = bif decide (t = k) then gD l i else bif decide (t = i) then gD l k else gD l t := by
 unfold swN
 rw [CWN (by simpa using hk), CWN hi]
end Go.Bal
