/- TopOwed: plain facts: made borders and years; debts that stay; what is reckoned of works. -/
import Derived.Test.YtgjkmndbkidgjaaGreatOwLw
set_option linter.unusedVariables false
set_option linter.unusedSimpArgs false
namespace Go.Bal
open Go Go.Sym Go.Proofs
def is1O (o : Option (Bool × GS)) (b : Bool) : Bool := match o with
 | some (c, _) => c == b
 | none => false
theorem bS {o : Option (Bool × GS)} {b : Bool} (h : is1O o b = true) : o = some (b, (o.getD default).2) := by
 match o, h with
 | some (c, s), h =>
  have e : c = b := by simpa [is1O] using h
  subst e; rfl
def An (f L k : Nat) : FA := ⟨f, HM L, [(k : Int)]⟩
def cA (L _k : Nat) : Bool := wksB (HM L)
def cS (L k : Nat) : Bool := (Kn ⟨HM L, [(k : Int)]⟩).length == 1 + L - k && (List.range L).all λ j => CK (Kn ⟨HM L, [(k : Int)]⟩) ((L + j : Nat) : Int) == decide (k <= j)
def cR (L k : Nat) : Bool := (List.range L).all λ j => decide (j < k) || gD (gG (HM L) (MP (HM L) [(k : Int)] (HM L).length)) (L + j) == 2 + (j : Int) - k
def cF (L k : Nat) : Bool := frB (An 64 L k) == decide (k + 1 = L)
def cL (L k : Nat) : Bool := decide (k + 1 = L) || (is1O (laG (An 64 L k).lv (Tf (An 64 L k).lv (HM L).length)) true && is1O (laG (An 64 L k).lv (la1 (An 64 L k).lv).r) false && is1O (laG (An 64 L k).lv (wM (An 64 L k).lv).r) false && (N7 (An 64 L k)).length == 1)
def YH (p : Nat -> Nat -> Bool) (L : Nat) : Bool := (List.range L).all λ k => p L k
def AAX (p : Nat -> Nat -> Bool) : Bool := (List.range 10).all λ l => YH p (l + 1)
theorem GV {p : Nat -> Nat -> Bool} {L k : Nat} (h : YH p L = true) (hk : k < L) : p L k = true := List.all_eq_true.1 h k (List.mem_range.2 hk)
theorem Vm {p : Nat -> Nat -> Bool} (h : AAX p = true) {L k : Nat} (h1 : 1 <= L) (h2 : L <= 10) (hk : k < L) : p L k = true := by
 have := List.all_eq_true.1 h (L - 1) (List.mem_range.2 (by omega))
 rw [show L - 1 + 1 = L by omega] at this
 exact GV this hk
theorem tA : AAX cA = true := by decide +kernel
theorem tS : AAX cS = true := by decide +kernel
theorem tR : AAX cR = true := by decide +kernel
theorem tF : AAX cF = true := by decide +kernel
theorem tL1 : YH cL 1 = true := by decide +kernel
theorem tL2 : YH cL 2 = true := by decide +kernel
theorem tL3 : YH cL 3 = true := by decide +kernel
theorem tL4 : YH cL 4 = true := by decide +kernel
theorem tL5 : YH cL 5 = true := by decide +kernel
theorem tL6 : YH cL 6 = true := by decide +kernel
theorem tL7 : YH cL 7 = true := by decide +kernel
theorem tL8 : YH cL 8 = true := by decide +kernel
theorem tL9 : YH cL 9 = true := by decide +kernel
theorem tL10 : YH cL 10 = true := by decide +kernel
theorem AYE {L k : Nat} (h1 : 1 <= L) (h2 : L <= 10) (hk : k < L) : cL L k = true := by
 obtain rfl | rfl | rfl | rfl | rfl | rfl | rfl | rfl | rfl | rfl : L = 1 ∨ L = 2 ∨ L = 3 ∨ L = 4 ∨ L = 5 ∨ L = 6 ∨ L = 7 ∨ L = 8 ∨ L = 9 ∨ L = 10 := by omega
 ·exact GV tL1 hk
 ·exact GV tL2 hk
 ·exact GV tL3 hk
 ·exact GV tL4 hk
 ·exact GV tL5 hk
 ·exact GV tL6 hk
 ·exact GV tL7 hk
 ·exact GV tL8 hk
 ·exact GV tL9 hk
 ·exact GV tL10 hk
theorem L6 (L : Nat) : (HM L).length = 2 * L := rng_length _ _
section
variable {L k : Nat} (h1 : 1 <= L) (h2 : L <= 10) (hk : k < L)
include h1 h2 hk
theorem AVX : WksOk (HM L) := AGU (Vm tA h1 h2 hk)
theorem AXB : RvOk ⟨HM L, [(k : Int)]⟩ := ⟨AVX h1 h2 hk, rfl, by
 have := L6 L
 show 0 <= (k : Int) /\ (k : Int) < (HM L).length
 omega⟩
theorem BBY : (Kn ⟨HM L, [(k : Int)]⟩).length = 1 + L - k /\ ∀ j, j < L -> CK (Kn ⟨HM L, [(k : Int)]⟩) ((L + j : Nat) : Int) = decide (k <= j) := by
 have h := Vm tS h1 h2 hk
 rw [cS, Bool.and_eq_true] at h
 refine ⟨by simpa using h.1, λ j hj => ?_⟩
 have := List.all_eq_true.1 h.2 j (List.mem_range.2 hj)
 exact eq_of_beq this
theorem AZW {j : Nat} (hj : j < L) (hkj : k <= j) : gD (gG (HM L) (MP (HM L) [(k : Int)] (HM L).length)) (L + j) = 2 + (j : Int) - k := by
 have h := List.all_eq_true.1 (Vm tR h1 h2 hk) j (List.mem_range.2 hj)
 rw [decide_eq_false (by omega), Bool.false_or] at h
 exact eq_of_beq h
theorem APB : frB (An 64 L k) = decide (k + 1 = L) := eq_of_beq (Vm tF h1 h2 hk)
theorem BJX : FrOk (An 64 L k) := by
 have hl := L6 L
 have rv := AXB h1 h2 hk
 have hfb := APB h1 h2 hk
 have hk2 : gD (An 64 L k).v 0 + 1 < (An 64 L k).l.length := by show (k : Int) + 1 < (HM L).length; omega
 refine ⟨λ h => ⟨rv, hk2, h⟩, λ h => ?_⟩
 have hne : ¬ k + 1 = L := by
  intro e; rw [hfb, decide_eq_true e] at h; cases h
 have hc := AYE h1 h2 hk
 rw [cL, decide_eq_false hne, Bool.false_or, Bool.and_eq_true, Bool.and_eq_true, Bool.and_eq_true] at hc
 obtain ⟨⟨⟨c1, c2⟩, c3⟩, _⟩ := hc
 have hw : wr (((HM L).length : Int) - 1) = ((HM L).length : Int) - 1 := JA (by omega) (by omega)
 exact ⟨⟨rv, hk2, h, ⟨AVX h1 h2 hk, by show 0 <= (k : Int) /\ (k : Int) < (HM L).length; omega, by show 0 <= wr (((HM L).length : Int) - 1) /\ wr (((HM L).length : Int) - 1) < ((HM L).length : Int); rw [hw]; omega, bS c1, bS c2⟩⟩, bS c3⟩
theorem BCM : (k + 1 = L -> rP (An 64 L k) = 5) /\ (¬ k + 1 = L -> rP (An 64 L k) = 0 /\ (N7 (An 64 L k)).length = 1) := by
 have hfb := APB h1 h2 hk
 refine ⟨λ e => ?_, λ e => ⟨?_, ?_⟩⟩
 ·unfold rP; rw [hfb, decide_eq_true e]; rfl
 ·unfold rP; rw [hfb, decide_eq_false e]; rfl
 ·have hc := AYE h1 h2 hk
  rw [cL, decide_eq_false e, Bool.false_or, Bool.and_eq_true] at hc
  simpa using hc.2
end
theorem ALF {s : Stm} (hB : 2 <= nB s /\ nB s <= 6) : ∀ (n : Nat) (y : KT), (nB s).toNat - y.k = n -> I4 s y -> I4 s ⟨(nB s).toNat, mT s⟩
 | 0, y, hn, h => by
  have hk := h.hk
  rw [<- AWB h (by omega)]; exact h
 | n + 1, y, hn, h => ALF hB n ⟨y.k + 1, wF y.x⟩ (by show (nB s).toNat - (y.k + 1) = n; omega) (ADB h (by omega) hB.2)
theorem BHV {s : Stm} (hs : StmB 0 s) : IB s := by
 have s1 := hs.next (by omega) 60
 have s2 := s1.next (by omega) 50
 have s3 := s2.next (by omega) 20
 have s4 := IW s3 (by omega) 2 6
 have v1 := EJ s1 (by omega) 50
 have v2 := EJ s2 (by omega) 20
 have u1 := v1.2 (by omega)
 have u2 := v2.2 (by omega)
 have hB : 2 <= nB s /\ nB s <= 6 := Dl s3 (by omega) (lo := 2) (hi := 6) (by omega) (by omega) (by omega)
 have i0 : I4 s ⟨0, mT0 s⟩ := ⟨by show ((0 : Nat) : Int) <= nB s; omega, s4.mono (by show _ <= 4 + 2 * ((0 : Nat) : Int); omega), rfl, rfl, ⟨v1.1, by show BP (BO s 60) 50 <= 50 + 60 * ((0 : Nat) : Int); omega⟩, ⟨v2.1, by show BP (BO (BO s 60) 50) 20 <= 20 + 50 * ((0 : Nat) : Int); omega⟩, ⟨λ i hi => absurd hi (Nat.not_lt_zero _), λ i hi => absurd hi (Nat.not_lt_zero _)⟩⟩
 exact ⟨hB.1, hB.2, ALF hB _ _ rfl i0⟩
theorem AHC {a : MkI} (hn : nY a <= 40) : ∀ (n k : Nat) (m : MY), (nY a).toNat - k = n -> I13 a k m -> I13 a (nY a).toNat (mY a)
 | 0, k, m, hk, h => by
  have h1 := h.hk
  have e : k = (nY a).toNat := by omega
  have := AVU h (by omega)
  rw [this, e] at h; exact h
 | n + 1, k, m, hk, h => AHC hn n (k + 1) (stpY m) (by omega) (AQE (Y_in h (by omega) hn) hn)
structure BordF (a : MkI) : Prop where
 ib : IB a.s
 n : 1 <= nY a /\ nY a <= a.m
 y : I13 a (nY a).toNat (mY a)
 lo : -40 <= Yf a.s /\ Yf a.s <= 40
 hi : Yf a.s <= gI a.s /\ gI a.s <= 60
theorem BIS {a : MkI} (hs : StmB 0 a.s) (hm1 : 1 <= a.m) (hm2 : a.m <= 40) : BordF a := by
 have hIB := BHV hs
 obtain ⟨b1', b2', hT⟩ := hIB
 have hTs : StmB 16 (mT a.s).s := hT.hs.mono (by show 4 + 2 * (((nB a.s).toNat : Nat) : Int) <= 16; omega)
 have t1 : StmB (16 + 1) (b5 a.s) := IW hTs (by omega) (-40) 40
 have t2 : StmB (16 + 1 + 1) (b6 a.s) := t1.next (by omega) 20
 have t3 : StmB (16 + 1 + 1 + 1) (b7 a) := IW t2 (by omega) 1 a.m
 have t4 : StmB (20 + 7 * ((0 : Nat) : Int)) (b7 a) := t3.mono (by omega)
 have hY : 1 <= nY a /\ nY a <= a.m := Dl t2 (by omega) (lo := 1) (hi := a.m) (by omega) hm1 (by omega)
 have i13 : I13 a 0 ⟨b7 a, [], []⟩ := ⟨⟨b1', b2', hT⟩, by show ((0 : Nat) : Int) <= nY a; omega, t4, rfl, rfl, rfl, λ i hi => absurd hi (Nat.not_lt_zero _)⟩
 have hlo : -40 <= Yf a.s /\ Yf a.s <= 40 := Dl hTs (by omega) (lo := -40) (hi := 40) (by omega) (by omega) (by omega)
 have v := EJ t1 (by omega) 20
 have u := v.2 (by omega)
 have e : gI a.s = Yf a.s + BP (b5 a.s) 20 := JA (by omega) (by omega)
 exact ⟨⟨b1', b2', hT⟩, hY, AHC (by omega) _ _ _ rfl i13, hlo, by omega⟩
theorem BDF {a : MkI} (hs : StmB 0 a.s) (h : BordF a) : BdOk (uI a) := by
 obtain ⟨b1', b2', hT⟩ := h.ib
 have hn : (mT a.s).l.length = (nB a.s).toNat := hT.hn
 have hx : 0 <= (mT a.s).x /\ (mT a.s).x <= 50 + 60 * (((nB a.s).toNat : Nat) : Int) := hT.hx
 have hd : 0 <= (mT a.s).d /\ (mT a.s).d <= 20 + 50 * (((nB a.s).toNat : Nat) : Int) := hT.hd
 have hp : PtOk (mT a.s).l (mT a.s).x (mT a.s).d := hT.hp
 have v := EJ hs (by omega) 60
 have u := v.2 (by omega)
 refine ⟨by show 2 <= (mT a.s).l.length /\ (mT a.s).l.length <= 12; omega, λ i hi => ?_, ?_, hp.ord⟩
 ·have := hp.all i hi
  show Fe (gD (mT a.s).l i) = true
  simp only [Fe, FW, HO, Bool.and_eq_true, decide_eq_true_eq]
  omega
 ·show FW (BP a.s 60) = true
  simp only [FW, HO, Bool.and_eq_true, decide_eq_true_eq]
  omega
theorem ALE {l : List Yr} {k : Nat} : ∀ {j : Nat}, j <= k -> X5 l k j = false
 | 0, _ => rfl
 | j + 1, h => by
  simp only [X5, ALE (show j <= k by omega), cond_false]
  rw [decide_eq_false (by omega)]; rfl
theorem E8 {b : Bd} {f g : Span -> Int} {l m : List Yr} {k : Nat} {d : Int} (h1 : ∀ i, i ≠ k -> gD m i = gD l i) (h2 : (gD m k).sp = (gD l k).sp) : ∀ (j : Nat), (j <= k ∨ X5 l k j = true) -> owK b f g l j d = owK b f g m j d
 | 0, _ => rfl
 | j + 1, h => by
  by_cases hj : j + 1 <= k
  ·simp only [owK]
   rw [E8 h1 h2 j (Or.inl (by omega)), h1 j (by omega)]
  ·have hq : X5 l k (j + 1) = true := by rcases h with h | h; exact absurd h hj; exact h
   clear h
   simp only [X5] at hq
   cases hs : X5 l k j with
   | true =>
    have hne : j ≠ k := by
     intro e
     rw [ALE (show j <= k by omega)] at hs; cases hs
    simp only [owK]
    rw [E8 h1 h2 j (Or.inr hs), h1 j hne]
   | false =>
    rw [hs, cond_false, decide_eq_true (show k <= j by omega), cond_true] at hq
    have hm : (gD m j).sp = true := by
     by_cases e : j = k
     ·subst e; rw [h2]; exact hq
     ·rw [h1 j e]; exact hq
    simp only [owK, kP, hq, hm, cond_true]
theorem AIG (a : BSY) {j : Nat} (h : j < a.l.length) : gD (JN a) j = dbG a j := FE _ _ _ h
theorem Vy (a : BSY) : (JN a).length = a.l.length := rng_length _ _
theorem AUK {b : Bd} {s : Span} {l m : List Yr} {k j : Nat} (hl : l.length = m.length) (hj : j < l.length) (h1 : ∀ i, i ≠ k -> gD m i = gD l i) (h2 : (gD m k).sp = (gD l k).sp) (h : j + 1 <= k ∨ X5 l k (j + 1) = true) : gD (JN ⟨b, s, l⟩) j = gD (JN ⟨b, s, m⟩) j := by
 rw [AIG _ hj, AIG _ (by show j < m.length; omega)]
 unfold dbG
 simp only
 rw [E8 h1 h2 (j + 1) h, E8 h1 h2 (j + 1) h]
end Go.Bal
