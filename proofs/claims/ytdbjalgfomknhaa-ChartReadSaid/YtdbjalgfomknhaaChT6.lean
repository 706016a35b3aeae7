/- Package chart: charts that are made of numbers are right, and have the truth that is made with them (no program in sight). -/
import Derived.Test.YtdbjalgfomknhaaChT4
set_option linter.unusedVariables false
set_option linter.unusedSimpArgs false
namespace Go.Bal
open Go Go.Sym Go.Proofs
theorem AAU {m : Int} (hm : 1 <= m /\ m <= 1000) : ∀ (z : List Int) (a : Int), -1 <= a -> a <= 1000 -> (Rn m a z = true ↔ (∀ g ∈ z, a < g /\ g + 1 < m) /\ z.Pairwise (· < ·))
 | [], a, _, _ => ⟨λ _ => ⟨λ g h => (by cases h), .nil⟩, λ _ => rfl⟩
 | g :: r, a, h1, h2 => by
  show (bif TM g (wr (a + 1)) (wr (m - 2)) then Rn m g r else false) = true ↔ _
  have e1 : wr (a + 1) = a + 1 := NU (by omega) (by omega)
  have e2 : wr (m - 2) = m - 2 := NU (by omega) (by omega)
  rw [e1, e2]
  cases hi : TM g (a + 1) (m - 2) with
  | false =>
   refine ⟨λ h => (by cases h), λ h => ?_⟩
   have := h.1 g (List.mem_cons_self ..)
   rw [IS.2 (by omega)] at hi; cases hi
  | true =>
   have hb := IS.1 hi
   have ih := AAU hm r g (by omega) (by omega)
   show Rn m g r = true ↔ _
   rw [ih, List.pairwise_cons]
   constructor
   ·rintro ⟨q1, q2⟩
    refine ⟨λ x hx => ?_, λ x hx => (q1 x hx).1, q2⟩
    rcases List.mem_cons.1 hx with rfl | hx
    ·omega
    ·have := q1 x hx; omega
   ·rintro ⟨q1, q2, q3⟩
    exact ⟨λ x hx => ⟨q2 x hx, (q1 x (List.mem_cons_of_mem _ hx)).2⟩, q3⟩
theorem AWA {m : Int} : ∀ (z : List Int) (a : Int) (f : Nat -> Bool) (j : Nat), -1 <= a -> a <= 1000 -> 1 <= m /\ m <= 1000 -> Rn m a z = true -> (nP m a z f j = true ↔ f j = true ∨ (j : Int) ∈ z)
 | [], a, f, j, _, _, _, _ => ⟨λ h => .inl h, λ h => h.elim id λ h => (by cases h)⟩
 | g :: r, a, f, j, h1, h2, hm, h => by
  have hh := (AAU hm (g :: r) a h1 h2).1 h
  have hg := hh.1 g (List.mem_cons_self ..)
  have h : (bif TM g (wr (a + 1)) (wr (m - 2)) then Rn m g r else false) = true := h
  show (bif TM g (wr (a + 1)) (wr (m - 2)) then nP m g r (λ i => bif decide (i = g.toNat) then true else f i) j else f j) = true ↔ _
  cases hi : TM g (wr (a + 1)) (wr (m - 2)) with
  | false => rw [hi] at h; cases h
  | true =>
   rw [hi] at h
   show nP m g r (λ i => bif decide (i = g.toNat) then true else f i) j = true ↔ _
   rw [AWA r g _ j (by omega) (by omega) hm h, List.mem_cons]
   by_cases e : j = g.toNat
   ·rw [decide_eq_true e]
    exact ⟨λ _ => .inr (.inl (by omega)), λ _ => .inl rfl⟩
   ·rw [decide_eq_false e]
    have : ¬ (j : Int) = g := by omega
    constructor
    ·rintro (q | q)
     ·exact .inl q
     ·exact .inr (.inr q)
    ·rintro (q | q | q)
     ·exact .inl q
     ·exact absurd q this
     ·exact .inr q
theorem ANY {a : CZ} (h : 1 <= a.c.ms.length /\ a.c.ms.length <= 40) : okZ a = true ↔ (∀ g ∈ a.z, 0 <= g /\ g + 1 < a.c.ms.length) /\ a.z.Pairwise (· < ·) := by
 unfold okZ
 rw [AAU (by omega) _ _ (by omega) (by omega)]
 exact ⟨λ q => ⟨λ g hg => by have := q.1 g hg; omega, q.2⟩, λ q => ⟨λ g hg => by have := q.1 g hg; omega, q.2⟩⟩
theorem AOL {a : CZ} (h : 1 <= a.c.ms.length /\ a.c.ms.length <= 40) (hz : okZ a = true) (j : Nat) : (JB a).sp j = true ↔ (j : Int) ∈ a.z := by
 show nP a.c.ms.length (-1) a.z (λ _ => false) j = true ↔ _
 rw [AWA a.z (-1) _ j (by omega) (by omega) (by omega) hz]
 exact ⟨λ q => q.elim (λ q => by cases q) id, .inr⟩
structure HdB (a : MkI) : Prop where
 lo : 1 <= QS a.s /\ QS a.s <= 12
 hi : QS a.s <= XE a.s /\ XE a.s <= 17
 bs : -50 <= ZE a.s /\ ZE a.s <= 400
 sc : 0 <= VN a.s /\ VN a.s <= 11
 of : 0 <= TH a.s /\ TH a.s <= 8
 tm : 0 <= hTm a.s /\ hTm a.s <= 299
theorem hdB {a : MkI} (h : preM a) : HdB a := by
 obtain ⟨b1, b2, b3, b4, b5, b6⟩ := ANP h
 have v1 : 1 <= QS a.s /\ QS a.s <= 12 := tS h.1 (by omega) (lo := 1) (hi := 12) (by omega) (by omega) (by omega)
 have v2 := tS b1 (by omega) (lo := -50) (hi := 400) (by omega) (by omega) (by omega)
 have v3 := SV b2 (by omega) 12
 have v4 := SV b3 (by omega) 9
 have v5 := SV b4 (by omega) 6
 have v6 := SV b5 (by omega) 300
 have w3 := v3.2 (by omega)
 have w4 := v4.2 (by omega)
 have w5 := v5.2 (by omega)
 have w6 := v6.2 (by omega)
 have e : XE a.s = QS a.s + BZ (gS4 a.s) 6 := NU (by omega) (by omega)
 exact ⟨v1, by omega, v2, ⟨v3.1, by unfold VN; omega⟩, ⟨v4.1, by unfold TH; omega⟩, ⟨v6.1, by unfold hTm; omega⟩⟩
theorem Em {α : Type} [Inhabited α] (l : List α) (x : α) {i : Nat} (h : i < l.length) : gD (l ++ [x]) i = gD l i := by rw [AWG _ _ (by omega), decide_eq_true h]; rfl
theorem Tu {α : Type} [Inhabited α] (l : List α) (x : α) {i : Nat} (h : i = l.length) : gD (l ++ [x]) i = x := by subst h; rw [AWG _ _ (by omega), decide_eq_false (by omega)]; rfl
structure MdI (a : MkI) (x : MS) : Prop where
 tl : x.t.length = x.ms.length
 sl : x.st.length = x.ms.length
 zero : x.ms.length = 0 -> x.pl = 0 /\ (0 <= x.tm /\ x.tm <= 299) /\ x.z = []
 last : 0 < x.ms.length -> (gD x.ms (x.ms.length - 1)).pl = x.pl /\ gD x.t (x.ms.length - 1) = x.tm
 plb : ∀ i, i < x.ms.length -> 0 <= (gD x.ms i).pl /\ (gD x.ms i).pl <= 30 * i
 ht : ∀ i, i < x.ms.length -> 0 <= (gD x.ms i).ht /\ (gD x.ms i).ht <= 59
 tm : ∀ i, i < x.ms.length -> 0 <= gD x.t i /\ gD x.t i <= 299 + 1000 * i
 st : ∀ i, i < x.ms.length -> ZE a.s + VN a.s * (gD x.ms i).ht - TH a.s <= gD x.st i /\ gD x.st i <= ZE a.s + VN a.s * (gD x.ms i).ht + TH a.s
 far : ∀ i, i + 1 < x.ms.length -> 1 <= (gD x.ms (i + 1)).pl - (gD x.ms i).pl /\ (gD x.ms (i + 1)).pl - (gD x.ms i).pl <= 30
 lo : ∀ i, i + 1 < x.ms.length -> QS a.s * ((gD x.ms (i + 1)).pl - (gD x.ms i).pl) <= gD x.t (i + 1) - gD x.t i
 hi : ∀ i : Nat, i + 1 < x.ms.length -> ¬ (i : Int) ∈ x.z -> gD x.t (i + 1) - gD x.t i <= XE a.s * ((gD x.ms (i + 1)).pl - (gD x.ms i).pl)
 zb : ∀ g ∈ x.z, 0 <= g /\ g + 1 < x.ms.length
 zs : x.z.Pairwise (· < ·)
 zn : a.b = false -> x.z = []
structure GoF (a : MkI) (K : Int) (x y : MS) : Prop where
 ms : y.ms = x.ms
 t : y.t = x.t
 st : y.st = x.st
 far : 1 <= y.pl - x.pl /\ y.pl - x.pl <= 30
 lo : QS a.s * (y.pl - x.pl) <= y.tm - x.tm
 up : 0 <= y.tm - x.tm /\ y.tm - x.tm <= 1000
 z : (y.z = x.z /\ y.tm - x.tm <= XE a.s * (y.pl - x.pl)) ∨ (a.b = true /\ y.z = x.z ++ [(x.ms.length : Int) - 1])
 s : StmB (K + 4) y.s
theorem goF {a : MkI} (hd : HdB a) {K : Int} {x : MS} (hs : StmB K x.s) (hK : K <= 1000) (h1 : 0 < x.ms.length) (h2 : x.ms.length <= 100) (hp : 0 <= x.pl /\ x.pl <= 10000) (ht : 0 <= x.tm /\ x.tm <= 100000) : GoF a K x (goM a x) := by
 rw [go_1 h1]
 have s1 := PR hs (by omega) 1 30
 have v1 : 1 <= YA x /\ YA x <= 30 := tS hs (by omega) (by omega) (by omega) (by omega)
 have m1 := mulb (a := QS a.s) (b := YA x) (A := 12) (B := 30) (by have := hd.lo; omega) hd.lo.2 (by omega) v1.2
 have m2 := mulb (a := XE a.s) (b := YA x) (A := 17) (B := 30) (by have := hd.lo; have := hd.hi; omega) hd.hi.2 (by omega) v1.2
 have m3 : QS a.s * YA x <= XE a.s * YA x := Int.mul_le_mul_of_nonneg_right hd.hi.1 (by omega)
 have e1 : wr (QS a.s * YA x) = QS a.s * YA x := NU (by omega) (by omega)
 have e2 : wr (XE a.s * YA x) = XE a.s * YA x := NU (by omega) (by omega)
 have s2 := PR s1 (by omega) (QS a.s * YA x) (XE a.s * YA x)
 have v2 := tS s1 (by omega) (lo := QS a.s * YA x) (hi := XE a.s * YA x) (by omega) m3 (by omega)
 have e3 : wr (x.pl + YA x) = x.pl + YA x := NU (by omega) (by omega)
 have e4 : wr (x.tm + Rj (Fc x.s 1 30) (QS a.s * YA x) (XE a.s * YA x)) = x.tm + Rj (Fc x.s 1 30) (QS a.s * YA x) (XE a.s * YA x) := NU (by omega) (by omega)
 have ea : advA a x = ⟨Fc (Fc x.s 1 30) (QS a.s * YA x) (XE a.s * YA x), x.pl + YA x, x.tm + Rj (Fc x.s 1 30) (QS a.s * YA x) (XE a.s * YA x), x.ms, x.t, x.st, x.z⟩ := by
  unfold advA; rw [e1, e2, e3, e4]
 rw [ea]
 generalize Rj (Fc x.s 1 30) (QS a.s * YA x) (XE a.s * YA x) = V at *
 generalize Fc (Fc x.s 1 30) (QS a.s * YA x) (XE a.s * YA x) = S at *
 generalize YA x = F at *
 have q1 : x.pl + F - x.pl = F := by omega
 have q2 : x.tm + V - x.tm = V := by omega
 unfold advZ
 cases hb : a.b with
 | false =>
  refine ⟨rfl, rfl, rfl, ?_, ?_, ?_, .inl ⟨rfl, ?_⟩, s2.mono (by omega)⟩
  ·show 1 <= x.pl + F - x.pl /\ x.pl + F - x.pl <= 30; omega
  ·show QS a.s * (x.pl + F - x.pl) <= x.tm + V - x.tm; rw [q1, q2]; exact v2.1
  ·show 0 <= x.tm + V - x.tm /\ x.tm + V - x.tm <= 1000; omega
  ·show x.tm + V - x.tm <= XE a.s * (x.pl + F - x.pl); rw [q1, q2]; exact v2.2
 | true =>
  have s3 := s2.next (by omega) 5
  have s4 := s3.next (by omega) 400
  have v4 := SV s3 (by omega) 400
  have w4 := v4.2 (by omega)
  have e5 : wr (x.tm + V + BZ (CP S 5) 400) = x.tm + V + BZ (CP S 5) 400 := NU (by omega) (by omega)
  have e6 : wr ((x.ms.length : Int) - 1) = (x.ms.length : Int) - 1 := NU (by omega) (by omega)
  dsimp only
  rw [e5, e6]
  cases hc : (BZ S 5 == 0) with
  | false =>
   refine ⟨rfl, rfl, rfl, ?_, ?_, ?_, .inl ⟨rfl, ?_⟩, s3.mono (by omega)⟩
   ·show 1 <= x.pl + F - x.pl /\ x.pl + F - x.pl <= 30; omega
   ·show QS a.s * (x.pl + F - x.pl) <= x.tm + V - x.tm; rw [q1, q2]; exact v2.1
   ·show 0 <= x.tm + V - x.tm /\ x.tm + V - x.tm <= 1000; omega
   ·show x.tm + V - x.tm <= XE a.s * (x.pl + F - x.pl); rw [q1, q2]; exact v2.2
  | true =>
   refine ⟨rfl, rfl, rfl, ?_, ?_, ?_, .inr ⟨hb, rfl⟩, s4.mono (by omega)⟩
   ·show 1 <= x.pl + F - x.pl /\ x.pl + F - x.pl <= 30; omega
   ·show QS a.s * (x.pl + F - x.pl) <= x.tm + V + BZ (CP S 5) 400 - x.tm; rw [q1]; omega
   ·show 0 <= x.tm + V + BZ (CP S 5) 400 - x.tm /\ x.tm + V + BZ (CP S 5) 400 - x.tm <= 1000; omega
theorem addF {a : MkI} (hd : HdB a) {K : Int} {y : MS} (hs : StmB K y.s) (hK : K <= 1000) : ∃ h v s, zL a y = ⟨s, y.pl, y.tm, y.ms ++ [⟨y.pl, h⟩], y.t ++ [y.tm], y.st ++ [v], y.z⟩ /\ (0 <= h /\ h <= 59) /\ (ZE a.s + VN a.s * h - TH a.s <= v /\ v <= ZE a.s + VN a.s * h + TH a.s) /\ StmB (K + 2) s := by
 have s1 := hs.next (by omega) 60
 have v1 := SV hs (by omega) 60
 have w1 := v1.2 (by omega)
 have m := mulb (a := VN a.s) (b := BZ y.s 60) (A := 11) (B := 59) hd.sc.1 hd.sc.2 v1.1 (by omega)
 have e1 : wr (VN a.s * BZ y.s 60) = VN a.s * BZ y.s 60 := NU (by omega) (by omega)
 have d1 := hd.bs
 have d2 := hd.of
 have e2 : yAt a y = ZE a.s + VN a.s * BZ y.s 60 := by unfold yAt; rw [e1]; exact NU (by omega) (by omega)
 have e3 : wr (yAt a y - TH a.s) = yAt a y - TH a.s := NU (by omega) (by omega)
 have e4 : wr (yAt a y + TH a.s) = yAt a y + TH a.s := NU (by omega) (by omega)
 refine ⟨BZ y.s 60, Rj (CP y.s 60) (wr (yAt a y - TH a.s)) (wr (yAt a y + TH a.s)), Fc (CP y.s 60) (wr (yAt a y - TH a.s)) (wr (yAt a y + TH a.s)), rfl, ⟨v1.1, by omega⟩, ?_, (PR s1 (by omega) _ _).mono (by omega)⟩
 rw [e3, e4]
 have := tS s1 (by omega) (lo := yAt a y - TH a.s) (hi := yAt a y + TH a.s) (by omega) (by omega) (by omega)
 rw [<- e2]; exact this
theorem MdI.add {a : MkI} {x y : MS} (hx : MdI a x) (e1 : y.ms = x.ms) (e2 : y.t = x.t) (e3 : y.st = x.st) (hp : 0 <= y.pl /\ y.pl <= 30 * (x.ms.length : Int)) (ht : 0 <= y.tm /\ y.tm <= 299 + 1000 * (x.ms.length : Int))
  (hg : ∀ i, i + 1 = x.ms.length -> (1 <= y.pl - (gD x.ms i).pl /\ y.pl - (gD x.ms i).pl <= 30) /\ QS a.s * (y.pl - (gD x.ms i).pl) <= y.tm - gD x.t i /\ (¬ (i : Int) ∈ y.z -> y.tm - gD x.t i <= XE a.s * (y.pl - (gD x.ms i).pl)))
  (hz : y.z = x.z ∨ (a.b = true /\ 0 < x.ms.length /\ y.z = x.z ++ [(x.ms.length : Int) - 1])) {h v : Int} {s : Stm} (h1 : 0 <= h /\ h <= 59) (h2 : ZE a.s + VN a.s * h - TH a.s <= v /\ v <= ZE a.s + VN a.s * h + TH a.s) : MdI a ⟨s, y.pl, y.tm, y.ms ++ [⟨y.pl, h⟩], y.t ++ [y.tm], y.st ++ [v], y.z⟩ := by
 rw [e1, e2, e3]
 have tl := hx.tl
 have sl := hx.sl
 have lm : (x.ms ++ [(⟨y.pl, h⟩ : Mk)]).length = x.ms.length + 1 := by simp
 refine ⟨?_, ?_, ?_, ?_, ?_, ?_, ?_, ?_, ?_, ?_, ?_, ?_, ?_, ?_⟩
 ·show (x.t ++ [y.tm]).length = (x.ms ++ [(⟨y.pl, h⟩ : Mk)]).length; simp [tl]
 ·show (x.st ++ [v]).length = (x.ms ++ [(⟨y.pl, h⟩ : Mk)]).length; simp [sl]
 ·intro h0; have h0 : (x.ms ++ [(⟨y.pl, h⟩ : Mk)]).length = 0 := h0; rw [lm] at h0; omega
 ·intro _
  show (gD (x.ms ++ [(⟨y.pl, h⟩ : Mk)]) ((x.ms ++ [(⟨y.pl, h⟩ : Mk)]).length - 1)).pl = y.pl /\ gD (x.t ++ [y.tm]) ((x.ms ++ [(⟨y.pl, h⟩ : Mk)]).length - 1) = y.tm
  rw [lm, Tu x.ms _ (by omega), Tu x.t _ (by omega)]; exact ⟨rfl, rfl⟩
 ·intro i hi
  have hi : i < (x.ms ++ [(⟨y.pl, h⟩ : Mk)]).length := hi
  rw [lm] at hi
  show 0 <= (gD (x.ms ++ [(⟨y.pl, h⟩ : Mk)]) i).pl /\ (gD (x.ms ++ [(⟨y.pl, h⟩ : Mk)]) i).pl <= 30 * (i : Int)
  rcases Nat.lt_or_ge i x.ms.length with q | q
  ·rw [Em x.ms _ q]; exact hx.plb i q
  ·obtain rfl : i = x.ms.length := by omega
   rw [Tu x.ms _ rfl]; exact hp
 ·intro i hi
  have hi : i < (x.ms ++ [(⟨y.pl, h⟩ : Mk)]).length := hi
  rw [lm] at hi
  show 0 <= (gD (x.ms ++ [(⟨y.pl, h⟩ : Mk)]) i).ht /\ (gD (x.ms ++ [(⟨y.pl, h⟩ : Mk)]) i).ht <= 59
  rcases Nat.lt_or_ge i x.ms.length with q | q
  ·rw [Em x.ms _ q]; exact hx.ht i q
  ·rw [Tu x.ms _ (by omega)]; exact h1
 ·intro i hi
  have hi : i < (x.ms ++ [(⟨y.pl, h⟩ : Mk)]).length := hi
  rw [lm] at hi
  show 0 <= gD (x.t ++ [y.tm]) i /\ gD (x.t ++ [y.tm]) i <= 299 + 1000 * (i : Int)
  rcases Nat.lt_or_ge i x.ms.length with q | q
  ·rw [Em x.t _ (by omega)]; exact hx.tm i q
  ·obtain rfl : i = x.ms.length := by omega
   rw [Tu x.t _ (by omega)]; exact ht
 ·intro i hi
  have hi : i < (x.ms ++ [(⟨y.pl, h⟩ : Mk)]).length := hi
  rw [lm] at hi
  show ZE a.s + VN a.s * (gD (x.ms ++ [(⟨y.pl, h⟩ : Mk)]) i).ht - TH a.s <= gD (x.st ++ [v]) i /\ gD (x.st ++ [v]) i <= ZE a.s + VN a.s * (gD (x.ms ++ [(⟨y.pl, h⟩ : Mk)]) i).ht + TH a.s
  rcases Nat.lt_or_ge i x.ms.length with q | q
  ·rw [Em x.ms _ q, Em x.st _ (by omega)]; exact hx.st i q
  ·rw [Tu x.ms _ (by omega), Tu x.st _ (by omega)]; exact h2
 ·intro i hi
  have hi : i + 1 < (x.ms ++ [(⟨y.pl, h⟩ : Mk)]).length := hi
  rw [lm] at hi
  show 1 <= (gD (x.ms ++ [(⟨y.pl, h⟩ : Mk)]) (i + 1)).pl - (gD (x.ms ++ [(⟨y.pl, h⟩ : Mk)]) i).pl /\ (gD (x.ms ++ [(⟨y.pl, h⟩ : Mk)]) (i + 1)).pl - (gD (x.ms ++ [(⟨y.pl, h⟩ : Mk)]) i).pl <= 30
  rw [Em x.ms _ (show i < _ by omega)]
  rcases Nat.lt_or_ge (i + 1) x.ms.length with q | q
  ·rw [Em x.ms _ q]; exact hx.far i q
  ·rw [Tu x.ms _ (by omega)]; exact (hg i (by omega)).1
 ·intro i hi
  have hi : i + 1 < (x.ms ++ [(⟨y.pl, h⟩ : Mk)]).length := hi
  rw [lm] at hi
  show QS a.s * ((gD (x.ms ++ [(⟨y.pl, h⟩ : Mk)]) (i + 1)).pl - (gD (x.ms ++ [(⟨y.pl, h⟩ : Mk)]) i).pl) <= gD (x.t ++ [y.tm]) (i + 1) - gD (x.t ++ [y.tm]) i
  rw [Em x.ms _ (show i < _ by omega), Em x.t _ (show i < _ by omega)]
  rcases Nat.lt_or_ge (i + 1) x.ms.length with q | q
  ·rw [Em x.ms _ q, Em x.t _ (by omega)]; exact hx.lo i q
  ·rw [Tu x.ms _ (by omega), Tu x.t _ (by omega)]; exact (hg i (by omega)).2.1
 ·intro i hi hn
  have hi : i + 1 < (x.ms ++ [(⟨y.pl, h⟩ : Mk)]).length := hi
  rw [lm] at hi
  have hn : ¬ (i : Int) ∈ y.z := hn
  show gD (x.t ++ [y.tm]) (i + 1) - gD (x.t ++ [y.tm]) i <= XE a.s * ((gD (x.ms ++ [(⟨y.pl, h⟩ : Mk)]) (i + 1)).pl - (gD (x.ms ++ [(⟨y.pl, h⟩ : Mk)]) i).pl)
  rw [Em x.ms _ (show i < _ by omega), Em x.t _ (show i < _ by omega)]
  rcases Nat.lt_or_ge (i + 1) x.ms.length with q | q
  ·rw [Em x.ms _ q, Em x.t _ (by omega)]
   refine hx.hi i q λ hm => hn ?_
   rcases hz with hz | ⟨_, _, hz⟩ <;> rw [hz]
   ·exact hm
   ·exact List.mem_append_left _ hm
  ·rw [Tu x.ms _ (by omega), Tu x.t _ (by omega)]; exact (hg i (by omega)).2.2 hn
 ·intro g hm
  have hm : g ∈ y.z := hm
  show 0 <= g /\ g + 1 < ((x.ms ++ [(⟨y.pl, h⟩ : Mk)]).length : Int)
  rw [lm]
  rcases hz with hz | ⟨_, hl, hz⟩ <;> rw [hz] at hm
  ·have := hx.zb g hm; omega
  ·rcases List.mem_append.1 hm with hm | hm
   ·have := hx.zb g hm; omega
   ·have := List.mem_singleton.1 hm; omega
 ·show y.z.Pairwise (· < ·)
  rcases hz with hz | ⟨_, hl, hz⟩ <;> rw [hz]
  ·exact hx.zs
  ·rw [List.pairwise_append]
   refine ⟨hx.zs, List.pairwise_singleton _ _, λ g hg k hk => ?_⟩
   have := hx.zb g hg
   have := List.mem_singleton.1 hk
   omega
 ·intro hb
  show y.z = []
  rcases hz with hz | ⟨hb2, _, _⟩
  ·rw [hz]; exact hx.zn hb
  ·rw [hb] at hb2; cases hb2
theorem MdI.step {a : MkI} (hd : HdB a) {K : Int} {x : MS} (hx : MdI a x) (hs : StmB K x.s) (hK : K <= 900) (hl : x.ms.length <= 50) : MdI a (stpC a x) /\ StmB (K + 6) (stpC a x).s /\ (stpC a x).ms.length = x.ms.length + 1 := by
 rcases Nat.eq_zero_or_pos x.ms.length with h0 | h0
 ·have eg : goM a x = x := go_0 (List.length_eq_zero_iff.1 h0)
  obtain ⟨h, v, s, e, q1, q2, q3⟩ := addF hd hs (by omega)
  have e : stpC a x = _ := (show stpC a x = zL a x by unfold stpC; rw [eg]).trans e
  obtain ⟨z1, z2, z3⟩ := hx.zero h0
  rw [e]
  exact ⟨hx.add rfl rfl rfl (by rw [h0]; omega) (by rw [h0]; omega) (λ i hi => by omega) (.inl rfl) q1 q2, q3.mono (by omega), by show (x.ms ++ [_]).length = _; simp⟩
 ·obtain ⟨l1, l2⟩ := hx.last h0
  have p1 := hx.plb (x.ms.length - 1) (by omega)
  have t1 := hx.tm (x.ms.length - 1) (by omega)
  have gf := goF hd hs (by omega) h0 (by omega) (by rw [<- l1]; omega) (by rw [<- l2]; omega)
  obtain ⟨h, v, s, e, q1, q2, q3⟩ := addF hd gf.s (by omega)
  have e : stpC a x = _ := e
  rw [e]
  have f1 := gf.far
  have f2 := gf.up
  refine ⟨hx.add gf.ms gf.t gf.st (by omega) (by omega) (λ i hi => ?_) ?_ q1 q2, q3.mono (by omega), by show ((goM a x).ms ++ [_]).length = _; rw [gf.ms]; simp⟩
  ·obtain rfl : i = x.ms.length - 1 := by omega
   rw [l1, l2]
   refine ⟨gf.far, gf.lo, λ hn => ?_⟩
   rcases gf.z with ⟨_, z⟩ | ⟨_, z⟩
   ·exact z
   ·exact absurd (by rw [z]; exact List.mem_append_right _ (List.mem_singleton.2 (by omega))) hn
  ·rcases gf.z with ⟨z, _⟩ | ⟨b, z⟩
   ·exact .inl z
   ·exact .inr ⟨b, h0, z⟩
theorem MdI.all {a : MkI} (hd : HdB a) : ∀ (n : Nat) {K : Int} {x : MS}, MdI a x -> StmB K x.s -> x.ms.length + n <= 50 -> K + 6 * n <= 800 -> MdI a (dD a n x) /\ StmB (K + 6 * n) (dD a n x).s /\ (dD a n x).ms.length = x.ms.length + n
 | 0, K, x, hx, hs, _, _ => ⟨hx, hs.mono (by omega), rfl⟩
 | n + 1, K, x, hx, hs, hl, hK => by
  obtain ⟨a1, a2, a3⟩ := hx.step hd hs (by omega) (by omega)
  obtain ⟨b1, b2, b3⟩ := MdI.all hd n a1 a2 (by omega) (by omega)
  exact ⟨b1, b2.mono (by omega), by show (dD a n (stpC a x)).ms.length = _; omega⟩
theorem MdI.nil {a : MkI} {s : Stm} {tm : Int} (h : 0 <= tm /\ tm <= 299) : MdI a ⟨s, 0, tm, [], [], [], []⟩ :=
 ⟨rfl, rfl, λ _ => ⟨rfl, h, rfl⟩, λ h => absurd h (Nat.lt_irrefl 0), λ i h => absurd h (Nat.not_lt_zero i), λ i h => absurd h (Nat.not_lt_zero i), λ i h => absurd h (Nat.not_lt_zero i), λ i h => absurd h (Nat.not_lt_zero i), λ i h => absurd h (Nat.not_lt_zero _), λ i h => absurd h (Nat.not_lt_zero _), λ i h => absurd h (Nat.not_lt_zero _), λ g h => (by cases h), .nil, λ _ => rfl⟩
theorem AUB {a : MkI} (h : preM a) : MdI a (mS a) /\ StmB 100 (mS a).s /\ (mS a).ms.length = mN a := by
 have hd := hdB h
 obtain ⟨n1, n2, n3⟩ := BFW h
 obtain ⟨_, _, _, _, _, b6⟩ := ANP h
 have m2 := h.2.2
 have s7 := PR b6 (by omega) 1 a.m
 have i0 : MdI a ⟨Fc (gS6 a.s) 1 a.m, 0, hTm a.s, [], [], [], []⟩ := MdI.nil hd.tm
 have i0 : MdI a (mS0 a) := i0
 have l0 : (mS0 a).ms.length + mN a <= 50 := by show 0 + mN a <= 50; omega
 have s0 : StmB 7 (mS0 a).s := s7.mono (by omega)
 obtain ⟨c1, c2, c3⟩ := MdI.all hd (mN a) i0 s0 l0 (by omega)
 have e : mS a = dD a (mN a) (mS0 a) := rfl
 rw [e]
 generalize dD a (mN a) (mS0 a) = M at *
 refine ⟨c1, c2.mono (by omega), c3.trans ?_⟩
 show 0 + mN a = mN a; omega
def nOk (a : MkI) (n : Nt) : Prop := ∃ j : Nat, n.mi = j /\ j < (mS a).ms.length /\ n.t.has (gD (mS a).t j) /\ (0 <= n.t.lo /\ n.t.hi <= 100000) /\ n.s.has (gD (mS a).st j) /\ -10000 <= n.s.lo /\ n.s.hi <= 10000
structure NtJ (a : MkI) (l : List Nt) : Prop where
 all : ∀ n ∈ l, nOk a n
 one : ∀ i j, i < l.length -> j < l.length -> i ≠ j -> (gD l i).mi ≠ (gD l j).mi
theorem BKF {a : MkI} (hm : MdI a (mS a)) (hd : HdB a) {K : Int} {s : Stm} (hs : StmB K s) (hK : K <= 1000) {i : Nat} (hi : i < (mS a).ms.length) (hl : (mS a).ms.length <= 50) : nOk a (mkNt a s i) /\ StmB (K + 4) (nS5 s) := by
 have s2 := hs.next (by omega) 40
 have s3 := s2.next (by omega) 40
 have s4 := s3.next (by omega) 9
 have s5 := s4.next (by omega) 9
 have v1 := SV hs (by omega) 40
 have v2 := SV s2 (by omega) 40
 have v3 := SV s3 (by omega) 9
 have v4 := SV s4 (by omega) 9
 have w1 := v1.2 (by omega)
 have w2 := v2.2 (by omega)
 have w3 := v3.2 (by omega)
 have w4 := v4.2 (by omega)
 have t1 := hm.tm i hi
 have h1 := hm.ht i hi
 have st := hm.st i hi
 have m := mulb (a := VN a.s) (b := (gD (mS a).ms i).ht) (A := 11) (B := 59) hd.sc.1 hd.sc.2 h1.1 h1.2
 have d1 := hd.bs
 have d2 := hd.of
 have e1 : wr (gD (mS a).t i - BZ s 40) = gD (mS a).t i - BZ s 40 := NU (by omega) (by omega)
 have e2 : wr (gD (mS a).t i + BZ (nS2 s) 40) = gD (mS a).t i + BZ (nS2 s) 40 := NU (by unfold nS2; omega) (by unfold nS2; omega)
 have e3 : wr (gD (mS a).st i - BZ (nS3 s) 9) = gD (mS a).st i - BZ (nS3 s) 9 := NU (by unfold nS3 nS2; omega) (by unfold nS3 nS2; omega)
 have e4 : wr (gD (mS a).st i + BZ (nS4 s) 9) = gD (mS a).st i + BZ (nS4 s) 9 := NU (by unfold nS4 nS3 nS2; omega) (by unfold nS4 nS3 nS2; omega)
 refine ⟨?_, s5.mono (by omega)⟩
 unfold mkNt
 rw [e1, e2, e3, e4]
 have w2' : 0 <= BZ (nS2 s) 40 /\ BZ (nS2 s) 40 < 40 := ⟨v2.1, w2⟩
 have w3' : 0 <= BZ (nS3 s) 9 /\ BZ (nS3 s) 9 < 9 := ⟨v3.1, w3⟩
 have w4' : 0 <= BZ (nS4 s) 9 /\ BZ (nS4 s) 9 < 9 := ⟨v4.1, w4⟩
 have mx := uN 0 (gD (mS a).t i - BZ s 40)
 have mx2 : GV 0 (gD (mS a).t i - BZ s 40) <= gD (mS a).t i := maxI_le.2 (by omega)
 refine ⟨i, rfl, hi, ⟨mx2, ?_⟩, ⟨mx.1, ?_⟩, ⟨?_, ?_⟩, ?_, ?_⟩
 ·show gD (mS a).t i <= gD (mS a).t i + BZ (nS2 s) 40; omega
 ·show gD (mS a).t i + BZ (nS2 s) 40 <= 100000; omega
 ·show gD (mS a).st i - BZ (nS3 s) 9 <= gD (mS a).st i; omega
 ·show gD (mS a).st i <= gD (mS a).st i + BZ (nS4 s) 9; omega
 ·show -10000 <= gD (mS a).st i - BZ (nS3 s) 9; omega
 ·show gD (mS a).st i + BZ (nS4 s) 9 <= 10000; omega
theorem AUC {a : MkI} (hm : MdI a (mS a)) (hd : HdB a) (hl : (mS a).ms.length <= 50) : ∀ (n i : Nat) {K : Int} {x : NSt}, i + n = (mS a).ms.length -> StmB K x.s -> K + 5 * n <= 900 -> NtJ a x.ns -> (∀ t ∈ x.ns, t.mi < i) -> x.ns.length <= i -> NtJ a (mkN a n i x).ns /\ StmB (K + 5 * n) (mkN a n i x).s /\ (mkN a n i x).ns.length <= i + n
 | 0, i, K, x, _, hs, _, hN, _, h5 => ⟨hN, hs.mono (by omega), h5⟩
 | n + 1, i, K, x, hi, hs, hK, hN, h4, h5 => by
  have s1 := hs.next (by omega) 2
  show NtJ a (mkN a n (i + 1) (stpN a i x)).ns /\ StmB _ (mkN a n (i + 1) (stpN a i x)).s /\ (mkN a n (i + 1) (stpN a i x)).ns.length <= _
  unfold stpN
  cases BZ x.s 2 == 0 with
  | false =>
   obtain ⟨r1, r2, r3⟩ := AUC hm hd hl n (i + 1) (x := ⟨CP x.s 2, x.ns⟩) (by omega) s1 (by omega) hN (λ t ht => by have := h4 t ht; omega) (by show x.ns.length <= _; omega)
   exact ⟨r1, r2.mono (by omega), by show (mkN a n (i + 1) ⟨CP x.s 2, x.ns⟩).ns.length <= _; omega⟩
  | true =>
   obtain ⟨k1, k2⟩ := BKF hm hd s1 (by omega) (i := i) (by omega) hl
   have hN2 : NtJ a (x.ns ++ [mkNt a (CP x.s 2) i]) := by
    refine ⟨λ t ht => ?_, λ j k hj hk hjk => ?_⟩
    ·rcases List.mem_append.1 ht with ht | ht
     ·exact hN.all t ht
     ·rw [List.mem_singleton.1 ht]; exact k1
    ·rw [List.length_append] at hj hk
     have hj : j < x.ns.length + 1 := hj
     have hk : k < x.ns.length + 1 := hk
     have em : (mkNt a (CP x.s 2) i).mi = i := rfl
     rcases Nat.lt_or_ge j x.ns.length with q | q <;> rcases Nat.lt_or_ge k x.ns.length with r | r
     ·rw [Em _ _ q, Em _ _ r]; exact hN.one j k q r hjk
     ·rw [Em _ _ q, Tu _ _ (by omega), em]
      have := h4 _ (LS q); omega
     ·rw [Tu _ _ (by omega), Em _ _ r, em]
      have := h4 _ (LS r); omega
     ·omega
   obtain ⟨r1, r2, r3⟩ := AUC hm hd hl n (i + 1) (x := ⟨nS5 (CP x.s 2), x.ns ++ [mkNt a (CP x.s 2) i]⟩) (by omega) k2 (by omega) hN2 (λ t ht => by
    rcases List.mem_append.1 ht with ht | ht
    ·have := h4 t ht; omega
    ·rw [List.mem_singleton.1 ht]; show (i : Int) < ((i + 1 : Nat) : Int); omega) (by show (x.ns ++ [_]).length <= _; rw [List.length_append]; show x.ns.length + 1 <= i + 1; omega)
   exact ⟨r1, r2.mono (by omega), by show (mkN a n (i + 1) ⟨nS5 (CP x.s 2), x.ns ++ [mkNt a (CP x.s 2) i]⟩).ns.length <= _; omega⟩
theorem BTR {a : MkI} {l : List Nt} {i k : Nat} (hi : i < l.length) (hk : k < l.length) (h : NtJ a l) : NtJ a (swN l i k) := by
 have hat := λ t => BED (l := l) hi hk (t := t)
 refine ⟨λ n hn => ?_, λ u v hu hv huv => ?_⟩
 ·obtain ⟨t, ht, rfl⟩ := QG hn
  rw [Wb] at ht
  rw [hat t]
  cases decide (t = k) with
  | true => exact h.all _ (LS hi)
  | false =>
   cases decide (t = i) with
   | true => exact h.all _ (LS hk)
   | false => exact h.all _ (LS ht)
 ·rw [Wb] at hu hv
  rw [hat u, hat v]
  by_cases u1 : u = k
  ·subst u1
   have v1 : ¬ v = u := λ e => huv e.symm
   rw [decide_eq_true rfl, decide_eq_false v1]
   show (gD l i).mi ≠ (bif decide (v = i) then gD l u else gD l v).mi
   by_cases v2 : v = i
   ·rw [decide_eq_true v2]; exact h.one i u hi hu (by omega)
   ·rw [decide_eq_false v2]; exact h.one i v hi hv (by omega)
  ·rw [decide_eq_false u1]
   by_cases v1 : v = k
   ·subst v1
    rw [decide_eq_true rfl]
    show (bif decide (u = i) then gD l v else gD l u).mi ≠ (gD l i).mi
    by_cases u2 : u = i
    ·rw [decide_eq_true u2]; exact h.one v i hv hi (by omega)
    ·rw [decide_eq_false u2]; exact h.one u i hu hi (by omega)
   ·rw [decide_eq_false v1]
    show (bif decide (u = i) then gD l k else gD l u).mi ≠ (bif decide (v = i) then gD l k else gD l v).mi
    by_cases u2 : u = i
    ·have v2 : ¬ v = i := by omega
     rw [decide_eq_true u2, decide_eq_false v2]; exact h.one k v hk hv (by omega)
    ·rw [decide_eq_false u2]
     by_cases v2 : v = i
     ·rw [decide_eq_true v2]; exact h.one u k hu hk (by omega)
     ·rw [decide_eq_false v2]; exact h.one u v hu hv huv
theorem BCU {a : MkI} : ∀ (j : Nat) {K : Int} {x : NSt}, (0 < j -> j < x.ns.length) -> StmB K x.s -> K + j <= 2000 -> NtJ a x.ns -> NtJ a (shK j x).ns /\ (shK j x).ns.length = x.ns.length
 | 0, K, x, _, _, _, h => ⟨h, rfl⟩
 | j + 1, K, x, hj, hs, hK, h => by
  have hj := hj (Nat.succ_pos _)
  have v := SV hs (by omega) ((j : Int) + 2)
  have w := v.2 (by omega)
  have s1 := hs.next (by omega) ((j : Int) + 2)
  obtain ⟨r1, r2⟩ := BCU j (x := ⟨CP x.s ((j : Int) + 2), swN x.ns (j + 1) (BZ x.s ((j : Int) + 2)).toNat⟩) (λ _ => by show j < (swN _ _ _).length; rw [Wb]; omega) s1 (by omega) (BTR hj (by omega) h)
  exact ⟨r1, r2.trans (Wb _ _ _)⟩
structure MadeF (a : MkI) : Prop where
 ok : ChOk (XB a)
 len : (1 <= (XB a).ms.length /\ ((XB a).ms.length : Int) <= a.m) /\ (F2 a).t.length = (XB a).ms.length /\ (F2 a).s.length = (XB a).ms.length /\ (XB a).ns.length <= (XB a).ms.length
 bd : (-50 <= (XB a).base /\ (XB a).base <= 400) /\ (0 <= (XB a).scale /\ (XB a).scale <= 11) /\ (0 <= (XB a).off /\ (XB a).off <= 8) /\ (1 <= (XB a).p.lo /\ (XB a).p.hi <= 17)
 tr : ∀ sp : Nat -> Bool, (∀ g : Nat, (g : Int) ∈ (F2 a).z -> sp g = true) -> TrC (XB a) sp (gD (F2 a).t)
 st : ∀ i, i < (XB a).ms.length -> (Qr (XB a) i).has (gD (F2 a).s i)
 tb : ∀ i, i < (XB a).ms.length -> 0 <= gD (F2 a).t i /\ gD (F2 a).t i <= 20000
 sb : ∀ i, i < (XB a).ms.length -> -10000 <= gD (F2 a).s i /\ gD (F2 a).s i <= 10000
 z : okZ ⟨XB a, (F2 a).z⟩ = true
 zn : a.b = false -> (F2 a).z = []
 nt : ∀ n ∈ (XB a).ns, nOk a n
 up : ∀ i, i + 1 < (XB a).ms.length -> gD (F2 a).t i < gD (F2 a).t (i + 1)
theorem BVF {a : MkI} (h : preM a) : MadeF a := by
 have hd := hdB h
 obtain ⟨hm, hs, hl⟩ := AUB h
 obtain ⟨n1, n2, n3⟩ := BFW h
 have m2 := h.2.2
 have hN0 : NtJ a ([] : List Nt) := ⟨λ n h => (by cases h), λ i j h => absurd h (Nat.not_lt_zero _)⟩
 obtain ⟨k1, k2, k3⟩ := AUC hm hd (by omega) (mS a).ms.length 0 (x := ⟨(mS a).s, []⟩) (by omega) hs (by omega) hN0 (λ t h => (by cases h)) (Nat.le_refl _)
 have k1 : NtJ a (Df a).ns := k1
 have k2 : StmB (100 + 5 * ((mS a).ms.length : Int)) (Df a).s := k2
 have k3 : (Df a).ns.length <= 0 + (mS a).ms.length := k3
 obtain ⟨e1, e2⟩ := BCU (a := a) ((Df a).ns.length - 1) (x := Df a) (by omega) k2 (by omega) k1
 have e1 : NtJ a (mE a).ns := e1
 have e2 : (mE a).ns.length = (Df a).ns.length := e2
 have ok : ChOk (XB a) := by
  have d1 := hd.lo
  have d2 := hd.hi
  have d3 := hd.bs
  have d4 := hd.sc
  have d5 := hd.of
  refine ⟨by show 1 <= (mS a).ms.length /\ (mS a).ms.length <= 40; omega, by show (mE a).ns.length <= 20; omega, by show 1 <= QS a.s /\ QS a.s <= XE a.s /\ XE a.s <= 600; omega, by show -1000000 <= ZE a.s /\ ZE a.s <= 1000000; omega, by show 0 <= VN a.s /\ VN a.s <= 1000; omega, by show 0 <= TH a.s /\ TH a.s <= 1000; omega, λ i hi => ?_, λ i hi => ?_, λ n hn => ?_, λ i j hij hj => e1.one i j (Nat.lt_trans hij hj) hj (by omega)⟩
  ·have hi : i < (mS a).ms.length := hi
   have p := hm.plb i hi
   have q := hm.ht i hi
   show (0 <= (gD (mS a).ms i).pl /\ (gD (mS a).ms i).pl <= 10000) /\ 0 <= (gD (mS a).ms i).ht /\ (gD (mS a).ms i).ht <= 1000
   omega
  ·have p := hm.far i hi
   show (gD (mS a).ms i).pl < (gD (mS a).ms (i + 1)).pl
   omega
  ·obtain ⟨j, j1, j2, ⟨j3, j4⟩, ⟨j5, j6⟩, ⟨j7, j8⟩, j9, j10⟩ := e1.all n hn
   have q : (XB a).ms.length = (mS a).ms.length := rfl
   exact ⟨by rw [q]; omega, by omega, by omega⟩
 have no : ∀ i : Nat, i < (mS a).ms.length -> hasN (XB a).ns (i : Int) = true -> (ntOf (XB a).ns (i : Int)).t.has (gD (mS a).t i) /\ (ntOf (XB a).ns (i : Int)).s.has (gD (mS a).st i) := λ i hi hh => by
  obtain ⟨q1, q2⟩ := kH hh
  obtain ⟨j, j1, j2, j3, _, j5, _⟩ := e1.all _ q1
  rw [q2] at j1
  obtain rfl : i = j := by omega
  exact ⟨j3, j5⟩
 have sb : ∀ i, i < (mS a).ms.length -> -10000 <= gD (mS a).st i /\ gD (mS a).st i <= 10000 := λ i hi => by
  have h1 := hm.ht i hi
  have st := hm.st i hi
  have m := mulb (a := VN a.s) (b := (gD (mS a).ms i).ht) (A := 11) (B := 59) hd.sc.1 hd.sc.2 h1.1 h1.2
  have d1 := hd.bs
  have d2 := hd.of
  omega
 refine ⟨ok, ⟨by show 1 <= (mS a).ms.length /\ ((mS a).ms.length : Int) <= a.m; omega, hm.tl, hm.sl, by show (mE a).ns.length <= (mS a).ms.length; omega⟩, ⟨hd.bs, hd.sc, hd.of, hd.lo.1, hd.hi.2⟩, λ sp hsp => ⟨λ i hi => ?_, λ g hg => ?_⟩, λ i hi => ?_, λ i hi => ?_, sb, ?_, hm.zn, e1.all, λ i hi => ?_⟩
 ·have hi : i < (mS a).ms.length := by have : (XB a).ms.length = (mS a).ms.length := rfl; omega
  have t := hm.tm i hi
  show (Pv (XB a) (i : Int)).has (gD (mS a).t i)
  unfold Pv
  cases hh : hasN (XB a).ns (i : Int) with
  | false => show -100000000 <= gD (mS a).t i /\ gD (mS a).t i <= 100000000; omega
  | true => exact (no i hi hh).1
 ·have hg : g + 1 < (mS a).ms.length := by have : (XB a).ms.length = (mS a).ms.length := rfl; omega
  refine ⟨hm.lo g hg, ?_⟩
  show gD (mS a).t (g + 1) - gD (mS a).t g <= bif sp g then 200000000 else XE a.s * ((gD (mS a).ms (g + 1)).pl - (gD (mS a).ms g).pl)
  have t1 := hm.tm g (by omega)
  have t2 := hm.tm (g + 1) hg
  cases hp : sp g with
  | true => show _ <= (200000000 : Int); omega
  | false => exact hm.hi g hg λ hz => by rw [hsp g hz] at hp; cases hp
 ·have hi : i < (mS a).ms.length := hi
  have h1 := hm.ht i hi
  have st := hm.st i hi
  have m := mulb (a := VN a.s) (b := (gD (mS a).ms i).ht) (A := 11) (B := 59) hd.sc.1 hd.sc.2 h1.1 h1.2
  have d1 := hd.bs
  have d2 := hd.of
  have x1 : wr (VN a.s * (gD (mS a).ms i).ht) = VN a.s * (gD (mS a).ms i).ht := NU (by omega) (by omega)
  have x2 : atM (XB a) (i : Int) = ZE a.s + VN a.s * (gD (mS a).ms i).ht := by
   show wr (ZE a.s + wr (VN a.s * (gD (mS a).ms i).ht)) = _
   rw [x1]; exact NU (by omega) (by omega)
  have x3 : (st0 (XB a) (i : Int)).has (gD (mS a).st i) := by
   show wr (atM (XB a) (i : Int) - TH a.s) <= _ /\ _ <= wr (atM (XB a) (i : Int) + TH a.s)
   rw [x2]
   have y1 : wr (ZE a.s + VN a.s * (gD (mS a).ms i).ht - TH a.s) = ZE a.s + VN a.s * (gD (mS a).ms i).ht - TH a.s := NU (by omega) (by omega)
   have y2 : wr (ZE a.s + VN a.s * (gD (mS a).ms i).ht + TH a.s) = ZE a.s + VN a.s * (gD (mS a).ms i).ht + TH a.s := NU (by omega) (by omega)
   rw [y1, y2]; exact st
  show (Qr (XB a) (i : Int)).has (gD (mS a).st i)
  unfold Qr
  cases hh : hasN (XB a).ns (i : Int) with
  | false => exact x3
  | true => exact Le.2 ⟨x3, (no i hi hh).2⟩
 ·have hi : i < (mS a).ms.length := hi
  have t := hm.tm i hi
  show 0 <= gD (mS a).t i /\ gD (mS a).t i <= 20000
  omega
 ·exact (ANY (a := ⟨XB a, (F2 a).z⟩) ok.m).2 ⟨hm.zb, hm.zs⟩
 ·have hi : i + 1 < (mS a).ms.length := hi
  have f := hm.far i hi
  have l := hm.lo i hi
  have p : 1 * 1 <= QS a.s * ((gD (mS a).ms (i + 1)).pl - (gD (mS a).ms i).pl) := Int.mul_le_mul hd.lo.1 f.1 (by omega) (by have := hd.lo; omega)
  show gD (mS a).t i < gD (mS a).t (i + 1)
  omega
end Go.Bal
