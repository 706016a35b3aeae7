/- Package rating: numbers in an order that a stream gives. -/
import Derived.Test.YtoihhodbkimedaaRT11
set_option linter.unusedVariables false
set_option linter.unusedSimpArgs false
namespace Go.Bal
open Go Go.Sym Go.Proofs
structure MX where
 s : Stm
 l : List Int
 deriving Inhabited
def mxA (l : List Int) (i j : Nat) : Int := bif decide (j < i) then gD l j else i
def mxL (l : List Int) (i k : Nat) : List Int := (List.range (i + 1)).map λ j => bif decide (j = k) then mxA l i i else bif decide (j = i) then mxA l i k else mxA l i j
def mxK (s : Stm) : Nat -> MX
 | 0 => ⟨s, []⟩
 | i + 1 => ⟨BF (mxK s i).s ((i : Int) + 1), mxL (mxK s i).l i (AN (mxK s i).s ((i : Int) + 1)).toNat⟩
structure IX2 where
 i : Nat
 x : MX
 deriving Inhabited
def mxI (a : SN) (y : IX2) : Prop := (y.i : Int) <= a.n /\ y.x = mxK a.s y.i /\ y.x.l.length = y.i /\ StmB (1000 + y.i) y.x.s
def mx3n (a : SN) : Shape := { α := IX2, dflt := default, T := λ y => ⟨[(0, .bptr 100 0), (1, .int a.n), (5, .d PD), (6, .int y.i)], [(100, stmH y.x.s)]⟩, inv := λ y => y.i = 0 /\ mxI a y, meas := λ y => a.n.toNat + 1 }
def mx3o (a : SN) : Shape := { α := IX2, dflt := default, T := λ y => ⟨[(0, .bptr 100 0), (1, .int a.n), (5, .own 201 1 0 y.x.l.length), (6, .int y.i)], [(100, stmH y.x.s), (201, .live (rowI y.x.l))]⟩, inv := λ y => mxI a y, meas := λ y => a.n.toNat - y.i, again := [(201, 7048)] }
def C_Mixed : Ctr := { α := SN, xs := λ a => [.bptr 100 0, .int a.n], L := λ a => [(100, stmO a.s)], val := λ a => .d (BL (mxK a.s a.n.toNat).l), keep := λ a => [(100, stmH (mxK a.s a.n.toNat).s)], pre := λ a => [StmB 1000 a.s /\ 1 <= a.n /\ a.n <= 100] }
def BQG (a : SN) : Ann := { ann 36 [(N8, C_Next.spec mU)] with E := [100], mt := λ id => id == 6, loops := λ id => if id = 3 then some [mx3n a, mx3o a] else none }
def BSO (a : SN) : Prop := AY Try.prog (BQG a) BFF (AF BFF) (C_Mixed.xs a) (AC (C_Mixed.L a)) (C_Mixed.val a) (C_Mixed.keep a) [] [201]
abbrev Tl : Prop := 0 = 0
abbrev M9 (i : Nat) (a : IX2) : Prop := i < a.x.s.bs.length
abbrev YM (a : IX2) (a1 : SN) : Prop := (↑a.i : Int) <= a1.n /\ a.x = mxK a1.s a.i /\ a.x.l.length = a.i /\ StmB (1000 + (↑a.i : Int)) a.x.s
abbrev K7 (a : IX2) (a1 : SN) : Prop := a.i = 0 /\ YM a a1
abbrev X5 (a : IX2) (a1 : SN) : Bool := decide ((↑a.i : Int) < a1.n)
abbrev QS (a : IX2) : Int := IntKind.i64.wrap ((↑a.i : Int) + 1)
abbrev Qx (a : IX2) : List Int := AD a.x.s.bs.length λ (i : Nat) => gD a.x.s.bs i
abbrev G6 (a : IX2) : Nat := (Qx a).length
abbrev D9 (a : IX2) : Prop := QS a = QS a /\ G6 a = a.x.s.bs.length /\ (∀ (i : Nat), i < G6 a -> gD (Qx a) i = gD a.x.s.bs i) /\ a.x.s.used = a.x.s.used /\ a.x.s.mix = a.x.s.mix /\
 (a.x.s.used - 0).NonNeg
abbrev Qc : Prop := 0 < 1
abbrev nX : Prop := 1 = 1
abbrev Wh : Prop := 1 <= 1 /\ (Qc -> nX)
abbrev dC (a : IX2) : Stm := Stm.mk (Qx a) a.x.s.used a.x.s.mix
abbrev TE (a : IX2) : Int := AN (dC a) (QS a)
abbrev Xj (a : IX2) : Prop := 0 <= TE a
abbrev iG (a : IX2) : Prop := Xj a /\ TE a < (↑1 : Int)
abbrev JN (a : IX2) : Nat := 0 + (TE a).toNat
abbrev cS (a : IX2) : Prop := 0 <= (↑a.i : Int)
abbrev fU (a : IX2) : Prop := cS a /\ (↑a.i : Int) < (↑1 : Int)
abbrev NV (a : IX2) : Nat := 0 + a.i
abbrev gS (a : IX2) : Prop := NV a < 1
abbrev lZ (a : IX2) : Nat := (JN a).succ
abbrev gU (a : IX2) : Prop := a.x.l.length = 1
abbrev Xp (a : IX2) (a1 : IX2) : Prop := (↑a.i : Int) = QS a1
abbrev Gh (a : IX2) : Stm := BF (dC a) (QS a)
abbrev kG (a : IX2) : List Int := (Gh a).bs
abbrev oD (a : IX2) (a1 : IX2) : Prop := a.x.s.bs.length = (kG a1).length
abbrev dY (a : IX2) (a1 : IX2) : Prop := ∀ (i : Nat), M9 i a -> gD a.x.s.bs i = gD (kG a1) i
abbrev nQ (a : IX2) (a1 : IX2) : Prop := a.x.s.used = (Gh a1).used
abbrev fP (a : IX2) (a1 : IX2) : Prop := a.x.s.mix = (Gh a1).mix
abbrev kF (i : Nat) (a : IX2) : Bool := decide (i = JN a)
abbrev bS (i : Nat) (a : IX2) : Bool := decide (i = NV a)
abbrev He (a : SN) (a1 : IX2) : Nat := a.n.toNat - a1.i
abbrev cZ (a : SN) : Prop := (mxK a.s a.n.toNat).l.length = 0
abbrev bO (a : SN) : Nat := (mxK a.s a.n.toNat).s.bs.length
abbrev eE (a : SN) (a1 : IX2) : Prop := bO a = a1.x.s.bs.length /\ (∀ (i : Nat), i < bO a -> gD (mxK a.s a.n.toNat).s.bs i = gD a1.x.s.bs i) /\ (mxK a.s a.n.toNat).s.used = a1.x.s.used /\ (mxK a.s
 a.n.toNat).s.mix = a1.x.s.mix
abbrev GO (a : IX2) : Nat := a.x.l.length + 1
abbrev mH (a : IX2) : Prop := Xj a /\ TE a < (↑(GO a) : Int)
abbrev Wk (a : IX2) : Prop := cS a /\ (↑a.i : Int) < (↑(GO a) : Int)
abbrev iJ (a : IX2) : Prop := NV a < GO a
abbrev aA (a : IX2) (a1 : IX2) : Prop := a.x.l.length = GO a1
theorem BWA (a : SN) : (BSO a) = ((∃ (a_1 : IX2), (a.n = a.n /\ Tl /\ (∀ (i : Nat), i < 0 -> false = false) /\ (↑a_1.i : Int) = 0 /\ a_1.x.s.bs.length = a.s.bs.length /\ (∀ (i : Nat), M9 i a_1 -> gD
 a_1.x.s.bs i = gD a.s.bs i) /\ a_1.x.s.used = a.s.used /\ a_1.x.s.mix = a.s.mix) /\ K7 a_1 a) /\ (∀ (a_1 : IX2), K7 a_1 a -> bif X5 a_1 a then D9 a_1 /\ ((True /\ (0 < 0 -> 0 = 1)) /\ Wh /\
 (true = true -> Qc) /\ 1 <= 9223372036854775807 /\ 8 <= 140737488355328) /\ (iG a_1 /\ JN a_1 < 1 /\ fU a_1 /\ gS a_1 /\ fU a_1 /\ gS a_1 /\ iG a_1 /\ (lZ a_1).le
 (0 + 1)) /\ ∃ (a_3 : IX2), (a.n = a.n /\ Tl /\ gU a_3 /\ Xp a_3 a_1 /\ oD a_3 a_1 /\ dY a_3 a_1 /\ nQ a_3 a_1 /\ fP a_3 a_1 /\ gU a_3 /\ ∀ (i : Nat), i <
 a_3.x.l.length -> gD a_3.x.l i = bif kF i a_1 then (↑a_1.i : Int) else bif bS i a_1 then (↑a_1.i : Int) else (↑a_1.i : Int)) /\ YM a_3 a /\ He a a_3 < a.n.toNat + 1 else cZ a /\
 cZ a /\ eE a a_1) /\ ∀ (a_1 : IX2), YM a_1 a -> bif X5 a_1 a then D9 a_1 /\ ((a_1.x.l.length = a_1.x.l.length /\ (0 < a_1.x.l.length -> nX)) /\ Wh /\ (false = true ->
 Qc) /\ GO a_1 <= 9223372036854775807 /\ GO a_1 * 8 <= 140737488355328) /\ (mH a_1 /\ JN a_1 < GO a_1 /\ Wk a_1 /\ iJ a_1 /\ Wk a_1 /\ iJ a_1 /\
 mH a_1 /\ (lZ a_1).le (GO a_1)) /\ ∃ (a_3 : IX2), (a.n = a.n /\ Tl /\ aA a_3 a_1 /\ Xp a_3 a_1 /\ oD a_3 a_1 /\ dY a_3 a_1 /\ nQ a_3 a_1 /\ fP a_3 a_1
 /\ aA a_3 a_1 /\ ∀ (i : Nat), i < a_3.x.l.length -> gD a_3.x.l i = bif kF i a_1 then bif decide (NV a_1 < a_1.x.l.length) then gD a_1.x.l (NV a_1) else (↑a_1.i : Int) else bif bS i
 a_1 then bif decide (JN a_1 < a_1.x.l.length) then gD a_1.x.l (JN a_1) else (↑a_1.i : Int) else bif decide (i < a_1.x.l.length) then gD a_1.x.l i else (↑a_1.i : Int)) /\ YM a_3 a /\ He a a_3
 < He a a_1 else (mxK a.s a.n.toNat).l.length = a_1.x.l.length /\ 0 + a_1.x.l.length <= a_1.x.l.length /\ (∀ (j : Nat), j < (mxK a.s a.n.toNat).l.length -> gD (mxK a.s a.n.toNat).l j = gD a_1.x.l (0 + j)) /\ eE
 a a_1) := by kernel_rfl
def nilI : List Int := []
def C_cpE : Ctr := { α := One, xs := λ _ => [.d (BL nilI)], L := λ _ => [], val := λ _ => .d PD, keep := λ _ => [] }
def dE1 : List AVal -> Heap -> Option (One × List (Nat × Nat) × List Nat)
 | [.d (.list 1 0 _ _)], _ => some (default, [], [])
 | _, _ => none
def CJS (_x : One) : Prop := AY Try.prog (ann 7 []) rR (AF rR) (C_cpE.xs _x) (AC []) (C_cpE.val _x) [] [] []
theorem CLD (_x : One) : (CJS _x) = (((True /\ (0 < 0 -> 0 = 1)) /\ (True /\ (0 < 0 -> 1 = 1)) /\ (false = true -> 0 < 0) /\ 0 <= 9223372036854775807 /\ 0 <= 140737488355328) /\ 0 = 0 /\ 0 = 0) := by kernel_rfl
theorem CAS (s : Stm) : Stm.mk s.bs s.used s.mix = s := rfl
theorem VH (l : List Int) (i k : Nat) : (mxL l i k).length = i + 1 := by simp [mxL]
theorem CAX {l : List Int} {i k j : Nat} (h : j < i + 1) : gD (mxL l i k) j = bif decide (j = k) then mxA l i i else bif decide (j = i) then mxA l i k else mxA l i j := by
 unfold mxL; simp [gD, List.getD_eq_getElem?_getD, h]
theorem BQP {a : SN} {y : IX2} (h : mxI a y) (ha : a.n <= 100) (hi : (y.i : Int) < a.n) : (0 <= AN y.x.s ((y.i : Int) + 1) /\ AN y.x.s ((y.i : Int) + 1) < (y.i : Int) + 1) /\ mxI a ⟨y.i + 1, ⟨BF y.x.s ((y.i : Int) + 1), mxL y.x.l y.i (AN y.x.s ((y.i : Int) + 1)).toNat⟩⟩ := by
 obtain ⟨h1, h2, h3, h4⟩ := h
 have hv := GV h4 (by omega) ((y.i : Int) + 1)
 refine ⟨⟨hv.1, hv.2 (by omega)⟩, by show ((y.i + 1 : Nat) : Int) <= a.n; omega, ?_, VH _ _ _, (h4.next (by omega) _).mono (by show _ <= 1000 + ((y.i + 1 : Nat) : Int); omega)⟩
 show MX.mk _ _ = mxK a.s (y.i + 1)
 rw [h2]; rfl
theorem CGD (a : SN) (hs : StmB 1000 a.s) (h1 : 1 <= a.n) (h2 : a.n <= 100) : BSO a := by
 rw [BWA]; delta Tl M9 YM K7 X5 QS Qx G6 D9 Qc nX Wh dC TE Xj iG JN cS fU NV gS lZ gU Xp Gh kG oD dY nQ fP kF bS He cZ bO eE GO mH Wk iJ aA; simp only [CC, eq_self, implies_true, forall_const, CAS, Int.ofNat_lt]
 refine ⟨⟨⟨0, ⟨a.s, []⟩⟩, ⟨rfl, rfl, λ _ _ => rfl, rfl, rfl⟩, rfl, by show ((0 : Nat) : Int) <= a.n; omega, rfl, rfl, hs.mono (by show _ <= 1000 + ((0 : Nat) : Int); omega)⟩, λ y ⟨y0, hy⟩ => ⟨λ hlt => ?_, λ hge => (by omega)⟩, λ y hy => ⟨λ hlt => ?_, λ hge => ?_⟩⟩
 ·have hy : mxI a y := hy
  obtain ⟨⟨v1, v2⟩, v3⟩ := BQP hy h2 hlt
  have hl := hy.2.2.1
  have e : IntKind.i64.wrap ((y.i : Int) + 1) = (y.i : Int) + 1 := EO (by omega) (by omega)
  rw [e]
  have v2' : AN y.x.s ((y.i : Int) + 1) < 1 := by omega
  have hc : 0 <= AN y.x.s ((y.i : Int) + 1) /\ AN y.x.s ((y.i : Int) + 1) < 1 := ⟨v1, v2'⟩
  refine ⟨hy.2.2.2.used.1, ⟨by omega, by omega, by omega, by omega, by omega⟩, ⟨hc, by omega, ⟨by omega, by omega⟩, by omega, ⟨by omega, by omega⟩, by omega, hc, by omega⟩, ⟨y.i + 1, ⟨BF y.x.s ((y.i : Int) + 1), mxL y.x.l y.i (AN y.x.s ((y.i : Int) + 1)).toNat⟩⟩, ⟨by rw [VH, y0], rfl, rfl, λ _ _ => rfl, rfl, rfl, by rw [VH, y0], λ i hi => ?_⟩, v3, by show a.n.toNat - (y.i + 1) < _; omega⟩
  have hi : i < y.i + 1 := by rw [VH] at hi; exact hi
  rw [CAX hi]
  have hA : ∀ j, mxA y.x.l y.i j = (y.i : Int) := λ j => by unfold mxA; rw [decide_eq_false (show ¬j < y.i by omega)]; rfl
  rw [hA, hA, hA]
 ·have hy : mxI a y := hy
  obtain ⟨⟨v1, v2⟩, v3⟩ := BQP hy h2 hlt
  have hl := hy.2.2.1
  have e : IntKind.i64.wrap ((y.i : Int) + 1) = (y.i : Int) + 1 := EO (by omega) (by omega)
  rw [e]
  have hc : 0 <= AN y.x.s ((y.i : Int) + 1) /\ AN y.x.s ((y.i : Int) + 1) < ((y.x.l.length + 1 : Nat) : Int) := ⟨v1, by rw [hl]; omega⟩
  refine ⟨hy.2.2.2.used.1, ⟨by omega, λ h => (by cases h), by omega, by omega⟩, ⟨hc, by omega, ⟨by omega, by omega⟩, by omega, ⟨by omega, by omega⟩, by omega, hc, by omega⟩, ⟨y.i + 1, ⟨BF y.x.s ((y.i : Int) + 1), mxL y.x.l y.i (AN y.x.s ((y.i : Int) + 1)).toNat⟩⟩, ⟨by rw [VH, hl], rfl, rfl, λ _ _ => rfl, rfl, rfl, by rw [VH, hl], λ i hi => ?_⟩, v3, by show a.n.toNat - (y.i + 1) < _; omega⟩
  have hi : i < y.i + 1 := by rw [VH] at hi; exact hi
  rw [CAX hi]
  unfold mxA
  rw [hl]
 ·have hy : mxI a y := hy
  have e : y.x = mxK a.s a.n.toNat := by rw [hy.2.1]; congr 1; have := hy.1; omega
  rw [<- e]
  exact ⟨rfl, Nat.le_refl _, λ _ _ => rfl, rfl, λ _ _ => rfl, rfl, rfl⟩
theorem CKB : AG Try.prog AGY (C_cpE.spec dE1) := JX C_cpE (λ _ => ann 7 []) [] [] BKF (λ _ => by kernel_rfl) (λ _ => AE) (λ (x : One) _ => by
 show CJS x; rw [CLD]; simp only [CC, eq_self, implies_true, forall_const]
 refine ⟨?_, ?_, ?_, ?_⟩ <;> simp) (λ _ => KJ rfl rfl) _
theorem BJR : AG Try.prog BIU (C_Mixed.spec mU) := JX C_Mixed BQG [] [201] CCP (λ _ => by kernel_rfl) (λ _ => AB Ra AE) (λ (a : SN) h => CGD a h.1 h.2.1 h.2.2) (λ _ => KJ rfl rfl) _
end Go.Bal
