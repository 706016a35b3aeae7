/- ChartStops: copies of pairs. -/
import Derived.Test.YtdbjalgfomknhaaGreatChZg
set_option linter.unusedVariables false
set_option linter.unusedSimpArgs false
namespace Go.Bal
open Go Go.Sym Go.Proofs
def AXM : List AVal -> Heap -> Option (List Pr × List (Nat × Nat) × List Nat)
 | y :: _, H => match dPrs y H with
  | some (l, f) => some (l, [], f)
  | none => none
 | _, _ => none
def C_cpP : Ctr := { α := List Pr, xs := λ l => [.d (Kw l)], L := λ _ => [], val := λ l => .d (Kw l), keep := λ _ => [], pre := λ l => [l.length < 1073741824] }
def BRG (l : List Pr) : Prop := CF Try.prog (ann 7 []) AMJ (AH AMJ) (C_cpP.xs l) (AB []) (C_cpP.val l) [] [] []
theorem BUQ (l : List Pr) : (BRG l) = (GG (RI WM (VY FL (IE l)) (WT (OQ (IE l))) (TP (IE l) 9223372036854775807) (Ho (CM (IE l)) 16)) (RQ l (CM (IE l))) (λ i=>Qs i (IE l) l l (ZP i) l (ZP i))) := by kernel_rfl
def lp3n (l : List Pr) : Shape := { α := One, dflt := default, T := λ _ => ⟨[(0, .d (Kw l)), (3, .d Ou), (4, .int 0)], []⟩, inv := λ _ => True, meas := λ _ => 1073741825 }
def lp3o (l : List Pr) : Shape := { α := Nat, dflt := 0, T := λ k => ⟨[(0, .d (Kw l)), (3, .own 202 2 0 k), (4, .int k)], [(202, .live (.row 2 k λ i => ePr (gD l i)))]⟩, inv := λ k => 1 <= k /\ k <= l.length, meas := λ k => 1073741824 - k, again := [(202, 6096)] }
def lp6 (l : List Pr) (z : List Nat) : Shape := { α := One, dflt := default, T := λ _ => ⟨[(3, .d (Kw l))], []⟩, inv := λ _ => True, meas := λ _ => 0, ffz := z }
def BTA (l : List Pr) : Ann := { ann 19 [] with mt := λ id => id == 5, loops := λ id => if id = 3 then some [lp3n l, lp3o l] else none, cut := λ id => if id = 6 then some [lp6 l [], lp6 l [202]] else none }
def BSD (l : List Pr) : Prop := CF Try.prog (BTA l) uW (AH uW) (C_cpP.xs l) (AB []) (C_cpP.val l) [] [] []
theorem BYS (l : List Pr) : (BSD l) = (V2 (ZB (EG (eR l) (AF (λ i=>Iw i (IE l) (VP l i) l i)) AT FG DJ FL) (IR FL 0 (BE (IE l)) (KQ 0 (IE l) (ZK WM VL VB 16)) (HA (λ i=>AD (HU (eR l) (λ j=>Iw j (IE l) (VP l j) l j) (Yd AT (MI i) (Kh i) (AF (λ j=>Qs j i l l TQ l TQ)))) (KR i (IE l)) (JB 1073741824 i 1073741825))) (TE (λ i=>BC (RQ l 0) (RQ l 0) FL))) (λ i=>OS (KR i (IE l)) i (IE l) (FF i (IE l) (ZK (Dj i i) UP (VA i) (Dh i))) (HA (λ j=>DW (HU (eR l) (λ k=>Iw k (IE l) (VP l k) l k) (Yd AT (SJ j i) (BR j i) (AF (λ k=>Ao k j l (KX k i (VP l k) (VP l i)) (KX k i (Lf l k) (Lf l i)))))) (KR j (IE l)) 1073741824 j i)) (TE (λ j=>And (GG (RQ l i) (OF i) (λ k=>Qs k (IE l) l l (CM k) l (CM k))) FL)))) (XL (HZ (eR l) (λ i=>Iw i (IE l) (VP l i) l i)))) := by kernel_rfl
theorem BWI : AK Try.prog AOC (C_cpP.spec AXM) := VV C_cpP (λ _ => ann 7 []) [] [] BKG (λ _ => by kernel_rfl) (λ _ => AC) (λ (l : List Pr) h => by
 show BRG l; rw [BUQ]<;> delta JH Hi BY AF CN CO AS EU LS FL LC RX Ho QW QS IE Xg AD AG AX BM BA CM CS EW HO Lf VP Sf WR OQ GG VY UO RQ RI Ao TP Qs WT Ec Jb WM ZP; simp only [CC, eq_self, implies_true, forall_const]
 have h : l.length < 1073741824 := h
 exact ⟨⟨λ h => absurd h (Nat.lt_irrefl 0), (λ h => by cases h), by omega, by omega⟩, λ i hi => by rw [Nat.sub_zero]; exact ⟨rfl, rfl⟩⟩) (λ _ => WY rfl rfl) _
theorem CBT (l : List Pr) (h : l.length < 1073741824) : BSD l := by
 have w01 : IntKind.i64.wrap ((0 : Int) + 1) = 1 := rfl
 rw [BYS]<;> delta JH Hi MM ON BY AF CN CO AS BE XB EU EC JL FY MN NT LS HA FL LC EP RX Ai TE Yb Ho QW QS IE Xg AD AG AX AE V2 BM GQ Sb Yd BA HI GH DK CM BX DO OX BC JR HH CS DZ EW AT JB ED HO BR Lf LG IH VP UD JM RV DJ Sf QV MQ WR HZ IR KT DW OQ GG YF TQ TK Lu VY EG FG UO RQ RD KX KS KR RI FF Ao JF TP MI SJ KQ OF HU Qs WT Np Ec Pw Lo UP Zs Ip VB L9 VA VL Jb WM XL OS Dj ZK ZB Dh Iw eR Kh; simp only [CC, eq_self, implies_true, forall_const, w01]
 refine ⟨⟨default, trivial⟩, ⟨λ hl => ⟨⟨⟨by omega, by omega⟩, by omega, by omega, by omega, by omega, by omega⟩, 1, ⟨rfl, rfl, rfl, λ i hi => ?_⟩, ⟨by omega, by omega⟩, by omega⟩, λ hl => ⟨default, by omega⟩⟩, λ k ⟨k1, k2⟩ => ⟨λ hl => ⟨⟨⟨by omega, by omega⟩, by omega, (λ h => by cases h), by omega, by omega⟩, k + 1, ⟨rfl, (HL (by omega)).symm, rfl, λ i hi => ?_⟩, ⟨by omega, by omega⟩, by omega⟩, λ hl => ⟨default, by omega, Nat.le_refl _⟩⟩⟩
 ·obtain rfl : i = 0 := by omega
  exact ⟨rfl, rfl⟩
 ·by_cases e : i < k
  ·rw [decide_eq_true e]; exact ⟨rfl, rfl⟩
  ·rw [decide_eq_false e]
   obtain rfl : i = k := by omega
   exact ⟨rfl, rfl⟩
theorem BWB : AK Try.prog uI (C_cpP.spec AXM) := VV C_cpP BTA [] [] ATK (λ _ => by kernel_rfl) (λ _ => AC) (λ (l : List Pr) h => CBT l h) (λ _ => WY rfl rfl) _
theorem BBC (l : List Pr) : samP ⟨l, l⟩ = true := by
 have : ∀ k, eqN (eqP ⟨l, l⟩) k = true := λ k => by
  induction k with
  | zero => rfl
  | succ k ih =>
   show (eqN (eqP ⟨l, l⟩) k && ((gD l k).a == (gD l k).a && (gD l k).b == (gD l k).b)) = true
   rw [ih, beq_self_eq_true, beq_self_eq_true]; rfl
 show (l.length == l.length && eqN (eqP ⟨l, l⟩) l.length) = true
 rw [this, beq_self_eq_true]; rfl
end Go.Bal
