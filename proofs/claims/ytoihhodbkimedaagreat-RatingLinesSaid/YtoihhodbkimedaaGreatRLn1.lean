/- Package rating: the reference: which gaugings, breaks, lines and ratings are right. -/
import Derived.Test.YtoihhodbkimedaaGreatRatB
set_option linter.unusedVariables false
set_option linter.unusedSimpArgs false
namespace Go.Bal
open Go Go.Sym Go.Proofs
def Hr := pD dI3 λ x => .bool (!CJ x.a x.b x.c)
def BJT (x : I3) : Prop := AO Try.prog (ann 15 []) AXL (AF AXL) (xI3 x) (AC []) (.bool (!CJ x.a x.b x.c)) [] [] []
theorem BOZ (x : I3) : (BJT x) = ((!CJ x.a x.b x.c) = bif decide (x.a < x.b) then true else decide (x.a > x.c)) := by kernel_rfl
def C_rCheck : Ctr := { α := List Gau, xs := λ l => [.d (BE l)], val := λ l => .int (AK l), pre := λ l => [l.length < 1073741824 /\ True] }
def rc4 (l : List Gau) : Shape := { α := Nat, dflt := 0, T := λ i => ⟨[(0, .d (BE l)), (3, .int i)], []⟩, inv := λ i => (1 <= l.length /\ l.length <= 24) /\ i <= l.length /\ ∀ j, j < i -> Dz (gD l j) = true, meas := λ i => l.length - i }
def ATV (l : List Gau) : Ann := { ann 57 [(Dl, Hr)] with loops := λ id => if id = 4 then some [rc4 l] else none }
def ATO (l : List Gau) : Prop := AO Try.prog (ATV l) ADL (AF ADL) (C_rCheck.xs l) (AC []) (C_rCheck.val l) [] [] []
theorem BDE (l : List Gau) : (ATO l) = (bif bif decide ((↑l.length : Int) < 1) then true else decide ((↑l.length : Int) > 24) then AK l = 3 else (∃ (a : Nat), (l.length = l.length /\ (∀ (i : Nat), i <
 l.length -> (gD l i).st = (gD l i).st /\ (gD l i).lo = (gD l i).lo /\ (gD l i).hi = (gD l i).hi) /\ (↑a : Int) = 0) /\ (1 <= l.length /\ l.length <= 24) /\ a <= l.length /\ ∀ (j : Nat), j < a -> Dz (gD l j) = true) /\ ∀ (a : Nat),
 ((1 <= l.length /\ l.length <= 24) /\ a <= l.length /\ ∀ (j : Nat), j < a -> Dz (gD l j) = true) -> bif decide ((↑a : Int) < (↑l.length : Int)) then ((0 <= (↑a : Int) /\ (↑a : Int) < (↑l.length : Int)) /\ ((!!CJ (gD l a).st 0
 2000) = true -> 0 <= (↑a : Int) /\ (↑a : Int) < (↑l.length : Int)) /\ ((!bif !CJ (gD l a).st 0 2000 then true else decide ((gD l a).lo < 0)) = true -> 0 <= (↑a : Int) /\ (↑a : Int) < (↑l.length : Int)) /\ ((!bif bif !CJ (gD l
 a).st 0 2000 then true else decide ((gD l a).lo < 0) then true else decide ((gD l a).hi > 200000)) = true -> 0 <= (↑a : Int) /\ (↑a : Int) < (↑l.length : Int)) /\ ((!bif bif !CJ (gD l a).st 0 2000 then true else decide ((gD
 l a).lo < 0) then true else decide ((gD l a).hi > 200000)) = true -> 0 <= (↑a : Int) /\ (↑a : Int) < (↑l.length : Int))) /\ bif bif bif bif !CJ (gD l a).st 0 2000 then true else decide ((gD l a).lo < 0) then true else
 decide ((gD l a).hi > 200000) then true else decide ((gD l a).lo > (gD l a).hi) then AK l = 50 else ∃ (a_2 : Nat), (l.length = l.length /\ (∀ (i : Nat), i < l.length -> (gD l i).st = (gD l i).st /\ (gD l i).lo = (gD l
 i).lo /\ (gD l i).hi = (gD l i).hi) /\ (↑a_2 : Int) = IntKind.i64.wrap ((↑a : Int) + 1)) /\ ((1 <= l.length /\ l.length <= 24) /\ a_2 <= l.length /\ ∀ (j : Nat), j < a_2 -> Dz (gD l j) = true) /\ l.length - a_2 < l.length - a else
 AK l = 0) := by kernel_rfl
def C_rBrok : Ctr := { α := List Int, xs := λ l => [.d (BD l)], val := λ l => .int (BI l), pre := λ l => [l.length < 1073741824 /\ True] }
def FD (l : List Int) (i : Nat) : Int := if i = 0 then 0 else gD l (i - 1)
def rb4 (l : List Int) : Shape := { α := Nat, dflt := 0, T := λ i => ⟨[(0, .d (BD l)), (3, .int i)], []⟩, inv := λ i => l.length <= 24 /\ i <= l.length /\ (0 <= FD l i /\ FD l i <= 2000) /\ pT 0 l = pT (FD l i) (l.drop i), meas := λ i => l.length - i }
def BCD (l : List Int) : Ann := { ann 34 [(Dl, Hr)] with loops := λ id => if id = 4 then some [rb4 l] else none }
def AZK (l : List Int) : Prop := AO Try.prog (BCD l) APK (AF APK) (C_rBrok.xs l) (AC []) (C_rBrok.val l) [] [] []
theorem BKU (l : List Int) : (AZK l) = (bif decide ((↑l.length : Int) > 24) then BI l = 3 else (∃ (a : Nat), (l.length = l.length /\ (∀ (i : Nat), i < l.length -> gD l i = gD l i) /\ (↑a : Int) = 0) /\ l.length
 <= 24 /\ a <= l.length /\ (0 <= FD l a /\ FD l a <= 2000) /\ pT 0 l = pT (FD l a) (List.drop a l)) /\ ∀ (a : Nat), l.length <= 24 /\ a <= l.length /\ (0 <= FD l a /\ FD l a <= 2000) /\ pT 0 l = pT (FD l a)
 (List.drop a l) -> bif decide ((↑a : Int) < (↑l.length : Int)) then ((0 <= (↑a : Int) /\ (↑a : Int) < (↑l.length : Int)) /\ ((!!CJ (gD l a) 1 2000 && decide ((↑a : Int) > 0)) = true -> 0 <= (↑a : Int) /\ (↑a : Int) <
 (↑l.length : Int)) /\ ((!!CJ (gD l a) 1 2000 && decide ((↑a : Int) > 0)) = true -> 0 <= IntKind.i64.wrap ((↑a : Int) - 1) /\ IntKind.i64.wrap ((↑a : Int) - 1) < (↑l.length : Int))) /\ bif bif !CJ (gD l a) 1 2000 then true
 else bif decide ((↑a : Int) > 0) then decide (gD l a <= gD l (IntKind.i64.wrap ((↑a : Int) - 1)).toNat) else false then BI l = 2 else ∃ (a_2 : Nat), (l.length = l.length /\ (∀ (i : Nat), i < l.length -> gD l i = gD l
 i) /\ (↑a_2 : Int) = IntKind.i64.wrap ((↑a : Int) + 1)) /\ (l.length <= 24 /\ a_2 <= l.length /\ (0 <= FD l a_2 /\ FD l a_2 <= 2000) /\ pT 0 l = pT (FD l a_2) (List.drop a_2 l)) /\ l.length - a_2 < l.length - a else
 BI l = 0) := by kernel_rfl
def lK := pD dL1 λ x => .bool (!FT x)
def AUM (x : Ln) : Prop := AO Try.prog (ann 43 [(Dl, Hr)]) ADT (AF ADT) (xL1 x) (AC []) (.bool (!FT x)) [] [] []
theorem BDK (x : Ln) : (AUM x) = ((!FT x) = bif bif bif bif bif !CJ x.a0 0 2000 then true else !CJ x.b0 0 2000 then true else !CJ x.a1 0 200000 then true else !CJ x.b1 0 200000 then true else decide (x.a0
 >= x.b0) then true else decide (x.a1 > x.b1)) := by kernel_rfl
def C_rChkR : Ctr := { α := Rtg, xs := λ r => [.d (E4 r)], val := λ r => .int (AZ r), pre := λ r => [r.b.length < 1073741824 /\ r.l.length < 1073741824] }
def rtgB (r : Rtg) : HCell := .live (.box [.d (BD r.b), .d (XW r.l)])
def rr7 (r : Rtg) : Shape := { α := Nat, dflt := 0, T := λ i => ⟨[(1, .bptr 1000 0), (4, .int i)], [(1000, rtgB r)]⟩, inv := λ i => BI r.b = 0 /\ r.l.length = r.b.length + 1 /\ i <= r.l.length /\ ∀ j, j < i -> FT (gD r.l j) = true, meas := λ i => r.l.length - i }
def BCG (r : Rtg) : Ann := { ann 32 [(ARW, C_rBrok.spec dIs1), (Fp, lK)] with loops := λ id => if id = 7 then some [rr7 r] else none }
def BAO (r : Rtg) : Prop := AO Try.prog (BCG r) ASF (AF ASF) (C_rChkR.xs r) (AC []) (C_rChkR.val r) [] [] []
theorem BLH (r : Rtg) : (BAO r) = (((AD r.b.length λ (i : Nat) => gD r.b i).length = r.b.length /\ (∀ (i : Nat), i < (AD r.b.length λ (i : Nat) => gD r.b i).length -> gD (AD r.b.length λ (i : Nat) => gD
 r.b i) i = gD r.b i) /\ (AD r.b.length λ (i : Nat) => gD r.b i).length < 1073741824 /\ True) /\ bif BI (AD r.b.length λ (i : Nat) => gD r.b i) != 0 then AZ r = BI (AD r.b.length λ (i : Nat) => gD r.b
 i) else bif (↑r.l.length : Int) != IntKind.i64.wrap ((↑r.b.length : Int) + 1) then AZ r = 2 else (∃ (a : Nat), ((↑a : Int) = 0 /\ r.b.length = r.b.length /\ (∀ (i : Nat), i < r.b.length -> gD r.b i = gD r.b i) /\
 r.l.length = r.l.length /\ ∀ (i : Nat), i < r.l.length -> (gD r.l i).a0 = (gD r.l i).a0 /\ (gD r.l i).a1 = (gD r.l i).a1 /\ (gD r.l i).b0 = (gD r.l i).b0 /\ (gD r.l i).b1 = (gD r.l i).b1) /\ BI r.b = 0 /\ r.l.length =
 r.b.length + 1 /\ a <= r.l.length /\ ∀ (j : Nat), j < a -> FT (gD r.l j) = true) /\ ∀ (a : Nat), (BI r.b = 0 /\ r.l.length = r.b.length + 1 /\ a <= r.l.length /\ ∀ (j : Nat), j < a -> FT (gD r.l j) = true) -> bif decide ((↑a
 : Int) < (↑r.l.length : Int)) then (0 <= (↑a : Int) /\ (↑a : Int) < (↑r.l.length : Int)) /\ bif !FT (gD r.l a) then AZ r = 50 else ∃ (a_2 : Nat), ((↑a_2 : Int) = IntKind.i64.wrap ((↑a : Int) + 1) /\ r.b.length =
 r.b.length /\ (∀ (i : Nat), i < r.b.length -> gD r.b i = gD r.b i) /\ r.l.length = r.l.length /\ ∀ (i : Nat), i < r.l.length -> (gD r.l i).a0 = (gD r.l i).a0 /\ (gD r.l i).a1 = (gD r.l i).a1 /\ (gD r.l i).b0 = (gD r.l i).b0 /\
 (gD r.l i).b1 = (gD r.l i).b1) /\ (BI r.b = 0 /\ r.l.length = r.b.length + 1 /\ a_2 <= r.l.length /\ ∀ (j : Nat), j < a_2 -> FT (gD r.l j) = true) /\ r.l.length - a_2 < r.l.length - a else AZ r = 0) := by kernel_rfl
theorem fN : AG Try.prog Dl Hr := EB xI3 hI3 λ x _ => JZ (A := ann 15 []) (ren := []) (fz := []) BNG (by kernel_rfl) AE (by
 show BJT x; rw [BOZ]; unfold CJ
 by_cases h1 : x.a < x.b
 ·rw [decide_eq_true h1, decide_eq_false (show ¬x.b <= x.a by omega)]; rfl
 ·rw [decide_eq_false h1, decide_eq_true (show x.b <= x.a by omega)]
  by_cases h2 : x.a > x.c
  ·rw [decide_eq_true h2, decide_eq_false (show ¬x.a <= x.c by omega)]; rfl
  ·rw [decide_eq_false h2, decide_eq_true (show x.a <= x.c by omega)]; rfl)
theorem BOE (g : Gau) : (bif bif bif !CJ g.st 0 2000 then true else decide (g.lo < 0) then true else decide (g.hi > 200000) then true else decide (g.lo > g.hi)) = !Dz g := by
 unfold Dz
 cases CJ g.st 0 2000 with
 | false => rfl
 | true =>
  unfold CJ
  by_cases h1 : g.lo < 0
  ·rw [decide_eq_true h1, decide_eq_false (show ¬0 <= g.lo by omega)]; rfl
  ·rw [decide_eq_false h1, decide_eq_true (show 0 <= g.lo by omega)]
   by_cases h2 : g.hi > 200000
   ·rw [decide_eq_true h2, decide_eq_false (show ¬g.hi <= 200000 by omega)]; simp
   ·rw [decide_eq_false h2, decide_eq_true (show g.hi <= 200000 by omega)]
    by_cases h3 : g.lo > g.hi
    ·rw [decide_eq_true h3, decide_eq_false (show ¬g.lo <= g.hi by omega)]; simp
    ·rw [decide_eq_false h3, decide_eq_true (show g.lo <= g.hi by omega), decide_eq_true (show 0 <= g.hi by omega)]; rfl
theorem AXN {α : Type} [Inhabited α] {p : α -> Bool} {l : List α} : l.all p = true ↔ ∀ i, i < l.length -> p (gD l i) = true := by
 rw [List.all_eq_true]
 constructor
 ·exact λ h i hi => h _ (EG hi)
 ·intro h x hx
  obtain ⟨i, hi, rfl⟩ := ALG hx
  exact h i hi
theorem AZN {α : Type} [Inhabited α] {p : α -> Bool} {l : List α} {i : Nat} (hi : i < l.length) (h : p (gD l i) = false) : l.all p = false := by
 cases hq : l.all p with
 | false => rfl
 | true => rw [AXN.1 hq i hi] at h; cases h
theorem BKE (l : List Gau) (h : l.length < 1073741824) : ATO l := by
 rw [BDE]; simp only [CC, eq_self, implies_true, forall_const, BOE]
 have hin : 1 <= l.length /\ l.length <= 24 -> CJ l.length 1 24 = true := λ h => by unfold CJ; simp; omega
 refine ⟨λ hb => ?_, λ hb => ⟨⟨0, rfl, ?_, Nat.zero_le _, λ j hj => absurd hj (Nat.not_lt_zero _)⟩, λ i ⟨i1, i2, i3⟩ => ⟨λ hlt => ⟨⟨⟨by omega, by omega⟩, λ _ => ⟨by omega, by omega⟩, λ _ => ⟨by omega, by omega⟩, λ _ => ⟨by omega, by omega⟩⟩, λ hr => ?_, λ hr => ⟨i + 1, (BH (by omega)).symm, ⟨i1, by omega, λ j hj => ?_⟩, by omega⟩⟩, λ hge => ?_⟩⟩⟩
 ·unfold AK
  have : CJ l.length 1 24 = false := by
   unfold CJ
   by_cases h1 : (l.length : Int) < 1
   ·rw [decide_eq_false (show ¬(1 : Int) <= l.length by omega)]; rfl
   ·rw [decide_eq_false h1] at hb
    have := of_decide_eq_true hb
    rw [decide_eq_false (show ¬(l.length : Int) <= 24 by omega)]; simp
  rw [this]; rfl
 ·by_cases h1 : (l.length : Int) < 1
  ·rw [decide_eq_true h1] at hb; cases hb
  ·rw [decide_eq_false h1] at hb
   have := of_decide_eq_false hb
   omega
 ·unfold AK
  rw [hin i1, AZN (i := i) (by omega) (by simpa using hr)]; rfl
 ·by_cases e : j = i
  ·rw [e]; simpa using hr
  ·exact i3 j (by omega)
 ·unfold AK
  rw [hin i1, AXN.2 λ j hj => i3 j (by omega)]; rfl
theorem AJO : AG Try.prog mF (C_rCheck.spec JW) := GD C_rCheck ATV [] [] BDX (λ _ => by kernel_rfl) (λ _ => AB fN AE) (λ (l : List Gau) h => BKE l (show l.length < 1073741824 /\ True from h).1) (λ _ => GJ rfl rfl) _
theorem BWP (a b : Int) (r : List Int) : pT a (b :: r) = bif CJ b (wr (a + 1)) 2000 then pT b r else 2 := rfl
theorem BNL (l : List Int) (h : l.length < 1073741824) : AZK l := by
 rw [BKU]; simp only [CC, eq_self, implies_true, forall_const, Bool.not_not]
 refine ⟨λ h1 => ?_, λ h1 => ⟨⟨0, rfl, by omega, Nat.zero_le _, ⟨Int.le_refl _, by show (0 : Int) <= 2000; omega⟩, rfl⟩, λ i ⟨i1, i2, i3, i4⟩ => ⟨λ hlt => ?_, λ hge => ?_⟩⟩⟩
 ·unfold BI; rw [if_pos h1]
 ·have hi : i < l.length := by omega
  have pos : ∀ {x : Bool}, (x && decide ((i : Int) > 0)) = true -> 0 < i := λ {x} h => by
   have := (Bool.and_eq_true _ _ ▸ h).2
   have := of_decide_eq_true this; omega
  have e1 : 0 < i -> IntKind.i64.wrap ((i : Int) - 1) = ((i - 1 : Nat) : Int) := λ h => by rw [HM (by omega) (by omega)]; omega
  have key : (bif !CJ (gD l i) 1 2000 then true else bif decide ((i : Int) > 0) then decide (gD l i <= gD l (IntKind.i64.wrap ((i : Int) - 1)).toNat) else false) = !CJ (gD l i) (wr (FD l i + 1)) 2000 := by
   have w : wr (FD l i + 1) = FD l i + 1 := HM (by omega) (by omega)
   rw [w]
   unfold FD at i3 ⊢
   by_cases h0 : i = 0
   ·rw [if_pos h0, decide_eq_false (show ¬(i : Int) > 0 by omega)]
    show (bif !CJ (gD l i) 1 2000 then true else false) = !CJ (gD l i) 1 2000
    cases CJ (gD l i) 1 2000 <;> rfl
   ·rw [if_neg h0] at i3 ⊢
    rw [decide_eq_true (show (i : Int) > 0 by omega), e1 (by omega), Int.toNat_natCast]
    unfold CJ
    by_cases h2 : gD l i <= 2000
    ·rw [decide_eq_true h2]
     by_cases h3 : gD l i <= gD l (i - 1)
     ·rw [decide_eq_true h3, decide_eq_false (show ¬gD l (i - 1) + 1 <= gD l i by omega)]
      cases decide (1 <= gD l i) <;> rfl
     ·rw [decide_eq_false h3, decide_eq_true (show gD l (i - 1) + 1 <= gD l i by omega), decide_eq_true (show 1 <= gD l i by omega)]; rfl
    ·rw [decide_eq_false h2]; simp
  rw [key]
  rw [BAS hi] at i4
  rw [BWP] at i4
  refine ⟨⟨⟨by omega, by omega⟩, λ _ => ⟨by omega, by omega⟩, λ h => ?_⟩, λ hb => ?_, λ hb => ⟨i + 1, (BH (by omega)).symm, ⟨i1, by omega, ?_, ?_⟩, by omega⟩⟩
  ·have := pos h; rw [e1 this]; omega
  ·have hb : CJ (gD l i) (wr (FD l i + 1)) 2000 = false := by simpa using hb
   rw [hb] at i4
   unfold BI; rw [if_neg h1]
   exact i4
  ·have hb : CJ (gD l i) (wr (FD l i + 1)) 2000 = true := by simpa using hb
   unfold CJ at hb
   simp only [Bool.and_eq_true, decide_eq_true_eq] at hb
   rw [show wr (FD l i + 1) = FD l i + 1 from HM (by omega) (by omega)] at hb
   show 0 <= FD l (i + 1) /\ FD l (i + 1) <= 2000
   unfold FD
   rw [if_neg (by omega), show i + 1 - 1 = i by omega]; omega
  ·have hb : CJ (gD l i) (wr (FD l i + 1)) 2000 = true := by simpa using hb
   rw [hb] at i4
   rw [i4]
   show pT (gD l i) _ = pT (FD l (i + 1)) _
   unfold FD
   rw [if_neg (by omega), show i + 1 - 1 = i by omega]
 ·unfold BI
  rw [if_neg h1, i4, List.drop_of_length_le (by omega)]; rfl
theorem BIZ : AG Try.prog ARW (C_rBrok.spec dIs1) := GD C_rBrok BCD [] [] BFK (λ _ => by kernel_rfl) (λ _ => AB fN AE) (λ (l : List Int) h => BNL l (show l.length < 1073741824 /\ True from h).1) (λ _ => GJ rfl rfl) _
theorem AKR : AG Try.prog Fp lK := EB xL1 hL1 λ x _ => JZ (A := ann 43 [(Dl, Hr)]) (ren := []) (fz := []) BCW (by kernel_rfl) (AB fN AE) (by
 show AUM x; rw [BDK]; unfold FT riP
 have e1 : decide (x.a0 >= x.b0) = !decide (x.a0 < x.b0) := by
  by_cases h : x.a0 < x.b0
  ·rw [decide_eq_true h, decide_eq_false (by omega)]; rfl
  ·rw [decide_eq_false h, decide_eq_true (by omega)]; rfl
 have e2 : decide (x.a1 > x.b1) = !decide (x.a1 <= x.b1) := by
  by_cases h : x.a1 <= x.b1
  ·rw [decide_eq_true h, decide_eq_false (by omega)]; rfl
  ·rw [decide_eq_false h, decide_eq_true (by omega)]; rfl
 rw [e1, e2]
 show (!((CJ x.a0 0 2000 && CJ x.a1 0 200000) && (CJ x.b0 0 2000 && CJ x.b1 0 200000) && decide (x.a0 < x.b0) && decide (x.a1 <= x.b1))) = _
 cases CJ x.a0 0 2000 <;> cases CJ x.b0 0 2000 <;> cases CJ x.a1 0 200000 <;> cases CJ x.b1 0 200000 <;> cases decide (x.a0 < x.b0) <;> cases decide (x.a1 <= x.b1) <;> rfl)
theorem BQF (r : Rtg) (h1 : r.b.length < 1073741824) (h2 : r.l.length < 1073741824) : BAO r := by
 rw [BLH]; simp only [CC, eq_self, implies_true, forall_const]
 have w : IntKind.i64.wrap ((r.b.length : Int) + 1) = (r.b.length : Int) + 1 := HM (by omega) (by omega)
 rw [w]
 refine ⟨h1, λ hb => ?_, λ hb => ⟨λ hl => ?_, λ hl => ⟨⟨0, rfl, ?_, ?_, Nat.zero_le _, λ j hj => absurd hj (Nat.not_lt_zero _)⟩, λ i ⟨i1, i2, i3, i4⟩ => ⟨λ hlt => ⟨⟨by omega, by omega⟩, λ hr => ?_, λ hr => ⟨i + 1, (BH (by omega)).symm, ⟨i1, i2, by omega, λ j hj => ?_⟩, by omega⟩⟩, λ hge => ?_⟩⟩⟩⟩
 ·unfold AZ; rw [hb]; rfl
 ·unfold AZ; rw [hb, hl]; rfl
 ·simpa using hb
 ·have : (r.l.length : Int) = (r.b.length : Int) + 1 := by simpa using hl
  omega
 ·unfold AZ
  rw [i1, i2, AZN (by omega) hr]; simp
 ·by_cases e : j = i
  ·rw [e]; exact hr
  ·exact i4 j (by omega)
 ·unfold AZ
  rw [i1, i2, AXN.2 λ j hj => i4 j (by omega)]; simp
theorem AIS : AG Try.prog kY (C_rChkR.spec dRt1) := GD C_rChkR BCG [] [] BKL (λ _ => by kernel_rfl) (λ _ => AB BIZ (AB AKR AE)) (λ (r : Rtg) h => BQF r h.1 h.2) (λ _ => GJ rfl rfl) _
end Go.Bal
