/- Package rating: the reference: which gaugings, breaks, lines and ratings are right. -/
import Derived.Test.YtoihhodbkimedaaGreatRatB
set_option linter.unusedVariables false
set_option linter.unusedSimpArgs false
namespace Go.Bal
open Go Go.Sym Go.Proofs
def Mi := pD dI3 λ x => .bool (!BY x.a x.b x.c)
def CGF (x : I3) : Prop := AN Try.prog (ann 15 []) BRK (AF BRK) (xI3 x) (AC []) (.bool (!BY x.a x.b x.c)) [] [] []
theorem CLL (x : I3) : (CGF x) = ((!BY x.a x.b x.c) = bif decide (x.a < x.b) then true else decide (x.a > x.c)) := by kernel_rfl
def C_rCheck : Ctr := { α := List Gau, xs := λ l => [.d (AS l)], val := λ l => .int (AQ l), pre := λ l => [l.length < 1073741824 /\ True] }
def rc4 (l : List Gau) : Shape := { α := Nat, dflt := 0, T := λ i => ⟨[(0, .d (AS l)), (3, .int i)], []⟩, inv := λ i => (1 <= l.length /\ l.length <= 24) /\ i <= l.length /\ ∀ j, j < i -> Ck (gD l j) = true, meas := λ i => l.length - i }
def BLQ (l : List Gau) : Ann := { ann 57 [(Fi, Mi)] with loops := λ id => if id = 4 then some [rc4 l] else none }
def BLW (l : List Gau) : Prop := AN Try.prog (BLQ l) AYC (AF AYC) (C_rCheck.xs l) (AC []) (C_rCheck.val l) [] [] []
theorem BYJ (l : List Gau) : (BLW l) = (bif bif decide ((↑l.length : Int) < 1) then true else decide ((↑l.length : Int) > 24) then AQ l = 3 else (∃ (a : Nat), (l.length = l.length /\ (∀ (i : Nat), i <
 l.length -> (gD l i).st = (gD l i).st /\ (gD l i).lo = (gD l i).lo /\ (gD l i).hi = (gD l i).hi) /\ (↑a : Int) = 0) /\ (1 <= l.length /\ l.length <= 24) /\ a <= l.length /\ ∀ (j : Nat), j < a -> Ck (gD l j) = true) /\ ∀ (a : Nat),
 ((1 <= l.length /\ l.length <= 24) /\ a <= l.length /\ ∀ (j : Nat), j < a -> Ck (gD l j) = true) -> bif decide ((↑a : Int) < (↑l.length : Int)) then ((0 <= (↑a : Int) /\ (↑a : Int) < (↑l.length : Int)) /\ ((!!BY (gD l a).st 0
 2000) = true -> 0 <= (↑a : Int) /\ (↑a : Int) < (↑l.length : Int)) /\ ((!bif !BY (gD l a).st 0 2000 then true else decide ((gD l a).lo < 0)) = true -> 0 <= (↑a : Int) /\ (↑a : Int) < (↑l.length : Int)) /\ ((!bif bif !BY (gD l
 a).st 0 2000 then true else decide ((gD l a).lo < 0) then true else decide ((gD l a).hi > 200000)) = true -> 0 <= (↑a : Int) /\ (↑a : Int) < (↑l.length : Int)) /\ ((!bif bif !BY (gD l a).st 0 2000 then true else decide ((gD
 l a).lo < 0) then true else decide ((gD l a).hi > 200000)) = true -> 0 <= (↑a : Int) /\ (↑a : Int) < (↑l.length : Int))) /\ bif bif bif bif !BY (gD l a).st 0 2000 then true else decide ((gD l a).lo < 0) then true else
 decide ((gD l a).hi > 200000) then true else decide ((gD l a).lo > (gD l a).hi) then AQ l = 50 else ∃ (a_2 : Nat), (l.length = l.length /\ (∀ (i : Nat), i < l.length -> (gD l i).st = (gD l i).st /\ (gD l i).lo = (gD l
 i).lo /\ (gD l i).hi = (gD l i).hi) /\ (↑a_2 : Int) = IntKind.i64.wrap ((↑a : Int) + 1)) /\ ((1 <= l.length /\ l.length <= 24) /\ a_2 <= l.length /\ ∀ (j : Nat), j < a_2 -> Ck (gD l j) = true) /\ l.length - a_2 < l.length - a else
 AQ l = 0) := by kernel_rfl
def C_rBrok : Ctr := { α := List Int, xs := λ l => [.d (BC l)], val := λ l => .int (DQ l), pre := λ l => [l.length < 1073741824 /\ True] }
def GJ (l : List Int) (i : Nat) : Int := if i = 0 then 0 else gD l (i - 1)
def rb4 (l : List Int) : Shape := { α := Nat, dflt := 0, T := λ i => ⟨[(0, .d (BC l)), (3, .int i)], []⟩, inv := λ i => l.length <= 24 /\ i <= l.length /\ (0 <= GJ l i /\ GJ l i <= 2000) /\ brk 0 l = brk (GJ l i) (l.drop i), meas := λ i => l.length - i }
def BXF (l : List Int) : Ann := { ann 34 [(Fi, Mi)] with loops := λ id => if id = 4 then some [rb4 l] else none }
def BTP (l : List Int) : Prop := AN Try.prog (BXF l) BJL (AF BJL) (C_rBrok.xs l) (AC []) (C_rBrok.val l) [] [] []
theorem CFZ (l : List Int) : (BTP l) = (bif decide ((↑l.length : Int) > 24) then DQ l = 3 else (∃ (a : Nat), (l.length = l.length /\ (∀ (i : Nat), i < l.length -> gD l i = gD l i) /\ (↑a : Int) = 0) /\ l.length
 <= 24 /\ a <= l.length /\ (0 <= GJ l a /\ GJ l a <= 2000) /\ brk 0 l = brk (GJ l a) (List.drop a l)) /\ ∀ (a : Nat), l.length <= 24 /\ a <= l.length /\ (0 <= GJ l a /\ GJ l a <= 2000) /\ brk 0 l = brk (GJ l a)
 (List.drop a l) -> bif decide ((↑a : Int) < (↑l.length : Int)) then ((0 <= (↑a : Int) /\ (↑a : Int) < (↑l.length : Int)) /\ ((!!BY (gD l a) 1 2000 && decide ((↑a : Int) > 0)) = true -> 0 <= (↑a : Int) /\ (↑a : Int) <
 (↑l.length : Int)) /\ ((!!BY (gD l a) 1 2000 && decide ((↑a : Int) > 0)) = true -> 0 <= IntKind.i64.wrap ((↑a : Int) - 1) /\ IntKind.i64.wrap ((↑a : Int) - 1) < (↑l.length : Int))) /\ bif bif !BY (gD l a) 1 2000 then true
 else bif decide ((↑a : Int) > 0) then decide (gD l a <= gD l (IntKind.i64.wrap ((↑a : Int) - 1)).toNat) else false then DQ l = 2 else ∃ (a_2 : Nat), (l.length = l.length /\ (∀ (i : Nat), i < l.length -> gD l i = gD l
 i) /\ (↑a_2 : Int) = IntKind.i64.wrap ((↑a : Int) + 1)) /\ (l.length <= 24 /\ a_2 <= l.length /\ (0 <= GJ l a_2 /\ GJ l a_2 <= 2000) /\ brk 0 l = brk (GJ l a_2) (List.drop a_2 l)) /\ l.length - a_2 < l.length - a else
 DQ l = 0) := by kernel_rfl
def BNW := pD dL1 λ x => .bool (!SK x)
def BOE (x : Ln) : Prop := AN Try.prog (ann 43 [(Fi, Mi)]) AZD (AF AZD) (xL1 x) (AC []) (.bool (!SK x)) [] [] []
theorem BZJ (x : Ln) : (BOE x) = ((!SK x) = bif bif bif bif bif !BY x.a0 0 2000 then true else !BY x.b0 0 2000 then true else !BY x.a1 0 200000 then true else !BY x.b1 0 200000 then true else decide (x.a0
 >= x.b0) then true else decide (x.a1 > x.b1)) := by kernel_rfl
theorem Uu : AG Try.prog Fi Mi := EL xI3 hI3 λ x _ => KZ (A := ann 15 []) (ren := []) (fz := []) CML (by kernel_rfl) AD (by
 show CGF x; rw [CLL]; unfold BY
 by_cases h1 : x.a < x.b
 ·rw [decide_eq_true h1, decide_eq_false (show ¬x.b <= x.a by omega)]; rfl
 ·rw [decide_eq_false h1, decide_eq_true (show x.b <= x.a by omega)]
  by_cases h2 : x.a > x.c
  ·rw [decide_eq_true h2, decide_eq_false (show ¬x.a <= x.c by omega)]; rfl
  ·rw [decide_eq_false h2, decide_eq_true (show x.a <= x.c by omega)]; rfl)
theorem CJT (g : Gau) : (bif bif bif !BY g.st 0 2000 then true else decide (g.lo < 0) then true else decide (g.hi > 200000) then true else decide (g.lo > g.hi)) = !Ck g := by
 unfold Ck
 cases BY g.st 0 2000 with
 | false => rfl
 | true =>
  unfold BY
  by_cases h1 : g.lo < 0
  ·rw [decide_eq_true h1, decide_eq_false (show ¬0 <= g.lo by omega)]; rfl
  ·rw [decide_eq_false h1, decide_eq_true (show 0 <= g.lo by omega)]
   by_cases h2 : g.hi > 200000
   ·rw [decide_eq_true h2, decide_eq_false (show ¬g.hi <= 200000 by omega)]; simp
   ·rw [decide_eq_false h2, decide_eq_true (show g.hi <= 200000 by omega)]
    by_cases h3 : g.lo > g.hi
    ·rw [decide_eq_true h3, decide_eq_false (show ¬g.lo <= g.hi by omega)]; simp
    ·rw [decide_eq_false h3, decide_eq_true (show g.lo <= g.hi by omega), decide_eq_true (show 0 <= g.hi by omega)]; rfl
theorem CEH {α : Type} [Inhabited α] {p : α -> Bool} {l : List α} : l.all p = true ↔ ∀ i, i < l.length -> p (gD l i) = true := by
 rw [List.all_eq_true]
 constructor
 ·exact λ h i hi => h _ (BM hi)
 ·intro h x hx
  obtain ⟨i, hi, rfl⟩ := HM hx
  exact h i hi
theorem CKW {α : Type} [Inhabited α] {p : α -> Bool} {l : List α} {i : Nat} (hi : i < l.length) (h : p (gD l i) = false) : l.all p = false := by
 cases hq : l.all p with
 | false => rfl
 | true => rw [CEH.1 hq i hi] at h; cases h
theorem CHK (l : List Gau) (h : l.length < 1073741824) : BLW l := by
 rw [BYJ]; simp only [CC, eq_self, implies_true, forall_const, CJT]
 have hin : 1 <= l.length /\ l.length <= 24 -> BY l.length 1 24 = true := λ h => by unfold BY; simp; omega
 refine ⟨λ hb => ?_, λ hb => ⟨⟨0, rfl, ?_, Nat.zero_le _, λ j hj => absurd hj (Nat.not_lt_zero _)⟩, λ i ⟨i1, i2, i3⟩ => ⟨λ hlt => ⟨⟨⟨by omega, by omega⟩, λ _ => ⟨by omega, by omega⟩, λ _ => ⟨by omega, by omega⟩, λ _ => ⟨by omega, by omega⟩⟩, λ hr => ?_, λ hr => ⟨i + 1, (BF (by omega)).symm, ⟨i1, by omega, λ j hj => ?_⟩, by omega⟩⟩, λ hge => ?_⟩⟩⟩
 ·unfold AQ
  have : BY l.length 1 24 = false := by
   unfold BY
   by_cases h1 : (l.length : Int) < 1
   ·rw [decide_eq_false (show ¬(1 : Int) <= l.length by omega)]; rfl
   ·rw [decide_eq_false h1] at hb
    have := of_decide_eq_true hb
    rw [decide_eq_false (show ¬(l.length : Int) <= 24 by omega)]; simp
  rw [this]; rfl
 ·by_cases h1 : (l.length : Int) < 1
  ·rw [decide_eq_true h1] at hb; cases hb
  ·rw [decide_eq_false h1] at hb
   have := of_decide_eq_false hb
   omega
 ·unfold AQ
  rw [hin i1, CKW (i := i) (by omega) (by simpa using hr)]; rfl
 ·by_cases e : j = i
  ·rw [e]; simpa using hr
  ·exact i3 j (by omega)
 ·unfold AQ
  rw [hin i1, CEH.2 λ j hj => i3 j (by omega)]; rfl
theorem BYH : AG Try.prog tZ (C_rCheck.spec JM) := HR C_rCheck BLQ [] [] BYD (λ _ => by kernel_rfl) (λ _ => AB Uu AD) (λ (l : List Gau) h => CHK l (show l.length < 1073741824 /\ True from h).1) (λ _ => IN rfl rfl) _
theorem CXM (a b : Int) (r : List Int) : brk a (b :: r) = bif BY b (wr (a + 1)) 2000 then brk b r else 2 := rfl
theorem CNO (l : List Int) (h : l.length < 1073741824) : BTP l := by
 rw [CFZ]; simp only [CC, eq_self, implies_true, forall_const, Bool.not_not]
 refine ⟨λ h1 => ?_, λ h1 => ⟨⟨0, rfl, by omega, Nat.zero_le _, ⟨Int.le_refl _, by show (0 : Int) <= 2000; omega⟩, rfl⟩, λ i ⟨i1, i2, i3, i4⟩ => ⟨λ hlt => ?_, λ hge => ?_⟩⟩⟩
 ·unfold DQ; rw [if_pos h1]
 ·have hi : i < l.length := by omega
  have pos : ∀ {x : Bool}, (x && decide ((i : Int) > 0)) = true -> 0 < i := λ {x} h => by
   have := (Bool.and_eq_true _ _ ▸ h).2
   have := of_decide_eq_true this; omega
  have e1 : 0 < i -> IntKind.i64.wrap ((i : Int) - 1) = ((i - 1 : Nat) : Int) := λ h => by rw [EV (by omega) (by omega)]; omega
  have key : (bif !BY (gD l i) 1 2000 then true else bif decide ((i : Int) > 0) then decide (gD l i <= gD l (IntKind.i64.wrap ((i : Int) - 1)).toNat) else false) = !BY (gD l i) (wr (GJ l i + 1)) 2000 := by
   have w : wr (GJ l i + 1) = GJ l i + 1 := EV (by omega) (by omega)
   rw [w]
   unfold GJ at i3 ⊢
   by_cases h0 : i = 0
   ·rw [if_pos h0, decide_eq_false (show ¬(i : Int) > 0 by omega)]
    show (bif !BY (gD l i) 1 2000 then true else false) = !BY (gD l i) 1 2000
    cases BY (gD l i) 1 2000 <;> rfl
   ·rw [if_neg h0] at i3 ⊢
    rw [decide_eq_true (show (i : Int) > 0 by omega), e1 (by omega), Int.toNat_natCast]
    unfold BY
    by_cases h2 : gD l i <= 2000
    ·rw [decide_eq_true h2]
     by_cases h3 : gD l i <= gD l (i - 1)
     ·rw [decide_eq_true h3, decide_eq_false (show ¬gD l (i - 1) + 1 <= gD l i by omega)]
      cases decide (1 <= gD l i) <;> rfl
     ·rw [decide_eq_false h3, decide_eq_true (show gD l (i - 1) + 1 <= gD l i by omega), decide_eq_true (show 1 <= gD l i by omega)]; rfl
    ·rw [decide_eq_false h2]; simp
  rw [key]
  rw [BXI hi] at i4
  rw [CXM] at i4
  refine ⟨⟨⟨by omega, by omega⟩, λ _ => ⟨by omega, by omega⟩, λ h => ?_⟩, λ hb => ?_, λ hb => ⟨i + 1, (BF (by omega)).symm, ⟨i1, by omega, ?_, ?_⟩, by omega⟩⟩
  ·have := pos h; rw [e1 this]; omega
  ·have hb : BY (gD l i) (wr (GJ l i + 1)) 2000 = false := by simpa using hb
   rw [hb] at i4
   unfold DQ; rw [if_neg h1]
   exact i4
  ·have hb : BY (gD l i) (wr (GJ l i + 1)) 2000 = true := by simpa using hb
   unfold BY at hb
   simp only [Bool.and_eq_true, decide_eq_true_eq] at hb
   rw [show wr (GJ l i + 1) = GJ l i + 1 from EV (by omega) (by omega)] at hb
   show 0 <= GJ l (i + 1) /\ GJ l (i + 1) <= 2000
   unfold GJ
   rw [if_neg (by omega), show i + 1 - 1 = i by omega]; omega
  ·have hb : BY (gD l i) (wr (GJ l i + 1)) 2000 = true := by simpa using hb
   rw [hb] at i4
   rw [i4]
   show brk (gD l i) _ = brk (GJ l (i + 1)) _
   unfold GJ
   rw [if_neg (by omega), show i + 1 - 1 = i by omega]
 ·unfold DQ
  rw [if_neg h1, i4, List.drop_of_length_le (by omega)]; rfl
theorem CHN : AG Try.prog AHE (C_rBrok.spec dIs1) := HR C_rBrok BXF [] [] CCL (λ _ => by kernel_rfl) (λ _ => AB Uu AD) (λ (l : List Int) h => CNO l (show l.length < 1073741824 /\ True from h).1) (λ _ => IN rfl rfl) _
theorem BYM : AG Try.prog ALQ BNW := EL xL1 hL1 λ x _ => KZ (A := ann 43 [(Fi, Mi)]) (ren := []) (fz := []) BXS (by kernel_rfl) (AB Uu AD) (by
 show BOE x; rw [BZJ]; unfold SK riP
 have e1 : decide (x.a0 >= x.b0) = !decide (x.a0 < x.b0) := by
  by_cases h : x.a0 < x.b0
  ·rw [decide_eq_true h, decide_eq_false (by omega)]; rfl
  ·rw [decide_eq_false h, decide_eq_true (by omega)]; rfl
 have e2 : decide (x.a1 > x.b1) = !decide (x.a1 <= x.b1) := by
  by_cases h : x.a1 <= x.b1
  ·rw [decide_eq_true h, decide_eq_false (by omega)]; rfl
  ·rw [decide_eq_false h, decide_eq_true (by omega)]; rfl
 rw [e1, e2]
 show (!((BY x.a0 0 2000 && BY x.a1 0 200000) && (BY x.b0 0 2000 && BY x.b1 0 200000) && decide (x.a0 < x.b0) && decide (x.a1 <= x.b1))) = _
 cases BY x.a0 0 2000 <;> cases BY x.b0 0 2000 <;> cases BY x.a1 0 200000 <;> cases BY x.b1 0 200000 <;> cases decide (x.a0 < x.b0) <;> cases decide (x.a1 <= x.b1) <;> rfl)
end Go.Bal
