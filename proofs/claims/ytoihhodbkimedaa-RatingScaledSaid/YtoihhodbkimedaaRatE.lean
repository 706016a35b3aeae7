/- Package rating: every. Printed by genratE.py. -/
import Derived.Test.YtoihhodbkimedaaRatA
set_option linter.unusedVariables false
set_option linter.unusedSimpArgs false
namespace Go.Bal
open Go Go.Sym Go.Proofs
def allB (p : Nat -> Bool) : Nat -> Bool
 | 0 => true
 | n + 1 => allB p n && p n
theorem ASQ {p : Nat -> Bool} : ∀ {n : Nat}, allB p n = true ↔ ∀ i, i < n -> p i = true
 | 0 => by simp [allB]
 | n + 1 => by
  simp only [allB, Bool.and_eq_true, ASQ (n := n)]
  constructor
  ·intro h i hi
   by_cases he : i = n
   ·subst he; exact h.2
   ·exact h.1 i (by omega)
  ·exact λ h => ⟨λ i hi => h i (by omega), h n (by omega)⟩
theorem BNN {p : Nat -> Bool} : ∀ {n k : Nat}, (0 <= EY p n k) ↔ ∃ i, k <= i /\ i < k + n /\ p i = true
 | 0, k => by simp [EY]; omega
 | n + 1, k => by
  simp only [EY]
  by_cases h : p k = true
  ·rw [if_pos h]
   constructor
   ·intro _; exact ⟨k, Nat.le_refl _, by omega, h⟩
   ·intro _; omega
  ·rw [if_neg h, BNN (n := n) (k := k + 1)]
   constructor
   ·rintro ⟨i, h1, h2, h3⟩; exact ⟨i, by omega, by omega, h3⟩
   ·rintro ⟨i, h1, h2, h3⟩
    refine ⟨i, ?_, by omega, h3⟩
    by_cases he : i = k
    ·subst he; exact absurd h3 h
    ·omega
theorem CAD {p : Nat -> Bool} {n : Nat} : (!decide (0 <= EY (λ i => !p i) n 0)) = allB p n := by
 rw [Bool.eq_iff_iff, ASQ]
 simp only [Bool.not_eq_true', decide_eq_false_iff_not, BNN, Nat.zero_le, Nat.zero_add, true_and]
 constructor
 ·intro h i hi
  cases hp : p i with
  | true => rfl
  | false => exact (h ⟨i, hi, by simp [hp]⟩).elim
 ·rintro h ⟨i, hi, hp⟩
  rw [h i hi] at hp; cases hp
theorem ABZ {α : Type} [Inhabited α] {p : α -> Bool} {l : List α} : (!decide (0 <= EY (λ i => !p (gD l i)) l.length 0)) = l.all p := by
 rw [CAD, Bool.eq_iff_iff, ASQ, List.all_eq_true]
 exact ⟨λ h x hx => by obtain ⟨i, hi, rfl⟩ := TD hx; exact h i hi, λ h i hi => h _ (BZ hi)⟩
structure LInt where
 q : List Gau
 e : Int
def C_nm1 : Ctr := { ro := [101], α := LInt, xs := λ a => [.int a.e, .bptr 101 0], L := λ a => [(101, .box [.d (BO a.q)])], val := λ a => .bool (FT a.e 0 (wr (a.q.length - 1))), keep := λ a => [(101, .live (.box [.d (BO a.q)]))] }
def CHK : List AVal -> Heap -> Option (LInt × List (Nat × Nat) × List Nat)
 | [.d d, .bptr id _], H => match H id with
  | .live (.box [.d (.list _ n g _)]) => some (⟨AD n λ i => UQ (g i), DK d⟩, [(101, id)], [])
  | _ => none
 | _, _ => none
def CIU : Ann := { ann 9 [(J5, s_in)] with E := [101] }
def CJI (a : LInt) : Prop := AY Try.prog CIU AJN (AF AJN) (C_nm1.xs a) (AC (C_nm1.L a)) (C_nm1.val a) (C_nm1.keep a) [] []
theorem CLQ (a : LInt) : (CJI a) = (FT a.e 0 (wr ((↑a.q.length : Int) - 1)) = FT a.e 0 (IntKind.i64.wrap ((↑a.q.length : Int) - 1)) /\ a.q.length = a.q.length /\ ∀ (i : Nat), i < a.q.length -> (gD a.q i).st = (gD a.q
 i).st /\ (gD a.q i).lo = (gD a.q i).lo /\ (gD a.q i).hi = (gD a.q i).hi) := by kernel_rfl
theorem CKH : AG Try.prog rI (C_nm1.spec CHK) := JX C_nm1 (λ _ => CIU) [] [] BUR (λ _ => by kernel_rfl) (λ _ => AB Ka AE) (λ (a : LInt) _ => by
 show CJI a; rw [CLQ]; simp [wr, UH]) (λ _ => KJ rfl rfl) _
def fvGr (q : One) : AVal := .fn (.func BTI) [] []
def BGr (q : One) : AObj := .box [fvGr q]
structure EGr where
 q : One
 e : Gau
structure MGr where
 q : One
 l : List Gau
def C1Gr : Ctr := { ro := [100], α := EGr, xs := λ a => [.d (eGau a.e), .bptr 100 0], L := λ a => (100, BGr a.q) :: [], val := λ a => .bool (!Tf a.e), keep := λ a => (100, .live (BGr a.q)) :: [] }
def d1Gr : List AVal -> Heap -> Option (EGr × List (Nat × Nat) × List Nat)
 | [.d d, .bptr id _], H => some (⟨default, UQ d⟩, [(100, id)], [])
 | _, _ => none
def A1Gr : Ann := { ann 8 [(BTI, CIV)] with E := [100] }
def V1Gr (a : EGr) : Prop := AY Try.prog A1Gr BKP (AF BKP) (C1Gr.xs a) (AC (C1Gr.L a)) (C1Gr.val a) (C1Gr.keep a) [] []
theorem COV (a : EGr) : (V1Gr a) = ((!Tf a.e) = !Tf a.e) := by kernel_rfl
theorem CNM : AG Try.prog vD (C1Gr.spec d1Gr) := JX C1Gr (λ _ => A1Gr) [] [] CBR (λ _ => by kernel_rfl) (λ _ => AB CNC AE) (λ (a : EGr) h => by
 show V1Gr a; rw [COV]; try simp [wr, UH]) (λ _ => KJ rfl rfl) _
def d2Gr : List AVal -> Heap -> Option (MGr × List (Nat × Nat) × List Nat)
 | [y, .fn _ _ [.bptr id _]], H => match dRow y H with
  | some (n, g, f) => some (⟨default, AD n λ i => UQ (g i)⟩, [(100, id)], f)
  | none => none
 | _, _ => none
def A2Gr (a : MGr) : Ann := { ann 19 [(vD, C1Gr.spec d1Gr)] with E := [100], loops := λ id => if id = 2 then some [{ α := Nat, dflt := 0, T := λ k => ⟨[(0, .d (BO a.l)), (1, .fn (.func vD) [] [.bptr 100 0]), (7, .int a.l.length), (8, .int k)], (100, .live (BGr a.q)) :: []⟩, inv := λ k => k <= a.l.length /\ EY (λ i => !Tf (gD a.l i)) a.l.length 0 = EY (λ i => !Tf (gD a.l i)) (a.l.length - k) k, meas := λ k => a.l.length - k }] else none }
def PGr (a : MGr) : List Prop := [a.l.length < 4611686018427387904 /\ True]
def C2Gr : Ctr := { ro := [100], α := MGr, xs := λ a => [.d (BO a.l), .fn (.func vD) [] [.bptr 100 0]], L := λ a => (100, BGr a.q) :: [], val := λ a => .int (EY (λ i => !Tf (gD a.l i)) a.l.length 0), keep := λ a => (100, .live (BGr a.q)) :: [], pre := PGr }
def V2Gr (a : MGr) : Prop := AY Try.prog (A2Gr a) BKN (AF BKN) (C2Gr.xs a) (AC (C2Gr.L a)) (C2Gr.val a) (C2Gr.keep a) [] []
theorem COU (a : MGr) : (V2Gr a) = ((∃ (a_1 : Nat), (a.l.length = a.l.length /\ (∀ (i : Nat), i < a.l.length -> (gD a.l i).st = (gD a.l i).st /\ (gD a.l i).lo = (gD a.l i).lo /\ (gD a.l i).hi = (gD a.l i).hi) /\
 (↑a.l.length : Int) = (↑a.l.length : Int) /\ (↑a_1 : Int) = 0) /\ a_1 <= a.l.length /\ EY (λ (i : Nat) => !Tf (gD a.l i)) a.l.length 0 = EY (λ (i : Nat) => !Tf (gD a.l i)) (a.l.length - a_1) a_1) /\ ∀ (a_1 : Nat), a_1
 <= a.l.length /\ EY (λ (i : Nat) => !Tf (gD a.l i)) a.l.length 0 = EY (λ (i : Nat) => !Tf (gD a.l i)) (a.l.length - a_1) a_1 -> bif decide ((↑a_1 : Int) < (↑a.l.length : Int)) then ((0 <= (↑a_1 : Int) /\ (↑a_1 : Int)
 < (↑a.l.length : Int)) /\ (gD a.l a_1).st = (gD a.l a_1).st /\ (gD a.l a_1).lo = (gD a.l a_1).lo /\ (gD a.l a_1).hi = (gD a.l a_1).hi) /\ bif !Tf (gD a.l a_1) then EY (λ (i : Nat) => !Tf (gD a.l i)) a.l.length 0 = (↑a_1
 : Int) else ∃ (a_3 : Nat), (a.l.length = a.l.length /\ (∀ (i : Nat), i < a.l.length -> (gD a.l i).st = (gD a.l i).st /\ (gD a.l i).lo = (gD a.l i).lo /\ (gD a.l i).hi = (gD a.l i).hi) /\ (↑a.l.length : Int) = (↑a.l.length :
 Int) /\ (↑a_3 : Int) = IntKind.i64.wrap ((↑a_1 : Int) + 1)) /\ (a_3 <= a.l.length /\ EY (λ (i : Nat) => !Tf (gD a.l i)) a.l.length 0 = EY (λ (i : Nat) => !Tf (gD a.l i)) (a.l.length - a_3) a_3) /\ a.l.length - a_3 <
 a.l.length - a_1 else EY (λ (i : Nat) => !Tf (gD a.l i)) a.l.length 0 = -1) := by kernel_rfl
theorem p2Gr (a : MGr) (h : BN (PGr a)) : V2Gr a := by
 obtain ⟨h, hp⟩ : a.l.length < 4611686018427387904 /\ True := h
 rw [COU]
 simp only [CC, eq_self, implies_true, forall_const]
 refine ⟨⟨0, rfl, Nat.zero_le _, rfl⟩, λ k ⟨h1, h2⟩ => ⟨λ hlt => ?_, λ hge => ?_⟩⟩
 ·have hlt : k < a.l.length := by omega
  refine ⟨⟨by omega, by omega⟩, λ hp => ?_, λ hp => ⟨k + 1, (CA (by omega)).symm, ⟨by omega, ?_⟩, by omega⟩⟩
  ·rw [h2]; exact wR hlt (by simpa using hp)
  ·rw [h2]; exact BCW hlt (by simpa using hp)
 ·rw [h2]; exact AHE (by omega)
theorem COY : AG Try.prog BJL (C2Gr.spec d2Gr) := JX C2Gr A2Gr [] [] BVX (λ _ => by kernel_rfl) (λ _ => AB CNM AE) p2Gr (λ _ => KJ rfl rfl) _
def C3Gr : Ctr := { C2Gr with val := λ (a : MGr) => .bool (decide (EY (λ i => !Tf (gD a.l i)) a.l.length 0 >= 0)) }
def d3Gr : List AVal -> Heap -> Option (C3Gr.α × List (Nat × Nat) × List Nat) := d2Gr
def A3Gr : Ann := { ann 9 [(BJL, C2Gr.spec d2Gr)] with E := [100] }
def V3Gr (a : MGr) : Prop := AY Try.prog A3Gr BKT (AF BKT) (C3Gr.xs a) (AC (C3Gr.L a)) (C3Gr.val a) (C3Gr.keep a) [] []
theorem COA (a : MGr) : (V3Gr a) = (((AD a.l.length λ (i : Nat) => gD a.l i).length = a.l.length /\ (∀ (i : Nat), i < (AD a.l.length λ (i : Nat) => gD a.l i).length -> (gD (AD a.l.length λ (i : Nat) => gD a.l i)
 i).st = (gD a.l i).st /\ (gD (AD a.l.length λ (i : Nat) => gD a.l i) i).lo = (gD a.l i).lo /\ (gD (AD a.l.length λ (i : Nat) => gD a.l i) i).hi = (gD a.l i).hi) /\ (AD a.l.length λ (i : Nat) => gD a.l i).length <
 4611686018427387904 /\ True) /\ decide (EY (λ (i : Nat) => !Tf (gD a.l i)) a.l.length 0 >= 0) = decide (EY (λ (i : Nat) => !Tf (gD (AD a.l.length λ (i : Nat) => gD a.l i) i)) (AD a.l.length λ (i : Nat) => gD
 a.l i).length 0 >= 0)) := by kernel_rfl
theorem CPJ : AG Try.prog BLQ (C3Gr.spec d3Gr) := Ctr.spec_ok (C := C3Gr) (λ (a : MGr) h => RD (A := A3Gr) (ren := []) (fz := []) CCN (by kernel_rfl) (AB COY AE) (by
 obtain ⟨h, hp⟩ : a.l.length < 4611686018427387904 /\ True := h
 show V3Gr a; rw [COA]; simp [h, UH])) _
def d4Gr : List AVal -> Heap -> Option (MGr × List (Nat × Nat) × List Nat)
 | [y, .fn _ _ _], H => match dRow y H with
  | some (n, g, f) => some (⟨default, AD n λ i => UQ (g i)⟩, [], f)
  | none => none
 | _, _ => none
def A4Gr : Ann := { ann 9 [(BLQ, C3Gr.spec d3Gr)] with E := [] }
def C4Gr : Ctr := { ro := [], α := MGr, xs := λ a => [.d (BO a.l), fvGr a.q], L := λ a => [], val := λ a => .bool (a.l.all λ x => Tf x), keep := λ a => [], pre := PGr }
def V4Gr (a : MGr) : Prop := AY Try.prog A4Gr F_eG (AF F_eG) (C4Gr.xs a) (AC (C4Gr.L a)) (C4Gr.val a) (C4Gr.keep a) [] []
theorem COG (a : MGr) : (V4Gr a) = (((AD a.l.length λ (i : Nat) => gD a.l i).length = a.l.length /\ (∀ (i : Nat), i < (AD a.l.length λ (i : Nat) => gD a.l i).length -> (gD (AD a.l.length λ (i : Nat) => gD a.l i)
 i).st = (gD a.l i).st /\ (gD (AD a.l.length λ (i : Nat) => gD a.l i) i).lo = (gD a.l i).lo /\ (gD (AD a.l.length λ (i : Nat) => gD a.l i) i).hi = (gD a.l i).hi) /\ (AD a.l.length λ (i : Nat) => gD a.l i).length <
 4611686018427387904 /\ True) /\ (a.l.all λ (x : Gau) => Tf x) = !decide (EY (λ (i : Nat) => !Tf (gD (AD a.l.length λ (i : Nat) => gD a.l i) i)) (AD a.l.length λ (i : Nat) => gD a.l i).length 0 >= 0)) := by
 kernel_rfl
theorem CON : AG Try.prog n_eG (C4Gr.spec d4Gr) := Ctr.spec_ok (C := C4Gr) (λ (a : MGr) h => RD (A := A4Gr) (ren := []) (fz := []) CIE (by kernel_rfl) (AB CPJ AE) (by
 have h' : a.l.length < 4611686018427387904 /\ True := h
 show V4Gr a; rw [COG]; simp only [CC, eq_self, implies_true, forall_const, ge_iff_le]
 rw [<- ABZ]
 exact ⟨h'.1, rfl⟩)) _
def fvGp (q : Ln) : AVal := .fn (.func rF) [.d (eLn q)] []
def BGp (q : Ln) : AObj := .box [fvGp q]
structure EGp where
 q : Ln
 e : Gau
structure MGp where
 q : Ln
 l : List Gau
def C1Gp : Ctr := { ro := [100], α := EGp, xs := λ a => [.d (eGau a.e), .bptr 100 0], L := λ a => (100, BGp a.q) :: [], val := λ a => .bool (!BR a.q a.e), keep := λ a => (100, .live (BGp a.q)) :: [], pre := λ a => [(DS a.q /\ GY a.e)] }
def d1Gp : List AVal -> Heap -> Option (EGp × List (Nat × Nat) × List Nat)
 | [.d d, .bptr id _], H => match H id with
  | .live (.box [.fn _ [.d x] _]) => some (⟨dLn x, UQ d⟩, [(100, id)], [])
  | _ => none
 | _, _ => none
def A1Gp : Ann := { ann 8 [(rF, BJZ)] with E := [100] }
def V1Gp (a : EGp) : Prop := AY Try.prog A1Gp BKP (AF BKP) (C1Gp.xs a) (AC (C1Gp.L a)) (C1Gp.val a) (C1Gp.keep a) [] []
theorem CNT (a : EGp) : (V1Gp a) = (((0 <= a.q.a0 /\ a.q.a0 < a.q.b0 /\ a.q.b0 <= 2000 /\ 0 <= a.q.a1 /\ a.q.a1 <= a.q.b1 /\ a.q.b1 <= 200000) /\ 0 <= a.e.st /\ a.e.st <= 2000 /\ 0 <= a.e.lo /\ a.e.lo <= a.e.hi /\ a.e.hi <= 200000) /\
 (!BR a.q a.e) = !BR a.q a.e /\ a.q.a0 = a.q.a0 /\ a.q.a1 = a.q.a1 /\ a.q.b0 = a.q.b0 /\ a.q.b1 = a.q.b1) := by kernel_rfl
theorem CNQ : AG Try.prog vD (C1Gp.spec d1Gp) := JX C1Gp (λ _ => A1Gp) [] [] CBR (λ _ => by kernel_rfl) (λ _ => AB BUK AE) (λ (a : EGp) h => by
 show V1Gp a; rw [CNT]; exact ⟨h, by simp⟩) (λ _ => KJ rfl rfl) _
def d2Gp : List AVal -> Heap -> Option (MGp × List (Nat × Nat) × List Nat)
 | [y, .fn _ _ [.bptr id _]], H => match dRow y H with
  | some (n, g, f) => match H id with
   | .live (.box [.fn _ [.d x] _]) => some (⟨dLn x, AD n λ i => UQ (g i)⟩, [(100, id)], f)
   | _ => none
  | none => none
 | _, _ => none
def A2Gp (a : MGp) : Ann := { ann 19 [(vD, C1Gp.spec d1Gp)] with E := [100], loops := λ id => if id = 2 then some [{ α := Nat, dflt := 0, T := λ k => ⟨[(0, .d (BO a.l)), (1, .fn (.func vD) [] [.bptr 100 0]), (7, .int a.l.length), (8, .int k)], (100, .live (BGp a.q)) :: []⟩, inv := λ k => k <= a.l.length /\ EY (λ i => !BR a.q (gD a.l i)) a.l.length 0 = EY (λ i => !BR a.q (gD a.l i)) (a.l.length - k) k, meas := λ k => a.l.length - k }] else none }
def PGp (a : MGp) : List Prop := [a.l.length < 4611686018427387904 /\ (∀ x ∈ a.l, (DS a.q /\ GY x))]
def C2Gp : Ctr := { ro := [100], α := MGp, xs := λ a => [.d (BO a.l), .fn (.func vD) [] [.bptr 100 0]], L := λ a => (100, BGp a.q) :: [], val := λ a => .int (EY (λ i => !BR a.q (gD a.l i)) a.l.length 0), keep := λ a => (100, .live (BGp a.q)) :: [], pre := PGp }
def V2Gp (a : MGp) : Prop := AY Try.prog (A2Gp a) BKN (AF BKN) (C2Gp.xs a) (AC (C2Gp.L a)) (C2Gp.val a) (C2Gp.keep a) [] []
theorem CPF (a : MGp) : (V2Gp a) = ((∃ (a_1 : Nat), (a.l.length = a.l.length /\ (∀ (i : Nat), i < a.l.length -> (gD a.l i).st = (gD a.l i).st /\ (gD a.l i).lo = (gD a.l i).lo /\ (gD a.l i).hi = (gD a.l i).hi) /\
 (↑a.l.length : Int) = (↑a.l.length : Int) /\ (↑a_1 : Int) = 0 /\ a.q.a0 = a.q.a0 /\ a.q.a1 = a.q.a1 /\ a.q.b0 = a.q.b0 /\ a.q.b1 = a.q.b1) /\ a_1 <= a.l.length /\ EY (λ (i : Nat) => !BR a.q (gD a.l i)) a.l.length 0 = EY
 (λ (i : Nat) => !BR a.q (gD a.l i)) (a.l.length - a_1) a_1) /\ ∀ (a_1 : Nat), a_1 <= a.l.length /\ EY (λ (i : Nat) => !BR a.q (gD a.l i)) a.l.length 0 = EY (λ (i : Nat) => !BR a.q (gD a.l i)) (a.l.length -
 a_1) a_1 -> bif decide ((↑a_1 : Int) < (↑a.l.length : Int)) then ((0 <= (↑a_1 : Int) /\ (↑a_1 : Int) < (↑a.l.length : Int)) /\ (gD a.l a_1).st = (gD a.l a_1).st /\ (gD a.l a_1).lo = (gD a.l a_1).lo /\ (gD a.l a_1).hi = (gD a.l
 a_1).hi /\ a.q.a0 = a.q.a0 /\ a.q.a1 = a.q.a1 /\ a.q.b0 = a.q.b0 /\ a.q.b1 = a.q.b1 /\ a.q.a0 = a.q.a0 /\ a.q.a1 = a.q.a1 /\ a.q.b0 = a.q.b0 /\ a.q.b1 = a.q.b1 /\ (0 <= a.q.a0 /\ a.q.a0 < a.q.b0 /\ a.q.b0 <= 2000 /\ 0 <= a.q.a1 /\
 a.q.a1 <= a.q.b1 /\ a.q.b1 <= 200000) /\ 0 <= (gD a.l a_1).st /\ (gD a.l a_1).st <= 2000 /\ 0 <= (gD a.l a_1).lo /\ (gD a.l a_1).lo <= (gD a.l a_1).hi /\ (gD a.l a_1).hi <= 200000) /\ bif !BR a.q (gD a.l a_1) then EY (λ (i :
 Nat) => !BR a.q (gD a.l i)) a.l.length 0 = (↑a_1 : Int) /\ a.q.a0 = a.q.a0 /\ a.q.a1 = a.q.a1 /\ a.q.b0 = a.q.b0 /\ a.q.b1 = a.q.b1 else ∃ (a_3 : Nat), (a.l.length = a.l.length /\ (∀ (i : Nat), i < a.l.length -> (gD a.l
 i).st = (gD a.l i).st /\ (gD a.l i).lo = (gD a.l i).lo /\ (gD a.l i).hi = (gD a.l i).hi) /\ (↑a.l.length : Int) = (↑a.l.length : Int) /\ (↑a_3 : Int) = IntKind.i64.wrap ((↑a_1 : Int) + 1) /\ a.q.a0 = a.q.a0 /\ a.q.a1 = a.q.a1
 /\ a.q.b0 = a.q.b0 /\ a.q.b1 = a.q.b1) /\ (a_3 <= a.l.length /\ EY (λ (i : Nat) => !BR a.q (gD a.l i)) a.l.length 0 = EY (λ (i : Nat) => !BR a.q (gD a.l i)) (a.l.length - a_3) a_3) /\ a.l.length - a_3 < a.l.length
 - a_1 else EY (λ (i : Nat) => !BR a.q (gD a.l i)) a.l.length 0 = -1 /\ a.q.a0 = a.q.a0 /\ a.q.a1 = a.q.a1 /\ a.q.b0 = a.q.b0 /\ a.q.b1 = a.q.b1) := by kernel_rfl
theorem p2Gp (a : MGp) (h : BN (PGp a)) : V2Gp a := by
 obtain ⟨h, hp⟩ : a.l.length < 4611686018427387904 /\ (∀ x ∈ a.l, (DS a.q /\ GY x)) := h
 rw [CPF]
 simp only [CC, eq_self, implies_true, forall_const]
 refine ⟨⟨0, rfl, Nat.zero_le _, rfl⟩, λ k ⟨h1, h2⟩ => ⟨λ hlt => ?_, λ hge => ?_⟩⟩
 ·have hlt : k < a.l.length := by omega
  refine ⟨⟨⟨by omega, by omega⟩, hp _ (BZ hlt)⟩, λ hp => ?_, λ hp => ⟨k + 1, (CA (by omega)).symm, ⟨by omega, ?_⟩, by omega⟩⟩
  ·rw [h2]; exact wR hlt (by simpa using hp)
  ·rw [h2]; exact BCW hlt (by simpa using hp)
 ·rw [h2]; exact AHE (by omega)
theorem CNP : AG Try.prog BJL (C2Gp.spec d2Gp) := JX C2Gp A2Gp [] [] BVX (λ _ => by kernel_rfl) (λ _ => AB CNQ AE) p2Gp (λ _ => KJ rfl rfl) _
def C3Gp : Ctr := { C2Gp with val := λ (a : MGp) => .bool (decide (EY (λ i => !BR a.q (gD a.l i)) a.l.length 0 >= 0)) }
def d3Gp : List AVal -> Heap -> Option (C3Gp.α × List (Nat × Nat) × List Nat) := d2Gp
def A3Gp : Ann := { ann 9 [(BJL, C2Gp.spec d2Gp)] with E := [100] }
def V3Gp (a : MGp) : Prop := AY Try.prog A3Gp BKT (AF BKT) (C3Gp.xs a) (AC (C3Gp.L a)) (C3Gp.val a) (C3Gp.keep a) [] []
theorem CPH (a : MGp) : (V3Gp a) = (((AD a.l.length λ (i : Nat) => gD a.l i).length = a.l.length /\ (∀ (i : Nat), i < (AD a.l.length λ (i : Nat) => gD a.l i).length -> (gD (AD a.l.length λ (i : Nat) => gD a.l i)
 i).st = (gD a.l i).st /\ (gD (AD a.l.length λ (i : Nat) => gD a.l i) i).lo = (gD a.l i).lo /\ (gD (AD a.l.length λ (i : Nat) => gD a.l i) i).hi = (gD a.l i).hi) /\ a.q.a0 = a.q.a0 /\ a.q.a1 = a.q.a1 /\ a.q.b0 = a.q.b0 /\
 a.q.b1 = a.q.b1 /\ a.q.a0 = a.q.a0 /\ a.q.a1 = a.q.a1 /\ a.q.b0 = a.q.b0 /\ a.q.b1 = a.q.b1 /\ (AD a.l.length λ (i : Nat) => gD a.l i).length < 4611686018427387904 /\ ∀ (x : Gau), List.Mem x (AD a.l.length λ (i : Nat) =>
 gD a.l i) -> (0 <= a.q.a0 /\ a.q.a0 < a.q.b0 /\ a.q.b0 <= 2000 /\ 0 <= a.q.a1 /\ a.q.a1 <= a.q.b1 /\ a.q.b1 <= 200000) /\ 0 <= x.st /\ x.st <= 2000 /\ 0 <= x.lo /\ x.lo <= x.hi /\ x.hi <= 200000) /\ decide (EY (λ (i : Nat) => !BR a.q
 (gD a.l i)) a.l.length 0 >= 0) = decide (EY (λ (i : Nat) => !BR a.q (gD (AD a.l.length λ (i : Nat) => gD a.l i) i)) (AD a.l.length λ (i : Nat) => gD a.l i).length 0 >= 0) /\ a.q.a0 = a.q.a0 /\ a.q.a1 = a.q.a1 /\
 a.q.b0 = a.q.b0 /\ a.q.b1 = a.q.b1) := by kernel_rfl
theorem CPZ : AG Try.prog BLQ (C3Gp.spec d3Gp) := Ctr.spec_ok (C := C3Gp) (λ (a : MGp) h => RD (A := A3Gp) (ren := []) (fz := []) CCN (by kernel_rfl) (AB CNP AE) (by
 obtain ⟨h, hp⟩ : a.l.length < 4611686018427387904 /\ (∀ x ∈ a.l, (DS a.q /\ GY x)) := h
 show V3Gp a; rw [CPH]; simp [h, UH]; exact hp)) _
def d4Gp : List AVal -> Heap -> Option (MGp × List (Nat × Nat) × List Nat)
 | [y, .fn _ [.d x] _], H => match dRow y H with
  | some (n, g, f) => some (⟨dLn x, AD n λ i => UQ (g i)⟩, [], f)
  | none => none
 | _, _ => none
def A4Gp : Ann := { ann 9 [(BLQ, C3Gp.spec d3Gp)] with E := [] }
def C4Gp : Ctr := { ro := [], α := MGp, xs := λ a => [.d (BO a.l), fvGp a.q], L := λ a => [], val := λ a => .bool (a.l.all λ x => BR a.q x), keep := λ a => [], pre := PGp }
def V4Gp (a : MGp) : Prop := AY Try.prog A4Gp F_eG (AF F_eG) (C4Gp.xs a) (AC (C4Gp.L a)) (C4Gp.val a) (C4Gp.keep a) [] []
theorem CPC (a : MGp) : (V4Gp a) = (((AD a.l.length λ (i : Nat) => gD a.l i).length = a.l.length /\ (∀ (i : Nat), i < (AD a.l.length λ (i : Nat) => gD a.l i).length -> (gD (AD a.l.length λ (i : Nat) => gD a.l i)
 i).st = (gD a.l i).st /\ (gD (AD a.l.length λ (i : Nat) => gD a.l i) i).lo = (gD a.l i).lo /\ (gD (AD a.l.length λ (i : Nat) => gD a.l i) i).hi = (gD a.l i).hi) /\ a.q.a0 = a.q.a0 /\ a.q.a1 = a.q.a1 /\ a.q.b0 = a.q.b0 /\
 a.q.b1 = a.q.b1 /\ a.q.a0 = a.q.a0 /\ a.q.a1 = a.q.a1 /\ a.q.b0 = a.q.b0 /\ a.q.b1 = a.q.b1 /\ (AD a.l.length λ (i : Nat) => gD a.l i).length < 4611686018427387904 /\ ∀ (x : Gau), List.Mem x (AD a.l.length λ (i : Nat) =>
 gD a.l i) -> (0 <= a.q.a0 /\ a.q.a0 < a.q.b0 /\ a.q.b0 <= 2000 /\ 0 <= a.q.a1 /\ a.q.a1 <= a.q.b1 /\ a.q.b1 <= 200000) /\ 0 <= x.st /\ x.st <= 2000 /\ 0 <= x.lo /\ x.lo <= x.hi /\ x.hi <= 200000) /\ (a.l.all λ (x : Gau) => BR a.q x) =
 !decide (EY (λ (i : Nat) => !BR a.q (gD (AD a.l.length λ (i : Nat) => gD a.l i) i)) (AD a.l.length λ (i : Nat) => gD a.l i).length 0 >= 0)) := by kernel_rfl
theorem CQG : AG Try.prog n_eG (C4Gp.spec d4Gp) := Ctr.spec_ok (C := C4Gp) (λ (a : MGp) h => RD (A := A4Gp) (ren := []) (fz := []) CIE (by kernel_rfl) (AB CPZ AE) (by
 have h' : a.l.length < 4611686018427387904 /\ (∀ x ∈ a.l, (DS a.q /\ GY x)) := h
 show V4Gp a; rw [CPC]; simp only [CC, eq_self, implies_true, forall_const, ge_iff_le]
 rw [<- ABZ]
 exact ⟨h', rfl⟩)) _
def LXIn (q : List Gau) : List (Nat × AObj) := [(101, .box [.d (BO q)])]
def KXIn (q : List Gau) : List (Nat × HCell) := [(101, .live (.box [.d (BO q)]))]
def fvIn (q : List Gau) : AVal := .fn (.func rI) [] [.bptr 101 0]
def BIn (q : List Gau) : AObj := .box [fvIn q]
structure EIn where
 q : List Gau
 e : Int
structure MIn where
 q : List Gau
 l : List Int
def C1In : Ctr := { ro := [100, 101], α := EIn, xs := λ a => [.d (CU a.e), .bptr 100 0], L := λ a => (100, BIn a.q) :: LXIn a.q, val := λ a => .bool (!FT a.e 0 (wr (a.q.length - 1))), keep := λ a => (100, .live (BIn a.q)) :: KXIn a.q }
def d1In : List AVal -> Heap -> Option (EIn × List (Nat × Nat) × List Nat)
 | [.d d, .bptr id _], H => match H id with
  | .live (.box [.fn _ _ [.bptr j _]]) => match H j with
   | .live (.box [.d (.list _ m h _)]) => some (⟨AD m λ i => UQ (h i), DK d⟩, [(100, id), (101, j)], [])
   | _ => none
  | _ => none
 | _, _ => none
def A1In : Ann := { ann 8 [(rI, C_nm1.spec CHK)] with E := [100, 101] }
def V1In (a : EIn) : Prop := AY Try.prog A1In BYF (AF BYF) (C1In.xs a) (AC (C1In.L a)) (C1In.val a) (C1In.keep a) [] []
theorem CNO (a : EIn) : (V1In a) = ((a.e = a.e /\ (AD a.q.length λ (i : Nat) => gD a.q i).length = a.q.length /\ (∀ (i : Nat), i < (AD a.q.length λ (i : Nat) => gD a.q i).length -> (gD (AD a.q.length λ (i : Nat)
 => gD a.q i) i).st = (gD a.q i).st /\ (gD (AD a.q.length λ (i : Nat) => gD a.q i) i).lo = (gD a.q i).lo /\ (gD (AD a.q.length λ (i : Nat) => gD a.q i) i).hi = (gD a.q i).hi) /\ a.q.length = (AD a.q.length λ (i :
 Nat) => gD a.q i).length /\ ∀ (i : Nat), i < a.q.length -> (gD a.q i).st = (gD (AD a.q.length λ (i : Nat) => gD a.q i) i).st /\ (gD a.q i).lo = (gD (AD a.q.length λ (i : Nat) => gD a.q i) i).lo /\ (gD a.q i).hi = (gD
 (AD a.q.length λ (i : Nat) => gD a.q i) i).hi) /\ (!FT a.e 0 (wr ((↑a.q.length : Int) - 1))) = !FT a.e 0 (wr ((↑(AD a.q.length λ (i : Nat) => gD a.q i).length : Int) - 1)) /\ a.q.length = a.q.length /\ ∀ (i : Nat),
 i < a.q.length -> (gD a.q i).st = (gD a.q i).st /\ (gD a.q i).lo = (gD a.q i).lo /\ (gD a.q i).hi = (gD a.q i).hi) := by kernel_rfl
theorem COH : AG Try.prog BKV (C1In.spec d1In) := JX C1In (λ _ => A1In) [] [] CMA (λ _ => by kernel_rfl) (λ _ => AB CKH AE) (λ (a : EIn) h => by
 show V1In a; rw [CNO]; try simp [wr, UH]) (λ _ => KJ rfl rfl) _
def d2In : List AVal -> Heap -> Option (MIn × List (Nat × Nat) × List Nat)
 | [y, .fn _ _ [.bptr id _]], H => match dRow y H with
  | some (n, g, f) => match H id with
   | .live (.box [.fn _ _ [.bptr j _]]) => match H j with
    | .live (.box [.d (.list _ m h _)]) => some (⟨AD m λ i => UQ (h i), AD n λ i => DK (g i)⟩, [(100, id), (101, j)], f)
    | _ => none
   | _ => none
  | none => none
 | _, _ => none
def A2In (a : MIn) : Ann := { ann 19 [(BKV, C1In.spec d1In)] with E := [100, 101], loops := λ id => if id = 2 then some [{ α := Nat, dflt := 0, T := λ k => ⟨[(0, .d (BL a.l)), (1, .fn (.func BKV) [] [.bptr 100 0]), (7, .int a.l.length), (8, .int k)], (100, .live (BIn a.q)) :: KXIn a.q⟩, inv := λ k => k <= a.l.length /\ EY (λ i => !FT (gD a.l i) 0 (wr (a.q.length - 1))) a.l.length 0 = EY (λ i => !FT (gD a.l i) 0 (wr (a.q.length - 1))) (a.l.length - k) k, meas := λ k => a.l.length - k }] else none }
def PIn (a : MIn) : List Prop := [a.l.length < 4611686018427387904 /\ True]
def C2In : Ctr := { ro := [100, 101], α := MIn, xs := λ a => [.d (BL a.l), .fn (.func BKV) [] [.bptr 100 0]], L := λ a => (100, BIn a.q) :: LXIn a.q, val := λ a => .int (EY (λ i => !FT (gD a.l i) 0 (wr (a.q.length - 1))) a.l.length 0), keep := λ a => (100, .live (BIn a.q)) :: KXIn a.q, pre := PIn }
def V2In (a : MIn) : Prop := AY Try.prog (A2In a) BWI (AF BWI) (C2In.xs a) (AC (C2In.L a)) (C2In.val a) (C2In.keep a) [] []
theorem CNU (a : MIn) : (V2In a) = ((∃ (a_1 : Nat), (a.l.length = a.l.length /\ (∀ (i : Nat), i < a.l.length -> gD a.l i = gD a.l i) /\ (↑a.l.length : Int) = (↑a.l.length : Int) /\ (↑a_1 : Int) = 0 /\ a.q.length =
 a.q.length /\ ∀ (i : Nat), i < a.q.length -> (gD a.q i).st = (gD a.q i).st /\ (gD a.q i).lo = (gD a.q i).lo /\ (gD a.q i).hi = (gD a.q i).hi) /\ a_1 <= a.l.length /\ EY (λ (i : Nat) => !FT (gD a.l i) 0 (wr ((↑a.q.length :
 Int) - 1))) a.l.length 0 = EY (λ (i : Nat) => !FT (gD a.l i) 0 (wr ((↑a.q.length : Int) - 1))) (a.l.length - a_1) a_1) /\ ∀ (a_1 : Nat), a_1 <= a.l.length /\ EY (λ (i : Nat) => !FT (gD a.l i) 0 (wr ((↑a.q.length :
 Int) - 1))) a.l.length 0 = EY (λ (i : Nat) => !FT (gD a.l i) 0 (wr ((↑a.q.length : Int) - 1))) (a.l.length - a_1) a_1 -> bif decide ((↑a_1 : Int) < (↑a.l.length : Int)) then ((0 <= (↑a_1 : Int) /\ (↑a_1 : Int) <
 (↑a.l.length : Int)) /\ gD a.l a_1 = gD a.l a_1 /\ (AD a.q.length λ (i : Nat) => gD a.q i).length = a.q.length /\ (∀ (i : Nat), i < (AD a.q.length λ (i : Nat) => gD a.q i).length -> (gD (AD a.q.length λ (i : Nat) =>
 gD a.q i) i).st = (gD a.q i).st /\ (gD (AD a.q.length λ (i : Nat) => gD a.q i) i).lo = (gD a.q i).lo /\ (gD (AD a.q.length λ (i : Nat) => gD a.q i) i).hi = (gD a.q i).hi) /\ a.q.length = (AD a.q.length λ (i : Nat)
 => gD a.q i).length /\ ∀ (i : Nat), i < a.q.length -> (gD a.q i).st = (gD (AD a.q.length λ (i : Nat) => gD a.q i) i).st /\ (gD a.q i).lo = (gD (AD a.q.length λ (i : Nat) => gD a.q i) i).lo /\ (gD a.q i).hi = (gD (AD
 a.q.length λ (i : Nat) => gD a.q i) i).hi) /\ bif !FT (gD a.l a_1) 0 (wr ((↑(AD a.q.length λ (i : Nat) => gD a.q i).length : Int) - 1)) then EY (λ (i : Nat) => !FT (gD a.l i) 0 (wr ((↑a.q.length : Int) - 1)))
 a.l.length 0 = (↑a_1 : Int) /\ a.q.length = a.q.length /\ ∀ (i : Nat), i < a.q.length -> (gD a.q i).st = (gD a.q i).st /\ (gD a.q i).lo = (gD a.q i).lo /\ (gD a.q i).hi = (gD a.q i).hi else ∃ (a_3 : Nat), (a.l.length =
 a.l.length /\ (∀ (i : Nat), i < a.l.length -> gD a.l i = gD a.l i) /\ (↑a.l.length : Int) = (↑a.l.length : Int) /\ (↑a_3 : Int) = IntKind.i64.wrap ((↑a_1 : Int) + 1) /\ a.q.length = a.q.length /\ ∀ (i : Nat), i < a.q.length ->
 (gD a.q i).st = (gD a.q i).st /\ (gD a.q i).lo = (gD a.q i).lo /\ (gD a.q i).hi = (gD a.q i).hi) /\ (a_3 <= a.l.length /\ EY (λ (i : Nat) => !FT (gD a.l i) 0 (wr ((↑a.q.length : Int) - 1))) a.l.length 0 = EY (λ (i :
 Nat) => !FT (gD a.l i) 0 (wr ((↑a.q.length : Int) - 1))) (a.l.length - a_3) a_3) /\ a.l.length - a_3 < a.l.length - a_1 else EY (λ (i : Nat) => !FT (gD a.l i) 0 (wr ((↑a.q.length : Int) - 1))) a.l.length 0 = -1 /\
 a.q.length = a.q.length /\ ∀ (i : Nat), i < a.q.length -> (gD a.q i).st = (gD a.q i).st /\ (gD a.q i).lo = (gD a.q i).lo /\ (gD a.q i).hi = (gD a.q i).hi) := by kernel_rfl
theorem p2In (a : MIn) (h : BN (PIn a)) : V2In a := by
 obtain ⟨h, hp⟩ : a.l.length < 4611686018427387904 /\ True := h
 rw [CNU]
 simp only [CC, eq_self, implies_true, forall_const]
 refine ⟨⟨0, rfl, Nat.zero_le _, rfl⟩, λ k ⟨h1, h2⟩ => ⟨λ hlt => ?_, λ hge => ?_⟩⟩
 ·have hlt : k < a.l.length := by omega
  refine ⟨⟨by omega, by omega⟩, λ hp => ?_, λ hp => ⟨k + 1, (CA (by omega)).symm, ⟨by omega, ?_⟩, by omega⟩⟩
  ·rw [h2]; exact wR hlt (by simpa using hp)
  ·rw [h2]; exact BCW hlt (by simpa using hp)
 ·rw [h2]; exact AHE (by omega)
theorem CPQ : AG Try.prog CCD (C2In.spec d2In) := JX C2In A2In [] [] CKO (λ _ => by kernel_rfl) (λ _ => AB COH AE) p2In (λ _ => KJ rfl rfl) _
def C3In : Ctr := { C2In with val := λ (a : MIn) => .bool (decide (EY (λ i => !FT (gD a.l i) 0 (wr (a.q.length - 1))) a.l.length 0 >= 0)) }
def d3In : List AVal -> Heap -> Option (C3In.α × List (Nat × Nat) × List Nat) := d2In
def A3In : Ann := { ann 9 [(CCD, C2In.spec d2In)] with E := [100, 101] }
def V3In (a : MIn) : Prop := AY Try.prog A3In CCI (AF CCI) (C3In.xs a) (AC (C3In.L a)) (C3In.val a) (C3In.keep a) [] []
theorem CPT (a : MIn) : (V3In a) = (((AD a.l.length λ (i : Nat) => gD a.l i).length = a.l.length /\ (∀ (i : Nat), i < (AD a.l.length λ (i : Nat) => gD a.l i).length -> gD (AD a.l.length λ (i : Nat) => gD a.l i)
 i = gD a.l i) /\ (AD a.q.length λ (i : Nat) => gD a.q i).length = a.q.length /\ (∀ (i : Nat), i < (AD a.q.length λ (i : Nat) => gD a.q i).length -> (gD (AD a.q.length λ (i : Nat) => gD a.q i) i).st = (gD a.q i).st
 /\ (gD (AD a.q.length λ (i : Nat) => gD a.q i) i).lo = (gD a.q i).lo /\ (gD (AD a.q.length λ (i : Nat) => gD a.q i) i).hi = (gD a.q i).hi) /\ a.q.length = (AD a.q.length λ (i : Nat) => gD a.q i).length /\ (∀ (i :
 Nat), i < a.q.length -> (gD a.q i).st = (gD (AD a.q.length λ (i : Nat) => gD a.q i) i).st /\ (gD a.q i).lo = (gD (AD a.q.length λ (i : Nat) => gD a.q i) i).lo /\ (gD a.q i).hi = (gD (AD a.q.length λ (i : Nat) => gD
 a.q i) i).hi) /\ (AD a.l.length λ (i : Nat) => gD a.l i).length < 4611686018427387904 /\ True) /\ decide (EY (λ (i : Nat) => !FT (gD a.l i) 0 (wr ((↑a.q.length : Int) - 1))) a.l.length 0 >= 0) = decide (EY (λ (i :
 Nat) => !FT (gD (AD a.l.length λ (i : Nat) => gD a.l i) i) 0 (wr ((↑(AD a.q.length λ (i : Nat) => gD a.q i).length : Int) - 1))) (AD a.l.length λ (i : Nat) => gD a.l i).length 0 >= 0) /\ a.q.length = a.q.length /\
 ∀ (i : Nat), i < a.q.length -> (gD a.q i).st = (gD a.q i).st /\ (gD a.q i).lo = (gD a.q i).lo /\ (gD a.q i).hi = (gD a.q i).hi) := by kernel_rfl
theorem CPS : AG Try.prog BXM (C3In.spec d3In) := Ctr.spec_ok (C := C3In) (λ (a : MIn) h => RD (A := A3In) (ren := []) (fz := []) CLS (by kernel_rfl) (AB CPQ AE) (by
 obtain ⟨h, hp⟩ : a.l.length < 4611686018427387904 /\ True := h
 show V3In a; rw [CPT]; simp [h, UH])) _
def d4In : List AVal -> Heap -> Option (MIn × List (Nat × Nat) × List Nat)
 | [y, .fn _ _ [.bptr j _]], H => match dRow y H with
  | some (n, g, f) => match H j with
   | .live (.box [.d (.list _ m h _)]) => some (⟨AD m λ i => UQ (h i), AD n λ i => DK (g i)⟩, [(101, j)], f)
   | _ => none
  | none => none
 | _, _ => none
def A4In : Ann := { ann 9 [(BXM, C3In.spec d3In)] with E := [101] }
def C4In : Ctr := { ro := [101], α := MIn, xs := λ a => [.d (BL a.l), fvIn a.q], L := λ a => LXIn a.q, val := λ a => .bool (a.l.all λ x => FT x 0 (wr (a.q.length - 1))), keep := λ a => KXIn a.q, pre := PIn }
def V4In (a : MIn) : Prop := AY Try.prog A4In F_eI (AF F_eI) (C4In.xs a) (AC (C4In.L a)) (C4In.val a) (C4In.keep a) [] []
theorem COM (a : MIn) : (V4In a) = (((AD a.l.length λ (i : Nat) => gD a.l i).length = a.l.length /\ (∀ (i : Nat), i < (AD a.l.length λ (i : Nat) => gD a.l i).length -> gD (AD a.l.length λ (i : Nat) => gD a.l i)
 i = gD a.l i) /\ (AD a.q.length λ (i : Nat) => gD a.q i).length = a.q.length /\ (∀ (i : Nat), i < (AD a.q.length λ (i : Nat) => gD a.q i).length -> (gD (AD a.q.length λ (i : Nat) => gD a.q i) i).st = (gD a.q i).st
 /\ (gD (AD a.q.length λ (i : Nat) => gD a.q i) i).lo = (gD a.q i).lo /\ (gD (AD a.q.length λ (i : Nat) => gD a.q i) i).hi = (gD a.q i).hi) /\ a.q.length = (AD a.q.length λ (i : Nat) => gD a.q i).length /\ (∀ (i :
 Nat), i < a.q.length -> (gD a.q i).st = (gD (AD a.q.length λ (i : Nat) => gD a.q i) i).st /\ (gD a.q i).lo = (gD (AD a.q.length λ (i : Nat) => gD a.q i) i).lo /\ (gD a.q i).hi = (gD (AD a.q.length λ (i : Nat) => gD
 a.q i) i).hi) /\ (AD a.l.length λ (i : Nat) => gD a.l i).length < 4611686018427387904 /\ True) /\ (a.l.all λ (x : Int) => FT x 0 (wr ((↑a.q.length : Int) - 1))) = !decide (EY (λ (i : Nat) => !FT (gD (AD
 a.l.length λ (i : Nat) => gD a.l i) i) 0 (wr ((↑(AD a.q.length λ (i : Nat) => gD a.q i).length : Int) - 1))) (AD a.l.length λ (i : Nat) => gD a.l i).length 0 >= 0) /\ a.q.length = a.q.length /\ ∀ (i : Nat), i <
 a.q.length -> (gD a.q i).st = (gD a.q i).st /\ (gD a.q i).lo = (gD a.q i).lo /\ (gD a.q i).hi = (gD a.q i).hi) := by kernel_rfl
theorem CPY : AG Try.prog n_eI (C4In.spec d4In) := Ctr.spec_ok (C := C4In) (λ (a : MIn) h => RD (A := A4In) (ren := []) (fz := []) CPE (by kernel_rfl) (AB CPS AE) (by
 have h' : a.l.length < 4611686018427387904 /\ True := h
 show V4In a; rw [COM]; simp only [CC, eq_self, implies_true, forall_const, ge_iff_le]
 rw [<- ABZ]
 exact ⟨h'.1, rfl⟩)) _
end Go.Bal
