/- Package rating: every. Printed by genratE.py. -/
import Derived.Test.YtoihhodbkimedaaGreatRatA
set_option linter.unusedVariables false
set_option linter.unusedSimpArgs false
namespace Go.Bal
open Go Go.Sym Go.Proofs
def allB (p : Nat -> Bool) : Nat -> Bool
 | 0 => true
 | n + 1 => allB p n && p n
theorem AVX {p : Nat -> Bool} : ∀ {n : Nat}, allB p n = true ↔ ∀ i, i < n -> p i = true
 | 0 => by simp [allB]
 | n + 1 => by
  simp only [allB, Bool.and_eq_true, AVX (n := n)]
  constructor
  ·intro h i hi
   by_cases he : i = n
   ·subst he; exact h.2
   ·exact h.1 i (by omega)
  ·exact λ h => ⟨λ i hi => h i (by omega), h n (by omega)⟩
theorem BSK {p : Nat -> Bool} : ∀ {n k : Nat}, (0 <= FE p n k) ↔ ∃ i, k <= i /\ i < k + n /\ p i = true
 | 0, k => by simp [FE]; omega
 | n + 1, k => by
  simp only [FE]
  by_cases h : p k = true
  ·rw [if_pos h]
   constructor
   ·intro _; exact ⟨k, Nat.le_refl _, by omega, h⟩
   ·intro _; omega
  ·rw [if_neg h, BSK (n := n) (k := k + 1)]
   constructor
   ·rintro ⟨i, h1, h2, h3⟩; exact ⟨i, by omega, by omega, h3⟩
   ·rintro ⟨i, h1, h2, h3⟩
    refine ⟨i, ?_, by omega, h3⟩
    by_cases he : i = k
    ·subst he; exact absurd h3 h
    ·omega
theorem CDW {p : Nat -> Bool} {n : Nat} : (!decide (0 <= FE (λ i => !p i) n 0)) = allB p n := by
 rw [Bool.eq_iff_iff, AVX]
 simp only [Bool.not_eq_true', decide_eq_false_iff_not, BSK, Nat.zero_le, Nat.zero_add, true_and]
 constructor
 ·intro h i hi
  cases hp : p i with
  | true => rfl
  | false => exact (h ⟨i, hi, by simp [hp]⟩).elim
 ·rintro h ⟨i, hi, hp⟩
  rw [h i hi] at hp; cases hp
theorem Y7 {α : Type} [Inhabited α] {p : α -> Bool} {l : List α} : (!decide (0 <= FE (λ i => !p (gD l i)) l.length 0)) = l.all p := by
 rw [CDW, Bool.eq_iff_iff, AVX, List.all_eq_true]
 exact ⟨λ h x hx => by obtain ⟨i, hi, rfl⟩ := HM hx; exact h i hi, λ h i hi => h _ (BM hi)⟩
structure LInt where
 q : List Gau
 e : Int
def C_nm1 : Ctr := { ro := [101], α := LInt, xs := λ a => [.int a.e, .bptr 101 0], L := λ a => [(101, .box [.d (AS a.q)])], val := λ a => .bool (BY a.e 0 (wr (a.q.length - 1))), keep := λ a => [(101, .live (.box [.d (AS a.q)]))] }
def CPC : List AVal -> Heap -> Option (LInt × List (Nat × Nat) × List Nat)
 | [.d d, .bptr id _], H => match H id with
  | .live (.box [.d (.list _ n g _)]) => some (⟨AE n λ i => TJ (g i), DH d⟩, [(101, id)], [])
  | _ => none
 | _, _ => none
def COG : Ann := { ann 9 [(sE, Q7)] with E := [101] }
def CPM (a : LInt) : Prop := AN Try.prog COG AUD (AF AUD) (C_nm1.xs a) (AC (C_nm1.L a)) (C_nm1.val a) (C_nm1.keep a) [] []
theorem CSX (a : LInt) : (CPM a) = (BY a.e 0 (wr ((↑a.q.length : Int) - 1)) = BY a.e 0 (IntKind.i64.wrap ((↑a.q.length : Int) - 1)) /\ a.q.length = a.q.length /\ ∀ (i : Nat), i < a.q.length -> (gD a.q i).st = (gD a.q
 i).st /\ (gD a.q i).lo = (gD a.q i).lo /\ (gD a.q i).hi = (gD a.q i).hi) := by kernel_rfl
theorem CSV : AG Try.prog pS (C_nm1.spec CPC) := HR C_nm1 (λ _ => COG) [] [] BYS (λ _ => by kernel_rfl) (λ _ => AB Bv AD) (λ (a : LInt) _ => by
 show CPM a; rw [CSX]; simp [wr, TA]) (λ _ => IN rfl rfl) _
def fvGr (q : One) : AVal := .fn (.func BUU) [] []
def BGr (q : One) : AObj := .box [fvGr q]
structure EGr where
 q : One
 e : Gau
structure MGr where
 q : One
 l : List Gau
def C1Gr : Ctr := { ro := [100], α := EGr, xs := λ a => [.d (WG a.e), .bptr 100 0], L := λ a => (100, BGr a.q) :: [], val := λ a => .bool (!Ck a.e), keep := λ a => (100, .live (BGr a.q)) :: [] }
def d1Gr : List AVal -> Heap -> Option (EGr × List (Nat × Nat) × List Nat)
 | [.d d, .bptr id _], H => some (⟨default, TJ d⟩, [(100, id)], [])
 | _, _ => none
def A1Gr : Ann := { ann 8 [(BUU, CPB)] with E := [100] }
def V1Gr (a : EGr) : Prop := AN Try.prog A1Gr BMA (AF BMA) (C1Gr.xs a) (AC (C1Gr.L a)) (C1Gr.val a) (C1Gr.keep a) [] []
theorem CVE (a : EGr) : (V1Gr a) = ((!Ck a.e) = !Ck a.e) := by kernel_rfl
theorem CVF : AG Try.prog oS (C1Gr.spec d1Gr) := HR C1Gr (λ _ => A1Gr) [] [] CEG (λ _ => by kernel_rfl) (λ _ => AB CRB AD) (λ (a : EGr) h => by
 show V1Gr a; rw [CVE]; try simp [wr, TA]) (λ _ => IN rfl rfl) _
def d2Gr : List AVal -> Heap -> Option (MGr × List (Nat × Nat) × List Nat)
 | [y, .fn _ _ [.bptr id _]], H => match dRow y H with
  | some (n, g, f) => some (⟨default, AE n λ i => TJ (g i)⟩, [(100, id)], f)
  | none => none
 | _, _ => none
def A2Gr (a : MGr) : Ann := { ann 19 [(oS, C1Gr.spec d1Gr)] with E := [100], loops := λ id => if id = 2 then some [{ α := Nat, dflt := 0, T := λ k => ⟨[(0, .d (AS a.l)), (1, .fn (.func oS) [] [.bptr 100 0]), (7, .int a.l.length), (8, .int k)], (100, .live (BGr a.q)) :: []⟩, inv := λ k => k <= a.l.length /\ FE (λ i => !Ck (gD a.l i)) a.l.length 0 = FE (λ i => !Ck (gD a.l i)) (a.l.length - k) k, meas := λ k => a.l.length - k }] else none }
def PGr (a : MGr) : List Prop := [a.l.length < 4611686018427387904 /\ True]
def C2Gr : Ctr := { ro := [100], α := MGr, xs := λ a => [.d (AS a.l), .fn (.func oS) [] [.bptr 100 0]], L := λ a => (100, BGr a.q) :: [], val := λ a => .int (FE (λ i => !Ck (gD a.l i)) a.l.length 0), keep := λ a => (100, .live (BGr a.q)) :: [], pre := PGr }
def V2Gr (a : MGr) : Prop := AN Try.prog (A2Gr a) BNP (AF BNP) (C2Gr.xs a) (AC (C2Gr.L a)) (C2Gr.val a) (C2Gr.keep a) [] []
theorem CWU (a : MGr) : (V2Gr a) = ((∃ (a_1 : Nat), (a.l.length = a.l.length /\ (∀ (i : Nat), i < a.l.length -> (gD a.l i).st = (gD a.l i).st /\ (gD a.l i).lo = (gD a.l i).lo /\ (gD a.l i).hi = (gD a.l i).hi) /\
 (↑a.l.length : Int) = (↑a.l.length : Int) /\ (↑a_1 : Int) = 0) /\ a_1 <= a.l.length /\ FE (λ (i : Nat) => !Ck (gD a.l i)) a.l.length 0 = FE (λ (i : Nat) => !Ck (gD a.l i)) (a.l.length - a_1) a_1) /\ ∀ (a_1 : Nat), a_1
 <= a.l.length /\ FE (λ (i : Nat) => !Ck (gD a.l i)) a.l.length 0 = FE (λ (i : Nat) => !Ck (gD a.l i)) (a.l.length - a_1) a_1 -> bif decide ((↑a_1 : Int) < (↑a.l.length : Int)) then ((0 <= (↑a_1 : Int) /\ (↑a_1 : Int)
 < (↑a.l.length : Int)) /\ (gD a.l a_1).st = (gD a.l a_1).st /\ (gD a.l a_1).lo = (gD a.l a_1).lo /\ (gD a.l a_1).hi = (gD a.l a_1).hi) /\ bif !Ck (gD a.l a_1) then FE (λ (i : Nat) => !Ck (gD a.l i)) a.l.length 0 = (↑a_1
 : Int) else ∃ (a_3 : Nat), (a.l.length = a.l.length /\ (∀ (i : Nat), i < a.l.length -> (gD a.l i).st = (gD a.l i).st /\ (gD a.l i).lo = (gD a.l i).lo /\ (gD a.l i).hi = (gD a.l i).hi) /\ (↑a.l.length : Int) = (↑a.l.length :
 Int) /\ (↑a_3 : Int) = IntKind.i64.wrap ((↑a_1 : Int) + 1)) /\ (a_3 <= a.l.length /\ FE (λ (i : Nat) => !Ck (gD a.l i)) a.l.length 0 = FE (λ (i : Nat) => !Ck (gD a.l i)) (a.l.length - a_3) a_3) /\ a.l.length - a_3 <
 a.l.length - a_1 else FE (λ (i : Nat) => !Ck (gD a.l i)) a.l.length 0 = -1) := by kernel_rfl
theorem p2Gr (a : MGr) (h : BK (PGr a)) : V2Gr a := by
 obtain ⟨h, hp⟩ : a.l.length < 4611686018427387904 /\ True := h
 rw [CWU]
 simp only [CC, eq_self, implies_true, forall_const]
 refine ⟨⟨0, rfl, Nat.zero_le _, rfl⟩, λ k ⟨h1, h2⟩ => ⟨λ hlt => ?_, λ hge => ?_⟩⟩
 ·have hlt : k < a.l.length := by omega
  refine ⟨⟨by omega, by omega⟩, λ hp => ?_, λ hp => ⟨k + 1, (BF (by omega)).symm, ⟨by omega, ?_⟩, by omega⟩⟩
  ·rw [h2]; exact pR hlt (by simpa using hp)
  ·rw [h2]; exact BJC hlt (by simpa using hp)
 ·rw [h2]; exact AIS (by omega)
theorem CWJ : AG Try.prog BLK (C2Gr.spec d2Gr) := HR C2Gr A2Gr [] [] BZZ (λ _ => by kernel_rfl) (λ _ => AB CVF AD) p2Gr (λ _ => IN rfl rfl) _
def C3Gr : Ctr := { C2Gr with val := λ (a : MGr) => .bool (decide (FE (λ i => !Ck (gD a.l i)) a.l.length 0 >= 0)) }
def d3Gr : List AVal -> Heap -> Option (C3Gr.α × List (Nat × Nat) × List Nat) := d2Gr
def A3Gr : Ann := { ann 9 [(BLK, C2Gr.spec d2Gr)] with E := [100] }
def V3Gr (a : MGr) : Prop := AN Try.prog A3Gr BLU (AF BLU) (C3Gr.xs a) (AC (C3Gr.L a)) (C3Gr.val a) (C3Gr.keep a) [] []
theorem CXC (a : MGr) : (V3Gr a) = (((AE a.l.length λ (i : Nat) => gD a.l i).length = a.l.length /\ (∀ (i : Nat), i < (AE a.l.length λ (i : Nat) => gD a.l i).length -> (gD (AE a.l.length λ (i : Nat) => gD a.l i)
 i).st = (gD a.l i).st /\ (gD (AE a.l.length λ (i : Nat) => gD a.l i) i).lo = (gD a.l i).lo /\ (gD (AE a.l.length λ (i : Nat) => gD a.l i) i).hi = (gD a.l i).hi) /\ (AE a.l.length λ (i : Nat) => gD a.l i).length <
 4611686018427387904 /\ True) /\ decide (FE (λ (i : Nat) => !Ck (gD a.l i)) a.l.length 0 >= 0) = decide (FE (λ (i : Nat) => !Ck (gD (AE a.l.length λ (i : Nat) => gD a.l i) i)) (AE a.l.length λ (i : Nat) => gD
 a.l i).length 0 >= 0)) := by kernel_rfl
theorem CXN : AG Try.prog BMV (C3Gr.spec d3Gr) := Ctr.spec_ok (C := C3Gr) (λ (a : MGr) h => KZ (A := A3Gr) (ren := []) (fz := []) CGR (by kernel_rfl) (AB CWJ AD) (by
 obtain ⟨h, hp⟩ : a.l.length < 4611686018427387904 /\ True := h
 show V3Gr a; rw [CXC]; simp [h, TA])) _
def d4Gr : List AVal -> Heap -> Option (MGr × List (Nat × Nat) × List Nat)
 | [y, .fn _ _ _], H => match dRow y H with
  | some (n, g, f) => some (⟨default, AE n λ i => TJ (g i)⟩, [], f)
  | none => none
 | _, _ => none
def A4Gr : Ann := { ann 9 [(BMV, C3Gr.spec d3Gr)] with E := [] }
def C4Gr : Ctr := { ro := [], α := MGr, xs := λ a => [.d (AS a.l), fvGr a.q], L := λ a => [], val := λ a => .bool (a.l.all λ x => Ck x), keep := λ a => [], pre := PGr }
def V4Gr (a : MGr) : Prop := AN Try.prog A4Gr F_eG (AF F_eG) (C4Gr.xs a) (AC (C4Gr.L a)) (C4Gr.val a) (C4Gr.keep a) [] []
theorem CUQ (a : MGr) : (V4Gr a) = (((AE a.l.length λ (i : Nat) => gD a.l i).length = a.l.length /\ (∀ (i : Nat), i < (AE a.l.length λ (i : Nat) => gD a.l i).length -> (gD (AE a.l.length λ (i : Nat) => gD a.l i)
 i).st = (gD a.l i).st /\ (gD (AE a.l.length λ (i : Nat) => gD a.l i) i).lo = (gD a.l i).lo /\ (gD (AE a.l.length λ (i : Nat) => gD a.l i) i).hi = (gD a.l i).hi) /\ (AE a.l.length λ (i : Nat) => gD a.l i).length <
 4611686018427387904 /\ True) /\ (a.l.all λ (x : Gau) => Ck x) = !decide (FE (λ (i : Nat) => !Ck (gD (AE a.l.length λ (i : Nat) => gD a.l i) i)) (AE a.l.length λ (i : Nat) => gD a.l i).length 0 >= 0)) := by
 kernel_rfl
theorem CVX : AG Try.prog n_eG (C4Gr.spec d4Gr) := Ctr.spec_ok (C := C4Gr) (λ (a : MGr) h => KZ (A := A4Gr) (ren := []) (fz := []) CQF (by kernel_rfl) (AB CXN AD) (by
 have h' : a.l.length < 4611686018427387904 /\ True := h
 show V4Gr a; rw [CUQ]; simp only [CC, eq_self, implies_true, forall_const, ge_iff_le]
 rw [<- Y7]
 exact ⟨h'.1, rfl⟩)) _
def fvGp (q : Ln) : AVal := .fn (.func xB) [.d (eLn q)] []
def BGp (q : Ln) : AObj := .box [fvGp q]
structure EGp where
 q : Ln
 e : Gau
structure MGp where
 q : Ln
 l : List Gau
def C1Gp : Ctr := { ro := [100], α := EGp, xs := λ a => [.d (WG a.e), .bptr 100 0], L := λ a => (100, BGp a.q) :: [], val := λ a => .bool (!BJ a.q a.e), keep := λ a => (100, .live (BGp a.q)) :: [], pre := λ a => [(DR a.q /\ DJ a.e)] }
def d1Gp : List AVal -> Heap -> Option (EGp × List (Nat × Nat) × List Nat)
 | [.d d, .bptr id _], H => match H id with
  | .live (.box [.fn _ [.d x] _]) => some (⟨dLn x, TJ d⟩, [(100, id)], [])
  | _ => none
 | _, _ => none
def A1Gp : Ann := { ann 8 [(xB, BNK)] with E := [100] }
def V1Gp (a : EGp) : Prop := AN Try.prog A1Gp BMA (AF BMA) (C1Gp.xs a) (AC (C1Gp.L a)) (C1Gp.val a) (C1Gp.keep a) [] []
theorem CWQ (a : EGp) : (V1Gp a) = (((0 <= a.q.a0 /\ a.q.a0 < a.q.b0 /\ a.q.b0 <= 2000 /\ 0 <= a.q.a1 /\ a.q.a1 <= a.q.b1 /\ a.q.b1 <= 200000) /\ 0 <= a.e.st /\ a.e.st <= 2000 /\ 0 <= a.e.lo /\ a.e.lo <= a.e.hi /\ a.e.hi <= 200000) /\
 (!BJ a.q a.e) = !BJ a.q a.e /\ a.q.a0 = a.q.a0 /\ a.q.a1 = a.q.a1 /\ a.q.b0 = a.q.b0 /\ a.q.b1 = a.q.b1) := by kernel_rfl
theorem CXI : AG Try.prog oS (C1Gp.spec d1Gp) := HR C1Gp (λ _ => A1Gp) [] [] CEG (λ _ => by kernel_rfl) (λ _ => AB BXT AD) (λ (a : EGp) h => by
 show V1Gp a; rw [CWQ]; exact ⟨h, by simp⟩) (λ _ => IN rfl rfl) _
def d2Gp : List AVal -> Heap -> Option (MGp × List (Nat × Nat) × List Nat)
 | [y, .fn _ _ [.bptr id _]], H => match dRow y H with
  | some (n, g, f) => match H id with
   | .live (.box [.fn _ [.d x] _]) => some (⟨dLn x, AE n λ i => TJ (g i)⟩, [(100, id)], f)
   | _ => none
  | none => none
 | _, _ => none
def A2Gp (a : MGp) : Ann := { ann 19 [(oS, C1Gp.spec d1Gp)] with E := [100], loops := λ id => if id = 2 then some [{ α := Nat, dflt := 0, T := λ k => ⟨[(0, .d (AS a.l)), (1, .fn (.func oS) [] [.bptr 100 0]), (7, .int a.l.length), (8, .int k)], (100, .live (BGp a.q)) :: []⟩, inv := λ k => k <= a.l.length /\ FE (λ i => !BJ a.q (gD a.l i)) a.l.length 0 = FE (λ i => !BJ a.q (gD a.l i)) (a.l.length - k) k, meas := λ k => a.l.length - k }] else none }
def PGp (a : MGp) : List Prop := [a.l.length < 4611686018427387904 /\ (∀ x ∈ a.l, (DR a.q /\ DJ x))]
def C2Gp : Ctr := { ro := [100], α := MGp, xs := λ a => [.d (AS a.l), .fn (.func oS) [] [.bptr 100 0]], L := λ a => (100, BGp a.q) :: [], val := λ a => .int (FE (λ i => !BJ a.q (gD a.l i)) a.l.length 0), keep := λ a => (100, .live (BGp a.q)) :: [], pre := PGp }
def V2Gp (a : MGp) : Prop := AN Try.prog (A2Gp a) BNP (AF BNP) (C2Gp.xs a) (AC (C2Gp.L a)) (C2Gp.val a) (C2Gp.keep a) [] []
theorem CUR (a : MGp) : (V2Gp a) = ((∃ (a_1 : Nat), (a.l.length = a.l.length /\ (∀ (i : Nat), i < a.l.length -> (gD a.l i).st = (gD a.l i).st /\ (gD a.l i).lo = (gD a.l i).lo /\ (gD a.l i).hi = (gD a.l i).hi) /\
 (↑a.l.length : Int) = (↑a.l.length : Int) /\ (↑a_1 : Int) = 0 /\ a.q.a0 = a.q.a0 /\ a.q.a1 = a.q.a1 /\ a.q.b0 = a.q.b0 /\ a.q.b1 = a.q.b1) /\ a_1 <= a.l.length /\ FE (λ (i : Nat) => !BJ a.q (gD a.l i)) a.l.length 0 = FE
 (λ (i : Nat) => !BJ a.q (gD a.l i)) (a.l.length - a_1) a_1) /\ ∀ (a_1 : Nat), a_1 <= a.l.length /\ FE (λ (i : Nat) => !BJ a.q (gD a.l i)) a.l.length 0 = FE (λ (i : Nat) => !BJ a.q (gD a.l i)) (a.l.length -
 a_1) a_1 -> bif decide ((↑a_1 : Int) < (↑a.l.length : Int)) then ((0 <= (↑a_1 : Int) /\ (↑a_1 : Int) < (↑a.l.length : Int)) /\ (gD a.l a_1).st = (gD a.l a_1).st /\ (gD a.l a_1).lo = (gD a.l a_1).lo /\ (gD a.l a_1).hi = (gD a.l
 a_1).hi /\ a.q.a0 = a.q.a0 /\ a.q.a1 = a.q.a1 /\ a.q.b0 = a.q.b0 /\ a.q.b1 = a.q.b1 /\ a.q.a0 = a.q.a0 /\ a.q.a1 = a.q.a1 /\ a.q.b0 = a.q.b0 /\ a.q.b1 = a.q.b1 /\ (0 <= a.q.a0 /\ a.q.a0 < a.q.b0 /\ a.q.b0 <= 2000 /\ 0 <= a.q.a1 /\
 a.q.a1 <= a.q.b1 /\ a.q.b1 <= 200000) /\ 0 <= (gD a.l a_1).st /\ (gD a.l a_1).st <= 2000 /\ 0 <= (gD a.l a_1).lo /\ (gD a.l a_1).lo <= (gD a.l a_1).hi /\ (gD a.l a_1).hi <= 200000) /\ bif !BJ a.q (gD a.l a_1) then FE (λ (i :
 Nat) => !BJ a.q (gD a.l i)) a.l.length 0 = (↑a_1 : Int) /\ a.q.a0 = a.q.a0 /\ a.q.a1 = a.q.a1 /\ a.q.b0 = a.q.b0 /\ a.q.b1 = a.q.b1 else ∃ (a_3 : Nat), (a.l.length = a.l.length /\ (∀ (i : Nat), i < a.l.length -> (gD a.l
 i).st = (gD a.l i).st /\ (gD a.l i).lo = (gD a.l i).lo /\ (gD a.l i).hi = (gD a.l i).hi) /\ (↑a.l.length : Int) = (↑a.l.length : Int) /\ (↑a_3 : Int) = IntKind.i64.wrap ((↑a_1 : Int) + 1) /\ a.q.a0 = a.q.a0 /\ a.q.a1 = a.q.a1
 /\ a.q.b0 = a.q.b0 /\ a.q.b1 = a.q.b1) /\ (a_3 <= a.l.length /\ FE (λ (i : Nat) => !BJ a.q (gD a.l i)) a.l.length 0 = FE (λ (i : Nat) => !BJ a.q (gD a.l i)) (a.l.length - a_3) a_3) /\ a.l.length - a_3 < a.l.length
 - a_1 else FE (λ (i : Nat) => !BJ a.q (gD a.l i)) a.l.length 0 = -1 /\ a.q.a0 = a.q.a0 /\ a.q.a1 = a.q.a1 /\ a.q.b0 = a.q.b0 /\ a.q.b1 = a.q.b1) := by kernel_rfl
theorem p2Gp (a : MGp) (h : BK (PGp a)) : V2Gp a := by
 obtain ⟨h, hp⟩ : a.l.length < 4611686018427387904 /\ (∀ x ∈ a.l, (DR a.q /\ DJ x)) := h
 rw [CUR]
 simp only [CC, eq_self, implies_true, forall_const]
 refine ⟨⟨0, rfl, Nat.zero_le _, rfl⟩, λ k ⟨h1, h2⟩ => ⟨λ hlt => ?_, λ hge => ?_⟩⟩
 ·have hlt : k < a.l.length := by omega
  refine ⟨⟨⟨by omega, by omega⟩, hp _ (BM hlt)⟩, λ hp => ?_, λ hp => ⟨k + 1, (BF (by omega)).symm, ⟨by omega, ?_⟩, by omega⟩⟩
  ·rw [h2]; exact pR hlt (by simpa using hp)
  ·rw [h2]; exact BJC hlt (by simpa using hp)
 ·rw [h2]; exact AIS (by omega)
theorem CVT : AG Try.prog BLK (C2Gp.spec d2Gp) := HR C2Gp A2Gp [] [] BZZ (λ _ => by kernel_rfl) (λ _ => AB CXI AD) p2Gp (λ _ => IN rfl rfl) _
def C3Gp : Ctr := { C2Gp with val := λ (a : MGp) => .bool (decide (FE (λ i => !BJ a.q (gD a.l i)) a.l.length 0 >= 0)) }
def d3Gp : List AVal -> Heap -> Option (C3Gp.α × List (Nat × Nat) × List Nat) := d2Gp
def A3Gp : Ann := { ann 9 [(BLK, C2Gp.spec d2Gp)] with E := [100] }
def V3Gp (a : MGp) : Prop := AN Try.prog A3Gp BLU (AF BLU) (C3Gp.xs a) (AC (C3Gp.L a)) (C3Gp.val a) (C3Gp.keep a) [] []
theorem CWL (a : MGp) : (V3Gp a) = (((AE a.l.length λ (i : Nat) => gD a.l i).length = a.l.length /\ (∀ (i : Nat), i < (AE a.l.length λ (i : Nat) => gD a.l i).length -> (gD (AE a.l.length λ (i : Nat) => gD a.l i)
 i).st = (gD a.l i).st /\ (gD (AE a.l.length λ (i : Nat) => gD a.l i) i).lo = (gD a.l i).lo /\ (gD (AE a.l.length λ (i : Nat) => gD a.l i) i).hi = (gD a.l i).hi) /\ a.q.a0 = a.q.a0 /\ a.q.a1 = a.q.a1 /\ a.q.b0 = a.q.b0 /\
 a.q.b1 = a.q.b1 /\ a.q.a0 = a.q.a0 /\ a.q.a1 = a.q.a1 /\ a.q.b0 = a.q.b0 /\ a.q.b1 = a.q.b1 /\ (AE a.l.length λ (i : Nat) => gD a.l i).length < 4611686018427387904 /\ ∀ (x : Gau), List.Mem x (AE a.l.length λ (i : Nat) =>
 gD a.l i) -> (0 <= a.q.a0 /\ a.q.a0 < a.q.b0 /\ a.q.b0 <= 2000 /\ 0 <= a.q.a1 /\ a.q.a1 <= a.q.b1 /\ a.q.b1 <= 200000) /\ 0 <= x.st /\ x.st <= 2000 /\ 0 <= x.lo /\ x.lo <= x.hi /\ x.hi <= 200000) /\ decide (FE (λ (i : Nat) => !BJ a.q
 (gD a.l i)) a.l.length 0 >= 0) = decide (FE (λ (i : Nat) => !BJ a.q (gD (AE a.l.length λ (i : Nat) => gD a.l i) i)) (AE a.l.length λ (i : Nat) => gD a.l i).length 0 >= 0) /\ a.q.a0 = a.q.a0 /\ a.q.a1 = a.q.a1 /\
 a.q.b0 = a.q.b0 /\ a.q.b1 = a.q.b1) := by kernel_rfl
theorem CVM : AG Try.prog BMV (C3Gp.spec d3Gp) := Ctr.spec_ok (C := C3Gp) (λ (a : MGp) h => KZ (A := A3Gp) (ren := []) (fz := []) CGR (by kernel_rfl) (AB CVT AD) (by
 obtain ⟨h, hp⟩ : a.l.length < 4611686018427387904 /\ (∀ x ∈ a.l, (DR a.q /\ DJ x)) := h
 show V3Gp a; rw [CWL]; simp [h, TA]; exact hp)) _
def d4Gp : List AVal -> Heap -> Option (MGp × List (Nat × Nat) × List Nat)
 | [y, .fn _ [.d x] _], H => match dRow y H with
  | some (n, g, f) => some (⟨dLn x, AE n λ i => TJ (g i)⟩, [], f)
  | none => none
 | _, _ => none
def A4Gp : Ann := { ann 9 [(BMV, C3Gp.spec d3Gp)] with E := [] }
def C4Gp : Ctr := { ro := [], α := MGp, xs := λ a => [.d (AS a.l), fvGp a.q], L := λ a => [], val := λ a => .bool (a.l.all λ x => BJ a.q x), keep := λ a => [], pre := PGp }
def V4Gp (a : MGp) : Prop := AN Try.prog A4Gp F_eG (AF F_eG) (C4Gp.xs a) (AC (C4Gp.L a)) (C4Gp.val a) (C4Gp.keep a) [] []
theorem CWD (a : MGp) : (V4Gp a) = (((AE a.l.length λ (i : Nat) => gD a.l i).length = a.l.length /\ (∀ (i : Nat), i < (AE a.l.length λ (i : Nat) => gD a.l i).length -> (gD (AE a.l.length λ (i : Nat) => gD a.l i)
 i).st = (gD a.l i).st /\ (gD (AE a.l.length λ (i : Nat) => gD a.l i) i).lo = (gD a.l i).lo /\ (gD (AE a.l.length λ (i : Nat) => gD a.l i) i).hi = (gD a.l i).hi) /\ a.q.a0 = a.q.a0 /\ a.q.a1 = a.q.a1 /\ a.q.b0 = a.q.b0 /\
 a.q.b1 = a.q.b1 /\ a.q.a0 = a.q.a0 /\ a.q.a1 = a.q.a1 /\ a.q.b0 = a.q.b0 /\ a.q.b1 = a.q.b1 /\ (AE a.l.length λ (i : Nat) => gD a.l i).length < 4611686018427387904 /\ ∀ (x : Gau), List.Mem x (AE a.l.length λ (i : Nat) =>
 gD a.l i) -> (0 <= a.q.a0 /\ a.q.a0 < a.q.b0 /\ a.q.b0 <= 2000 /\ 0 <= a.q.a1 /\ a.q.a1 <= a.q.b1 /\ a.q.b1 <= 200000) /\ 0 <= x.st /\ x.st <= 2000 /\ 0 <= x.lo /\ x.lo <= x.hi /\ x.hi <= 200000) /\ (a.l.all λ (x : Gau) => BJ a.q x) =
 !decide (FE (λ (i : Nat) => !BJ a.q (gD (AE a.l.length λ (i : Nat) => gD a.l i) i)) (AE a.l.length λ (i : Nat) => gD a.l i).length 0 >= 0)) := by kernel_rfl
theorem CVY : AG Try.prog n_eG (C4Gp.spec d4Gp) := Ctr.spec_ok (C := C4Gp) (λ (a : MGp) h => KZ (A := A4Gp) (ren := []) (fz := []) CQF (by kernel_rfl) (AB CVM AD) (by
 have h' : a.l.length < 4611686018427387904 /\ (∀ x ∈ a.l, (DR a.q /\ DJ x)) := h
 show V4Gp a; rw [CWD]; simp only [CC, eq_self, implies_true, forall_const, ge_iff_le]
 rw [<- Y7]
 exact ⟨h', rfl⟩)) _
def LXIn (q : List Gau) : List (Nat × AObj) := [(101, .box [.d (AS q)])]
def KXIn (q : List Gau) : List (Nat × HCell) := [(101, .live (.box [.d (AS q)]))]
def fvIn (q : List Gau) : AVal := .fn (.func pS) [] [.bptr 101 0]
def BIn (q : List Gau) : AObj := .box [fvIn q]
structure EIn where
 q : List Gau
 e : Int
structure MIn where
 q : List Gau
 l : List Int
def C1In : Ctr := { ro := [100, 101], α := EIn, xs := λ a => [.d (CU a.e), .bptr 100 0], L := λ a => (100, BIn a.q) :: LXIn a.q, val := λ a => .bool (!BY a.e 0 (wr (a.q.length - 1))), keep := λ a => (100, .live (BIn a.q)) :: KXIn a.q }
def d1In : List AVal -> Heap -> Option (EIn × List (Nat × Nat) × List Nat)
 | [.d d, .bptr id _], H => match H id with
  | .live (.box [.fn _ _ [.bptr j _]]) => match H j with
   | .live (.box [.d (.list _ m h _)]) => some (⟨AE m λ i => TJ (h i), DH d⟩, [(100, id), (101, j)], [])
   | _ => none
  | _ => none
 | _, _ => none
def A1In : Ann := { ann 8 [(pS, C_nm1.spec CPC)] with E := [100, 101] }
def V1In (a : EIn) : Prop := AN Try.prog A1In CHI (AF CHI) (C1In.xs a) (AC (C1In.L a)) (C1In.val a) (C1In.keep a) [] []
theorem CWR (a : EIn) : (V1In a) = ((a.e = a.e /\ (AE a.q.length λ (i : Nat) => gD a.q i).length = a.q.length /\ (∀ (i : Nat), i < (AE a.q.length λ (i : Nat) => gD a.q i).length -> (gD (AE a.q.length λ (i : Nat)
 => gD a.q i) i).st = (gD a.q i).st /\ (gD (AE a.q.length λ (i : Nat) => gD a.q i) i).lo = (gD a.q i).lo /\ (gD (AE a.q.length λ (i : Nat) => gD a.q i) i).hi = (gD a.q i).hi) /\ a.q.length = (AE a.q.length λ (i :
 Nat) => gD a.q i).length /\ ∀ (i : Nat), i < a.q.length -> (gD a.q i).st = (gD (AE a.q.length λ (i : Nat) => gD a.q i) i).st /\ (gD a.q i).lo = (gD (AE a.q.length λ (i : Nat) => gD a.q i) i).lo /\ (gD a.q i).hi = (gD
 (AE a.q.length λ (i : Nat) => gD a.q i) i).hi) /\ (!BY a.e 0 (wr ((↑a.q.length : Int) - 1))) = !BY a.e 0 (wr ((↑(AE a.q.length λ (i : Nat) => gD a.q i).length : Int) - 1)) /\ a.q.length = a.q.length /\ ∀ (i : Nat),
 i < a.q.length -> (gD a.q i).st = (gD a.q i).st /\ (gD a.q i).lo = (gD a.q i).lo /\ (gD a.q i).hi = (gD a.q i).hi) := by kernel_rfl
theorem CWG : AG Try.prog BOD (C1In.spec d1In) := HR C1In (λ _ => A1In) [] [] CTV (λ _ => by kernel_rfl) (λ _ => AB CSV AD) (λ (a : EIn) h => by
 show V1In a; rw [CWR]; try simp [wr, TA]) (λ _ => IN rfl rfl) _
def d2In : List AVal -> Heap -> Option (MIn × List (Nat × Nat) × List Nat)
 | [y, .fn _ _ [.bptr id _]], H => match dRow y H with
  | some (n, g, f) => match H id with
   | .live (.box [.fn _ _ [.bptr j _]]) => match H j with
    | .live (.box [.d (.list _ m h _)]) => some (⟨AE m λ i => TJ (h i), AE n λ i => DH (g i)⟩, [(100, id), (101, j)], f)
    | _ => none
   | _ => none
  | none => none
 | _, _ => none
def A2In (a : MIn) : Ann := { ann 19 [(BOD, C1In.spec d1In)] with E := [100, 101], loops := λ id => if id = 2 then some [{ α := Nat, dflt := 0, T := λ k => ⟨[(0, .d (BC a.l)), (1, .fn (.func BOD) [] [.bptr 100 0]), (7, .int a.l.length), (8, .int k)], (100, .live (BIn a.q)) :: KXIn a.q⟩, inv := λ k => k <= a.l.length /\ FE (λ i => !BY (gD a.l i) 0 (wr (a.q.length - 1))) a.l.length 0 = FE (λ i => !BY (gD a.l i) 0 (wr (a.q.length - 1))) (a.l.length - k) k, meas := λ k => a.l.length - k }] else none }
def PIn (a : MIn) : List Prop := [a.l.length < 4611686018427387904 /\ True]
def C2In : Ctr := { ro := [100, 101], α := MIn, xs := λ a => [.d (BC a.l), .fn (.func BOD) [] [.bptr 100 0]], L := λ a => (100, BIn a.q) :: LXIn a.q, val := λ a => .int (FE (λ i => !BY (gD a.l i) 0 (wr (a.q.length - 1))) a.l.length 0), keep := λ a => (100, .live (BIn a.q)) :: KXIn a.q, pre := PIn }
def V2In (a : MIn) : Prop := AN Try.prog (A2In a) CGQ (AF CGQ) (C2In.xs a) (AC (C2In.L a)) (C2In.val a) (C2In.keep a) [] []
theorem CWK (a : MIn) : (V2In a) = ((∃ (a_1 : Nat), (a.l.length = a.l.length /\ (∀ (i : Nat), i < a.l.length -> gD a.l i = gD a.l i) /\ (↑a.l.length : Int) = (↑a.l.length : Int) /\ (↑a_1 : Int) = 0 /\ a.q.length =
 a.q.length /\ ∀ (i : Nat), i < a.q.length -> (gD a.q i).st = (gD a.q i).st /\ (gD a.q i).lo = (gD a.q i).lo /\ (gD a.q i).hi = (gD a.q i).hi) /\ a_1 <= a.l.length /\ FE (λ (i : Nat) => !BY (gD a.l i) 0 (wr ((↑a.q.length :
 Int) - 1))) a.l.length 0 = FE (λ (i : Nat) => !BY (gD a.l i) 0 (wr ((↑a.q.length : Int) - 1))) (a.l.length - a_1) a_1) /\ ∀ (a_1 : Nat), a_1 <= a.l.length /\ FE (λ (i : Nat) => !BY (gD a.l i) 0 (wr ((↑a.q.length :
 Int) - 1))) a.l.length 0 = FE (λ (i : Nat) => !BY (gD a.l i) 0 (wr ((↑a.q.length : Int) - 1))) (a.l.length - a_1) a_1 -> bif decide ((↑a_1 : Int) < (↑a.l.length : Int)) then ((0 <= (↑a_1 : Int) /\ (↑a_1 : Int) <
 (↑a.l.length : Int)) /\ gD a.l a_1 = gD a.l a_1 /\ (AE a.q.length λ (i : Nat) => gD a.q i).length = a.q.length /\ (∀ (i : Nat), i < (AE a.q.length λ (i : Nat) => gD a.q i).length -> (gD (AE a.q.length λ (i : Nat) =>
 gD a.q i) i).st = (gD a.q i).st /\ (gD (AE a.q.length λ (i : Nat) => gD a.q i) i).lo = (gD a.q i).lo /\ (gD (AE a.q.length λ (i : Nat) => gD a.q i) i).hi = (gD a.q i).hi) /\ a.q.length = (AE a.q.length λ (i : Nat)
 => gD a.q i).length /\ ∀ (i : Nat), i < a.q.length -> (gD a.q i).st = (gD (AE a.q.length λ (i : Nat) => gD a.q i) i).st /\ (gD a.q i).lo = (gD (AE a.q.length λ (i : Nat) => gD a.q i) i).lo /\ (gD a.q i).hi = (gD (AE
 a.q.length λ (i : Nat) => gD a.q i) i).hi) /\ bif !BY (gD a.l a_1) 0 (wr ((↑(AE a.q.length λ (i : Nat) => gD a.q i).length : Int) - 1)) then FE (λ (i : Nat) => !BY (gD a.l i) 0 (wr ((↑a.q.length : Int) - 1)))
 a.l.length 0 = (↑a_1 : Int) /\ a.q.length = a.q.length /\ ∀ (i : Nat), i < a.q.length -> (gD a.q i).st = (gD a.q i).st /\ (gD a.q i).lo = (gD a.q i).lo /\ (gD a.q i).hi = (gD a.q i).hi else ∃ (a_3 : Nat), (a.l.length =
 a.l.length /\ (∀ (i : Nat), i < a.l.length -> gD a.l i = gD a.l i) /\ (↑a.l.length : Int) = (↑a.l.length : Int) /\ (↑a_3 : Int) = IntKind.i64.wrap ((↑a_1 : Int) + 1) /\ a.q.length = a.q.length /\ ∀ (i : Nat), i < a.q.length ->
 (gD a.q i).st = (gD a.q i).st /\ (gD a.q i).lo = (gD a.q i).lo /\ (gD a.q i).hi = (gD a.q i).hi) /\ (a_3 <= a.l.length /\ FE (λ (i : Nat) => !BY (gD a.l i) 0 (wr ((↑a.q.length : Int) - 1))) a.l.length 0 = FE (λ (i :
 Nat) => !BY (gD a.l i) 0 (wr ((↑a.q.length : Int) - 1))) (a.l.length - a_3) a_3) /\ a.l.length - a_3 < a.l.length - a_1 else FE (λ (i : Nat) => !BY (gD a.l i) 0 (wr ((↑a.q.length : Int) - 1))) a.l.length 0 = -1 /\
 a.q.length = a.q.length /\ ∀ (i : Nat), i < a.q.length -> (gD a.q i).st = (gD a.q i).st /\ (gD a.q i).lo = (gD a.q i).lo /\ (gD a.q i).hi = (gD a.q i).hi) := by kernel_rfl
theorem p2In (a : MIn) (h : BK (PIn a)) : V2In a := by
 obtain ⟨h, hp⟩ : a.l.length < 4611686018427387904 /\ True := h
 rw [CWK]
 simp only [CC, eq_self, implies_true, forall_const]
 refine ⟨⟨0, rfl, Nat.zero_le _, rfl⟩, λ k ⟨h1, h2⟩ => ⟨λ hlt => ?_, λ hge => ?_⟩⟩
 ·have hlt : k < a.l.length := by omega
  refine ⟨⟨by omega, by omega⟩, λ hp => ?_, λ hp => ⟨k + 1, (BF (by omega)).symm, ⟨by omega, ?_⟩, by omega⟩⟩
  ·rw [h2]; exact pR hlt (by simpa using hp)
  ·rw [h2]; exact BJC hlt (by simpa using hp)
 ·rw [h2]; exact AIS (by omega)
theorem CXJ : AG Try.prog CGM (C2In.spec d2In) := HR C2In A2In [] [] CRT (λ _ => by kernel_rfl) (λ _ => AB CWG AD) p2In (λ _ => IN rfl rfl) _
def C3In : Ctr := { C2In with val := λ (a : MIn) => .bool (decide (FE (λ i => !BY (gD a.l i) 0 (wr (a.q.length - 1))) a.l.length 0 >= 0)) }
def d3In : List AVal -> Heap -> Option (C3In.α × List (Nat × Nat) × List Nat) := d2In
def A3In : Ann := { ann 9 [(CGM, C2In.spec d2In)] with E := [100, 101] }
def V3In (a : MIn) : Prop := AN Try.prog A3In CBL (AF CBL) (C3In.xs a) (AC (C3In.L a)) (C3In.val a) (C3In.keep a) [] []
theorem CWX (a : MIn) : (V3In a) = (((AE a.l.length λ (i : Nat) => gD a.l i).length = a.l.length /\ (∀ (i : Nat), i < (AE a.l.length λ (i : Nat) => gD a.l i).length -> gD (AE a.l.length λ (i : Nat) => gD a.l i)
 i = gD a.l i) /\ (AE a.q.length λ (i : Nat) => gD a.q i).length = a.q.length /\ (∀ (i : Nat), i < (AE a.q.length λ (i : Nat) => gD a.q i).length -> (gD (AE a.q.length λ (i : Nat) => gD a.q i) i).st = (gD a.q i).st
 /\ (gD (AE a.q.length λ (i : Nat) => gD a.q i) i).lo = (gD a.q i).lo /\ (gD (AE a.q.length λ (i : Nat) => gD a.q i) i).hi = (gD a.q i).hi) /\ a.q.length = (AE a.q.length λ (i : Nat) => gD a.q i).length /\ (∀ (i :
 Nat), i < a.q.length -> (gD a.q i).st = (gD (AE a.q.length λ (i : Nat) => gD a.q i) i).st /\ (gD a.q i).lo = (gD (AE a.q.length λ (i : Nat) => gD a.q i) i).lo /\ (gD a.q i).hi = (gD (AE a.q.length λ (i : Nat) => gD
 a.q i) i).hi) /\ (AE a.l.length λ (i : Nat) => gD a.l i).length < 4611686018427387904 /\ True) /\ decide (FE (λ (i : Nat) => !BY (gD a.l i) 0 (wr ((↑a.q.length : Int) - 1))) a.l.length 0 >= 0) = decide (FE (λ (i :
 Nat) => !BY (gD (AE a.l.length λ (i : Nat) => gD a.l i) i) 0 (wr ((↑(AE a.q.length λ (i : Nat) => gD a.q i).length : Int) - 1))) (AE a.l.length λ (i : Nat) => gD a.l i).length 0 >= 0) /\ a.q.length = a.q.length /\
 ∀ (i : Nat), i < a.q.length -> (gD a.q i).st = (gD a.q i).st /\ (gD a.q i).lo = (gD a.q i).lo /\ (gD a.q i).hi = (gD a.q i).hi) := by kernel_rfl
theorem CWF : AG Try.prog CFM (C3In.spec d3In) := Ctr.spec_ok (C := C3In) (λ (a : MIn) h => KZ (A := A3In) (ren := []) (fz := []) CUD (by kernel_rfl) (AB CXJ AD) (by
 obtain ⟨h, hp⟩ : a.l.length < 4611686018427387904 /\ True := h
 show V3In a; rw [CWX]; simp [h, TA])) _
def d4In : List AVal -> Heap -> Option (MIn × List (Nat × Nat) × List Nat)
 | [y, .fn _ _ [.bptr j _]], H => match dRow y H with
  | some (n, g, f) => match H j with
   | .live (.box [.d (.list _ m h _)]) => some (⟨AE m λ i => TJ (h i), AE n λ i => DH (g i)⟩, [(101, j)], f)
   | _ => none
  | none => none
 | _, _ => none
def A4In : Ann := { ann 9 [(CFM, C3In.spec d3In)] with E := [101] }
def C4In : Ctr := { ro := [101], α := MIn, xs := λ a => [.d (BC a.l), fvIn a.q], L := λ a => LXIn a.q, val := λ a => .bool (a.l.all λ x => BY x 0 (wr (a.q.length - 1))), keep := λ a => KXIn a.q, pre := PIn }
def V4In (a : MIn) : Prop := AN Try.prog A4In F_eI (AF F_eI) (C4In.xs a) (AC (C4In.L a)) (C4In.val a) (C4In.keep a) [] []
theorem CXG (a : MIn) : (V4In a) = (((AE a.l.length λ (i : Nat) => gD a.l i).length = a.l.length /\ (∀ (i : Nat), i < (AE a.l.length λ (i : Nat) => gD a.l i).length -> gD (AE a.l.length λ (i : Nat) => gD a.l i)
 i = gD a.l i) /\ (AE a.q.length λ (i : Nat) => gD a.q i).length = a.q.length /\ (∀ (i : Nat), i < (AE a.q.length λ (i : Nat) => gD a.q i).length -> (gD (AE a.q.length λ (i : Nat) => gD a.q i) i).st = (gD a.q i).st
 /\ (gD (AE a.q.length λ (i : Nat) => gD a.q i) i).lo = (gD a.q i).lo /\ (gD (AE a.q.length λ (i : Nat) => gD a.q i) i).hi = (gD a.q i).hi) /\ a.q.length = (AE a.q.length λ (i : Nat) => gD a.q i).length /\ (∀ (i :
 Nat), i < a.q.length -> (gD a.q i).st = (gD (AE a.q.length λ (i : Nat) => gD a.q i) i).st /\ (gD a.q i).lo = (gD (AE a.q.length λ (i : Nat) => gD a.q i) i).lo /\ (gD a.q i).hi = (gD (AE a.q.length λ (i : Nat) => gD
 a.q i) i).hi) /\ (AE a.l.length λ (i : Nat) => gD a.l i).length < 4611686018427387904 /\ True) /\ (a.l.all λ (x : Int) => BY x 0 (wr ((↑a.q.length : Int) - 1))) = !decide (FE (λ (i : Nat) => !BY (gD (AE
 a.l.length λ (i : Nat) => gD a.l i) i) 0 (wr ((↑(AE a.q.length λ (i : Nat) => gD a.q i).length : Int) - 1))) (AE a.l.length λ (i : Nat) => gD a.l i).length 0 >= 0) /\ a.q.length = a.q.length /\ ∀ (i : Nat), i <
 a.q.length -> (gD a.q i).st = (gD a.q i).st /\ (gD a.q i).lo = (gD a.q i).lo /\ (gD a.q i).hi = (gD a.q i).hi) := by kernel_rfl
theorem CWS : AG Try.prog n_eI (C4In.spec d4In) := Ctr.spec_ok (C := C4In) (λ (a : MIn) h => KZ (A := A4In) (ren := []) (fz := []) CVR (by kernel_rfl) (AB CWF AD) (by
 have h' : a.l.length < 4611686018427387904 /\ True := h
 show V4In a; rw [CXG]; simp only [CC, eq_self, implies_true, forall_const, ge_iff_le]
 rw [<- Y7]
 exact ⟨h'.1, rfl⟩)) _
end Go.Bal
