/- Package rating: every. Printed by genratE.py. -/
import Derived.Test.YtoihhodbkimedaaGreatRatA
set_option linter.unusedVariables false
set_option linter.unusedSimpArgs false
namespace Go.Bal
open Go Go.Sym Go.Proofs
def allB (p : Nat -> Bool) : Nat -> Bool
 | 0 => true
 | n + 1 => allB p n && p n
theorem S9 {p : Nat -> Bool} : ∀ {n : Nat}, allB p n = true ↔ ∀ i, i < n -> p i = true
 | 0 => by simp [allB]
 | n + 1 => by
  simp only [allB, Bool.and_eq_true, S9 (n := n)]
  constructor
  ·intro h i hi
   by_cases he : i = n
   ·subst he; exact h.2
   ·exact h.1 i (by omega)
  ·exact λ h => ⟨λ i hi => h i (by omega), h n (by omega)⟩
theorem AXX {p : Nat -> Bool} : ∀ {n k : Nat}, (0 <= DB p n k) ↔ ∃ i, k <= i /\ i < k + n /\ p i = true
 | 0, k => by simp [DB]; omega
 | n + 1, k => by
  simp only [DB]
  by_cases h : p k = true
  ·rw [if_pos h]
   constructor
   ·intro _; exact ⟨k, Nat.le_refl _, by omega, h⟩
   ·intro _; omega
  ·rw [if_neg h, AXX (n := n) (k := k + 1)]
   constructor
   ·rintro ⟨i, h1, h2, h3⟩; exact ⟨i, by omega, by omega, h3⟩
   ·rintro ⟨i, h1, h2, h3⟩
    refine ⟨i, ?_, by omega, h3⟩
    by_cases he : i = k
    ·subst he; exact absurd h3 h
    ·omega
theorem BIP {p : Nat -> Bool} {n : Nat} : (!decide (0 <= DB (λ i => !p i) n 0)) = allB p n := by
 rw [Bool.eq_iff_iff, S9]
 simp only [Bool.not_eq_true', decide_eq_false_iff_not, AXX, Nat.zero_le, Nat.zero_add, true_and]
 constructor
 ·intro h i hi
  cases hp : p i with
  | true => rfl
  | false => exact (h ⟨i, hi, by simp [hp]⟩).elim
 ·rintro h ⟨i, hi, hp⟩
  rw [h i hi] at hp; cases hp
theorem Mt {α : Type} [Inhabited α] {p : α -> Bool} {l : List α} : (!decide (0 <= DB (λ i => !p (gD l i)) l.length 0)) = l.all p := by
 rw [BIP, Bool.eq_iff_iff, S9, List.all_eq_true]
 exact ⟨λ h x hx => by obtain ⟨i, hi, rfl⟩ := ALG hx; exact h i hi, λ h i hi => h _ (EG hi)⟩
structure LInt where
 q : List Gau
 e : Int
def C_nm1 : Ctr := { ro := [101], α := LInt, xs := λ a => [.int a.e, .bptr 101 0], L := λ a => [(101, .box [.d (BE a.q)])], val := λ a => .bool (CJ a.e 0 (wr (a.q.length - 1))), keep := λ a => [(101, .live (.box [.d (BE a.q)]))] }
def BRJ : List AVal -> Heap -> Option (LInt × List (Nat × Nat) × List Nat)
 | [.d d, .bptr id _], H => match H id with
  | .live (.box [.d (.list _ n g _)]) => some (⟨AD n λ i => SD (g i), CT d⟩, [(101, id)], [])
  | _ => none
 | _, _ => none
def BRG : Ann := { ann 9 [(Qw, Uh)] with E := [101] }
def BRX (a : LInt) : Prop := AO Try.prog BRG AAW (AF AAW) (C_nm1.xs a) (AC (C_nm1.L a)) (C_nm1.val a) (C_nm1.keep a) [] []
theorem BTV (a : LInt) : (BRX a) = (CJ a.e 0 (wr ((↑a.q.length : Int) - 1)) = CJ a.e 0 (IntKind.i64.wrap ((↑a.q.length : Int) - 1)) /\ a.q.length = a.q.length /\ ∀ (i : Nat), i < a.q.length -> (gD a.q i).st = (gD a.q
 i).st /\ (gD a.q i).lo = (gD a.q i).lo /\ (gD a.q i).hi = (gD a.q i).hi) := by kernel_rfl
theorem BTT : AG Try.prog kC (C_nm1.spec BRJ) := GD C_nm1 (λ _ => BRG) [] [] BDS (λ _ => by kernel_rfl) (λ _ => AB XG AE) (λ (a : LInt) _ => by
 show BRX a; rw [BTV]; simp [wr, JN]) (λ _ => GJ rfl rfl) _
def fvGr (q : One) : AVal := .fn (.func AZW) [] []
def BGr (q : One) : AObj := .box [fvGr q]
structure EGr where
 q : One
 e : Gau
structure MGr where
 q : One
 l : List Gau
def C1Gr : Ctr := { ro := [100], α := EGr, xs := λ a => [.d (uX a.e), .bptr 100 0], L := λ a => (100, BGr a.q) :: [], val := λ a => .bool (!Dz a.e), keep := λ a => (100, .live (BGr a.q)) :: [] }
def d1Gr : List AVal -> Heap -> Option (EGr × List (Nat × Nat) × List Nat)
 | [.d d, .bptr id _], H => some (⟨default, SD d⟩, [(100, id)], [])
 | _, _ => none
def A1Gr : Ann := { ann 8 [(AZW, BRR)] with E := [100] }
def V1Gr (a : EGr) : Prop := AO Try.prog A1Gr AUN (AF AUN) (C1Gr.xs a) (AC (C1Gr.L a)) (C1Gr.val a) (C1Gr.keep a) [] []
theorem BYR (a : EGr) : (V1Gr a) = ((!Dz a.e) = !Dz a.e) := by kernel_rfl
theorem BYD : AG Try.prog iA (C1Gr.spec d1Gr) := GD C1Gr (λ _ => A1Gr) [] [] BEP (λ _ => by kernel_rfl) (λ _ => AB BUA AE) (λ (a : EGr) h => by
 show V1Gr a; rw [BYR]; try simp [wr, JN]) (λ _ => GJ rfl rfl) _
def d2Gr : List AVal -> Heap -> Option (MGr × List (Nat × Nat) × List Nat)
 | [y, .fn _ _ [.bptr id _]], H => match E5 y H with
  | some (n, g, f) => some (⟨default, AD n λ i => SD (g i)⟩, [(100, id)], f)
  | none => none
 | _, _ => none
def A2Gr (a : MGr) : Ann := { ann 19 [(iA, C1Gr.spec d1Gr)] with E := [100], loops := λ id => if id = 2 then some [{ α := Nat, dflt := 0, T := λ k => ⟨[(0, .d (BE a.l)), (1, .fn (.func iA) [] [.bptr 100 0]), (7, .int a.l.length), (8, .int k)], (100, .live (BGr a.q)) :: []⟩, inv := λ k => k <= a.l.length /\ DB (λ i => !Dz (gD a.l i)) a.l.length 0 = DB (λ i => !Dz (gD a.l i)) (a.l.length - k) k, meas := λ k => a.l.length - k }] else none }
def PGr (a : MGr) : List Prop := [a.l.length < 4611686018427387904 /\ True]
def C2Gr : Ctr := { ro := [100], α := MGr, xs := λ a => [.d (BE a.l), .fn (.func iA) [] [.bptr 100 0]], L := λ a => (100, BGr a.q) :: [], val := λ a => .int (DB (λ i => !Dz (gD a.l i)) a.l.length 0), keep := λ a => (100, .live (BGr a.q)) :: [], pre := PGr }
def V2Gr (a : MGr) : Prop := AO Try.prog (A2Gr a) AUR (AF AUR) (C2Gr.xs a) (AC (C2Gr.L a)) (C2Gr.val a) (C2Gr.keep a) [] []
theorem BZC (a : MGr) : (V2Gr a) = ((∃ (a_1 : Nat), (a.l.length = a.l.length /\ (∀ (i : Nat), i < a.l.length -> (gD a.l i).st = (gD a.l i).st /\ (gD a.l i).lo = (gD a.l i).lo /\ (gD a.l i).hi = (gD a.l i).hi) /\
 (↑a.l.length : Int) = (↑a.l.length : Int) /\ (↑a_1 : Int) = 0) /\ a_1 <= a.l.length /\ DB (λ (i : Nat) => !Dz (gD a.l i)) a.l.length 0 = DB (λ (i : Nat) => !Dz (gD a.l i)) (a.l.length - a_1) a_1) /\ ∀ (a_1 : Nat), a_1
 <= a.l.length /\ DB (λ (i : Nat) => !Dz (gD a.l i)) a.l.length 0 = DB (λ (i : Nat) => !Dz (gD a.l i)) (a.l.length - a_1) a_1 -> bif decide ((↑a_1 : Int) < (↑a.l.length : Int)) then ((0 <= (↑a_1 : Int) /\ (↑a_1 : Int)
 < (↑a.l.length : Int)) /\ (gD a.l a_1).st = (gD a.l a_1).st /\ (gD a.l a_1).lo = (gD a.l a_1).lo /\ (gD a.l a_1).hi = (gD a.l a_1).hi) /\ bif !Dz (gD a.l a_1) then DB (λ (i : Nat) => !Dz (gD a.l i)) a.l.length 0 = (↑a_1
 : Int) else ∃ (a_3 : Nat), (a.l.length = a.l.length /\ (∀ (i : Nat), i < a.l.length -> (gD a.l i).st = (gD a.l i).st /\ (gD a.l i).lo = (gD a.l i).lo /\ (gD a.l i).hi = (gD a.l i).hi) /\ (↑a.l.length : Int) = (↑a.l.length :
 Int) /\ (↑a_3 : Int) = IntKind.i64.wrap ((↑a_1 : Int) + 1)) /\ (a_3 <= a.l.length /\ DB (λ (i : Nat) => !Dz (gD a.l i)) a.l.length 0 = DB (λ (i : Nat) => !Dz (gD a.l i)) (a.l.length - a_3) a_3) /\ a.l.length - a_3 <
 a.l.length - a_1 else DB (λ (i : Nat) => !Dz (gD a.l i)) a.l.length 0 = -1) := by kernel_rfl
theorem p2Gr (a : MGr) (h : BB (PGr a)) : V2Gr a := by
 obtain ⟨h, hp⟩ : a.l.length < 4611686018427387904 /\ True := h
 rw [BZC]
 simp only [CC, eq_self, implies_true, forall_const]
 refine ⟨⟨0, rfl, Nat.zero_le _, rfl⟩, λ k ⟨h1, h2⟩ => ⟨λ hlt => ?_, λ hge => ?_⟩⟩
 ·have hlt : k < a.l.length := by omega
  refine ⟨⟨by omega, by omega⟩, λ hp => ?_, λ hp => ⟨k + 1, (BH (by omega)).symm, ⟨by omega, ?_⟩, by omega⟩⟩
  ·rw [h2]; exact Fk hlt (by simpa using hp)
  ·rw [h2]; exact AFD hlt (by simpa using hp)
 ·rw [h2]; exact iY (by omega)
theorem BYL : AG Try.prog ATB (C2Gr.spec d2Gr) := GD C2Gr A2Gr [] [] BKC (λ _ => by kernel_rfl) (λ _ => AB BYD AE) p2Gr (λ _ => GJ rfl rfl) _
def C3Gr : Ctr := { C2Gr with val := λ (a : MGr) => .bool (decide (DB (λ i => !Dz (gD a.l i)) a.l.length 0 >= 0)) }
def d3Gr : List AVal -> Heap -> Option (C3Gr.α × List (Nat × Nat) × List Nat) := d2Gr
def A3Gr : Ann := { ann 9 [(ATB, C2Gr.spec d2Gr)] with E := [100] }
def V3Gr (a : MGr) : Prop := AO Try.prog A3Gr ATW (AF ATW) (C3Gr.xs a) (AC (C3Gr.L a)) (C3Gr.val a) (C3Gr.keep a) [] []
theorem BXE (a : MGr) : (V3Gr a) = (((AD a.l.length λ (i : Nat) => gD a.l i).length = a.l.length /\ (∀ (i : Nat), i < (AD a.l.length λ (i : Nat) => gD a.l i).length -> (gD (AD a.l.length λ (i : Nat) => gD a.l i)
 i).st = (gD a.l i).st /\ (gD (AD a.l.length λ (i : Nat) => gD a.l i) i).lo = (gD a.l i).lo /\ (gD (AD a.l.length λ (i : Nat) => gD a.l i) i).hi = (gD a.l i).hi) /\ (AD a.l.length λ (i : Nat) => gD a.l i).length <
 4611686018427387904 /\ True) /\ decide (DB (λ (i : Nat) => !Dz (gD a.l i)) a.l.length 0 >= 0) = decide (DB (λ (i : Nat) => !Dz (gD (AD a.l.length λ (i : Nat) => gD a.l i) i)) (AD a.l.length λ (i : Nat) => gD
 a.l i).length 0 >= 0)) := by kernel_rfl
theorem BXV : AG Try.prog AUU (C3Gr.spec d3Gr) := Ctr.spec_ok (C := C3Gr) (λ (a : MGr) h => JZ (A := A3Gr) (ren := []) (fz := []) BHW (by kernel_rfl) (AB BYL AE) (by
 obtain ⟨h, hp⟩ : a.l.length < 4611686018427387904 /\ True := h
 show V3Gr a; rw [BXE]; simp [h, JN])) _
def d4Gr : List AVal -> Heap -> Option (MGr × List (Nat × Nat) × List Nat)
 | [y, .fn _ _ _], H => match E5 y H with
  | some (n, g, f) => some (⟨default, AD n λ i => SD (g i)⟩, [], f)
  | none => none
 | _, _ => none
def A4Gr : Ann := { ann 9 [(AUU, C3Gr.spec d3Gr)] with E := [] }
def C4Gr : Ctr := { ro := [], α := MGr, xs := λ a => [.d (BE a.l), fvGr a.q], L := λ a => [], val := λ a => .bool (a.l.all λ x => Dz x), keep := λ a => [], pre := PGr }
def V4Gr (a : MGr) : Prop := AO Try.prog A4Gr F_eG (AF F_eG) (C4Gr.xs a) (AC (C4Gr.L a)) (C4Gr.val a) (C4Gr.keep a) [] []
theorem BXW (a : MGr) : (V4Gr a) = (((AD a.l.length λ (i : Nat) => gD a.l i).length = a.l.length /\ (∀ (i : Nat), i < (AD a.l.length λ (i : Nat) => gD a.l i).length -> (gD (AD a.l.length λ (i : Nat) => gD a.l i)
 i).st = (gD a.l i).st /\ (gD (AD a.l.length λ (i : Nat) => gD a.l i) i).lo = (gD a.l i).lo /\ (gD (AD a.l.length λ (i : Nat) => gD a.l i) i).hi = (gD a.l i).hi) /\ (AD a.l.length λ (i : Nat) => gD a.l i).length <
 4611686018427387904 /\ True) /\ (a.l.all λ (x : Gau) => Dz x) = !decide (DB (λ (i : Nat) => !Dz (gD (AD a.l.length λ (i : Nat) => gD a.l i) i)) (AD a.l.length λ (i : Nat) => gD a.l i).length 0 >= 0)) := by
 kernel_rfl
theorem BWW : AG Try.prog n_eG (C4Gr.spec d4Gr) := Ctr.spec_ok (C := C4Gr) (λ (a : MGr) h => JZ (A := A4Gr) (ren := []) (fz := []) BRI (by kernel_rfl) (AB BXV AE) (by
 have h' : a.l.length < 4611686018427387904 /\ True := h
 show V4Gr a; rw [BXW]; simp only [CC, eq_self, implies_true, forall_const, ge_iff_le]
 rw [<- Mt]
 exact ⟨h'.1, rfl⟩)) _
def fvGp (q : Ln) : AVal := .fn (.func Hp) [.d (eLn q)] []
def BGp (q : Ln) : AObj := .box [fvGp q]
structure EGp where
 q : Ln
 e : Gau
structure MGp where
 q : Ln
 l : List Gau
def C1Gp : Ctr := { ro := [100], α := EGp, xs := λ a => [.d (uX a.e), .bptr 100 0], L := λ a => (100, BGp a.q) :: [], val := λ a => .bool (!BF a.q a.e), keep := λ a => (100, .live (BGp a.q)) :: [], pre := λ a => [(HY a.q /\ Dd a.e)] }
def d1Gp : List AVal -> Heap -> Option (EGp × List (Nat × Nat) × List Nat)
 | [.d d, .bptr id _], H => match H id with
  | .live (.box [.fn _ [.d x] _]) => some (⟨dLn x, SD d⟩, [(100, id)], [])
  | _ => none
 | _, _ => none
def A1Gp : Ann := { ann 8 [(Hp, W2)] with E := [100] }
def V1Gp (a : EGp) : Prop := AO Try.prog A1Gp AUN (AF AUN) (C1Gp.xs a) (AC (C1Gp.L a)) (C1Gp.val a) (C1Gp.keep a) [] []
theorem BXH (a : EGp) : (V1Gp a) = (((0 <= a.q.a0 /\ a.q.a0 < a.q.b0 /\ a.q.b0 <= 2000 /\ 0 <= a.q.a1 /\ a.q.a1 <= a.q.b1 /\ a.q.b1 <= 200000) /\ 0 <= a.e.st /\ a.e.st <= 2000 /\ 0 <= a.e.lo /\ a.e.lo <= a.e.hi /\ a.e.hi <= 200000) /\
 (!BF a.q a.e) = !BF a.q a.e /\ a.q.a0 = a.q.a0 /\ a.q.a1 = a.q.a1 /\ a.q.b0 = a.q.b0 /\ a.q.b1 = a.q.b1) := by kernel_rfl
theorem BZH : AG Try.prog iA (C1Gp.spec d1Gp) := GD C1Gp (λ _ => A1Gp) [] [] BEP (λ _ => by kernel_rfl) (λ _ => AB AJU AE) (λ (a : EGp) h => by
 show V1Gp a; rw [BXH]; exact ⟨h, by simp⟩) (λ _ => GJ rfl rfl) _
def d2Gp : List AVal -> Heap -> Option (MGp × List (Nat × Nat) × List Nat)
 | [y, .fn _ _ [.bptr id _]], H => match E5 y H with
  | some (n, g, f) => match H id with
   | .live (.box [.fn _ [.d x] _]) => some (⟨dLn x, AD n λ i => SD (g i)⟩, [(100, id)], f)
   | _ => none
  | none => none
 | _, _ => none
def A2Gp (a : MGp) : Ann := { ann 19 [(iA, C1Gp.spec d1Gp)] with E := [100], loops := λ id => if id = 2 then some [{ α := Nat, dflt := 0, T := λ k => ⟨[(0, .d (BE a.l)), (1, .fn (.func iA) [] [.bptr 100 0]), (7, .int a.l.length), (8, .int k)], (100, .live (BGp a.q)) :: []⟩, inv := λ k => k <= a.l.length /\ DB (λ i => !BF a.q (gD a.l i)) a.l.length 0 = DB (λ i => !BF a.q (gD a.l i)) (a.l.length - k) k, meas := λ k => a.l.length - k }] else none }
def PGp (a : MGp) : List Prop := [a.l.length < 4611686018427387904 /\ (∀ x ∈ a.l, (HY a.q /\ Dd x))]
def C2Gp : Ctr := { ro := [100], α := MGp, xs := λ a => [.d (BE a.l), .fn (.func iA) [] [.bptr 100 0]], L := λ a => (100, BGp a.q) :: [], val := λ a => .int (DB (λ i => !BF a.q (gD a.l i)) a.l.length 0), keep := λ a => (100, .live (BGp a.q)) :: [], pre := PGp }
def V2Gp (a : MGp) : Prop := AO Try.prog (A2Gp a) AUR (AF AUR) (C2Gp.xs a) (AC (C2Gp.L a)) (C2Gp.val a) (C2Gp.keep a) [] []
theorem BXR (a : MGp) : (V2Gp a) = ((∃ (a_1 : Nat), (a.l.length = a.l.length /\ (∀ (i : Nat), i < a.l.length -> (gD a.l i).st = (gD a.l i).st /\ (gD a.l i).lo = (gD a.l i).lo /\ (gD a.l i).hi = (gD a.l i).hi) /\
 (↑a.l.length : Int) = (↑a.l.length : Int) /\ (↑a_1 : Int) = 0 /\ a.q.a0 = a.q.a0 /\ a.q.a1 = a.q.a1 /\ a.q.b0 = a.q.b0 /\ a.q.b1 = a.q.b1) /\ a_1 <= a.l.length /\ DB (λ (i : Nat) => !BF a.q (gD a.l i)) a.l.length 0 = DB
 (λ (i : Nat) => !BF a.q (gD a.l i)) (a.l.length - a_1) a_1) /\ ∀ (a_1 : Nat), a_1 <= a.l.length /\ DB (λ (i : Nat) => !BF a.q (gD a.l i)) a.l.length 0 = DB (λ (i : Nat) => !BF a.q (gD a.l i)) (a.l.length -
 a_1) a_1 -> bif decide ((↑a_1 : Int) < (↑a.l.length : Int)) then ((0 <= (↑a_1 : Int) /\ (↑a_1 : Int) < (↑a.l.length : Int)) /\ (gD a.l a_1).st = (gD a.l a_1).st /\ (gD a.l a_1).lo = (gD a.l a_1).lo /\ (gD a.l a_1).hi = (gD a.l
 a_1).hi /\ a.q.a0 = a.q.a0 /\ a.q.a1 = a.q.a1 /\ a.q.b0 = a.q.b0 /\ a.q.b1 = a.q.b1 /\ a.q.a0 = a.q.a0 /\ a.q.a1 = a.q.a1 /\ a.q.b0 = a.q.b0 /\ a.q.b1 = a.q.b1 /\ (0 <= a.q.a0 /\ a.q.a0 < a.q.b0 /\ a.q.b0 <= 2000 /\ 0 <= a.q.a1 /\
 a.q.a1 <= a.q.b1 /\ a.q.b1 <= 200000) /\ 0 <= (gD a.l a_1).st /\ (gD a.l a_1).st <= 2000 /\ 0 <= (gD a.l a_1).lo /\ (gD a.l a_1).lo <= (gD a.l a_1).hi /\ (gD a.l a_1).hi <= 200000) /\ bif !BF a.q (gD a.l a_1) then DB (λ (i :
 Nat) => !BF a.q (gD a.l i)) a.l.length 0 = (↑a_1 : Int) /\ a.q.a0 = a.q.a0 /\ a.q.a1 = a.q.a1 /\ a.q.b0 = a.q.b0 /\ a.q.b1 = a.q.b1 else ∃ (a_3 : Nat), (a.l.length = a.l.length /\ (∀ (i : Nat), i < a.l.length -> (gD a.l
 i).st = (gD a.l i).st /\ (gD a.l i).lo = (gD a.l i).lo /\ (gD a.l i).hi = (gD a.l i).hi) /\ (↑a.l.length : Int) = (↑a.l.length : Int) /\ (↑a_3 : Int) = IntKind.i64.wrap ((↑a_1 : Int) + 1) /\ a.q.a0 = a.q.a0 /\ a.q.a1 = a.q.a1
 /\ a.q.b0 = a.q.b0 /\ a.q.b1 = a.q.b1) /\ (a_3 <= a.l.length /\ DB (λ (i : Nat) => !BF a.q (gD a.l i)) a.l.length 0 = DB (λ (i : Nat) => !BF a.q (gD a.l i)) (a.l.length - a_3) a_3) /\ a.l.length - a_3 < a.l.length
 - a_1 else DB (λ (i : Nat) => !BF a.q (gD a.l i)) a.l.length 0 = -1 /\ a.q.a0 = a.q.a0 /\ a.q.a1 = a.q.a1 /\ a.q.b0 = a.q.b0 /\ a.q.b1 = a.q.b1) := by kernel_rfl
theorem p2Gp (a : MGp) (h : BB (PGp a)) : V2Gp a := by
 obtain ⟨h, hp⟩ : a.l.length < 4611686018427387904 /\ (∀ x ∈ a.l, (HY a.q /\ Dd x)) := h
 rw [BXR]
 simp only [CC, eq_self, implies_true, forall_const]
 refine ⟨⟨0, rfl, Nat.zero_le _, rfl⟩, λ k ⟨h1, h2⟩ => ⟨λ hlt => ?_, λ hge => ?_⟩⟩
 ·have hlt : k < a.l.length := by omega
  refine ⟨⟨⟨by omega, by omega⟩, hp _ (EG hlt)⟩, λ hp => ?_, λ hp => ⟨k + 1, (BH (by omega)).symm, ⟨by omega, ?_⟩, by omega⟩⟩
  ·rw [h2]; exact Fk hlt (by simpa using hp)
  ·rw [h2]; exact AFD hlt (by simpa using hp)
 ·rw [h2]; exact iY (by omega)
theorem BWU : AG Try.prog ATB (C2Gp.spec d2Gp) := GD C2Gp A2Gp [] [] BKC (λ _ => by kernel_rfl) (λ _ => AB BZH AE) p2Gp (λ _ => GJ rfl rfl) _
def C3Gp : Ctr := { C2Gp with val := λ (a : MGp) => .bool (decide (DB (λ i => !BF a.q (gD a.l i)) a.l.length 0 >= 0)) }
def d3Gp : List AVal -> Heap -> Option (C3Gp.α × List (Nat × Nat) × List Nat) := d2Gp
def A3Gp : Ann := { ann 9 [(ATB, C2Gp.spec d2Gp)] with E := [100] }
def V3Gp (a : MGp) : Prop := AO Try.prog A3Gp ATW (AF ATW) (C3Gp.xs a) (AC (C3Gp.L a)) (C3Gp.val a) (C3Gp.keep a) [] []
theorem BXK (a : MGp) : (V3Gp a) = (((AD a.l.length λ (i : Nat) => gD a.l i).length = a.l.length /\ (∀ (i : Nat), i < (AD a.l.length λ (i : Nat) => gD a.l i).length -> (gD (AD a.l.length λ (i : Nat) => gD a.l i)
 i).st = (gD a.l i).st /\ (gD (AD a.l.length λ (i : Nat) => gD a.l i) i).lo = (gD a.l i).lo /\ (gD (AD a.l.length λ (i : Nat) => gD a.l i) i).hi = (gD a.l i).hi) /\ a.q.a0 = a.q.a0 /\ a.q.a1 = a.q.a1 /\ a.q.b0 = a.q.b0 /\
 a.q.b1 = a.q.b1 /\ a.q.a0 = a.q.a0 /\ a.q.a1 = a.q.a1 /\ a.q.b0 = a.q.b0 /\ a.q.b1 = a.q.b1 /\ (AD a.l.length λ (i : Nat) => gD a.l i).length < 4611686018427387904 /\ ∀ (x : Gau), List.Mem x (AD a.l.length λ (i : Nat) =>
 gD a.l i) -> (0 <= a.q.a0 /\ a.q.a0 < a.q.b0 /\ a.q.b0 <= 2000 /\ 0 <= a.q.a1 /\ a.q.a1 <= a.q.b1 /\ a.q.b1 <= 200000) /\ 0 <= x.st /\ x.st <= 2000 /\ 0 <= x.lo /\ x.lo <= x.hi /\ x.hi <= 200000) /\ decide (DB (λ (i : Nat) => !BF a.q
 (gD a.l i)) a.l.length 0 >= 0) = decide (DB (λ (i : Nat) => !BF a.q (gD (AD a.l.length λ (i : Nat) => gD a.l i) i)) (AD a.l.length λ (i : Nat) => gD a.l i).length 0 >= 0) /\ a.q.a0 = a.q.a0 /\ a.q.a1 = a.q.a1 /\
 a.q.b0 = a.q.b0 /\ a.q.b1 = a.q.b1) := by kernel_rfl
theorem BYE : AG Try.prog AUU (C3Gp.spec d3Gp) := Ctr.spec_ok (C := C3Gp) (λ (a : MGp) h => JZ (A := A3Gp) (ren := []) (fz := []) BHW (by kernel_rfl) (AB BWU AE) (by
 obtain ⟨h, hp⟩ : a.l.length < 4611686018427387904 /\ (∀ x ∈ a.l, (HY a.q /\ Dd x)) := h
 show V3Gp a; rw [BXK]; simp [h, JN]; exact hp)) _
def d4Gp : List AVal -> Heap -> Option (MGp × List (Nat × Nat) × List Nat)
 | [y, .fn _ [.d x] _], H => match E5 y H with
  | some (n, g, f) => some (⟨dLn x, AD n λ i => SD (g i)⟩, [], f)
  | none => none
 | _, _ => none
def A4Gp : Ann := { ann 9 [(AUU, C3Gp.spec d3Gp)] with E := [] }
def C4Gp : Ctr := { ro := [], α := MGp, xs := λ a => [.d (BE a.l), fvGp a.q], L := λ a => [], val := λ a => .bool (a.l.all λ x => BF a.q x), keep := λ a => [], pre := PGp }
def V4Gp (a : MGp) : Prop := AO Try.prog A4Gp F_eG (AF F_eG) (C4Gp.xs a) (AC (C4Gp.L a)) (C4Gp.val a) (C4Gp.keep a) [] []
theorem BYW (a : MGp) : (V4Gp a) = (((AD a.l.length λ (i : Nat) => gD a.l i).length = a.l.length /\ (∀ (i : Nat), i < (AD a.l.length λ (i : Nat) => gD a.l i).length -> (gD (AD a.l.length λ (i : Nat) => gD a.l i)
 i).st = (gD a.l i).st /\ (gD (AD a.l.length λ (i : Nat) => gD a.l i) i).lo = (gD a.l i).lo /\ (gD (AD a.l.length λ (i : Nat) => gD a.l i) i).hi = (gD a.l i).hi) /\ a.q.a0 = a.q.a0 /\ a.q.a1 = a.q.a1 /\ a.q.b0 = a.q.b0 /\
 a.q.b1 = a.q.b1 /\ a.q.a0 = a.q.a0 /\ a.q.a1 = a.q.a1 /\ a.q.b0 = a.q.b0 /\ a.q.b1 = a.q.b1 /\ (AD a.l.length λ (i : Nat) => gD a.l i).length < 4611686018427387904 /\ ∀ (x : Gau), List.Mem x (AD a.l.length λ (i : Nat) =>
 gD a.l i) -> (0 <= a.q.a0 /\ a.q.a0 < a.q.b0 /\ a.q.b0 <= 2000 /\ 0 <= a.q.a1 /\ a.q.a1 <= a.q.b1 /\ a.q.b1 <= 200000) /\ 0 <= x.st /\ x.st <= 2000 /\ 0 <= x.lo /\ x.lo <= x.hi /\ x.hi <= 200000) /\ (a.l.all λ (x : Gau) => BF a.q x) =
 !decide (DB (λ (i : Nat) => !BF a.q (gD (AD a.l.length λ (i : Nat) => gD a.l i) i)) (AD a.l.length λ (i : Nat) => gD a.l i).length 0 >= 0)) := by kernel_rfl
theorem BXL : AG Try.prog n_eG (C4Gp.spec d4Gp) := Ctr.spec_ok (C := C4Gp) (λ (a : MGp) h => JZ (A := A4Gp) (ren := []) (fz := []) BRI (by kernel_rfl) (AB BYE AE) (by
 have h' : a.l.length < 4611686018427387904 /\ (∀ x ∈ a.l, (HY a.q /\ Dd x)) := h
 show V4Gp a; rw [BYW]; simp only [CC, eq_self, implies_true, forall_const, ge_iff_le]
 rw [<- Mt]
 exact ⟨h', rfl⟩)) _
def fvLr (q : One) : AVal := .fn (.func jI) [] []
def BLr (q : One) : AObj := .box [fvLr q]
structure ELr where
 q : One
 e : Ln
structure MLr where
 q : One
 l : List Ln
def C1Lr : Ctr := { ro := [100], α := ELr, xs := λ a => [.d (eLn a.e), .bptr 100 0], L := λ a => (100, BLr a.q) :: [], val := λ a => .bool (!FT a.e), keep := λ a => (100, .live (BLr a.q)) :: [] }
def d1Lr : List AVal -> Heap -> Option (ELr × List (Nat × Nat) × List Nat)
 | [.d d, .bptr id _], H => some (⟨default, dLn d⟩, [(100, id)], [])
 | _, _ => none
def A1Lr : Ann := { ann 8 [(jI, ACU)] with E := [100] }
def V1Lr (a : ELr) : Prop := AO Try.prog A1Lr BJR (AF BJR) (C1Lr.xs a) (AC (C1Lr.L a)) (C1Lr.val a) (C1Lr.keep a) [] []
theorem BXX (a : ELr) : (V1Lr a) = ((!FT a.e) = !FT a.e) := by kernel_rfl
theorem BZB : AG Try.prog AUE (C1Lr.spec d1Lr) := GD C1Lr (λ _ => A1Lr) [] [] BVK (λ _ => by kernel_rfl) (λ _ => AB Zy AE) (λ (a : ELr) h => by
 show V1Lr a; rw [BXX]; try simp [wr, JN]) (λ _ => GJ rfl rfl) _
def d2Lr : List AVal -> Heap -> Option (MLr × List (Nat × Nat) × List Nat)
 | [y, .fn _ _ [.bptr id _]], H => match E5 y H with
  | some (n, g, f) => some (⟨default, AD n λ i => dLn (g i)⟩, [(100, id)], f)
  | none => none
 | _, _ => none
def A2Lr (a : MLr) : Ann := { ann 19 [(AUE, C1Lr.spec d1Lr)] with E := [100], loops := λ id => if id = 2 then some [{ α := Nat, dflt := 0, T := λ k => ⟨[(0, .d (XW a.l)), (1, .fn (.func AUE) [] [.bptr 100 0]), (7, .int a.l.length), (8, .int k)], (100, .live (BLr a.q)) :: []⟩, inv := λ k => k <= a.l.length /\ DB (λ i => !FT (gD a.l i)) a.l.length 0 = DB (λ i => !FT (gD a.l i)) (a.l.length - k) k, meas := λ k => a.l.length - k }] else none }
def PLr (a : MLr) : List Prop := [a.l.length < 4611686018427387904 /\ True]
def C2Lr : Ctr := { ro := [100], α := MLr, xs := λ a => [.d (XW a.l), .fn (.func AUE) [] [.bptr 100 0]], L := λ a => (100, BLr a.q) :: [], val := λ a => .int (DB (λ i => !FT (gD a.l i)) a.l.length 0), keep := λ a => (100, .live (BLr a.q)) :: [], pre := PLr }
def V2Lr (a : MLr) : Prop := AO Try.prog (A2Lr a) BIM (AF BIM) (C2Lr.xs a) (AC (C2Lr.L a)) (C2Lr.val a) (C2Lr.keep a) [] []
theorem BXY (a : MLr) : (V2Lr a) = ((∃ (a_1 : Nat), (a.l.length = a.l.length /\ (∀ (i : Nat), i < a.l.length -> (gD a.l i).a0 = (gD a.l i).a0 /\ (gD a.l i).a1 = (gD a.l i).a1 /\ (gD a.l i).b0 = (gD a.l i).b0 /\ (gD a.l
 i).b1 = (gD a.l i).b1) /\ (↑a.l.length : Int) = (↑a.l.length : Int) /\ (↑a_1 : Int) = 0) /\ a_1 <= a.l.length /\ DB (λ (i : Nat) => !FT (gD a.l i)) a.l.length 0 = DB (λ (i : Nat) => !FT (gD a.l i)) (a.l.length - a_1)
 a_1) /\ ∀ (a_1 : Nat), a_1 <= a.l.length /\ DB (λ (i : Nat) => !FT (gD a.l i)) a.l.length 0 = DB (λ (i : Nat) => !FT (gD a.l i)) (a.l.length - a_1) a_1 -> bif decide ((↑a_1 : Int) < (↑a.l.length : Int)) then ((0 <=
 (↑a_1 : Int) /\ (↑a_1 : Int) < (↑a.l.length : Int)) /\ (gD a.l a_1).a0 = (gD a.l a_1).a0 /\ (gD a.l a_1).a1 = (gD a.l a_1).a1 /\ (gD a.l a_1).b0 = (gD a.l a_1).b0 /\ (gD a.l a_1).b1 = (gD a.l a_1).b1) /\ bif !FT (gD a.l a_1)
 then DB (λ (i : Nat) => !FT (gD a.l i)) a.l.length 0 = (↑a_1 : Int) else ∃ (a_3 : Nat), (a.l.length = a.l.length /\ (∀ (i : Nat), i < a.l.length -> (gD a.l i).a0 = (gD a.l i).a0 /\ (gD a.l i).a1 = (gD a.l i).a1 /\ (gD
 a.l i).b0 = (gD a.l i).b0 /\ (gD a.l i).b1 = (gD a.l i).b1) /\ (↑a.l.length : Int) = (↑a.l.length : Int) /\ (↑a_3 : Int) = IntKind.i64.wrap ((↑a_1 : Int) + 1)) /\ (a_3 <= a.l.length /\ DB (λ (i : Nat) => !FT (gD a.l i))
 a.l.length 0 = DB (λ (i : Nat) => !FT (gD a.l i)) (a.l.length - a_3) a_3) /\ a.l.length - a_3 < a.l.length - a_1 else DB (λ (i : Nat) => !FT (gD a.l i)) a.l.length 0 = -1) := by kernel_rfl
theorem p2Lr (a : MLr) (h : BB (PLr a)) : V2Lr a := by
 obtain ⟨h, hp⟩ : a.l.length < 4611686018427387904 /\ True := h
 rw [BXY]
 simp only [CC, eq_self, implies_true, forall_const]
 refine ⟨⟨0, rfl, Nat.zero_le _, rfl⟩, λ k ⟨h1, h2⟩ => ⟨λ hlt => ?_, λ hge => ?_⟩⟩
 ·have hlt : k < a.l.length := by omega
  refine ⟨⟨by omega, by omega⟩, λ hp => ?_, λ hp => ⟨k + 1, (BH (by omega)).symm, ⟨by omega, ?_⟩, by omega⟩⟩
  ·rw [h2]; exact Fk hlt (by simpa using hp)
  ·rw [h2]; exact AFD hlt (by simpa using hp)
 ·rw [h2]; exact iY (by omega)
theorem BZA : AG Try.prog BFQ (C2Lr.spec d2Lr) := GD C2Lr A2Lr [] [] BVU (λ _ => by kernel_rfl) (λ _ => AB BZB AE) p2Lr (λ _ => GJ rfl rfl) _
def C3Lr : Ctr := { C2Lr with val := λ (a : MLr) => .bool (decide (DB (λ i => !FT (gD a.l i)) a.l.length 0 >= 0)) }
def d3Lr : List AVal -> Heap -> Option (C3Lr.α × List (Nat × Nat) × List Nat) := d2Lr
def A3Lr : Ann := { ann 9 [(BFQ, C2Lr.spec d2Lr)] with E := [100] }
def V3Lr (a : MLr) : Prop := AO Try.prog A3Lr BGX (AF BGX) (C3Lr.xs a) (AC (C3Lr.L a)) (C3Lr.val a) (C3Lr.keep a) [] []
theorem BYX (a : MLr) : (V3Lr a) = (((AD a.l.length λ (i : Nat) => gD a.l i).length = a.l.length /\ (∀ (i : Nat), i < (AD a.l.length λ (i : Nat) => gD a.l i).length -> (gD (AD a.l.length λ (i : Nat) => gD a.l i)
 i).a0 = (gD a.l i).a0 /\ (gD (AD a.l.length λ (i : Nat) => gD a.l i) i).a1 = (gD a.l i).a1 /\ (gD (AD a.l.length λ (i : Nat) => gD a.l i) i).b0 = (gD a.l i).b0 /\ (gD (AD a.l.length λ (i : Nat) => gD a.l i) i).b1 =
 (gD a.l i).b1) /\ (AD a.l.length λ (i : Nat) => gD a.l i).length < 4611686018427387904 /\ True) /\ decide (DB (λ (i : Nat) => !FT (gD a.l i)) a.l.length 0 >= 0) = decide (DB (λ (i : Nat) => !FT (gD (AD a.l.length
 λ (i : Nat) => gD a.l i) i)) (AD a.l.length λ (i : Nat) => gD a.l i).length 0 >= 0)) := by kernel_rfl
theorem BYJ : AG Try.prog BLZ (C3Lr.spec d3Lr) := Ctr.spec_ok (C := C3Lr) (λ (a : MLr) h => JZ (A := A3Lr) (ren := []) (fz := []) BWF (by kernel_rfl) (AB BZA AE) (by
 obtain ⟨h, hp⟩ : a.l.length < 4611686018427387904 /\ True := h
 show V3Lr a; rw [BYX]; simp [h, JN])) _
def d4Lr : List AVal -> Heap -> Option (MLr × List (Nat × Nat) × List Nat)
 | [y, .fn _ _ _], H => match E5 y H with
  | some (n, g, f) => some (⟨default, AD n λ i => dLn (g i)⟩, [], f)
  | none => none
 | _, _ => none
def A4Lr : Ann := { ann 9 [(BLZ, C3Lr.spec d3Lr)] with E := [] }
def C4Lr : Ctr := { ro := [], α := MLr, xs := λ a => [.d (XW a.l), fvLr a.q], L := λ a => [], val := λ a => .bool (a.l.all λ x => FT x), keep := λ a => [], pre := PLr }
def V4Lr (a : MLr) : Prop := AO Try.prog A4Lr F_eL (AF F_eL) (C4Lr.xs a) (AC (C4Lr.L a)) (C4Lr.val a) (C4Lr.keep a) [] []
theorem BWR (a : MLr) : (V4Lr a) = (((AD a.l.length λ (i : Nat) => gD a.l i).length = a.l.length /\ (∀ (i : Nat), i < (AD a.l.length λ (i : Nat) => gD a.l i).length -> (gD (AD a.l.length λ (i : Nat) => gD a.l i)
 i).a0 = (gD a.l i).a0 /\ (gD (AD a.l.length λ (i : Nat) => gD a.l i) i).a1 = (gD a.l i).a1 /\ (gD (AD a.l.length λ (i : Nat) => gD a.l i) i).b0 = (gD a.l i).b0 /\ (gD (AD a.l.length λ (i : Nat) => gD a.l i) i).b1 =
 (gD a.l i).b1) /\ (AD a.l.length λ (i : Nat) => gD a.l i).length < 4611686018427387904 /\ True) /\ (a.l.all λ (x : Ln) => FT x) = !decide (DB (λ (i : Nat) => !FT (gD (AD a.l.length λ (i : Nat) => gD a.l i) i))
 (AD a.l.length λ (i : Nat) => gD a.l i).length 0 >= 0)) := by kernel_rfl
theorem BYN : AG Try.prog n_eL (C4Lr.spec d4Lr) := Ctr.spec_ok (C := C4Lr) (λ (a : MLr) h => JZ (A := A4Lr) (ren := []) (fz := []) BXI (by kernel_rfl) (AB BYJ AE) (by
 have h' : a.l.length < 4611686018427387904 /\ True := h
 show V4Lr a; rw [BWR]; simp only [CC, eq_self, implies_true, forall_const, ge_iff_le]
 rw [<- Mt]
 exact ⟨h'.1, rfl⟩)) _
def LXIn (q : List Gau) : List (Nat × AObj) := [(101, .box [.d (BE q)])]
def KXIn (q : List Gau) : List (Nat × HCell) := [(101, .live (.box [.d (BE q)]))]
def fvIn (q : List Gau) : AVal := .fn (.func kC) [] [.bptr 101 0]
def BIn (q : List Gau) : AObj := .box [fvIn q]
structure EIn where
 q : List Gau
 e : Int
structure MIn where
 q : List Gau
 l : List Int
def C1In : Ctr := { ro := [100, 101], α := EIn, xs := λ a => [.d (CH a.e), .bptr 100 0], L := λ a => (100, BIn a.q) :: LXIn a.q, val := λ a => .bool (!CJ a.e 0 (wr (a.q.length - 1))), keep := λ a => (100, .live (BIn a.q)) :: KXIn a.q }
def d1In : List AVal -> Heap -> Option (EIn × List (Nat × Nat) × List Nat)
 | [.d d, .bptr id _], H => match H id with
  | .live (.box [.fn _ _ [.bptr j _]]) => match H j with
   | .live (.box [.d (.list _ m h _)]) => some (⟨AD m λ i => SD (h i), CT d⟩, [(100, id), (101, j)], [])
   | _ => none
  | _ => none
 | _, _ => none
def A1In : Ann := { ann 8 [(kC, C_nm1.spec BRJ)] with E := [100, 101] }
def V1In (a : EIn) : Prop := AO Try.prog A1In BEQ (AF BEQ) (C1In.xs a) (AC (C1In.L a)) (C1In.val a) (C1In.keep a) [] []
theorem BYS (a : EIn) : (V1In a) = ((a.e = a.e /\ (AD a.q.length λ (i : Nat) => gD a.q i).length = a.q.length /\ (∀ (i : Nat), i < (AD a.q.length λ (i : Nat) => gD a.q i).length -> (gD (AD a.q.length λ (i : Nat)
 => gD a.q i) i).st = (gD a.q i).st /\ (gD (AD a.q.length λ (i : Nat) => gD a.q i) i).lo = (gD a.q i).lo /\ (gD (AD a.q.length λ (i : Nat) => gD a.q i) i).hi = (gD a.q i).hi) /\ a.q.length = (AD a.q.length λ (i :
 Nat) => gD a.q i).length /\ ∀ (i : Nat), i < a.q.length -> (gD a.q i).st = (gD (AD a.q.length λ (i : Nat) => gD a.q i) i).st /\ (gD a.q i).lo = (gD (AD a.q.length λ (i : Nat) => gD a.q i) i).lo /\ (gD a.q i).hi = (gD
 (AD a.q.length λ (i : Nat) => gD a.q i) i).hi) /\ (!CJ a.e 0 (wr ((↑a.q.length : Int) - 1))) = !CJ a.e 0 (wr ((↑(AD a.q.length λ (i : Nat) => gD a.q i).length : Int) - 1)) /\ a.q.length = a.q.length /\ ∀ (i : Nat),
 i < a.q.length -> (gD a.q i).st = (gD a.q i).st /\ (gD a.q i).lo = (gD a.q i).lo /\ (gD a.q i).hi = (gD a.q i).hi) := by kernel_rfl
theorem BXP : AG Try.prog AUV (C1In.spec d1In) := GD C1In (λ _ => A1In) [] [] BUW (λ _ => by kernel_rfl) (λ _ => AB BTT AE) (λ (a : EIn) h => by
 show V1In a; rw [BYS]; try simp [wr, JN]) (λ _ => GJ rfl rfl) _
def d2In : List AVal -> Heap -> Option (MIn × List (Nat × Nat) × List Nat)
 | [y, .fn _ _ [.bptr id _]], H => match E5 y H with
  | some (n, g, f) => match H id with
   | .live (.box [.fn _ _ [.bptr j _]]) => match H j with
    | .live (.box [.d (.list _ m h _)]) => some (⟨AD m λ i => SD (h i), AD n λ i => CT (g i)⟩, [(100, id), (101, j)], f)
    | _ => none
   | _ => none
  | none => none
 | _, _ => none
def A2In (a : MIn) : Ann := { ann 19 [(AUV, C1In.spec d1In)] with E := [100, 101], loops := λ id => if id = 2 then some [{ α := Nat, dflt := 0, T := λ k => ⟨[(0, .d (BD a.l)), (1, .fn (.func AUV) [] [.bptr 100 0]), (7, .int a.l.length), (8, .int k)], (100, .live (BIn a.q)) :: KXIn a.q⟩, inv := λ k => k <= a.l.length /\ DB (λ i => !CJ (gD a.l i) 0 (wr (a.q.length - 1))) a.l.length 0 = DB (λ i => !CJ (gD a.l i) 0 (wr (a.q.length - 1))) (a.l.length - k) k, meas := λ k => a.l.length - k }] else none }
def PIn (a : MIn) : List Prop := [a.l.length < 4611686018427387904 /\ True]
def C2In : Ctr := { ro := [100, 101], α := MIn, xs := λ a => [.d (BD a.l), .fn (.func AUV) [] [.bptr 100 0]], L := λ a => (100, BIn a.q) :: LXIn a.q, val := λ a => .int (DB (λ i => !CJ (gD a.l i) 0 (wr (a.q.length - 1))) a.l.length 0), keep := λ a => (100, .live (BIn a.q)) :: KXIn a.q, pre := PIn }
def V2In (a : MIn) : Prop := AO Try.prog (A2In a) BKN (AF BKN) (C2In.xs a) (AC (C2In.L a)) (C2In.val a) (C2In.keep a) [] []
theorem BYH (a : MIn) : (V2In a) = ((∃ (a_1 : Nat), (a.l.length = a.l.length /\ (∀ (i : Nat), i < a.l.length -> gD a.l i = gD a.l i) /\ (↑a.l.length : Int) = (↑a.l.length : Int) /\ (↑a_1 : Int) = 0 /\ a.q.length =
 a.q.length /\ ∀ (i : Nat), i < a.q.length -> (gD a.q i).st = (gD a.q i).st /\ (gD a.q i).lo = (gD a.q i).lo /\ (gD a.q i).hi = (gD a.q i).hi) /\ a_1 <= a.l.length /\ DB (λ (i : Nat) => !CJ (gD a.l i) 0 (wr ((↑a.q.length :
 Int) - 1))) a.l.length 0 = DB (λ (i : Nat) => !CJ (gD a.l i) 0 (wr ((↑a.q.length : Int) - 1))) (a.l.length - a_1) a_1) /\ ∀ (a_1 : Nat), a_1 <= a.l.length /\ DB (λ (i : Nat) => !CJ (gD a.l i) 0 (wr ((↑a.q.length :
 Int) - 1))) a.l.length 0 = DB (λ (i : Nat) => !CJ (gD a.l i) 0 (wr ((↑a.q.length : Int) - 1))) (a.l.length - a_1) a_1 -> bif decide ((↑a_1 : Int) < (↑a.l.length : Int)) then ((0 <= (↑a_1 : Int) /\ (↑a_1 : Int) <
 (↑a.l.length : Int)) /\ gD a.l a_1 = gD a.l a_1 /\ (AD a.q.length λ (i : Nat) => gD a.q i).length = a.q.length /\ (∀ (i : Nat), i < (AD a.q.length λ (i : Nat) => gD a.q i).length -> (gD (AD a.q.length λ (i : Nat) =>
 gD a.q i) i).st = (gD a.q i).st /\ (gD (AD a.q.length λ (i : Nat) => gD a.q i) i).lo = (gD a.q i).lo /\ (gD (AD a.q.length λ (i : Nat) => gD a.q i) i).hi = (gD a.q i).hi) /\ a.q.length = (AD a.q.length λ (i : Nat)
 => gD a.q i).length /\ ∀ (i : Nat), i < a.q.length -> (gD a.q i).st = (gD (AD a.q.length λ (i : Nat) => gD a.q i) i).st /\ (gD a.q i).lo = (gD (AD a.q.length λ (i : Nat) => gD a.q i) i).lo /\ (gD a.q i).hi = (gD (AD
 a.q.length λ (i : Nat) => gD a.q i) i).hi) /\ bif !CJ (gD a.l a_1) 0 (wr ((↑(AD a.q.length λ (i : Nat) => gD a.q i).length : Int) - 1)) then DB (λ (i : Nat) => !CJ (gD a.l i) 0 (wr ((↑a.q.length : Int) - 1)))
 a.l.length 0 = (↑a_1 : Int) /\ a.q.length = a.q.length /\ ∀ (i : Nat), i < a.q.length -> (gD a.q i).st = (gD a.q i).st /\ (gD a.q i).lo = (gD a.q i).lo /\ (gD a.q i).hi = (gD a.q i).hi else ∃ (a_3 : Nat), (a.l.length =
 a.l.length /\ (∀ (i : Nat), i < a.l.length -> gD a.l i = gD a.l i) /\ (↑a.l.length : Int) = (↑a.l.length : Int) /\ (↑a_3 : Int) = IntKind.i64.wrap ((↑a_1 : Int) + 1) /\ a.q.length = a.q.length /\ ∀ (i : Nat), i < a.q.length ->
 (gD a.q i).st = (gD a.q i).st /\ (gD a.q i).lo = (gD a.q i).lo /\ (gD a.q i).hi = (gD a.q i).hi) /\ (a_3 <= a.l.length /\ DB (λ (i : Nat) => !CJ (gD a.l i) 0 (wr ((↑a.q.length : Int) - 1))) a.l.length 0 = DB (λ (i :
 Nat) => !CJ (gD a.l i) 0 (wr ((↑a.q.length : Int) - 1))) (a.l.length - a_3) a_3) /\ a.l.length - a_3 < a.l.length - a_1 else DB (λ (i : Nat) => !CJ (gD a.l i) 0 (wr ((↑a.q.length : Int) - 1))) a.l.length 0 = -1 /\
 a.q.length = a.q.length /\ ∀ (i : Nat), i < a.q.length -> (gD a.q i).st = (gD a.q i).st /\ (gD a.q i).lo = (gD a.q i).lo /\ (gD a.q i).hi = (gD a.q i).hi) := by kernel_rfl
theorem p2In (a : MIn) (h : BB (PIn a)) : V2In a := by
 obtain ⟨h, hp⟩ : a.l.length < 4611686018427387904 /\ True := h
 rw [BYH]
 simp only [CC, eq_self, implies_true, forall_const]
 refine ⟨⟨0, rfl, Nat.zero_le _, rfl⟩, λ k ⟨h1, h2⟩ => ⟨λ hlt => ?_, λ hge => ?_⟩⟩
 ·have hlt : k < a.l.length := by omega
  refine ⟨⟨by omega, by omega⟩, λ hp => ?_, λ hp => ⟨k + 1, (BH (by omega)).symm, ⟨by omega, ?_⟩, by omega⟩⟩
  ·rw [h2]; exact Fk hlt (by simpa using hp)
  ·rw [h2]; exact AFD hlt (by simpa using hp)
 ·rw [h2]; exact iY (by omega)
theorem BYF : AG Try.prog BMH (C2In.spec d2In) := GD C2In A2In [] [] BUN (λ _ => by kernel_rfl) (λ _ => AB BXP AE) p2In (λ _ => GJ rfl rfl) _
def C3In : Ctr := { C2In with val := λ (a : MIn) => .bool (decide (DB (λ i => !CJ (gD a.l i) 0 (wr (a.q.length - 1))) a.l.length 0 >= 0)) }
def d3In : List AVal -> Heap -> Option (C3In.α × List (Nat × Nat) × List Nat) := d2In
def A3In : Ann := { ann 9 [(BMH, C2In.spec d2In)] with E := [100, 101] }
def V3In (a : MIn) : Prop := AO Try.prog A3In BJQ (AF BJQ) (C3In.xs a) (AC (C3In.L a)) (C3In.val a) (C3In.keep a) [] []
theorem BXM (a : MIn) : (V3In a) = (((AD a.l.length λ (i : Nat) => gD a.l i).length = a.l.length /\ (∀ (i : Nat), i < (AD a.l.length λ (i : Nat) => gD a.l i).length -> gD (AD a.l.length λ (i : Nat) => gD a.l i)
 i = gD a.l i) /\ (AD a.q.length λ (i : Nat) => gD a.q i).length = a.q.length /\ (∀ (i : Nat), i < (AD a.q.length λ (i : Nat) => gD a.q i).length -> (gD (AD a.q.length λ (i : Nat) => gD a.q i) i).st = (gD a.q i).st
 /\ (gD (AD a.q.length λ (i : Nat) => gD a.q i) i).lo = (gD a.q i).lo /\ (gD (AD a.q.length λ (i : Nat) => gD a.q i) i).hi = (gD a.q i).hi) /\ a.q.length = (AD a.q.length λ (i : Nat) => gD a.q i).length /\ (∀ (i :
 Nat), i < a.q.length -> (gD a.q i).st = (gD (AD a.q.length λ (i : Nat) => gD a.q i) i).st /\ (gD a.q i).lo = (gD (AD a.q.length λ (i : Nat) => gD a.q i) i).lo /\ (gD a.q i).hi = (gD (AD a.q.length λ (i : Nat) => gD
 a.q i) i).hi) /\ (AD a.l.length λ (i : Nat) => gD a.l i).length < 4611686018427387904 /\ True) /\ decide (DB (λ (i : Nat) => !CJ (gD a.l i) 0 (wr ((↑a.q.length : Int) - 1))) a.l.length 0 >= 0) = decide (DB (λ (i :
 Nat) => !CJ (gD (AD a.l.length λ (i : Nat) => gD a.l i) i) 0 (wr ((↑(AD a.q.length λ (i : Nat) => gD a.q i).length : Int) - 1))) (AD a.l.length λ (i : Nat) => gD a.l i).length 0 >= 0) /\ a.q.length = a.q.length /\
 ∀ (i : Nat), i < a.q.length -> (gD a.q i).st = (gD a.q i).st /\ (gD a.q i).lo = (gD a.q i).lo /\ (gD a.q i).hi = (gD a.q i).hi) := by kernel_rfl
theorem BWO : AG Try.prog BIR (C3In.spec d3In) := Ctr.spec_ok (C := C3In) (λ (a : MIn) h => JZ (A := A3In) (ren := []) (fz := []) BTL (by kernel_rfl) (AB BYF AE) (by
 obtain ⟨h, hp⟩ : a.l.length < 4611686018427387904 /\ True := h
 show V3In a; rw [BXM]; simp [h, JN])) _
def d4In : List AVal -> Heap -> Option (MIn × List (Nat × Nat) × List Nat)
 | [y, .fn _ _ [.bptr j _]], H => match E5 y H with
  | some (n, g, f) => match H j with
   | .live (.box [.d (.list _ m h _)]) => some (⟨AD m λ i => SD (h i), AD n λ i => CT (g i)⟩, [(101, j)], f)
   | _ => none
  | none => none
 | _, _ => none
def A4In : Ann := { ann 9 [(BIR, C3In.spec d3In)] with E := [101] }
def C4In : Ctr := { ro := [101], α := MIn, xs := λ a => [.d (BD a.l), fvIn a.q], L := λ a => LXIn a.q, val := λ a => .bool (a.l.all λ x => CJ x 0 (wr (a.q.length - 1))), keep := λ a => KXIn a.q, pre := PIn }
def V4In (a : MIn) : Prop := AO Try.prog A4In F_eI (AF F_eI) (C4In.xs a) (AC (C4In.L a)) (C4In.val a) (C4In.keep a) [] []
theorem BYV (a : MIn) : (V4In a) = (((AD a.l.length λ (i : Nat) => gD a.l i).length = a.l.length /\ (∀ (i : Nat), i < (AD a.l.length λ (i : Nat) => gD a.l i).length -> gD (AD a.l.length λ (i : Nat) => gD a.l i)
 i = gD a.l i) /\ (AD a.q.length λ (i : Nat) => gD a.q i).length = a.q.length /\ (∀ (i : Nat), i < (AD a.q.length λ (i : Nat) => gD a.q i).length -> (gD (AD a.q.length λ (i : Nat) => gD a.q i) i).st = (gD a.q i).st
 /\ (gD (AD a.q.length λ (i : Nat) => gD a.q i) i).lo = (gD a.q i).lo /\ (gD (AD a.q.length λ (i : Nat) => gD a.q i) i).hi = (gD a.q i).hi) /\ a.q.length = (AD a.q.length λ (i : Nat) => gD a.q i).length /\ (∀ (i :
 Nat), i < a.q.length -> (gD a.q i).st = (gD (AD a.q.length λ (i : Nat) => gD a.q i) i).st /\ (gD a.q i).lo = (gD (AD a.q.length λ (i : Nat) => gD a.q i) i).lo /\ (gD a.q i).hi = (gD (AD a.q.length λ (i : Nat) => gD
 a.q i) i).hi) /\ (AD a.l.length λ (i : Nat) => gD a.l i).length < 4611686018427387904 /\ True) /\ (a.l.all λ (x : Int) => CJ x 0 (wr ((↑a.q.length : Int) - 1))) = !decide (DB (λ (i : Nat) => !CJ (gD (AD
 a.l.length λ (i : Nat) => gD a.l i) i) 0 (wr ((↑(AD a.q.length λ (i : Nat) => gD a.q i).length : Int) - 1))) (AD a.l.length λ (i : Nat) => gD a.l i).length 0 >= 0) /\ a.q.length = a.q.length /\ ∀ (i : Nat), i <
 a.q.length -> (gD a.q i).st = (gD a.q i).st /\ (gD a.q i).lo = (gD a.q i).lo /\ (gD a.q i).hi = (gD a.q i).hi) := by kernel_rfl
theorem BWZ : AG Try.prog n_eI (C4In.spec d4In) := Ctr.spec_ok (C := C4In) (λ (a : MIn) h => JZ (A := A4In) (ren := []) (fz := []) BXF (by kernel_rfl) (AB BWO AE) (by
 have h' : a.l.length < 4611686018427387904 /\ True := h
 show V4In a; rw [BYV]; simp only [CC, eq_self, implies_true, forall_const, ge_iff_le]
 rw [<- Mt]
 exact ⟨h'.1, rfl⟩)) _
end Go.Bal
