/- Package rating: every. Printed by genratE.py. -/
import Derived.Test.YtoihhodbkimedaaRatA
set_option linter.unusedVariables false
set_option linter.unusedSimpArgs false
namespace Go.Bal
open Go Go.Sym Go.Proofs
def allB (p : Nat -> Bool) : Nat -> Bool
 | 0 => true
 | n + 1 => allB p n && p n
theorem allB_iff {p : Nat -> Bool} : ∀ {n : Nat}, allB p n = true ↔ ∀ i, i < n -> p i = true
 | 0 => by simp [allB]
 | n + 1 => by
  simp only [allB, Bool.and_eq_true, allB_iff (n := n)]
  constructor
  ·intro h i hi
   by_cases he : i = n
   ·subst he; exact h.2
   ·exact h.1 i (by omega)
  ·exact λ h => ⟨λ i hi => h i (by omega), h n (by omega)⟩
theorem idx_ge {p : Nat -> Bool} : ∀ {n k : Nat}, (0 <= idx p n k) ↔ ∃ i, k <= i /\ i < k + n /\ p i = true
 | 0, k => by simp [idx]; omega
 | n + 1, k => by
  simp only [idx]
  by_cases h : p k = true
  ·rw [if_pos h]
   constructor
   ·intro _; exact ⟨k, Nat.le_refl _, by omega, h⟩
   ·intro _; omega
  ·rw [if_neg h, idx_ge (n := n) (k := k + 1)]
   constructor
   ·rintro ⟨i, h1, h2, h3⟩; exact ⟨i, by omega, by omega, h3⟩
   ·rintro ⟨i, h1, h2, h3⟩
    refine ⟨i, ?_, by omega, h3⟩
    by_cases he : i = k
    ·subst he; exact absurd h3 h
    ·omega
theorem every_eq {p : Nat -> Bool} {n : Nat} : (!decide (0 <= idx (λ i => !p i) n 0)) = allB p n := by
 rw [Bool.eq_iff_iff, allB_iff]
 simp only [Bool.not_eq_true', decide_eq_false_iff_not, idx_ge, Nat.zero_le, Nat.zero_add, true_and]
 constructor
 ·intro h i hi
  cases hp : p i with
  | true => rfl
  | false => exact (h ⟨i, hi, by simp [hp]⟩).elim
 ·rintro h ⟨i, hi, hp⟩
  rw [h i hi] at hp; cases hp
theorem every_all {α : Type} [Inhabited α] {p : α -> Bool} {l : List α} : (!decide (0 <= idx (λ i => !p (gD l i)) l.length 0)) = l.all p := by
 rw [every_eq, Bool.eq_iff_iff, allB_iff, List.all_eq_true]
 exact ⟨λ h x hx => by obtain ⟨i, hi, rfl⟩ := mem_gD hx; exact h i hi, λ h i hi => h _ (gD_mem hi)⟩
structure LInt where
 q : List Gau
 e : Int
def C_nm1 : Ctr := { ro := [101], α := LInt, xs := λ a => [.int a.e, .bptr 101 0], L := λ a => [(101, .box [.d (eGaus a.q)])], val := λ a => .bool (inM a.e 0 (wr (a.q.length - 1))), keep := λ a => [(101, .live (.box [.d (eGaus a.q)]))] }
def d_nm1 : List AVal -> Heap -> Option (LInt × List (Nat × Nat) × List Nat)
 | [.d d, .bptr id _], H => match H id with
  | .live (.box [.d (.list _ n g _)]) => some (⟨rng n λ i => dGau (g i), dInt d⟩, [(101, id)], [])
  | _ => none
 | _, _ => none
def A_nm1 : Ann := { ann 9 [(n_in, s_in)] with E := [101] }
def V_nm1 (a : LInt) : Prop := fnVC Try.prog A_nm1 F_named1 (bodyOf F_named1) (C_nm1.xs a) (heapOf (C_nm1.L a)) (C_nm1.val a) (C_nm1.keep a) [] []
theorem vc_nm1 (a : LInt) : (V_nm1 a) = (inM a.e 0 (wr ((↑a.q.length : Int) - 1)) = inM a.e 0 (IntKind.i64.wrap ((↑a.q.length : Int) - 1)) /\ a.q.length = a.q.length /\ ∀ (i : Nat), i < a.q.length -> (gD a.q i).st = (gD a.q
 i).st /\ (gD a.q i).lo = (gD a.q i).lo /\ (gD a.q i).hi = (gD a.q i).hi) := by kernel_rfl
theorem ok_nm1 : SpecOk Try.prog n_named1 (C_nm1.spec d_nm1) := okC C_nm1 (λ _ => A_nm1) [] [] fn_named1 (λ _ => by kernel_rfl) (λ _ => gok_cons ok_in gok_nil) (λ (a : LInt) _ => by
 show V_nm1 a; rw [vc_nm1]; simp [wr, rng_getD]) (λ _ => noI rfl rfl) _
def fvGr (q : One) : AVal := .fn (.func n_riG) [] []
def BGr (q : One) : AObj := .box [fvGr q]
structure EGr where
 q : One
 e : Gau
structure MGr where
 q : One
 l : List Gau
def C1Gr : Ctr := { ro := [100], α := EGr, xs := λ a => [.d (eGau a.e), .bptr 100 0], L := λ a => (100, BGr a.q) :: [], val := λ a => .bool (!riG a.e), keep := λ a => (100, .live (BGr a.q)) :: [] }
def d1Gr : List AVal -> Heap -> Option (EGr × List (Nat × Nat) × List Nat)
 | [.d d, .bptr id _], H => some (⟨default, dGau d⟩, [(100, id)], [])
 | _, _ => none
def A1Gr : Ann := { ann 8 [(n_riG, s_riG)] with E := [100] }
def V1Gr (a : EGr) : Prop := fnVC Try.prog A1Gr F_eG1 (bodyOf F_eG1) (C1Gr.xs a) (heapOf (C1Gr.L a)) (C1Gr.val a) (C1Gr.keep a) [] []
theorem vc1Gr (a : EGr) : (V1Gr a) = ((!riG a.e) = !riG a.e) := by kernel_rfl
theorem ok1Gr : SpecOk Try.prog n_eG1 (C1Gr.spec d1Gr) := okC C1Gr (λ _ => A1Gr) [] [] fn_eG1 (λ _ => by kernel_rfl) (λ _ => gok_cons ok_riG gok_nil) (λ (a : EGr) h => by
 show V1Gr a; rw [vc1Gr]; try simp [wr, rng_getD]) (λ _ => noI rfl rfl) _
def d2Gr : List AVal -> Heap -> Option (MGr × List (Nat × Nat) × List Nat)
 | [y, .fn _ _ [.bptr id _]], H => match dRow y H with
  | some (n, g, f) => some (⟨default, rng n λ i => dGau (g i)⟩, [(100, id)], f)
  | none => none
 | _, _ => none
def A2Gr (a : MGr) : Ann := { ann 19 [(n_eG1, C1Gr.spec d1Gr)] with E := [100], loops := λ id => if id = 2 then some [{ α := Nat, dflt := 0, T := λ k => ⟨[(0, .d (eGaus a.l)), (1, .fn (.func n_eG1) [] [.bptr 100 0]), (7, .int a.l.length), (8, .int k)], (100, .live (BGr a.q)) :: []⟩, inv := λ k => k <= a.l.length /\ idx (λ i => !riG (gD a.l i)) a.l.length 0 = idx (λ i => !riG (gD a.l i)) (a.l.length - k) k, meas := λ k => a.l.length - k }] else none }
def PGr (a : MGr) : List Prop := [a.l.length < 4611686018427387904 /\ True]
def C2Gr : Ctr := { ro := [100], α := MGr, xs := λ a => [.d (eGaus a.l), .fn (.func n_eG1) [] [.bptr 100 0]], L := λ a => (100, BGr a.q) :: [], val := λ a => .int (idx (λ i => !riG (gD a.l i)) a.l.length 0), keep := λ a => (100, .live (BGr a.q)) :: [], pre := PGr }
def V2Gr (a : MGr) : Prop := fnVC Try.prog (A2Gr a) F_ifG (bodyOf F_ifG) (C2Gr.xs a) (heapOf (C2Gr.L a)) (C2Gr.val a) (C2Gr.keep a) [] []
theorem vc2Gr (a : MGr) : (V2Gr a) = ((∃ (a_1 : Nat), (a.l.length = a.l.length /\ (∀ (i : Nat), i < a.l.length -> (gD a.l i).st = (gD a.l i).st /\ (gD a.l i).lo = (gD a.l i).lo /\ (gD a.l i).hi = (gD a.l i).hi) /\
 (↑a.l.length : Int) = (↑a.l.length : Int) /\ (↑a_1 : Int) = 0) /\ a_1 <= a.l.length /\ idx (λ (i : Nat) => !riG (gD a.l i)) a.l.length 0 = idx (λ (i : Nat) => !riG (gD a.l i)) (a.l.length - a_1) a_1) /\ ∀ (a_1 : Nat), a_1
 <= a.l.length /\ idx (λ (i : Nat) => !riG (gD a.l i)) a.l.length 0 = idx (λ (i : Nat) => !riG (gD a.l i)) (a.l.length - a_1) a_1 -> bif decide ((↑a_1 : Int) < (↑a.l.length : Int)) then ((0 <= (↑a_1 : Int) /\ (↑a_1 : Int)
 < (↑a.l.length : Int)) /\ (gD a.l a_1).st = (gD a.l a_1).st /\ (gD a.l a_1).lo = (gD a.l a_1).lo /\ (gD a.l a_1).hi = (gD a.l a_1).hi) /\ bif !riG (gD a.l a_1) then idx (λ (i : Nat) => !riG (gD a.l i)) a.l.length 0 = (↑a_1
 : Int) else ∃ (a_3 : Nat), (a.l.length = a.l.length /\ (∀ (i : Nat), i < a.l.length -> (gD a.l i).st = (gD a.l i).st /\ (gD a.l i).lo = (gD a.l i).lo /\ (gD a.l i).hi = (gD a.l i).hi) /\ (↑a.l.length : Int) = (↑a.l.length :
 Int) /\ (↑a_3 : Int) = IntKind.i64.wrap ((↑a_1 : Int) + 1)) /\ (a_3 <= a.l.length /\ idx (λ (i : Nat) => !riG (gD a.l i)) a.l.length 0 = idx (λ (i : Nat) => !riG (gD a.l i)) (a.l.length - a_3) a_3) /\ a.l.length - a_3 <
 a.l.length - a_1 else idx (λ (i : Nat) => !riG (gD a.l i)) a.l.length 0 = -1) := by kernel_rfl
theorem p2Gr (a : MGr) (h : allP (PGr a)) : V2Gr a := by
 obtain ⟨h, hp⟩ : a.l.length < 4611686018427387904 /\ True := h
 rw [vc2Gr]
 simp only [condP, eq_self, implies_true, and_self, true_and, and_true, true_implies, forall_const, decide_eq_true_eq, decide_eq_false_iff_not, Int.toNat_natCast, dSpan_eSpan, dInt_eInt, dGau_e, dPt_e, dLn_e, dRt_e, Nat.zero_add, Int.zero_sub, Nat.le_eq, Nat.succ_eq_add_one, Nat.add_one_le_iff, Bool.not_eq_true', Bool.not_eq_false', rng_length, dSpan_mk, rng_getD]
 refine ⟨⟨0, rfl, Nat.zero_le _, rfl⟩, λ k ⟨h1, h2⟩ => ⟨λ hlt => ?_, λ hge => ?_⟩⟩
 ·have hlt : k < a.l.length := by omega
  refine ⟨⟨by omega, by omega⟩, λ hp => ?_, λ hp => ⟨k + 1, (wsucc (by omega)).symm, ⟨by omega, ?_⟩, by omega⟩⟩
  ·rw [h2]; exact idx_stop hlt (by simpa using hp)
  ·rw [h2]; exact idx_go hlt (by simpa using hp)
 ·rw [h2]; exact idx_end (by omega)
theorem ok2Gr : SpecOk Try.prog n_ifG (C2Gr.spec d2Gr) := okC C2Gr A2Gr [] [] fn_ifG (λ _ => by kernel_rfl) (λ _ => gok_cons ok1Gr gok_nil) p2Gr (λ _ => noI rfl rfl) _
def C3Gr : Ctr := { C2Gr with val := λ (a : MGr) => .bool (decide (idx (λ i => !riG (gD a.l i)) a.l.length 0 >= 0)) }
def d3Gr : List AVal -> Heap -> Option (C3Gr.α × List (Nat × Nat) × List Nat) := d2Gr
def A3Gr : Ann := { ann 9 [(n_ifG, C2Gr.spec d2Gr)] with E := [100] }
def V3Gr (a : MGr) : Prop := fnVC Try.prog A3Gr F_cfG (bodyOf F_cfG) (C3Gr.xs a) (heapOf (C3Gr.L a)) (C3Gr.val a) (C3Gr.keep a) [] []
theorem vc3Gr (a : MGr) : (V3Gr a) = (((rng a.l.length λ (i : Nat) => gD a.l i).length = a.l.length /\ (∀ (i : Nat), i < (rng a.l.length λ (i : Nat) => gD a.l i).length -> (gD (rng a.l.length λ (i : Nat) => gD a.l i)
 i).st = (gD a.l i).st /\ (gD (rng a.l.length λ (i : Nat) => gD a.l i) i).lo = (gD a.l i).lo /\ (gD (rng a.l.length λ (i : Nat) => gD a.l i) i).hi = (gD a.l i).hi) /\ (rng a.l.length λ (i : Nat) => gD a.l i).length <
 4611686018427387904 /\ True) /\ decide (idx (λ (i : Nat) => !riG (gD a.l i)) a.l.length 0 >= 0) = decide (idx (λ (i : Nat) => !riG (gD (rng a.l.length λ (i : Nat) => gD a.l i) i)) (rng a.l.length λ (i : Nat) => gD
 a.l i).length 0 >= 0)) := by kernel_rfl
theorem ok3Gr : SpecOk Try.prog n_cfG (C3Gr.spec d3Gr) := Ctr.spec_ok (C := C3Gr) (λ (a : MGr) h => fnt (A := A3Gr) (ren := []) (fz := []) fn_cfG (by kernel_rfl) (gok_cons ok2Gr gok_nil) (by
 obtain ⟨h, hp⟩ : a.l.length < 4611686018427387904 /\ True := h
 show V3Gr a; rw [vc3Gr]; simp [h, rng_getD])) _
def d4Gr : List AVal -> Heap -> Option (MGr × List (Nat × Nat) × List Nat)
 | [y, .fn _ _ _], H => match dRow y H with
  | some (n, g, f) => some (⟨default, rng n λ i => dGau (g i)⟩, [], f)
  | none => none
 | _, _ => none
def A4Gr : Ann := { ann 9 [(n_cfG, C3Gr.spec d3Gr)] with E := [] }
def C4Gr : Ctr := { ro := [], α := MGr, xs := λ a => [.d (eGaus a.l), fvGr a.q], L := λ a => [], val := λ a => .bool (a.l.all λ x => riG x), keep := λ a => [], pre := PGr }
def V4Gr (a : MGr) : Prop := fnVC Try.prog A4Gr F_eG (bodyOf F_eG) (C4Gr.xs a) (heapOf (C4Gr.L a)) (C4Gr.val a) (C4Gr.keep a) [] []
theorem vc4Gr (a : MGr) : (V4Gr a) = (((rng a.l.length λ (i : Nat) => gD a.l i).length = a.l.length /\ (∀ (i : Nat), i < (rng a.l.length λ (i : Nat) => gD a.l i).length -> (gD (rng a.l.length λ (i : Nat) => gD a.l i)
 i).st = (gD a.l i).st /\ (gD (rng a.l.length λ (i : Nat) => gD a.l i) i).lo = (gD a.l i).lo /\ (gD (rng a.l.length λ (i : Nat) => gD a.l i) i).hi = (gD a.l i).hi) /\ (rng a.l.length λ (i : Nat) => gD a.l i).length <
 4611686018427387904 /\ True) /\ (a.l.all λ (x : Gau) => riG x) = !decide (idx (λ (i : Nat) => !riG (gD (rng a.l.length λ (i : Nat) => gD a.l i) i)) (rng a.l.length λ (i : Nat) => gD a.l i).length 0 >= 0)) := by
 kernel_rfl
theorem ok4Gr : SpecOk Try.prog n_eG (C4Gr.spec d4Gr) := Ctr.spec_ok (C := C4Gr) (λ (a : MGr) h => fnt (A := A4Gr) (ren := []) (fz := []) fn_eG (by kernel_rfl) (gok_cons ok3Gr gok_nil) (by
 have h' : a.l.length < 4611686018427387904 /\ True := h
 show V4Gr a; rw [vc4Gr]; simp only [condP, eq_self, implies_true, and_self, true_and, and_true, true_implies, forall_const, decide_eq_true_eq, decide_eq_false_iff_not, Int.toNat_natCast, dSpan_eSpan, dInt_eInt, dGau_e, dPt_e, dLn_e, dRt_e, Nat.zero_add, Int.zero_sub, Nat.le_eq, Nat.succ_eq_add_one, Nat.add_one_le_iff, Bool.not_eq_true', Bool.not_eq_false', rng_length, dSpan_mk, rng_getD, ge_iff_le]
 rw [<- every_all]
 exact ⟨h'.1, rfl⟩)) _
def fvGp (q : Ln) : AVal := .fn (.func n_passes) [.d (eLn q)] []
def BGp (q : Ln) : AObj := .box [fvGp q]
structure EGp where
 q : Ln
 e : Gau
structure MGp where
 q : Ln
 l : List Gau
def C1Gp : Ctr := { ro := [100], α := EGp, xs := λ a => [.d (eGau a.e), .bptr 100 0], L := λ a => (100, BGp a.q) :: [], val := λ a => .bool (!passM a.q a.e), keep := λ a => (100, .live (BGp a.q)) :: [], pre := λ a => [(okL a.q /\ okG a.e)] }
def d1Gp : List AVal -> Heap -> Option (EGp × List (Nat × Nat) × List Nat)
 | [.d d, .bptr id _], H => match H id with
  | .live (.box [.fn _ [.d x] _]) => some (⟨dLn x, dGau d⟩, [(100, id)], [])
  | _ => none
 | _, _ => none
def A1Gp : Ann := { ann 8 [(n_passes, s_passes)] with E := [100] }
def V1Gp (a : EGp) : Prop := fnVC Try.prog A1Gp F_eG1 (bodyOf F_eG1) (C1Gp.xs a) (heapOf (C1Gp.L a)) (C1Gp.val a) (C1Gp.keep a) [] []
theorem vc1Gp (a : EGp) : (V1Gp a) = (((0 <= a.q.a0 /\ a.q.a0 < a.q.b0 /\ a.q.b0 <= 2000 /\ 0 <= a.q.a1 /\ a.q.a1 <= a.q.b1 /\ a.q.b1 <= 200000) /\ 0 <= a.e.st /\ a.e.st <= 2000 /\ 0 <= a.e.lo /\ a.e.lo <= a.e.hi /\ a.e.hi <= 200000) /\
 (!passM a.q a.e) = !passM a.q a.e /\ a.q.a0 = a.q.a0 /\ a.q.a1 = a.q.a1 /\ a.q.b0 = a.q.b0 /\ a.q.b1 = a.q.b1) := by kernel_rfl
theorem ok1Gp : SpecOk Try.prog n_eG1 (C1Gp.spec d1Gp) := okC C1Gp (λ _ => A1Gp) [] [] fn_eG1 (λ _ => by kernel_rfl) (λ _ => gok_cons ok_passes gok_nil) (λ (a : EGp) h => by
 show V1Gp a; rw [vc1Gp]; exact ⟨h, by simp⟩) (λ _ => noI rfl rfl) _
def d2Gp : List AVal -> Heap -> Option (MGp × List (Nat × Nat) × List Nat)
 | [y, .fn _ _ [.bptr id _]], H => match dRow y H with
  | some (n, g, f) => match H id with
   | .live (.box [.fn _ [.d x] _]) => some (⟨dLn x, rng n λ i => dGau (g i)⟩, [(100, id)], f)
   | _ => none
  | none => none
 | _, _ => none
def A2Gp (a : MGp) : Ann := { ann 19 [(n_eG1, C1Gp.spec d1Gp)] with E := [100], loops := λ id => if id = 2 then some [{ α := Nat, dflt := 0, T := λ k => ⟨[(0, .d (eGaus a.l)), (1, .fn (.func n_eG1) [] [.bptr 100 0]), (7, .int a.l.length), (8, .int k)], (100, .live (BGp a.q)) :: []⟩, inv := λ k => k <= a.l.length /\ idx (λ i => !passM a.q (gD a.l i)) a.l.length 0 = idx (λ i => !passM a.q (gD a.l i)) (a.l.length - k) k, meas := λ k => a.l.length - k }] else none }
def PGp (a : MGp) : List Prop := [a.l.length < 4611686018427387904 /\ (∀ x ∈ a.l, (okL a.q /\ okG x))]
def C2Gp : Ctr := { ro := [100], α := MGp, xs := λ a => [.d (eGaus a.l), .fn (.func n_eG1) [] [.bptr 100 0]], L := λ a => (100, BGp a.q) :: [], val := λ a => .int (idx (λ i => !passM a.q (gD a.l i)) a.l.length 0), keep := λ a => (100, .live (BGp a.q)) :: [], pre := PGp }
def V2Gp (a : MGp) : Prop := fnVC Try.prog (A2Gp a) F_ifG (bodyOf F_ifG) (C2Gp.xs a) (heapOf (C2Gp.L a)) (C2Gp.val a) (C2Gp.keep a) [] []
theorem vc2Gp (a : MGp) : (V2Gp a) = ((∃ (a_1 : Nat), (a.l.length = a.l.length /\ (∀ (i : Nat), i < a.l.length -> (gD a.l i).st = (gD a.l i).st /\ (gD a.l i).lo = (gD a.l i).lo /\ (gD a.l i).hi = (gD a.l i).hi) /\
 (↑a.l.length : Int) = (↑a.l.length : Int) /\ (↑a_1 : Int) = 0 /\ a.q.a0 = a.q.a0 /\ a.q.a1 = a.q.a1 /\ a.q.b0 = a.q.b0 /\ a.q.b1 = a.q.b1) /\ a_1 <= a.l.length /\ idx (λ (i : Nat) => !passM a.q (gD a.l i)) a.l.length 0 = idx
 (λ (i : Nat) => !passM a.q (gD a.l i)) (a.l.length - a_1) a_1) /\ ∀ (a_1 : Nat), a_1 <= a.l.length /\ idx (λ (i : Nat) => !passM a.q (gD a.l i)) a.l.length 0 = idx (λ (i : Nat) => !passM a.q (gD a.l i)) (a.l.length -
 a_1) a_1 -> bif decide ((↑a_1 : Int) < (↑a.l.length : Int)) then ((0 <= (↑a_1 : Int) /\ (↑a_1 : Int) < (↑a.l.length : Int)) /\ (gD a.l a_1).st = (gD a.l a_1).st /\ (gD a.l a_1).lo = (gD a.l a_1).lo /\ (gD a.l a_1).hi = (gD a.l
 a_1).hi /\ a.q.a0 = a.q.a0 /\ a.q.a1 = a.q.a1 /\ a.q.b0 = a.q.b0 /\ a.q.b1 = a.q.b1 /\ a.q.a0 = a.q.a0 /\ a.q.a1 = a.q.a1 /\ a.q.b0 = a.q.b0 /\ a.q.b1 = a.q.b1 /\ (0 <= a.q.a0 /\ a.q.a0 < a.q.b0 /\ a.q.b0 <= 2000 /\ 0 <= a.q.a1 /\
 a.q.a1 <= a.q.b1 /\ a.q.b1 <= 200000) /\ 0 <= (gD a.l a_1).st /\ (gD a.l a_1).st <= 2000 /\ 0 <= (gD a.l a_1).lo /\ (gD a.l a_1).lo <= (gD a.l a_1).hi /\ (gD a.l a_1).hi <= 200000) /\ bif !passM a.q (gD a.l a_1) then idx (λ (i :
 Nat) => !passM a.q (gD a.l i)) a.l.length 0 = (↑a_1 : Int) /\ a.q.a0 = a.q.a0 /\ a.q.a1 = a.q.a1 /\ a.q.b0 = a.q.b0 /\ a.q.b1 = a.q.b1 else ∃ (a_3 : Nat), (a.l.length = a.l.length /\ (∀ (i : Nat), i < a.l.length -> (gD a.l
 i).st = (gD a.l i).st /\ (gD a.l i).lo = (gD a.l i).lo /\ (gD a.l i).hi = (gD a.l i).hi) /\ (↑a.l.length : Int) = (↑a.l.length : Int) /\ (↑a_3 : Int) = IntKind.i64.wrap ((↑a_1 : Int) + 1) /\ a.q.a0 = a.q.a0 /\ a.q.a1 = a.q.a1
 /\ a.q.b0 = a.q.b0 /\ a.q.b1 = a.q.b1) /\ (a_3 <= a.l.length /\ idx (λ (i : Nat) => !passM a.q (gD a.l i)) a.l.length 0 = idx (λ (i : Nat) => !passM a.q (gD a.l i)) (a.l.length - a_3) a_3) /\ a.l.length - a_3 < a.l.length
 - a_1 else idx (λ (i : Nat) => !passM a.q (gD a.l i)) a.l.length 0 = -1 /\ a.q.a0 = a.q.a0 /\ a.q.a1 = a.q.a1 /\ a.q.b0 = a.q.b0 /\ a.q.b1 = a.q.b1) := by kernel_rfl
theorem p2Gp (a : MGp) (h : allP (PGp a)) : V2Gp a := by
 obtain ⟨h, hp⟩ : a.l.length < 4611686018427387904 /\ (∀ x ∈ a.l, (okL a.q /\ okG x)) := h
 rw [vc2Gp]
 simp only [condP, eq_self, implies_true, and_self, true_and, and_true, true_implies, forall_const, decide_eq_true_eq, decide_eq_false_iff_not, Int.toNat_natCast, dSpan_eSpan, dInt_eInt, dGau_e, dPt_e, dLn_e, dRt_e, Nat.zero_add, Int.zero_sub, Nat.le_eq, Nat.succ_eq_add_one, Nat.add_one_le_iff, Bool.not_eq_true', Bool.not_eq_false', rng_length, dSpan_mk, rng_getD]
 refine ⟨⟨0, rfl, Nat.zero_le _, rfl⟩, λ k ⟨h1, h2⟩ => ⟨λ hlt => ?_, λ hge => ?_⟩⟩
 ·have hlt : k < a.l.length := by omega
  refine ⟨⟨⟨by omega, by omega⟩, hp _ (gD_mem hlt)⟩, λ hp => ?_, λ hp => ⟨k + 1, (wsucc (by omega)).symm, ⟨by omega, ?_⟩, by omega⟩⟩
  ·rw [h2]; exact idx_stop hlt (by simpa using hp)
  ·rw [h2]; exact idx_go hlt (by simpa using hp)
 ·rw [h2]; exact idx_end (by omega)
theorem ok2Gp : SpecOk Try.prog n_ifG (C2Gp.spec d2Gp) := okC C2Gp A2Gp [] [] fn_ifG (λ _ => by kernel_rfl) (λ _ => gok_cons ok1Gp gok_nil) p2Gp (λ _ => noI rfl rfl) _
def C3Gp : Ctr := { C2Gp with val := λ (a : MGp) => .bool (decide (idx (λ i => !passM a.q (gD a.l i)) a.l.length 0 >= 0)) }
def d3Gp : List AVal -> Heap -> Option (C3Gp.α × List (Nat × Nat) × List Nat) := d2Gp
def A3Gp : Ann := { ann 9 [(n_ifG, C2Gp.spec d2Gp)] with E := [100] }
def V3Gp (a : MGp) : Prop := fnVC Try.prog A3Gp F_cfG (bodyOf F_cfG) (C3Gp.xs a) (heapOf (C3Gp.L a)) (C3Gp.val a) (C3Gp.keep a) [] []
theorem vc3Gp (a : MGp) : (V3Gp a) = (((rng a.l.length λ (i : Nat) => gD a.l i).length = a.l.length /\ (∀ (i : Nat), i < (rng a.l.length λ (i : Nat) => gD a.l i).length -> (gD (rng a.l.length λ (i : Nat) => gD a.l i)
 i).st = (gD a.l i).st /\ (gD (rng a.l.length λ (i : Nat) => gD a.l i) i).lo = (gD a.l i).lo /\ (gD (rng a.l.length λ (i : Nat) => gD a.l i) i).hi = (gD a.l i).hi) /\ a.q.a0 = a.q.a0 /\ a.q.a1 = a.q.a1 /\ a.q.b0 = a.q.b0 /\
 a.q.b1 = a.q.b1 /\ a.q.a0 = a.q.a0 /\ a.q.a1 = a.q.a1 /\ a.q.b0 = a.q.b0 /\ a.q.b1 = a.q.b1 /\ (rng a.l.length λ (i : Nat) => gD a.l i).length < 4611686018427387904 /\ ∀ (x : Gau), List.Mem x (rng a.l.length λ (i : Nat) =>
 gD a.l i) -> (0 <= a.q.a0 /\ a.q.a0 < a.q.b0 /\ a.q.b0 <= 2000 /\ 0 <= a.q.a1 /\ a.q.a1 <= a.q.b1 /\ a.q.b1 <= 200000) /\ 0 <= x.st /\ x.st <= 2000 /\ 0 <= x.lo /\ x.lo <= x.hi /\ x.hi <= 200000) /\ decide (idx (λ (i : Nat) => !passM a.q
 (gD a.l i)) a.l.length 0 >= 0) = decide (idx (λ (i : Nat) => !passM a.q (gD (rng a.l.length λ (i : Nat) => gD a.l i) i)) (rng a.l.length λ (i : Nat) => gD a.l i).length 0 >= 0) /\ a.q.a0 = a.q.a0 /\ a.q.a1 = a.q.a1 /\
 a.q.b0 = a.q.b0 /\ a.q.b1 = a.q.b1) := by kernel_rfl
theorem ok3Gp : SpecOk Try.prog n_cfG (C3Gp.spec d3Gp) := Ctr.spec_ok (C := C3Gp) (λ (a : MGp) h => fnt (A := A3Gp) (ren := []) (fz := []) fn_cfG (by kernel_rfl) (gok_cons ok2Gp gok_nil) (by
 obtain ⟨h, hp⟩ : a.l.length < 4611686018427387904 /\ (∀ x ∈ a.l, (okL a.q /\ okG x)) := h
 show V3Gp a; rw [vc3Gp]; simp [h, rng_getD]; exact hp)) _
def d4Gp : List AVal -> Heap -> Option (MGp × List (Nat × Nat) × List Nat)
 | [y, .fn _ [.d x] _], H => match dRow y H with
  | some (n, g, f) => some (⟨dLn x, rng n λ i => dGau (g i)⟩, [], f)
  | none => none
 | _, _ => none
def A4Gp : Ann := { ann 9 [(n_cfG, C3Gp.spec d3Gp)] with E := [] }
def C4Gp : Ctr := { ro := [], α := MGp, xs := λ a => [.d (eGaus a.l), fvGp a.q], L := λ a => [], val := λ a => .bool (a.l.all λ x => passM a.q x), keep := λ a => [], pre := PGp }
def V4Gp (a : MGp) : Prop := fnVC Try.prog A4Gp F_eG (bodyOf F_eG) (C4Gp.xs a) (heapOf (C4Gp.L a)) (C4Gp.val a) (C4Gp.keep a) [] []
theorem vc4Gp (a : MGp) : (V4Gp a) = (((rng a.l.length λ (i : Nat) => gD a.l i).length = a.l.length /\ (∀ (i : Nat), i < (rng a.l.length λ (i : Nat) => gD a.l i).length -> (gD (rng a.l.length λ (i : Nat) => gD a.l i)
 i).st = (gD a.l i).st /\ (gD (rng a.l.length λ (i : Nat) => gD a.l i) i).lo = (gD a.l i).lo /\ (gD (rng a.l.length λ (i : Nat) => gD a.l i) i).hi = (gD a.l i).hi) /\ a.q.a0 = a.q.a0 /\ a.q.a1 = a.q.a1 /\ a.q.b0 = a.q.b0 /\
 a.q.b1 = a.q.b1 /\ a.q.a0 = a.q.a0 /\ a.q.a1 = a.q.a1 /\ a.q.b0 = a.q.b0 /\ a.q.b1 = a.q.b1 /\ (rng a.l.length λ (i : Nat) => gD a.l i).length < 4611686018427387904 /\ ∀ (x : Gau), List.Mem x (rng a.l.length λ (i : Nat) =>
 gD a.l i) -> (0 <= a.q.a0 /\ a.q.a0 < a.q.b0 /\ a.q.b0 <= 2000 /\ 0 <= a.q.a1 /\ a.q.a1 <= a.q.b1 /\ a.q.b1 <= 200000) /\ 0 <= x.st /\ x.st <= 2000 /\ 0 <= x.lo /\ x.lo <= x.hi /\ x.hi <= 200000) /\ (a.l.all λ (x : Gau) => passM a.q x) =
 !decide (idx (λ (i : Nat) => !passM a.q (gD (rng a.l.length λ (i : Nat) => gD a.l i) i)) (rng a.l.length λ (i : Nat) => gD a.l i).length 0 >= 0)) := by kernel_rfl
theorem ok4Gp : SpecOk Try.prog n_eG (C4Gp.spec d4Gp) := Ctr.spec_ok (C := C4Gp) (λ (a : MGp) h => fnt (A := A4Gp) (ren := []) (fz := []) fn_eG (by kernel_rfl) (gok_cons ok3Gp gok_nil) (by
 have h' : a.l.length < 4611686018427387904 /\ (∀ x ∈ a.l, (okL a.q /\ okG x)) := h
 show V4Gp a; rw [vc4Gp]; simp only [condP, eq_self, implies_true, and_self, true_and, and_true, true_implies, forall_const, decide_eq_true_eq, decide_eq_false_iff_not, Int.toNat_natCast, dSpan_eSpan, dInt_eInt, dGau_e, dPt_e, dLn_e, dRt_e, Nat.zero_add, Int.zero_sub, Nat.le_eq, Nat.succ_eq_add_one, Nat.add_one_le_iff, Bool.not_eq_true', Bool.not_eq_false', rng_length, dSpan_mk, rng_getD, ge_iff_le]
 rw [<- every_all]
 exact ⟨h', rfl⟩)) _
def fvLr (q : One) : AVal := .fn (.func n_riL) [] []
def BLr (q : One) : AObj := .box [fvLr q]
structure ELr where
 q : One
 e : Ln
structure MLr where
 q : One
 l : List Ln
def C1Lr : Ctr := { ro := [100], α := ELr, xs := λ a => [.d (eLn a.e), .bptr 100 0], L := λ a => (100, BLr a.q) :: [], val := λ a => .bool (!riL a.e), keep := λ a => (100, .live (BLr a.q)) :: [] }
def d1Lr : List AVal -> Heap -> Option (ELr × List (Nat × Nat) × List Nat)
 | [.d d, .bptr id _], H => some (⟨default, dLn d⟩, [(100, id)], [])
 | _, _ => none
def A1Lr : Ann := { ann 8 [(n_riL, s_riL)] with E := [100] }
def V1Lr (a : ELr) : Prop := fnVC Try.prog A1Lr F_eL1 (bodyOf F_eL1) (C1Lr.xs a) (heapOf (C1Lr.L a)) (C1Lr.val a) (C1Lr.keep a) [] []
theorem vc1Lr (a : ELr) : (V1Lr a) = ((!riL a.e) = !riL a.e) := by kernel_rfl
theorem ok1Lr : SpecOk Try.prog n_eL1 (C1Lr.spec d1Lr) := okC C1Lr (λ _ => A1Lr) [] [] fn_eL1 (λ _ => by kernel_rfl) (λ _ => gok_cons ok_riL gok_nil) (λ (a : ELr) h => by
 show V1Lr a; rw [vc1Lr]; try simp [wr, rng_getD]) (λ _ => noI rfl rfl) _
def d2Lr : List AVal -> Heap -> Option (MLr × List (Nat × Nat) × List Nat)
 | [y, .fn _ _ [.bptr id _]], H => match dRow y H with
  | some (n, g, f) => some (⟨default, rng n λ i => dLn (g i)⟩, [(100, id)], f)
  | none => none
 | _, _ => none
def A2Lr (a : MLr) : Ann := { ann 19 [(n_eL1, C1Lr.spec d1Lr)] with E := [100], loops := λ id => if id = 2 then some [{ α := Nat, dflt := 0, T := λ k => ⟨[(0, .d (eLns a.l)), (1, .fn (.func n_eL1) [] [.bptr 100 0]), (7, .int a.l.length), (8, .int k)], (100, .live (BLr a.q)) :: []⟩, inv := λ k => k <= a.l.length /\ idx (λ i => !riL (gD a.l i)) a.l.length 0 = idx (λ i => !riL (gD a.l i)) (a.l.length - k) k, meas := λ k => a.l.length - k }] else none }
def PLr (a : MLr) : List Prop := [a.l.length < 4611686018427387904 /\ True]
def C2Lr : Ctr := { ro := [100], α := MLr, xs := λ a => [.d (eLns a.l), .fn (.func n_eL1) [] [.bptr 100 0]], L := λ a => (100, BLr a.q) :: [], val := λ a => .int (idx (λ i => !riL (gD a.l i)) a.l.length 0), keep := λ a => (100, .live (BLr a.q)) :: [], pre := PLr }
def V2Lr (a : MLr) : Prop := fnVC Try.prog (A2Lr a) F_ifL (bodyOf F_ifL) (C2Lr.xs a) (heapOf (C2Lr.L a)) (C2Lr.val a) (C2Lr.keep a) [] []
theorem vc2Lr (a : MLr) : (V2Lr a) = ((∃ (a_1 : Nat), (a.l.length = a.l.length /\ (∀ (i : Nat), i < a.l.length -> (gD a.l i).a0 = (gD a.l i).a0 /\ (gD a.l i).a1 = (gD a.l i).a1 /\ (gD a.l i).b0 = (gD a.l i).b0 /\ (gD a.l
 i).b1 = (gD a.l i).b1) /\ (↑a.l.length : Int) = (↑a.l.length : Int) /\ (↑a_1 : Int) = 0) /\ a_1 <= a.l.length /\ idx (λ (i : Nat) => !riL (gD a.l i)) a.l.length 0 = idx (λ (i : Nat) => !riL (gD a.l i)) (a.l.length - a_1)
 a_1) /\ ∀ (a_1 : Nat), a_1 <= a.l.length /\ idx (λ (i : Nat) => !riL (gD a.l i)) a.l.length 0 = idx (λ (i : Nat) => !riL (gD a.l i)) (a.l.length - a_1) a_1 -> bif decide ((↑a_1 : Int) < (↑a.l.length : Int)) then ((0 <=
 (↑a_1 : Int) /\ (↑a_1 : Int) < (↑a.l.length : Int)) /\ (gD a.l a_1).a0 = (gD a.l a_1).a0 /\ (gD a.l a_1).a1 = (gD a.l a_1).a1 /\ (gD a.l a_1).b0 = (gD a.l a_1).b0 /\ (gD a.l a_1).b1 = (gD a.l a_1).b1) /\ bif !riL (gD a.l a_1)
 then idx (λ (i : Nat) => !riL (gD a.l i)) a.l.length 0 = (↑a_1 : Int) else ∃ (a_3 : Nat), (a.l.length = a.l.length /\ (∀ (i : Nat), i < a.l.length -> (gD a.l i).a0 = (gD a.l i).a0 /\ (gD a.l i).a1 = (gD a.l i).a1 /\ (gD
 a.l i).b0 = (gD a.l i).b0 /\ (gD a.l i).b1 = (gD a.l i).b1) /\ (↑a.l.length : Int) = (↑a.l.length : Int) /\ (↑a_3 : Int) = IntKind.i64.wrap ((↑a_1 : Int) + 1)) /\ (a_3 <= a.l.length /\ idx (λ (i : Nat) => !riL (gD a.l i))
 a.l.length 0 = idx (λ (i : Nat) => !riL (gD a.l i)) (a.l.length - a_3) a_3) /\ a.l.length - a_3 < a.l.length - a_1 else idx (λ (i : Nat) => !riL (gD a.l i)) a.l.length 0 = -1) := by kernel_rfl
theorem p2Lr (a : MLr) (h : allP (PLr a)) : V2Lr a := by
 obtain ⟨h, hp⟩ : a.l.length < 4611686018427387904 /\ True := h
 rw [vc2Lr]
 simp only [condP, eq_self, implies_true, and_self, true_and, and_true, true_implies, forall_const, decide_eq_true_eq, decide_eq_false_iff_not, Int.toNat_natCast, dSpan_eSpan, dInt_eInt, dGau_e, dPt_e, dLn_e, dRt_e, Nat.zero_add, Int.zero_sub, Nat.le_eq, Nat.succ_eq_add_one, Nat.add_one_le_iff, Bool.not_eq_true', Bool.not_eq_false', rng_length, dSpan_mk, rng_getD]
 refine ⟨⟨0, rfl, Nat.zero_le _, rfl⟩, λ k ⟨h1, h2⟩ => ⟨λ hlt => ?_, λ hge => ?_⟩⟩
 ·have hlt : k < a.l.length := by omega
  refine ⟨⟨by omega, by omega⟩, λ hp => ?_, λ hp => ⟨k + 1, (wsucc (by omega)).symm, ⟨by omega, ?_⟩, by omega⟩⟩
  ·rw [h2]; exact idx_stop hlt (by simpa using hp)
  ·rw [h2]; exact idx_go hlt (by simpa using hp)
 ·rw [h2]; exact idx_end (by omega)
theorem ok2Lr : SpecOk Try.prog n_ifL (C2Lr.spec d2Lr) := okC C2Lr A2Lr [] [] fn_ifL (λ _ => by kernel_rfl) (λ _ => gok_cons ok1Lr gok_nil) p2Lr (λ _ => noI rfl rfl) _
def C3Lr : Ctr := { C2Lr with val := λ (a : MLr) => .bool (decide (idx (λ i => !riL (gD a.l i)) a.l.length 0 >= 0)) }
def d3Lr : List AVal -> Heap -> Option (C3Lr.α × List (Nat × Nat) × List Nat) := d2Lr
def A3Lr : Ann := { ann 9 [(n_ifL, C2Lr.spec d2Lr)] with E := [100] }
def V3Lr (a : MLr) : Prop := fnVC Try.prog A3Lr F_cfL (bodyOf F_cfL) (C3Lr.xs a) (heapOf (C3Lr.L a)) (C3Lr.val a) (C3Lr.keep a) [] []
theorem vc3Lr (a : MLr) : (V3Lr a) = (((rng a.l.length λ (i : Nat) => gD a.l i).length = a.l.length /\ (∀ (i : Nat), i < (rng a.l.length λ (i : Nat) => gD a.l i).length -> (gD (rng a.l.length λ (i : Nat) => gD a.l i)
 i).a0 = (gD a.l i).a0 /\ (gD (rng a.l.length λ (i : Nat) => gD a.l i) i).a1 = (gD a.l i).a1 /\ (gD (rng a.l.length λ (i : Nat) => gD a.l i) i).b0 = (gD a.l i).b0 /\ (gD (rng a.l.length λ (i : Nat) => gD a.l i) i).b1 =
 (gD a.l i).b1) /\ (rng a.l.length λ (i : Nat) => gD a.l i).length < 4611686018427387904 /\ True) /\ decide (idx (λ (i : Nat) => !riL (gD a.l i)) a.l.length 0 >= 0) = decide (idx (λ (i : Nat) => !riL (gD (rng a.l.length
 λ (i : Nat) => gD a.l i) i)) (rng a.l.length λ (i : Nat) => gD a.l i).length 0 >= 0)) := by kernel_rfl
theorem ok3Lr : SpecOk Try.prog n_cfL (C3Lr.spec d3Lr) := Ctr.spec_ok (C := C3Lr) (λ (a : MLr) h => fnt (A := A3Lr) (ren := []) (fz := []) fn_cfL (by kernel_rfl) (gok_cons ok2Lr gok_nil) (by
 obtain ⟨h, hp⟩ : a.l.length < 4611686018427387904 /\ True := h
 show V3Lr a; rw [vc3Lr]; simp [h, rng_getD])) _
def d4Lr : List AVal -> Heap -> Option (MLr × List (Nat × Nat) × List Nat)
 | [y, .fn _ _ _], H => match dRow y H with
  | some (n, g, f) => some (⟨default, rng n λ i => dLn (g i)⟩, [], f)
  | none => none
 | _, _ => none
def A4Lr : Ann := { ann 9 [(n_cfL, C3Lr.spec d3Lr)] with E := [] }
def C4Lr : Ctr := { ro := [], α := MLr, xs := λ a => [.d (eLns a.l), fvLr a.q], L := λ a => [], val := λ a => .bool (a.l.all λ x => riL x), keep := λ a => [], pre := PLr }
def V4Lr (a : MLr) : Prop := fnVC Try.prog A4Lr F_eL (bodyOf F_eL) (C4Lr.xs a) (heapOf (C4Lr.L a)) (C4Lr.val a) (C4Lr.keep a) [] []
theorem vc4Lr (a : MLr) : (V4Lr a) = (((rng a.l.length λ (i : Nat) => gD a.l i).length = a.l.length /\ (∀ (i : Nat), i < (rng a.l.length λ (i : Nat) => gD a.l i).length -> (gD (rng a.l.length λ (i : Nat) => gD a.l i)
 i).a0 = (gD a.l i).a0 /\ (gD (rng a.l.length λ (i : Nat) => gD a.l i) i).a1 = (gD a.l i).a1 /\ (gD (rng a.l.length λ (i : Nat) => gD a.l i) i).b0 = (gD a.l i).b0 /\ (gD (rng a.l.length λ (i : Nat) => gD a.l i) i).b1 =
 (gD a.l i).b1) /\ (rng a.l.length λ (i : Nat) => gD a.l i).length < 4611686018427387904 /\ True) /\ (a.l.all λ (x : Ln) => riL x) = !decide (idx (λ (i : Nat) => !riL (gD (rng a.l.length λ (i : Nat) => gD a.l i) i))
 (rng a.l.length λ (i : Nat) => gD a.l i).length 0 >= 0)) := by kernel_rfl
theorem ok4Lr : SpecOk Try.prog n_eL (C4Lr.spec d4Lr) := Ctr.spec_ok (C := C4Lr) (λ (a : MLr) h => fnt (A := A4Lr) (ren := []) (fz := []) fn_eL (by kernel_rfl) (gok_cons ok3Lr gok_nil) (by
 have h' : a.l.length < 4611686018427387904 /\ True := h
 show V4Lr a; rw [vc4Lr]; simp only [condP, eq_self, implies_true, and_self, true_and, and_true, true_implies, forall_const, decide_eq_true_eq, decide_eq_false_iff_not, Int.toNat_natCast, dSpan_eSpan, dInt_eInt, dGau_e, dPt_e, dLn_e, dRt_e, Nat.zero_add, Int.zero_sub, Nat.le_eq, Nat.succ_eq_add_one, Nat.add_one_le_iff, Bool.not_eq_true', Bool.not_eq_false', rng_length, dSpan_mk, rng_getD, ge_iff_le]
 rw [<- every_all]
 exact ⟨h'.1, rfl⟩)) _
def LXIn (q : List Gau) : List (Nat × AObj) := [(101, .box [.d (eGaus q)])]
def KXIn (q : List Gau) : List (Nat × HCell) := [(101, .live (.box [.d (eGaus q)]))]
def fvIn (q : List Gau) : AVal := .fn (.func n_named1) [] [.bptr 101 0]
def BIn (q : List Gau) : AObj := .box [fvIn q]
structure EIn where
 q : List Gau
 e : Int
structure MIn where
 q : List Gau
 l : List Int
def C1In : Ctr := { ro := [100, 101], α := EIn, xs := λ a => [.d (eInt a.e), .bptr 100 0], L := λ a => (100, BIn a.q) :: LXIn a.q, val := λ a => .bool (!inM a.e 0 (wr (a.q.length - 1))), keep := λ a => (100, .live (BIn a.q)) :: KXIn a.q }
def d1In : List AVal -> Heap -> Option (EIn × List (Nat × Nat) × List Nat)
 | [.d d, .bptr id _], H => match H id with
  | .live (.box [.fn _ _ [.bptr j _]]) => match H j with
   | .live (.box [.d (.list _ m h _)]) => some (⟨rng m λ i => dGau (h i), dInt d⟩, [(100, id), (101, j)], [])
   | _ => none
  | _ => none
 | _, _ => none
def A1In : Ann := { ann 8 [(n_named1, C_nm1.spec d_nm1)] with E := [100, 101] }
def V1In (a : EIn) : Prop := fnVC Try.prog A1In F_eI1 (bodyOf F_eI1) (C1In.xs a) (heapOf (C1In.L a)) (C1In.val a) (C1In.keep a) [] []
theorem vc1In (a : EIn) : (V1In a) = ((a.e = a.e /\ (rng a.q.length λ (i : Nat) => gD a.q i).length = a.q.length /\ (∀ (i : Nat), i < (rng a.q.length λ (i : Nat) => gD a.q i).length -> (gD (rng a.q.length λ (i : Nat)
 => gD a.q i) i).st = (gD a.q i).st /\ (gD (rng a.q.length λ (i : Nat) => gD a.q i) i).lo = (gD a.q i).lo /\ (gD (rng a.q.length λ (i : Nat) => gD a.q i) i).hi = (gD a.q i).hi) /\ a.q.length = (rng a.q.length λ (i :
 Nat) => gD a.q i).length /\ ∀ (i : Nat), i < a.q.length -> (gD a.q i).st = (gD (rng a.q.length λ (i : Nat) => gD a.q i) i).st /\ (gD a.q i).lo = (gD (rng a.q.length λ (i : Nat) => gD a.q i) i).lo /\ (gD a.q i).hi = (gD
 (rng a.q.length λ (i : Nat) => gD a.q i) i).hi) /\ (!inM a.e 0 (wr ((↑a.q.length : Int) - 1))) = !inM a.e 0 (wr ((↑(rng a.q.length λ (i : Nat) => gD a.q i).length : Int) - 1)) /\ a.q.length = a.q.length /\ ∀ (i : Nat),
 i < a.q.length -> (gD a.q i).st = (gD a.q i).st /\ (gD a.q i).lo = (gD a.q i).lo /\ (gD a.q i).hi = (gD a.q i).hi) := by kernel_rfl
theorem ok1In : SpecOk Try.prog n_eI1 (C1In.spec d1In) := okC C1In (λ _ => A1In) [] [] fn_eI1 (λ _ => by kernel_rfl) (λ _ => gok_cons ok_nm1 gok_nil) (λ (a : EIn) h => by
 show V1In a; rw [vc1In]; try simp [wr, rng_getD]) (λ _ => noI rfl rfl) _
def d2In : List AVal -> Heap -> Option (MIn × List (Nat × Nat) × List Nat)
 | [y, .fn _ _ [.bptr id _]], H => match dRow y H with
  | some (n, g, f) => match H id with
   | .live (.box [.fn _ _ [.bptr j _]]) => match H j with
    | .live (.box [.d (.list _ m h _)]) => some (⟨rng m λ i => dGau (h i), rng n λ i => dInt (g i)⟩, [(100, id), (101, j)], f)
    | _ => none
   | _ => none
  | none => none
 | _, _ => none
def A2In (a : MIn) : Ann := { ann 19 [(n_eI1, C1In.spec d1In)] with E := [100, 101], loops := λ id => if id = 2 then some [{ α := Nat, dflt := 0, T := λ k => ⟨[(0, .d (eIntsL a.l)), (1, .fn (.func n_eI1) [] [.bptr 100 0]), (7, .int a.l.length), (8, .int k)], (100, .live (BIn a.q)) :: KXIn a.q⟩, inv := λ k => k <= a.l.length /\ idx (λ i => !inM (gD a.l i) 0 (wr (a.q.length - 1))) a.l.length 0 = idx (λ i => !inM (gD a.l i) 0 (wr (a.q.length - 1))) (a.l.length - k) k, meas := λ k => a.l.length - k }] else none }
def PIn (a : MIn) : List Prop := [a.l.length < 4611686018427387904 /\ True]
def C2In : Ctr := { ro := [100, 101], α := MIn, xs := λ a => [.d (eIntsL a.l), .fn (.func n_eI1) [] [.bptr 100 0]], L := λ a => (100, BIn a.q) :: LXIn a.q, val := λ a => .int (idx (λ i => !inM (gD a.l i) 0 (wr (a.q.length - 1))) a.l.length 0), keep := λ a => (100, .live (BIn a.q)) :: KXIn a.q, pre := PIn }
def V2In (a : MIn) : Prop := fnVC Try.prog (A2In a) F_ifI (bodyOf F_ifI) (C2In.xs a) (heapOf (C2In.L a)) (C2In.val a) (C2In.keep a) [] []
theorem vc2In (a : MIn) : (V2In a) = ((∃ (a_1 : Nat), (a.l.length = a.l.length /\ (∀ (i : Nat), i < a.l.length -> gD a.l i = gD a.l i) /\ (↑a.l.length : Int) = (↑a.l.length : Int) /\ (↑a_1 : Int) = 0 /\ a.q.length =
 a.q.length /\ ∀ (i : Nat), i < a.q.length -> (gD a.q i).st = (gD a.q i).st /\ (gD a.q i).lo = (gD a.q i).lo /\ (gD a.q i).hi = (gD a.q i).hi) /\ a_1 <= a.l.length /\ idx (λ (i : Nat) => !inM (gD a.l i) 0 (wr ((↑a.q.length :
 Int) - 1))) a.l.length 0 = idx (λ (i : Nat) => !inM (gD a.l i) 0 (wr ((↑a.q.length : Int) - 1))) (a.l.length - a_1) a_1) /\ ∀ (a_1 : Nat), a_1 <= a.l.length /\ idx (λ (i : Nat) => !inM (gD a.l i) 0 (wr ((↑a.q.length :
 Int) - 1))) a.l.length 0 = idx (λ (i : Nat) => !inM (gD a.l i) 0 (wr ((↑a.q.length : Int) - 1))) (a.l.length - a_1) a_1 -> bif decide ((↑a_1 : Int) < (↑a.l.length : Int)) then ((0 <= (↑a_1 : Int) /\ (↑a_1 : Int) <
 (↑a.l.length : Int)) /\ gD a.l a_1 = gD a.l a_1 /\ (rng a.q.length λ (i : Nat) => gD a.q i).length = a.q.length /\ (∀ (i : Nat), i < (rng a.q.length λ (i : Nat) => gD a.q i).length -> (gD (rng a.q.length λ (i : Nat) =>
 gD a.q i) i).st = (gD a.q i).st /\ (gD (rng a.q.length λ (i : Nat) => gD a.q i) i).lo = (gD a.q i).lo /\ (gD (rng a.q.length λ (i : Nat) => gD a.q i) i).hi = (gD a.q i).hi) /\ a.q.length = (rng a.q.length λ (i : Nat)
 => gD a.q i).length /\ ∀ (i : Nat), i < a.q.length -> (gD a.q i).st = (gD (rng a.q.length λ (i : Nat) => gD a.q i) i).st /\ (gD a.q i).lo = (gD (rng a.q.length λ (i : Nat) => gD a.q i) i).lo /\ (gD a.q i).hi = (gD (rng
 a.q.length λ (i : Nat) => gD a.q i) i).hi) /\ bif !inM (gD a.l a_1) 0 (wr ((↑(rng a.q.length λ (i : Nat) => gD a.q i).length : Int) - 1)) then idx (λ (i : Nat) => !inM (gD a.l i) 0 (wr ((↑a.q.length : Int) - 1)))
 a.l.length 0 = (↑a_1 : Int) /\ a.q.length = a.q.length /\ ∀ (i : Nat), i < a.q.length -> (gD a.q i).st = (gD a.q i).st /\ (gD a.q i).lo = (gD a.q i).lo /\ (gD a.q i).hi = (gD a.q i).hi else ∃ (a_3 : Nat), (a.l.length =
 a.l.length /\ (∀ (i : Nat), i < a.l.length -> gD a.l i = gD a.l i) /\ (↑a.l.length : Int) = (↑a.l.length : Int) /\ (↑a_3 : Int) = IntKind.i64.wrap ((↑a_1 : Int) + 1) /\ a.q.length = a.q.length /\ ∀ (i : Nat), i < a.q.length ->
 (gD a.q i).st = (gD a.q i).st /\ (gD a.q i).lo = (gD a.q i).lo /\ (gD a.q i).hi = (gD a.q i).hi) /\ (a_3 <= a.l.length /\ idx (λ (i : Nat) => !inM (gD a.l i) 0 (wr ((↑a.q.length : Int) - 1))) a.l.length 0 = idx (λ (i :
 Nat) => !inM (gD a.l i) 0 (wr ((↑a.q.length : Int) - 1))) (a.l.length - a_3) a_3) /\ a.l.length - a_3 < a.l.length - a_1 else idx (λ (i : Nat) => !inM (gD a.l i) 0 (wr ((↑a.q.length : Int) - 1))) a.l.length 0 = -1 /\
 a.q.length = a.q.length /\ ∀ (i : Nat), i < a.q.length -> (gD a.q i).st = (gD a.q i).st /\ (gD a.q i).lo = (gD a.q i).lo /\ (gD a.q i).hi = (gD a.q i).hi) := by kernel_rfl
theorem p2In (a : MIn) (h : allP (PIn a)) : V2In a := by
 obtain ⟨h, hp⟩ : a.l.length < 4611686018427387904 /\ True := h
 rw [vc2In]
 simp only [condP, eq_self, implies_true, and_self, true_and, and_true, true_implies, forall_const, decide_eq_true_eq, decide_eq_false_iff_not, Int.toNat_natCast, dSpan_eSpan, dInt_eInt, dGau_e, dPt_e, dLn_e, dRt_e, Nat.zero_add, Int.zero_sub, Nat.le_eq, Nat.succ_eq_add_one, Nat.add_one_le_iff, Bool.not_eq_true', Bool.not_eq_false', rng_length, dSpan_mk, rng_getD]
 refine ⟨⟨0, rfl, Nat.zero_le _, rfl⟩, λ k ⟨h1, h2⟩ => ⟨λ hlt => ?_, λ hge => ?_⟩⟩
 ·have hlt : k < a.l.length := by omega
  refine ⟨⟨by omega, by omega⟩, λ hp => ?_, λ hp => ⟨k + 1, (wsucc (by omega)).symm, ⟨by omega, ?_⟩, by omega⟩⟩
  ·rw [h2]; exact idx_stop hlt (by simpa using hp)
  ·rw [h2]; exact idx_go hlt (by simpa using hp)
 ·rw [h2]; exact idx_end (by omega)
theorem ok2In : SpecOk Try.prog n_ifI (C2In.spec d2In) := okC C2In A2In [] [] fn_ifI (λ _ => by kernel_rfl) (λ _ => gok_cons ok1In gok_nil) p2In (λ _ => noI rfl rfl) _
def C3In : Ctr := { C2In with val := λ (a : MIn) => .bool (decide (idx (λ i => !inM (gD a.l i) 0 (wr (a.q.length - 1))) a.l.length 0 >= 0)) }
def d3In : List AVal -> Heap -> Option (C3In.α × List (Nat × Nat) × List Nat) := d2In
def A3In : Ann := { ann 9 [(n_ifI, C2In.spec d2In)] with E := [100, 101] }
def V3In (a : MIn) : Prop := fnVC Try.prog A3In F_cfI (bodyOf F_cfI) (C3In.xs a) (heapOf (C3In.L a)) (C3In.val a) (C3In.keep a) [] []
theorem vc3In (a : MIn) : (V3In a) = (((rng a.l.length λ (i : Nat) => gD a.l i).length = a.l.length /\ (∀ (i : Nat), i < (rng a.l.length λ (i : Nat) => gD a.l i).length -> gD (rng a.l.length λ (i : Nat) => gD a.l i)
 i = gD a.l i) /\ (rng a.q.length λ (i : Nat) => gD a.q i).length = a.q.length /\ (∀ (i : Nat), i < (rng a.q.length λ (i : Nat) => gD a.q i).length -> (gD (rng a.q.length λ (i : Nat) => gD a.q i) i).st = (gD a.q i).st
 /\ (gD (rng a.q.length λ (i : Nat) => gD a.q i) i).lo = (gD a.q i).lo /\ (gD (rng a.q.length λ (i : Nat) => gD a.q i) i).hi = (gD a.q i).hi) /\ a.q.length = (rng a.q.length λ (i : Nat) => gD a.q i).length /\ (∀ (i :
 Nat), i < a.q.length -> (gD a.q i).st = (gD (rng a.q.length λ (i : Nat) => gD a.q i) i).st /\ (gD a.q i).lo = (gD (rng a.q.length λ (i : Nat) => gD a.q i) i).lo /\ (gD a.q i).hi = (gD (rng a.q.length λ (i : Nat) => gD
 a.q i) i).hi) /\ (rng a.l.length λ (i : Nat) => gD a.l i).length < 4611686018427387904 /\ True) /\ decide (idx (λ (i : Nat) => !inM (gD a.l i) 0 (wr ((↑a.q.length : Int) - 1))) a.l.length 0 >= 0) = decide (idx (λ (i :
 Nat) => !inM (gD (rng a.l.length λ (i : Nat) => gD a.l i) i) 0 (wr ((↑(rng a.q.length λ (i : Nat) => gD a.q i).length : Int) - 1))) (rng a.l.length λ (i : Nat) => gD a.l i).length 0 >= 0) /\ a.q.length = a.q.length /\
 ∀ (i : Nat), i < a.q.length -> (gD a.q i).st = (gD a.q i).st /\ (gD a.q i).lo = (gD a.q i).lo /\ (gD a.q i).hi = (gD a.q i).hi) := by kernel_rfl
theorem ok3In : SpecOk Try.prog n_cfI (C3In.spec d3In) := Ctr.spec_ok (C := C3In) (λ (a : MIn) h => fnt (A := A3In) (ren := []) (fz := []) fn_cfI (by kernel_rfl) (gok_cons ok2In gok_nil) (by
 obtain ⟨h, hp⟩ : a.l.length < 4611686018427387904 /\ True := h
 show V3In a; rw [vc3In]; simp [h, rng_getD])) _
def d4In : List AVal -> Heap -> Option (MIn × List (Nat × Nat) × List Nat)
 | [y, .fn _ _ [.bptr j _]], H => match dRow y H with
  | some (n, g, f) => match H j with
   | .live (.box [.d (.list _ m h _)]) => some (⟨rng m λ i => dGau (h i), rng n λ i => dInt (g i)⟩, [(101, j)], f)
   | _ => none
  | none => none
 | _, _ => none
def A4In : Ann := { ann 9 [(n_cfI, C3In.spec d3In)] with E := [101] }
def C4In : Ctr := { ro := [101], α := MIn, xs := λ a => [.d (eIntsL a.l), fvIn a.q], L := λ a => LXIn a.q, val := λ a => .bool (a.l.all λ x => inM x 0 (wr (a.q.length - 1))), keep := λ a => KXIn a.q, pre := PIn }
def V4In (a : MIn) : Prop := fnVC Try.prog A4In F_eI (bodyOf F_eI) (C4In.xs a) (heapOf (C4In.L a)) (C4In.val a) (C4In.keep a) [] []
theorem vc4In (a : MIn) : (V4In a) = (((rng a.l.length λ (i : Nat) => gD a.l i).length = a.l.length /\ (∀ (i : Nat), i < (rng a.l.length λ (i : Nat) => gD a.l i).length -> gD (rng a.l.length λ (i : Nat) => gD a.l i)
 i = gD a.l i) /\ (rng a.q.length λ (i : Nat) => gD a.q i).length = a.q.length /\ (∀ (i : Nat), i < (rng a.q.length λ (i : Nat) => gD a.q i).length -> (gD (rng a.q.length λ (i : Nat) => gD a.q i) i).st = (gD a.q i).st
 /\ (gD (rng a.q.length λ (i : Nat) => gD a.q i) i).lo = (gD a.q i).lo /\ (gD (rng a.q.length λ (i : Nat) => gD a.q i) i).hi = (gD a.q i).hi) /\ a.q.length = (rng a.q.length λ (i : Nat) => gD a.q i).length /\ (∀ (i :
 Nat), i < a.q.length -> (gD a.q i).st = (gD (rng a.q.length λ (i : Nat) => gD a.q i) i).st /\ (gD a.q i).lo = (gD (rng a.q.length λ (i : Nat) => gD a.q i) i).lo /\ (gD a.q i).hi = (gD (rng a.q.length λ (i : Nat) => gD
 a.q i) i).hi) /\ (rng a.l.length λ (i : Nat) => gD a.l i).length < 4611686018427387904 /\ True) /\ (a.l.all λ (x : Int) => inM x 0 (wr ((↑a.q.length : Int) - 1))) = !decide (idx (λ (i : Nat) => !inM (gD (rng
 a.l.length λ (i : Nat) => gD a.l i) i) 0 (wr ((↑(rng a.q.length λ (i : Nat) => gD a.q i).length : Int) - 1))) (rng a.l.length λ (i : Nat) => gD a.l i).length 0 >= 0) /\ a.q.length = a.q.length /\ ∀ (i : Nat), i <
 a.q.length -> (gD a.q i).st = (gD a.q i).st /\ (gD a.q i).lo = (gD a.q i).lo /\ (gD a.q i).hi = (gD a.q i).hi) := by kernel_rfl
theorem ok4In : SpecOk Try.prog n_eI (C4In.spec d4In) := Ctr.spec_ok (C := C4In) (λ (a : MIn) h => fnt (A := A4In) (ren := []) (fz := []) fn_eI (by kernel_rfl) (gok_cons ok3In gok_nil) (by
 have h' : a.l.length < 4611686018427387904 /\ True := h
 show V4In a; rw [vc4In]; simp only [condP, eq_self, implies_true, and_self, true_and, and_true, true_implies, forall_const, decide_eq_true_eq, decide_eq_false_iff_not, Int.toNat_natCast, dSpan_eSpan, dInt_eInt, dGau_e, dPt_e, dLn_e, dRt_e, Nat.zero_add, Int.zero_sub, Nat.le_eq, Nat.succ_eq_add_one, Nat.add_one_le_iff, Bool.not_eq_true', Bool.not_eq_false', rng_length, dSpan_mk, rng_getD, ge_iff_le]
 rw [<- every_all]
 exact ⟨h'.1, rfl⟩)) _
end Go.Bal
