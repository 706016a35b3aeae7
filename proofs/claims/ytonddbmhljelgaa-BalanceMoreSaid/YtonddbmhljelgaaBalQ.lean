/- Package balance: Proves. -/
import Derived.Test.YtonddbmhljelgaaBalP
set_option linter.unusedVariables false
set_option linter.unusedSimpArgs false
namespace Go.Bal
open Go Go.Sym Go.Proofs
structure LR where
 lv : List Int
 r : Reach
def Rr (lv : List Int) (r : Reach) : Int := wr (gD lv r.to.toNat - gD lv r.fr.toNat)
def ER (lv : List Int) (r : Reach) : Bool := GD (Rr lv r) (-1) 1
def Ez (lv : List Int) : List (Nat × AObj) := [(110, .box [.fn (.func 61) [] []]), (111, .box [.d (CV lv)])]
def Vj : AVal := .fn (.func 63) [] [.bptr 110 0, .bptr 111 0]
def Qo (n : Nat) (r : Reach) : Prop := (0 <= r.to /\ r.to < n) /\ 0 <= r.fr /\ r.fr < n
def A63 := { ann 18 [(61, s61)] with E := [110, 111] }
def C63 : Ctr := { ro := [110, 111], α := LR, xs := λ a => [.d (LG a.r), .bptr 110 0, .bptr 111 0], L := λ a => Ez a.lv, val := λ a => .bool (ER a.lv a.r), keep := λ a => LS (Ez a.lv), pre := λ a => [Qo a.lv.length a.r] }
def d63 : List AVal -> Heap -> Option (LR × List (Nat × Nat) × List Nat)
 | [.d r, .bptr p _, .bptr q _], H => match H q with
  | .live (.box [.d (.list _ n g _)]) => some (⟨AC n λ i => EW (g i), ET r⟩, [(110, p), (111, q)], [])
  | _ => none
 | _, _ => none
def V63 (a : LR) : Prop := BM Try.prog A63 Try.f63 (AJ Try.f63) (C63.xs a) (AE (C63.L a)) (C63.val a) (C63.keep a) [] []
theorem Zm (a : LR) : (V63 a) = (((0 <= a.r.to /\ a.r.to < (↑a.lv.length : Int)) /\ 0 <= a.r.fr /\ a.r.fr < (↑a.lv.length : Int)) /\ ER a.lv a.r = GD (IntKind.i64.wrap (gD a.lv a.r.to.toNat - gD a.lv a.r.fr.toNat)) (-1)
 1 /\ a.lv.length = a.lv.length /\ ∀ (i : Nat), i < a.lv.length -> gD a.lv i = gD a.lv i) := by kernel_rfl
theorem p63 (a : LR) (h : Qo a.lv.length a.r) : V63 a := by
 rw [Zm]; simp only [CC, eq_self, implies_true, forall_const]
 exact ⟨h, rfl⟩
theorem ok63 : AL Try.prog 63 (C63.spec d63) := JC C63 (λ _ => A63) [] [] Try.func63 (λ _ => by kernel_rfl) (λ _ => AB Ws AH) (λ a h => p63 a h) (λ _ => KF rfl rfl) _
def Wy : List (Nat × AObj) := [(100, .box [Vj])]
def A92 := { ann 8 [(63, C63.spec d63)] with E := [100, 110, 111] }
def C92 : Ctr := { ro := [100, 110, 111], α := LR, xs := λ a => [.d (LG a.r), .bptr 100 0], L := λ a => Wy ++ Ez a.lv, val := λ a => .bool (!ER a.lv a.r), keep := λ a => LS (Wy ++ Ez a.lv), pre := λ a => [Qo a.lv.length a.r] }
def d92 : List AVal -> Heap -> Option (LR × List (Nat × Nat) × List Nat)
 | [.d r, .bptr o _], H => match H o with
  | .live (.box [.fn _ _ [.bptr p _, .bptr q _]]) => match H q with
   | .live (.box [.d (.list _ n g _)]) => some (⟨AC n λ i => EW (g i), ET r⟩, [(100, o), (110, p), (111, q)], [])
   | _ => none
  | _ => none
 | _, _ => none
def V92 (a : LR) : Prop := BM Try.prog A92 Try.f92 (AJ Try.f92) (C92.xs a) (AE (C92.L a)) (C92.val a) (C92.keep a) [] []
theorem vc92 (a : LR) : (V92 a) = ((a.r.fr = a.r.fr /\ a.r.to = a.r.to /\ a.r.sp.lo = a.r.sp.lo /\ a.r.sp.hi = a.r.sp.hi /\ (AC a.lv.length λ (i : Nat) => gD a.lv i).length = a.lv.length /\ (∀ (i : Nat), i < (AC
 a.lv.length λ (i : Nat) => gD a.lv i).length -> gD (AC a.lv.length λ (i : Nat) => gD a.lv i) i = gD a.lv i) /\ a.lv.length = (AC a.lv.length λ (i : Nat) => gD a.lv i).length /\ (∀ (i : Nat), i < a.lv.length -> gD
 a.lv i = gD (AC a.lv.length λ (i : Nat) => gD a.lv i) i) /\ (0 <= a.r.to /\ a.r.to < (↑(AC a.lv.length λ (i : Nat) => gD a.lv i).length : Int)) /\ 0 <= a.r.fr /\ a.r.fr < (↑(AC a.lv.length λ (i : Nat) => gD a.lv
 i).length : Int)) /\ (!ER a.lv a.r) = !ER (AC a.lv.length λ (i : Nat) => gD a.lv i) a.r /\ a.lv.length = a.lv.length /\ ∀ (i : Nat), i < a.lv.length -> gD a.lv i = gD a.lv i) := by kernel_rfl
theorem p92 (a : LR) (h : Qo a.lv.length a.r) : V92 a := by
 rw [vc92]; simp only [CC, eq_self, implies_true, forall_const]
 exact h
theorem ok92 : AL Try.prog 92 (C92.spec d92) := JC C92 (λ _ => A92) [] [] Try.func92 (λ _ => by kernel_rfl) (λ _ => AB ok63 AH) (λ a h => p92 a h) (λ _ => KF rfl rfl) _
structure LL where
 lv : List Int
 l : List Reach
def Vq (a : LL) : Ann := { ann 19 [(92, C92.spec d92)] with E := [100, 110, 111], loops := λ id => if id = 2 then some [{ α := Nat, dflt := 0, T := λ k => ⟨[(0, .d (BS a.l)), (1, .fn (.func 92) [] [.bptr 100 0]), (7, .int a.l.length), (8, .int k)], LS (Wy ++ Ez a.lv)⟩, inv := λ k => k <= a.l.length /\ GC (λ i => !ER a.lv (gD a.l i)) a.l.length 0 = GC (λ i => !ER a.lv (gD a.l i)) (a.l.length - k) k, meas := λ k => a.l.length - k }] else none }
def C107 : Ctr := { ro := [100, 110, 111], α := LL, xs := λ a => [.d (BS a.l), .fn (.func 92) [] [.bptr 100 0]], L := λ a => Wy ++ Ez a.lv, val := λ a => .int (GC (λ i => !ER a.lv (gD a.l i)) a.l.length 0), keep := λ a => LS (Wy ++ Ez a.lv), pre := λ a => [a.l.length < 4611686018427387904, ∀ i, i < a.l.length -> Qo a.lv.length (gD a.l i)] }
def Ue : List AVal -> Heap -> Option (LL × List (Nat × Nat) × List Nat)
 | [.d (.list _ m h _), .fn _ _ [.bptr o _]], H => match H o with
  | .live (.box [.fn _ _ [.bptr p _, .bptr q _]]) => match H q with
   | .live (.box [.d (.list _ n g _)]) => some (⟨AC n λ i => EW (g i), AC m λ i => ET (h i)⟩, [(100, o), (110, p), (111, q)], [])
   | _ => none
  | _ => none
 | _, _ => none
def Vo (a : LL) : Prop := BM Try.prog (Vq a) Try.f107 (AJ Try.f107) (C107.xs a) (AE (C107.L a)) (C107.val a) (C107.keep a) [] []
theorem Yt (a : LL) : (Vo a) = ((∃ (a_1 : Nat), (a.l.length = a.l.length /\ (∀ (i : Nat), i < a.l.length -> (gD a.l i).fr = (gD a.l i).fr /\ (gD a.l i).to = (gD a.l i).to /\ (gD a.l i).sp.lo = (gD a.l i).sp.lo /\ (gD a.l
 i).sp.hi = (gD a.l i).sp.hi) /\ (↑a.l.length : Int) = (↑a.l.length : Int) /\ (↑a_1 : Int) = 0 /\ a.lv.length = a.lv.length /\ ∀ (i : Nat), i < a.lv.length -> gD a.lv i = gD a.lv i) /\ a_1 <= a.l.length /\ GC (λ (i : Nat) =>
 !ER a.lv (gD a.l i)) a.l.length 0 = GC (λ (i : Nat) => !ER a.lv (gD a.l i)) (a.l.length - a_1) a_1) /\ ∀ (a_1 : Nat), a_1 <= a.l.length /\ GC (λ (i : Nat) => !ER a.lv (gD a.l i)) a.l.length 0 = GC (λ (i :
 Nat) => !ER a.lv (gD a.l i)) (a.l.length - a_1) a_1 -> bif decide ((↑a_1 : Int) < (↑a.l.length : Int)) then ((0 <= (↑a_1 : Int) /\ (↑a_1 : Int) < (↑a.l.length : Int)) /\ (gD a.l a_1).fr = (gD a.l a_1).fr /\ (gD a.l a_1).to
 = (gD a.l a_1).to /\ (gD a.l a_1).sp.lo = (gD a.l a_1).sp.lo /\ (gD a.l a_1).sp.hi = (gD a.l a_1).sp.hi /\ (AC a.lv.length λ (i : Nat) => gD a.lv i).length = a.lv.length /\ (∀ (i : Nat), i < (AC a.lv.length λ (i : Nat)
 => gD a.lv i).length -> gD (AC a.lv.length λ (i : Nat) => gD a.lv i) i = gD a.lv i) /\ a.lv.length = (AC a.lv.length λ (i : Nat) => gD a.lv i).length /\ (∀ (i : Nat), i < a.lv.length -> gD a.lv i = gD (AC a.lv.length
 λ (i : Nat) => gD a.lv i) i) /\ (0 <= (gD a.l a_1).to /\ (gD a.l a_1).to < (↑(AC a.lv.length λ (i : Nat) => gD a.lv i).length : Int)) /\ 0 <= (gD a.l a_1).fr /\ (gD a.l a_1).fr < (↑(AC a.lv.length λ (i : Nat) => gD
 a.lv i).length : Int)) /\ bif !ER (AC a.lv.length λ (i : Nat) => gD a.lv i) (gD a.l a_1) then GC (λ (i : Nat) => !ER a.lv (gD a.l i)) a.l.length 0 = (↑a_1 : Int) /\ a.lv.length = a.lv.length /\ ∀ (i : Nat), i <
 a.lv.length -> gD a.lv i = gD a.lv i else ∃ (a_3 : Nat), (a.l.length = a.l.length /\ (∀ (i : Nat), i < a.l.length -> (gD a.l i).fr = (gD a.l i).fr /\ (gD a.l i).to = (gD a.l i).to /\ (gD a.l i).sp.lo = (gD a.l i).sp.lo /\ (gD
 a.l i).sp.hi = (gD a.l i).sp.hi) /\ (↑a.l.length : Int) = (↑a.l.length : Int) /\ (↑a_3 : Int) = IntKind.i64.wrap ((↑a_1 : Int) + 1) /\ a.lv.length = a.lv.length /\ ∀ (i : Nat), i < a.lv.length -> gD a.lv i = gD a.lv i) /\ (a_3
 <= a.l.length /\ GC (λ (i : Nat) => !ER a.lv (gD a.l i)) a.l.length 0 = GC (λ (i : Nat) => !ER a.lv (gD a.l i)) (a.l.length - a_3) a_3) /\ a.l.length - a_3 < a.l.length - a_1 else GC (λ (i : Nat) => !ER
 a.lv (gD a.l i)) a.l.length 0 = -1 /\ a.lv.length = a.lv.length /\ ∀ (i : Nat), i < a.lv.length -> gD a.lv i = gD a.lv i) := by kernel_rfl
theorem p107 (a : LL) (h : a.l.length < 4611686018427387904) (hr : ∀ i, i < a.l.length -> Qo a.lv.length (gD a.l i)) : Vo a := by
 rw [Yt]
 simp only [CC, eq_self, implies_true, forall_const, DL.d2]
 refine ⟨⟨0, rfl, Nat.zero_le _, rfl⟩, λ k ⟨h1, h2⟩ => ⟨λ hlt => ?_, λ hge => ?_⟩⟩
 ·have hlt : k < a.l.length := by omega
  refine ⟨⟨⟨by omega, by omega⟩, hr k hlt⟩, λ hp => ?_, λ hp => ⟨k + 1, (BB (by omega)).symm, ⟨by omega, ?_⟩, by omega⟩⟩
  ·rw [h2]; exact UU hlt (by simpa using hp)
  ·rw [h2]; exact Dz hlt (by simpa using hp)
 ·rw [h2]; exact YI (by omega)
theorem Ye : AL Try.prog 107 (C107.spec Ue) := JC C107 Vq [] [] Try.func107 (λ _ => by kernel_rfl) (λ _ => AB ok92 AH) (λ a h => p107 a h.1 h.2) (λ _ => KF rfl rfl) _
def C91 : Ctr := { C107 with val := λ (a : LL) => .bool (decide (GC (λ i => !ER a.lv (gD a.l i)) a.l.length 0 >= 0)) }
def d91 : List AVal -> Heap -> Option (C91.α × List (Nat × Nat) × List Nat) := Ue
def A91 := { ann 9 [(107, C107.spec Ue)] with E := [100, 110, 111] }
def V91 (a : LL) : Prop := BM Try.prog A91 Try.f91 (AJ Try.f91) (C91.xs a) (AE (C91.L a)) (C91.val a) (C91.keep a) [] []
theorem vc91 (a : LL) : (V91 a) = (((AC a.l.length λ (i : Nat) => gD a.l i).length = a.l.length /\ (∀ (i : Nat), i < (AC a.l.length λ (i : Nat) => gD a.l i).length -> (gD (AC a.l.length λ (i : Nat) => gD a.l i)
 i).fr = (gD a.l i).fr /\ (gD (AC a.l.length λ (i : Nat) => gD a.l i) i).to = (gD a.l i).to /\ (gD (AC a.l.length λ (i : Nat) => gD a.l i) i).sp.lo = (gD a.l i).sp.lo /\ (gD (AC a.l.length λ (i : Nat) => gD a.l i)
 i).sp.hi = (gD a.l i).sp.hi) /\ (AC a.lv.length λ (i : Nat) => gD a.lv i).length = a.lv.length /\ (∀ (i : Nat), i < (AC a.lv.length λ (i : Nat) => gD a.lv i).length -> gD (AC a.lv.length λ (i : Nat) => gD a.lv i) i
 = gD a.lv i) /\ a.lv.length = (AC a.lv.length λ (i : Nat) => gD a.lv i).length /\ (∀ (i : Nat), i < a.lv.length -> gD a.lv i = gD (AC a.lv.length λ (i : Nat) => gD a.lv i) i) /\ (AC a.l.length λ (i : Nat) => gD a.l
 i).length < 4611686018427387904 /\ ∀ (i : Nat), i < (AC a.l.length λ (i : Nat) => gD a.l i).length -> (0 <= (gD (AC a.l.length λ (i : Nat) => gD a.l i) i).to /\ (gD (AC a.l.length λ (i : Nat) => gD a.l i) i).to <
 (↑(AC a.lv.length λ (i : Nat) => gD a.lv i).length : Int)) /\ 0 <= (gD (AC a.l.length λ (i : Nat) => gD a.l i) i).fr /\ (gD (AC a.l.length λ (i : Nat) => gD a.l i) i).fr < (↑(AC a.lv.length λ (i : Nat) => gD
 a.lv i).length : Int)) /\ decide (GC (λ (i : Nat) => !ER a.lv (gD a.l i)) a.l.length 0 >= 0) = decide (GC (λ (i : Nat) => !ER (AC a.lv.length λ (i : Nat) => gD a.lv i) (gD (AC a.l.length λ (i : Nat) => gD
 a.l i) i)) (AC a.l.length λ (i : Nat) => gD a.l i).length 0 >= 0) /\ a.lv.length = a.lv.length /\ ∀ (i : Nat), i < a.lv.length -> gD a.lv i = gD a.lv i) := by kernel_rfl
theorem p91 (a : LL) (h : a.l.length < 4611686018427387904) (hr : ∀ i, i < a.l.length -> Qo a.lv.length (gD a.l i)) : V91 a := by
 rw [vc91]; simp only [CC, eq_self, implies_true, forall_const, DL.d2]
 exact ⟨h, hr⟩
theorem ok91 : AL Try.prog 91 (C91.spec d91) := Ctr.spec_ok (C := C91) (λ (a : LL) h => RX (A := A91) (ren := []) (fz := []) Try.func91 (by kernel_rfl) (AB Ye AH) (p91 a h.1 h.2)) _
theorem Ij {lv : List Int} {l : List Reach} : (!decide (0 <= GC (λ i => !ER lv (gD l i)) l.length 0)) = HN (λ i => ER lv (gD l i)) l.length := ZP
def C65 : Ctr := { ro := [110, 111], α := LL, xs := λ a => [.d (BS a.l), Vj], L := λ a => Ez a.lv, val := λ a => .bool (HN (λ i => ER a.lv (gD a.l i)) a.l.length), keep := λ a => LS (Ez a.lv), pre := λ a => [a.l.length < 4611686018427387904, ∀ i, i < a.l.length -> Qo a.lv.length (gD a.l i)] }
def d65 : List AVal -> Heap -> Option (LL × List (Nat × Nat) × List Nat)
 | [.d (.list _ m h _), .fn _ _ [.bptr p _, .bptr q _]], H => match H q with
  | .live (.box [.d (.list _ n g _)]) => some (⟨AC n λ i => EW (g i), AC m λ i => ET (h i)⟩, [(110, p), (111, q)], [])
  | _ => none
 | _, _ => none
def A65 := { ann 9 [(91, C91.spec d91)] with E := [110, 111] }
def V65 (a : LL) : Prop := BM Try.prog A65 Try.f65 (AJ Try.f65) (C65.xs a) (AE (C65.L a)) (C65.val a) (C65.keep a) [] []
theorem Zg (a : LL) : (V65 a) = (((AC a.l.length λ (i : Nat) => gD a.l i).length = a.l.length /\ (∀ (i : Nat), i < (AC a.l.length λ (i : Nat) => gD a.l i).length -> (gD (AC a.l.length λ (i : Nat) => gD a.l i)
 i).fr = (gD a.l i).fr /\ (gD (AC a.l.length λ (i : Nat) => gD a.l i) i).to = (gD a.l i).to /\ (gD (AC a.l.length λ (i : Nat) => gD a.l i) i).sp.lo = (gD a.l i).sp.lo /\ (gD (AC a.l.length λ (i : Nat) => gD a.l i)
 i).sp.hi = (gD a.l i).sp.hi) /\ (AC a.lv.length λ (i : Nat) => gD a.lv i).length = a.lv.length /\ (∀ (i : Nat), i < (AC a.lv.length λ (i : Nat) => gD a.lv i).length -> gD (AC a.lv.length λ (i : Nat) => gD a.lv i) i
 = gD a.lv i) /\ a.lv.length = (AC a.lv.length λ (i : Nat) => gD a.lv i).length /\ (∀ (i : Nat), i < a.lv.length -> gD a.lv i = gD (AC a.lv.length λ (i : Nat) => gD a.lv i) i) /\ (AC a.l.length λ (i : Nat) => gD a.l
 i).length < 4611686018427387904 /\ ∀ (i : Nat), i < (AC a.l.length λ (i : Nat) => gD a.l i).length -> (0 <= (gD (AC a.l.length λ (i : Nat) => gD a.l i) i).to /\ (gD (AC a.l.length λ (i : Nat) => gD a.l i) i).to <
 (↑(AC a.lv.length λ (i : Nat) => gD a.lv i).length : Int)) /\ 0 <= (gD (AC a.l.length λ (i : Nat) => gD a.l i) i).fr /\ (gD (AC a.l.length λ (i : Nat) => gD a.l i) i).fr < (↑(AC a.lv.length λ (i : Nat) => gD
 a.lv i).length : Int)) /\ HN (λ (i : Nat) => ER a.lv (gD a.l i)) a.l.length = !decide (GC (λ (i : Nat) => !ER (AC a.lv.length λ (i : Nat) => gD a.lv i) (gD (AC a.l.length λ (i : Nat) => gD a.l i) i))
 (AC a.l.length λ (i : Nat) => gD a.l i).length 0 >= 0) /\ a.lv.length = a.lv.length /\ ∀ (i : Nat), i < a.lv.length -> gD a.lv i = gD a.lv i) := by kernel_rfl
theorem p65 (a : LL) (h : a.l.length < 4611686018427387904) (hr : ∀ i, i < a.l.length -> Qo a.lv.length (gD a.l i)) : V65 a := by
 rw [Zg]; simp only [CC, eq_self, implies_true, forall_const, ge_iff_le, DL.d2, Ij]
 exact ⟨h, hr⟩
theorem ok65 : AL Try.prog 65 (C65.spec d65) := Ctr.spec_ok (C := C65) (λ (a : LL) h => RX (A := A65) (ren := []) (fz := []) Try.func65 (by kernel_rfl) (AB ok91 AH) (p65 a h.1 h.2)) _
structure CN where
 rise : Int
 s : Span
 p : Int
def OC (rise : Int) (s : Span) (p : Int) : Int := if rise = 1 then wr (p + s.lo) else if rise = -1 then wr (p - s.hi) else p
def C66 : Ctr := { α := CN, xs := λ a => [.int a.rise, .d (JU a.s), .bptr 100 0], L := λ a => [(100, .box [.int a.p])], val := λ _ => uV, keep := λ a => [(100, .live (.box [.int (OC a.rise a.s a.p)]))] }
def d66 : List AVal -> Heap -> Option (CN × List (Nat × Nat) × List Nat)
 | [.d (.v (.int _ r)), .d s, .bptr o _], H => match H o with
  | .live (.box [.d (.v (.int _ p))]) => some (⟨r, HH s, p⟩, [(100, o)], [])
  | _ => none
 | _, _ => none
def A66 := { ann 18 [] with E := [100] }
def V66 (a : CN) : Prop := BM Try.prog A66 Try.f66 (AJ Try.f66) (C66.xs a) (AE (C66.L a)) (C66.val a) (C66.keep a) [] []
theorem vc66 (a : CN) : (V66 a) = (bif a.rise == 1 then OC a.rise a.s a.p = IntKind.i64.wrap (a.p + a.s.lo) else bif a.rise == -1 then OC a.rise a.s a.p = IntKind.i64.wrap (a.p - a.s.hi) else OC a.rise a.s
 a.p = a.p) := by kernel_rfl
theorem p66 (a : CN) : V66 a := by
 rw [vc66]; simp only [CC, eq_self, implies_true, forall_const]
 unfold OC
 by_cases h1 : a.rise = 1 <;> by_cases h2 : a.rise = -1 <;> simp [h1, h2]
theorem ok66 : AL Try.prog 66 (C66.spec d66) := JC C66 (λ _ => A66) [] [] Try.func66 (λ _ => by kernel_rfl) (λ _ => AH) (λ a _ => p66 a) (λ _ => KF rfl rfl) _
structure NPL where
 N : NetL
 price : Int
 lv : List Int
structure PK where
 p : Int
 k : Nat
 deriving Inhabited
def Tf (lv : List Int) : Int -> List Reach -> Int
 | p, [] => p
 | p, r :: l => Tf lv (OC (Rr lv r) r.sp p) l
def Yo : Int -> List Int -> List Span -> Int
 | p, x :: lv, s :: l => Yo (OC x s p) lv l
 | p, _, _ => p
def TO (N : NetL) (lv : List Int) : Int := Yo (Tf lv 0 N.r) lv N.g
def Ct (N : NetL) (lv : List Int) : Bool := decide (lv.length = N.g.length) && HN (λ i => GD (gD lv i) (-1) 1) lv.length && HN (λ i => ER lv (gD N.r i)) N.r.length
def prH (a : NPL) (p : Int) : List (Nat × HCell) := [(205, .live (.box [.d (CV a.lv)])), (211, .live (.box [.int p]))]
def Yl : AVal := .fn (.func 66) [] [.bptr 211 0]
def A24 (a : NPL) : Ann := { ann 85 [(44, Yx), (64, C64c61.spec Rt), (65, C65.spec d65), (66, C66.spec d66)] with loops := λ id => if id = 11 then some [{ α := PK, dflt := default, T := λ s => ⟨[(1, .int a.price), (3, .bptr 203 0), (5, .bptr 205 0), (11, .bptr 211 0), (12, Yl), (44, .d (BS a.N.r)), (45, .int a.N.r.length), (46, .int s.k)], [(203, MW a.N)] ++ prH a s.p⟩, inv := λ s => s.k <= a.N.r.length /\ Tf a.lv s.p (a.N.r.drop s.k) = Tf a.lv 0 a.N.r, meas := λ s => a.N.r.length - s.k, first := [(203, 1000), (205, 1016), (211, 9000)] }] else if id = 16 then some [{ α := PK, dflt := default, T := λ s => ⟨[(1, .int a.price), (5, .bptr 205 0), (11, .bptr 211 0), (12, Yl), (67, .d (DV a.N.g)), (68, .int a.N.g.length), (69, .int s.k)], prH a s.p⟩, inv := λ s => s.k <= a.N.g.length /\ Yo s.p (a.lv.drop s.k) (a.N.g.drop s.k) = TO a.N a.lv, meas := λ s => a.N.g.length - s.k }] else none }
def Zh (a : NPL) : List AVal := [.d (EZ a.N), .int a.price, .d (CV a.lv)]
def OO (a : NPL) : Int := if AD a.N = 0 then if Ct a.N a.lv then 0 else 2 else AD a.N
def C24 : Ctr := { α := NPL, xs := Zh, L := λ _ => [], val := λ a => .tup [.bool (decide (OO a = 0) && decide (a.price <= TO a.N a.lv)), .int (OO a)], keep := λ _ => [], pre := λ a => [a.lv.length < 4611686018427387904] }
def V24 (a : NPL) : Prop := BM Try.prog (A24 a) Try.f24 (AJ Try.f24) (C24.xs a) (AE (C24.L a)) (C24.val a) (C24.keep a) [] []
theorem vc24 (a : NPL) : (V24 a) = (let q := a
 let y0 := EM (Net.mk q.N.g.length (λ (i : Nat) => gD q.N.g i) q.N.r.length λ (i : Nat) => gD q.N.r i)
 let y1 := decide (OO q = 0) && decide (q.price <= TO q.N q.lv)
 let y2 := y1 = false
 let y3 := (↑q.lv.length : Int) != (↑q.N.g.length : Int)
 let y4 : List Int := AC q.lv.length λ (i : Nat) => gD q.lv i
 let y5 := y4.length
 let y6 := y5 = q.lv.length
 let y7 (i : Nat) := gD y4 i
 let y8 := ∀ (i : Nat), i < y5 -> y7 i = gD q.lv i
 let y9 := bif y3 then true else !HN (λ (i : Nat) => GD (y7 i) (-1) 1) y5
 let y10 : List Reach := AC q.N.r.length λ (i : Nat) => gD q.N.r i
 let y11 := y10.length
 let y12 (i : Nat) := i < y11
 let y13 (i : Nat) : Reach := gD y10 i
 let y14 (i : Nat) := (y13 i).fr
 let y15 (i : Nat) := (y13 i).to
 let y16 (i : Nat) : Span := (y13 i).sp
 let y17 := q.N.r.length = q.N.r.length
 let y18 := ∀ (i : Nat), i < q.N.r.length -> (gD q.N.r i).fr = (gD q.N.r i).fr /\ (gD q.N.r i).to = (gD q.N.r i).to /\ (gD q.N.r i).sp.lo = (gD q.N.r i).sp.lo /\ (gD q.N.r i).sp.hi = (gD q.N.r i).sp.hi
 let y19 := (↑q.N.r.length : Int) = (↑q.N.r.length : Int)
 let y20 (a : PK) := (↑a.k : Int) = 0
 let y21 := q.N.g.length = q.N.g.length
 let y22 := ∀ (i : Nat), i < q.N.g.length -> (gD q.N.g i).lo = (gD q.N.g i).lo /\ (gD q.N.g i).hi = (gD q.N.g i).hi
 let y23 := q.lv.length = q.lv.length
 let y24 := ∀ (i : Nat), i < q.lv.length -> gD q.lv i = gD q.lv i
 let y25 (a : PK) := a.k <= q.N.r.length /\ Tf q.lv a.p (List.drop a.k q.N.r) = Tf q.lv 0 q.N.r
 let y26 (a : PK) := (↑a.k : Int) < (↑q.N.r.length : Int)
 let y27 (a : PK) := 0 <= (↑a.k : Int)
 let y28 (a1 : PK) := IntKind.i64.wrap (gD q.lv (gD q.N.r a1.k).to.toNat - gD q.lv (gD q.N.r a1.k).fr.toNat)
 let y29 (a1 : PK) := (gD q.N.r a1.k).sp.lo
 let y30 (a1 : PK) := (gD q.N.r a1.k).sp.hi
 let y31 (a : PK) (a1 : PK) := (↑a.k : Int) = IntKind.i64.wrap ((↑a1.k : Int) + 1)
 let y32 (a1 : PK) := q.N.r.length - a1.k
 let y33 := (↑q.N.g.length : Int) = (↑q.N.g.length : Int)
 let y34 (a : PK) := a.k <= q.N.g.length /\ Yo a.p (List.drop a.k q.lv) (List.drop a.k q.N.g) = TO q.N q.lv
 let y35 (a : PK) := (↑a.k : Int) < (↑q.N.g.length : Int)
 let y36 (a1 : PK) := q.N.g.length - a1.k
 (((∀ (i : Nat), i < a.N.g.length -> True) /\ ∀ (i : Nat), i < a.N.r.length -> True) /\ bif y0 != 0 then y2 /\ OO a = y0 else (((!y3) = true -> y6 /\ y8 /\
 decide (y5 < 4611686018427387904) = true) /\ ((!y9) = true -> y11 = a.N.r.length /\ (∀ (i : Nat), y12 i -> y14 i = (gD a.N.r i).fr /\ y15 i = (gD a.N.r i).to /\ (y16 i).lo = (gD a.N.r
 i).sp.lo /\ (y16 i).hi = (gD a.N.r i).sp.hi) /\ y6 /\ y8 /\ a.lv.length = y5 /\ (∀ (i : Nat), i < a.lv.length -> gD a.lv i = y7 i) /\ y11 < 4611686018427387904 /\ ∀ (i : Nat), y12 i -> (0 <=
 y15 i /\ y15 i < (↑y5 : Int)) /\ 0 <= y14 i /\ y14 i < (↑y5 : Int))) /\ bif bif y9 then true else !HN (λ (i : Nat) => ER y4 (y13 i)) y11 then y2 /\ OO a
 = 2 else (∃ (a_1 : PK), (a.price = a.price /\ y17 /\ y18 /\ y19 /\ y20 a_1 /\ y21 /\ y22 /\ y17 /\ y18 /\ y23 /\ y24 /\ a_1.p = 0) /\ y25 a_1) /\ ∀ (a_1 : PK), y25 a_1 -> bif
 decide (y26 a_1) then (y27 a_1 /\ y26 a_1) /\ ((0 <= (gD a.N.r a_1.k).to /\ (gD a.N.r a_1.k).to < (↑a.lv.length : Int)) /\ (0 <= (gD a.N.r a_1.k).fr /\ (gD a.N.r a_1.k).fr < (↑a.lv.length : Int)) /\ y28 a_1 =
 y28 a_1 /\ y29 a_1 = y29 a_1 /\ y30 a_1 = y30 a_1 /\ a_1.p = a_1.p) /\ ∃ (a_3 : PK), (a.price = a.price /\ y17 /\ y18 /\ y19 /\ y31 a_3 a_1 /\ y21 /\ y22 /\ y17 /\ y18 /\
 y23 /\ y24 /\ a_3.p = OC (y28 a_1) (gD a.N.r a_1.k).sp a_1.p) /\ y25 a_3 /\ y32 a_3 < y32 a_1 else (∃ (a_3 : PK), (a.price = a.price /\ y21 /\ y22 /\ y33 /\ y20 a_3 /\ y23
 /\ y24 /\ a_3.p = a_1.p) /\ y34 a_3) /\ ∀ (a_3 : PK), y34 a_3 -> bif decide (y35 a_3) then (y27 a_3 /\ y35 a_3) /\ ((y27 a_3 /\ (↑a_3.k : Int) < (↑a.lv.length : Int)) /\ gD a.lv a_3.k = gD a.lv
 a_3.k /\ (gD a.N.g a_3.k).lo = (gD a.N.g a_3.k).lo /\ (gD a.N.g a_3.k).hi = (gD a.N.g a_3.k).hi /\ a_3.p = a_3.p) /\ ∃ (a_5 : PK), (a.price = a.price /\ y21 /\ y22 /\ y33 /\ y31 a_5 a_3 /\ y23 /\ y24 /\
 a_5.p = OC (gD a.lv a_3.k) (gD a.N.g a_3.k) a_3.p) /\ y34 a_5 /\ y36 a_5 < y36 a_3 else y1 = decide (a_3.p >= a.price) /\ OO a = 0)) := by kernel_rfl
theorem p24 (a : NPL) (h : a.lv.length < 4611686018427387904) : V24 a := by
 rw [vc24]; (conv => zeta); simp only [CC, eq_self, implies_true, forall_const, DL.d2, DL.d6, DL.d7, DL.d8, QV]
 have e1 : ((a.lv.length : Int) != (a.N.g.length : Int)) = !decide (a.lv.length = a.N.g.length) := by
  by_cases h : a.lv.length = a.N.g.length
  ·simp [h]
  ·have : (a.lv.length : Int) ≠ a.N.g.length := by omega
   simp [h, this]
 have e2 : (bif bif ((a.lv.length : Int) != (a.N.g.length : Int)) then true else !HN (λ i => GD (gD a.lv i) (-1) 1) a.lv.length then true else !HN (λ i => ER a.lv (gD a.N.r i)) a.N.r.length) = !Ct a.N a.lv := by
  rw [e1]; unfold Ct
  cases decide (a.lv.length = a.N.g.length) <;> cases HN (λ i => GD (gD a.lv i) (-1) 1) a.lv.length <;> cases HN (λ i => ER a.lv (gD a.N.r i)) a.N.r.length <;> rfl
 by_cases hc : AD a.N = 0
 ·have hg := DD hc
  have hr14 := hg.r14
  have hg8 := hg.g8
  have hin : a.lv.length = a.N.g.length -> ∀ i, i < a.N.r.length -> (0 <= (gD a.N.r i).to /\ (gD a.N.r i).to < a.lv.length) /\ 0 <= (gD a.N.r i).fr /\ (gD a.N.r i).fr < a.lv.length := λ he i hi => by
   obtain ⟨_, h2, h3, _⟩ := hg.r i hi
   rw [he]; exact ⟨h3, h2⟩
  refine ⟨λ hb => by simp [hc] at hb, λ _ => ⟨⟨λ _ => h, λ hb => ⟨by omega, ?_⟩⟩, λ hb => ?_, λ hb => ?_⟩⟩
  ·rw [e1] at hb
   refine hin ?_
   cases hd : decide (a.lv.length = a.N.g.length) with
   | true => exact of_decide_eq_true hd
   | false => rw [hd] at hb; cases hb
  ·rw [e2] at hb
   have hl : Ct a.N a.lv = false := by simpa using hb
   have : OO a = 2 := by simp [OO, hc, hl]
   rw [this]; exact ⟨rfl, rfl⟩
  ·rw [e2] at hb
   have hl : Ct a.N a.lv = true := by simpa using hb
   have he : a.lv.length = a.N.g.length := by
    unfold Ct at hl
    simp only [Bool.and_eq_true, decide_eq_true_eq] at hl; exact hl.1.1
   have hp : OO a = 0 := by simp [OO, hc, hl]
   refine ⟨⟨⟨0, 0⟩, ⟨rfl, rfl⟩, Nat.zero_le _, rfl⟩, λ s ⟨h1, h2⟩ => ⟨λ hlt => ⟨⟨by omega, hlt⟩, hin he _ (by omega), ⟨⟨_, s.k + 1⟩, ⟨(BB (by omega)).symm, rfl⟩, ⟨by show s.k + 1 <= _; omega, ?_⟩, by show _ - (s.k + 1) < _; omega⟩⟩, λ hge => ⟨⟨⟨s.p, 0⟩, ⟨rfl, rfl⟩, Nat.zero_le _, ?_⟩, λ q ⟨h3, h4⟩ => ⟨λ hlt => ⟨⟨by omega, hlt⟩, ⟨by omega, by omega⟩, ⟨⟨_, q.k + 1⟩, ⟨(BB (by omega)).symm, rfl⟩, ⟨by show q.k + 1 <= _; omega, ?_⟩, by show _ - (q.k + 1) < _; omega⟩⟩, λ hge => ?_⟩⟩⟩⟩
   ·rw [DX (by omega)] at h2; exact h2
   ·rw [List.drop_eq_nil_of_le (by omega)] at h2
    have h2 : s.p = Tf a.lv 0 a.N.r := h2
    show Yo s.p a.lv a.N.g = _
    rw [h2]; rfl
   ·rw [DX (l := a.lv) (by omega), DX (l := a.N.g) (by omega)] at h4; exact h4
   ·rw [List.drop_eq_nil_of_le (show a.lv.length <= q.k by omega)] at h4
    have h4 : q.p = TO a.N a.lv := h4
    rw [hp, h4]; simp
 ·refine ⟨λ hb => ?_, λ hb => by simp [hc] at hb⟩
  have : OO a = AD a.N := by simp [OO, hc]
  rw [this]; simp [hc]
def d24 : List AVal -> Heap -> Option (NPL × List (Nat × Nat) × List Nat)
 | [.d x, .d (.v (.int _ p)), .d (.list _ n g _)], _ => match LW x with
  | some N => some (⟨N, p, AC n λ i => EW (g i)⟩, [], [])
  | none => none
 | [.d x, .d (.v (.int _ p)), .own id _ _ n], H => match LW x, H id with
  | some N, .live (.row _ _ g) => some (⟨N, p, AC n λ i => EW (g i)⟩, [], [id])
  | _, _ => none
 | _, _ => none
theorem ok24 : AL Try.prog 24 (C24.spec d24) := JC C24 A24 [] [] Try.func24 (λ _ => by kernel_rfl) (λ _ => AB Ul (AB Px (AB ok65 (AB ok66 AH)))) (λ a h => p24 a h) (λ _ => KF rfl rfl) _
end Go.Bal
