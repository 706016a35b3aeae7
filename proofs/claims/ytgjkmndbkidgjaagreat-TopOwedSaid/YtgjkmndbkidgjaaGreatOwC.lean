/- TopOwed: borders that are right; what is due; debts from year to year. -/
import Derived.Test.YtgjkmndbkidgjaaGreatOwB
set_option linter.unusedVariables false
set_option linter.unusedSimpArgs false
namespace Go.Bal
open Go Go.Sym Go.Proofs
structure BdOk (b : Bd) : Prop where
 len : 2 <= b.t.length /\ b.t.length <= 12
 pts : ∀ i, i < b.t.length -> Fe (gD b.t i) = true
 cr : FW b.c = true
 ord : ∀ i, i + 1 < b.t.length -> (gD b.t i).x < (gD b.t (i + 1)).x /\ (gD b.t i).d <= (gD b.t (i + 1)).d
theorem ANT {p : Pt} (h : Fe p = true) : (0 <= p.x /\ p.x <= 1000000000) /\ 0 <= p.d /\ p.d <= 1000000000 := by
 simp only [Fe, FW, HO, Bool.and_eq_true, decide_eq_true_eq] at h; omega
structure PI where
 l : List Pt
 x : Int
structure PI1 where
 e : Pt
 x : Int
def C_due1 : Ctr := { ro := [100], α := PI1, xs := λ a => [.d (ePt a.e), .bptr 100 0], L := λ a => [(100, .box [.int a.x])], val := λ a => .bool (decide (a.x < a.e.x)), keep := λ a => [(100, .live (.box [.int a.x]))] }
def AMH : List AVal -> Heap -> Option (PI1 × List (Nat × Nat) × List Nat)
 | [.d d, .bptr id _], H => match H id with
  | .live (.box [.d q]) => some (⟨dPt d, CR q⟩, [(100, id)], [])
  | _ => none
 | _, _ => none
def ARZ : Ann := { ann 8 [] with E := [100] }
def ANB (a : PI1) : Prop := BB Try.prog ARZ ABZ (AS ABZ) (C_due1.xs a) (AK (C_due1.L a)) (C_due1.val a) (C_due1.keep a) [] []
theorem ATV (a : PI1) : (ANB a) = (decide (a.x < a.e.x) = decide (a.e.x > a.x) /\ a.x = a.x) := by kernel_rfl
theorem AUL : AR Try.prog rY (C_due1.spec AMH) := EX C_due1 (λ _ => ARZ) [] [] AUM (λ _ => by kernel_rfl) (λ _ => AM) (λ (a : PI1) _ => by show ANB a; rw [ATV]; simp) (λ _ => FK rfl rfl) _
def DW (l : List Pt) (x : Int) : Int := BN (λ i => decide (x < (gD l i).x)) l.length 0
def C_ifD : Ctr := { ro := [100], α := PI, xs := λ a => [.d (HP a.l), .fn (.func rY) [] [.bptr 100 0]], L := λ a => [(100, .box [.int a.x])], val := λ a => .int (DW a.l a.x), keep := λ a => [(100, .live (.box [.int a.x]))], pre := λ a => [a.l.length < 4611686018427387904 /\ True] }
def AVZ : List AVal -> Heap -> Option (PI × List (Nat × Nat) × List Nat)
 | [y, .fn _ _ [.bptr id _]], H => match HK y H, H id with
  | some (n, g, f), .live (.box [.d q]) => some (⟨AJ n λ i => dPt (g i), CR q⟩, [(100, id)], f)
  | _, _ => none
 | _, _ => none
def AXD (a : PI) : Ann := { ann 19 [(rY, C_due1.spec AMH)] with E := [100], loops := λ id => if id = 2 then some [{ α := Nat, dflt := 0, T := λ k => ⟨[(0, .d (HP a.l)), (1, .fn (.func rY) [] [.bptr 100 0]), (7, .int a.l.length), (8, .int k)], [(100, .live (.box [.int a.x]))]⟩, inv := λ k => k <= a.l.length /\ DW a.l a.x = BN (λ i => decide (a.x < (gD a.l i).x)) (a.l.length - k) k, meas := λ k => a.l.length - k }] else none }
def AWX (a : PI) : Prop := BB Try.prog (AXD a) AAK (AS AAK) (C_ifD.xs a) (AK (C_ifD.L a)) (C_ifD.val a) (C_ifD.keep a) [] []
theorem AZM (a : PI) : (AWX a) = ((∃ (a_1 : Nat), (a.l.length = a.l.length /\ (∀ (i : Nat), i < a.l.length -> (gD a.l i).x = (gD a.l i).x /\ (gD a.l i).d = (gD a.l i).d) /\ (↑a.l.length : Int) = (↑a.l.length : Int) /\
 (↑a_1 : Int) = 0 /\ a.x = a.x) /\ a_1 <= a.l.length /\ DW a.l a.x = BN (λ (i : Nat) => decide (a.x < (gD a.l i).x)) (a.l.length - a_1) a_1) /\ ∀ (a_1 : Nat), a_1 <= a.l.length /\ DW a.l a.x = BN (λ (i : Nat) =>
 decide (a.x < (gD a.l i).x)) (a.l.length - a_1) a_1 -> bif decide ((↑a_1 : Int) < (↑a.l.length : Int)) then ((0 <= (↑a_1 : Int) /\ (↑a_1 : Int) < (↑a.l.length : Int)) /\ (gD a.l a_1).x = (gD a.l a_1).x /\ (gD a.l a_1).d = (gD
 a.l a_1).d /\ a.x = a.x /\ a.x = a.x) /\ bif decide (a.x < (gD a.l a_1).x) then DW a.l a.x = (↑a_1 : Int) /\ a.x = a.x else ∃ (a_3 : Nat), (a.l.length = a.l.length /\ (∀ (i : Nat), i < a.l.length -> (gD a.l i).x = (gD a.l
 i).x /\ (gD a.l i).d = (gD a.l i).d) /\ (↑a.l.length : Int) = (↑a.l.length : Int) /\ (↑a_3 : Int) = IntKind.i64.wrap ((↑a_1 : Int) + 1) /\ a.x = a.x) /\ (a_3 <= a.l.length /\ DW a.l a.x = BN (λ (i : Nat) => decide (a.x <
 (gD a.l i).x)) (a.l.length - a_3) a_3) /\ a.l.length - a_3 < a.l.length - a_1 else DW a.l a.x = -1 /\ a.x = a.x) := by kernel_rfl
theorem BJJ (a : PI) (h : BG (C_ifD.pre a)) : AWX a := by
 obtain ⟨h, hp⟩ : a.l.length < 4611686018427387904 /\ True := h
 rw [AZM]
 simp only [BF, eq_self, implies_true, and_self, true_and, and_true, true_implies, forall_const, decide_eq_true_eq, decide_eq_false_iff_not, Int.toNat_natCast, dSpan_eSpan, dInt_eInt, AV, BH, BJ, BC, AZ, AX, AY, Nat.zero_add, Int.zero_sub, Nat.le_eq, Nat.succ_eq_add_one, Nat.add_one_le_iff, Bool.not_eq_true', Bool.not_eq_false', rng_length, AT, AP]
 refine ⟨⟨0, rfl, Nat.zero_le _, rfl⟩, λ k ⟨h1, h2⟩ => ⟨λ hlt => ?_, λ hge => ?_⟩⟩
 ·have hlt : k < a.l.length := by omega
  refine ⟨⟨by omega, by omega⟩, λ hp => ?_, λ hp => ⟨k + 1, (CE (by omega)).symm, ⟨by omega, ?_⟩, by omega⟩⟩
  ·rw [h2]; exact DJ hlt (by simpa using hp)
  ·rw [h2]; exact FZ hlt (by simpa using hp)
 ·rw [h2]; exact EK (by omega)
theorem BCB : AR Try.prog ABI (C_ifD.spec AVZ) := EX C_ifD AXD [] [] ANM (λ _ => by kernel_rfl) (λ _ => AH AUL AM) BJJ (λ _ => FK rfl rfl) _
def dueI (l : List Pt) (x j : Int) : Int := wr ((gD l (wr (j - 1)).toNat).d + wr ((wr (wr ((gD l j.toNat).d - (gD l (wr (j - 1)).toNat).d) * wr (x - (gD l (wr (j - 1)).toNat).x))).tdiv (wr ((gD l j.toNat).x - (gD l (wr (j - 1)).toNat).x))))
def HL (l : List Pt) (x : Int) : Int := if DW l x = 0 then (gD l 0).d else if DW l x = -1 then (gD l (wr (l.length - 1)).toNat).d else dueI l x (DW l x)
structure BX where
 b : Bd
 x : Int
def C_due : Ctr := { α := BX, xs := λ a => [.d (eBd a.b), .int a.x], L := λ _ => [], val := λ a => .int (HL a.b.t a.x), keep := λ _ => [], pre := λ a => [BdOk a.b] }
def AWP : List AVal -> Heap -> Option (BX × List (Nat × Nat) × List Nat)
 | [.d d, .d (.v (.int _ x))], _ => some (⟨fX d, x⟩, [], [])
 | _, _ => none
def AXP : Ann := ann 61 [(ABI, C_ifD.spec AVZ)]
def AXA (a : BX) : Prop := BB Try.prog AXP APL (AS APL) (C_due.xs a) (AK []) (C_due.val a) [] [] []
theorem AYZ (a : BX) : (AXA a) = (((AJ a.b.t.length λ (i : Nat) => gD a.b.t i).length = a.b.t.length /\ (∀ (i : Nat), i < (AJ a.b.t.length λ (i : Nat) => gD a.b.t i).length -> (gD (AJ a.b.t.length λ (i : Nat)
 => gD a.b.t i) i).x = (gD a.b.t i).x /\ (gD (AJ a.b.t.length λ (i : Nat) => gD a.b.t i) i).d = (gD a.b.t i).d) /\ a.x = a.x /\ a.x = a.x /\ (AJ a.b.t.length λ (i : Nat) => gD a.b.t i).length < (4611686018427387904 :
 Nat) /\ True) /\ bif DW (AJ a.b.t.length λ (i : Nat) => gD a.b.t i) a.x == (0 : Int) then ((0 : Int) <= (0 : Int) /\ (0 : Int) < (↑a.b.t.length : Int)) /\ HL a.b.t a.x = (gD a.b.t (Int.toNat (0 : Int))).d else bif
 DW (AJ a.b.t.length λ (i : Nat) => gD a.b.t i) a.x == (-1 : Int) then ((0 : Int) <= IntKind.i64.wrap ((↑a.b.t.length : Int) - (1 : Int)) /\ IntKind.i64.wrap ((↑a.b.t.length : Int) - (1 : Int)) < (↑a.b.t.length :
 Int)) /\ HL a.b.t a.x = (gD a.b.t (IntKind.i64.wrap ((↑a.b.t.length : Int) - (1 : Int))).toNat).d else (((0 : Int) <= IntKind.i64.wrap (DW (AJ a.b.t.length λ (i : Nat) => gD a.b.t i) a.x - (1 : Int)) /\
 IntKind.i64.wrap (DW (AJ a.b.t.length λ (i : Nat) => gD a.b.t i) a.x - (1 : Int)) < (↑a.b.t.length : Int)) /\ (0 : Int) <= DW (AJ a.b.t.length λ (i : Nat) => gD a.b.t i) a.x /\ DW (AJ a.b.t.length λ (i :
 Nat) => gD a.b.t i) a.x < (↑a.b.t.length : Int)) /\ (IntKind.i64.wrap ((gD a.b.t (DW (AJ a.b.t.length λ (i : Nat) => gD a.b.t i) a.x).toNat).x - (gD a.b.t (IntKind.i64.wrap (DW (AJ a.b.t.length λ (i : Nat) =>
 gD a.b.t i) a.x - (1 : Int))).toNat).x) = (0 : Int) -> False) /\ HL a.b.t a.x = IntKind.i64.wrap ((gD a.b.t (IntKind.i64.wrap (DW (AJ a.b.t.length λ (i : Nat) => gD a.b.t i) a.x - (1 : Int))).toNat).d +
 IntKind.i64.wrap ((IntKind.i64.wrap (IntKind.i64.wrap ((gD a.b.t (DW (AJ a.b.t.length λ (i : Nat) => gD a.b.t i) a.x).toNat).d - (gD a.b.t (IntKind.i64.wrap (DW (AJ a.b.t.length λ (i : Nat) => gD a.b.t i) a.x
 - (1 : Int))).toNat).d) * IntKind.i64.wrap (a.x - (gD a.b.t (IntKind.i64.wrap (DW (AJ a.b.t.length λ (i : Nat) => gD a.b.t i) a.x - (1 : Int))).toNat).x))).tdiv (IntKind.i64.wrap ((gD a.b.t (DW (AJ a.b.t.length
 λ (i : Nat) => gD a.b.t i) a.x).toNat).x - (gD a.b.t (IntKind.i64.wrap (DW (AJ a.b.t.length λ (i : Nat) => gD a.b.t i) a.x - (1 : Int))).toNat).x))))) := by kernel_rfl
theorem ASA {p : Nat -> Bool} : ∀ n k : Nat, BN p n k = -1 ∨ ((k : Int) <= BN p n k /\ BN p n k < k + n)
 | 0, k => .inl rfl
 | n + 1, k => by
  simp only [BN]
  split
  ·right; omega
  ·rcases ASA (p := p) n (k + 1) with h | h
   ·exact .inl h
   ·right; omega
theorem BDB (a : BX) (h : BdOk a.b) : AXA a := by
 rw [AYZ]; simp only [BF, eq_self, implies_true, and_self, true_and, and_true, true_implies, forall_const, decide_eq_true_eq, decide_eq_false_iff_not, Int.toNat_natCast, dSpan_eSpan, dInt_eInt, AV, BH, BJ, BC, AZ, AX, AY, Nat.zero_add, Int.zero_sub, Nat.le_eq, Nat.succ_eq_add_one, Nat.add_one_le_iff, Bool.not_eq_true', Bool.not_eq_false', rng_length, AT, AP]
 have hl := h.len
 have hi := ASA (p := λ i => decide (a.x < (gD a.b.t i).x)) a.b.t.length 0
 change DW a.b.t a.x = -1 ∨ ((0 : Nat) : Int) <= DW a.b.t a.x /\ DW a.b.t a.x < (0 : Nat) + a.b.t.length at hi
 refine ⟨by omega, λ e => ⟨by omega, ?_⟩, λ e0 => ⟨λ e => ⟨?_, ?_⟩, λ e1 => ⟨?_, ?_, ?_⟩⟩⟩
 ·have e : DW a.b.t a.x = 0 := by simpa using e
  unfold HL; rw [if_pos e]; rfl
 ·rw [JA (by omega) (by omega)]; omega
 ·have e : DW a.b.t a.x = -1 := by simpa using e
  unfold HL; rw [if_neg (by omega), if_pos e]; rfl
 all_goals have e0 : DW a.b.t a.x ≠ 0 := by simpa using e0
 all_goals have e1 : DW a.b.t a.x ≠ -1 := by simpa using e1
 ·rw [JA (by omega) (by omega)]; omega
 ·have hw : IntKind.i64.wrap (DW a.b.t a.x - 1) = DW a.b.t a.x - 1 := JA (by omega) (by omega)
  rw [hw]
  have h1 := h.ord (DW a.b.t a.x - 1).toNat (by omega)
  have e2 : (DW a.b.t a.x - 1).toNat + 1 = (DW a.b.t a.x).toNat := by omega
  rw [e2] at h1
  have h2 := ANT (h.pts (DW a.b.t a.x).toNat (by omega))
  have h3 := ANT (h.pts (DW a.b.t a.x - 1).toNat (by omega))
  rw [JA (by omega) (by omega)]; omega
 ·unfold HL; rw [if_neg e0, if_neg e1]; rfl
theorem BAP : AR Try.prog ASF (C_due.spec AWP) := EX C_due (λ _ => AXP) [] [] AZP (λ _ => by kernel_rfl) (λ _ => AH BCB AM) (λ (a : BX) h => BDB a h) (λ _ => FK rfl rfl) _
def dB1 : List AVal -> Heap -> Option (Bd × List (Nat × Nat) × List Nat)
 | [.d d], _ => some (fX d, [], [])
 | _, _ => none
def bdB (b : Bd) : AObj := .box [.d (HP b.t), .int b.c]
def C_CkB : Ctr := { α := Bd, xs := λ b => [.d (eBd b)], L := λ _ => [], val := λ _ => .int 0, keep := λ _ => [], pre := λ b => [BdOk b] }
def AWS (b : Bd) : Ann := { ann 54 [(Ar, WB), (n_eP, C4Kp.spec d4Kp), (Xu, lY)] with loops := λ id => if id = 6 then some [{ α := Nat, dflt := 0, T := λ k => ⟨[(1, .bptr 201 0), (26, .int (wr (b.t.length - 1))), (27, .int k)], [(201, .live (bdB b))]⟩, inv := λ k => k + 1 <= b.t.length, meas := λ k => b.t.length - k, first := [(201, 1000)], again := [(201, 201)] }] else none }
def AWK (b : Bd) : Prop := BB Try.prog (AWS b) APE (AS APE) (C_CkB.xs b) (AK []) (C_CkB.val b) [] [] []
theorem BCS (b : Bd) : (AWK b) = (bif !HO (↑b.t.length : Int) (2 : Int) (12 : Int) then Int.ofNat (0 : Nat) = Int.ofNat (3 : Nat) else ((AJ b.t.length λ (i : Nat) => gD b.t i).length = b.t.length /\ (∀ (i : Nat),
 i < (AJ b.t.length λ (i : Nat) => gD b.t i).length -> (gD (AJ b.t.length λ (i : Nat) => gD b.t i) i).x = (gD b.t i).x /\ (gD (AJ b.t.length λ (i : Nat) => gD b.t i) i).d = (gD b.t i).d) /\ (AJ b.t.length λ (i :
 Nat) => gD b.t i).length < (4611686018427387904 : Nat) /\ True) /\ bif bif !(AJ b.t.length λ (i : Nat) => gD b.t i).all λ (x : Pt) => Fe x then true else !FW b.c then Int.ofNat (0 : Nat) = Int.ofNat (100 : Nat)
 else ((0 : Int) <= (1 : Int) /\ (1 : Int) <= (↑b.t.length : Int) /\ (↑b.t.length : Int) <= (↑b.t.length : Int)) /\ (∃ (a : Nat), (wr ((↑b.t.length : Int) - (1 : Int)) = (↑(b.t.length - Int.toNat (1 : Int)) : Int) /\ (↑a : Int)
 = (0 : Int) /\ b.t.length = b.t.length /\ (∀ (i : Nat), i < b.t.length -> (gD b.t i).x = (gD b.t i).x /\ (gD b.t i).d = (gD b.t i).d) /\ b.c = b.c) /\ (a + (1 : Nat)).le b.t.length) /\ ∀ (a : Nat), (a + (1 : Nat)).le b.t.length
 -> bif decide ((↑a : Int) < wr ((↑b.t.length : Int) - (1 : Int))) then (((0 : Int) <= (↑a : Int) /\ (↑a : Int) < (↑b.t.length : Int)) /\ (0 : Int) <= IntKind.i64.wrap ((↑a : Int) + (1 : Int)) /\ IntKind.i64.wrap ((↑a : Int) +
 (1 : Int)) < (↑b.t.length : Int)) /\ bif bif decide ((gD b.t (IntKind.i64.wrap ((↑a : Int) + (1 : Int))).toNat).x <= (gD b.t a).x) then true else decide ((gD b.t (IntKind.i64.wrap ((↑a : Int) + (1 : Int))).toNat).d < (gD
 b.t a).d) then Int.ofNat (0 : Nat) = Int.ofNat (9 : Nat) else ∃ (a_2 : Nat), (wr ((↑b.t.length : Int) - (1 : Int)) = wr ((↑b.t.length : Int) - (1 : Int)) /\ (↑a_2 : Int) = IntKind.i64.wrap ((↑a : Int) + (1 : Int)) /\
 b.t.length = b.t.length /\ (∀ (i : Nat), i < b.t.length -> (gD b.t i).x = (gD b.t i).x /\ (gD b.t i).d = (gD b.t i).d) /\ b.c = b.c) /\ (a_2 + (1 : Nat)).le b.t.length /\ b.t.length - a_2 < b.t.length - a else Int.ofNat (0 :
 Nat) = Int.ofNat (0 : Nat)) := by kernel_rfl
theorem BHE (b : Bd) (h : BdOk b) : AWK b := by
 rw [BCS]; simp only [BF, eq_self, implies_true, and_self, true_and, and_true, true_implies, forall_const, decide_eq_true_eq, decide_eq_false_iff_not, Int.toNat_natCast, dSpan_eSpan, dInt_eInt, AV, BH, BJ, BC, AZ, AX, AY, Nat.zero_add, Int.zero_sub, Nat.le_eq, Nat.succ_eq_add_one, Nat.add_one_le_iff, Bool.not_eq_true', Bool.not_eq_false', rng_length, AT, AP]
 have hl := h.len
 have e1 : HO b.t.length 2 12 = true := by simp [HO]; omega
 have e2 : (b.t.all λ (x : Pt) => Fe x) = true := by
  rw [List.all_eq_true]; intro x hx; obtain ⟨i, hi, rfl⟩ := OW hx; exact h.pts i hi
 have e3 : wr ((b.t.length : Int) - 1) = ((b.t.length - 1 : Nat) : Int) := by rw [wr, JA (by omega) (by omega)]; omega
 refine ⟨λ h0 => absurd (h0.symm.trans e1) (by decide), λ _ => ⟨by omega, λ h0 => ?_, λ _ => ⟨by omega, ⟨0, ⟨by rw [e3]; omega, rfl⟩, by omega⟩, λ k hk hlt => ?_⟩⟩⟩
 ·rw [e2, h.cr] at h0; cases h0
 ·rw [e3] at hlt
  have hw : IntKind.i64.wrap ((k : Int) + 1) = ((k + 1 : Nat) : Int) := CE (by omega)
  rw [hw]
  have h1 := h.ord k (by omega)
  refine ⟨⟨by omega, by omega, by omega⟩, λ h0 => ?_, λ _ => ⟨k + 1, rfl, by omega, by omega⟩⟩
  have e : ((k + 1 : Nat) : Int).toNat = k + 1 := by omega
  rw [e, decide_eq_false (by omega), decide_eq_false (by omega)] at h0; cases h0
theorem BCC : AR Try.prog AOV (C_CkB.spec dB1) := EX C_CkB AWS [] [] BCO (λ _ => by kernel_rfl) (λ _ => AH Nx (AH BKA (AH uC AM))) (λ (b : Bd) h => BHE b h) (λ _ => FK rfl rfl) _
structure BSY where
 b : Bd
 s : Span
 l : List Yr
structure AskOk (a : BSY) : Prop where
 b : BdOk a.b
 s : -1000000000 <= a.s.lo /\ a.s.lo <= a.s.hi /\ a.s.hi <= 1000000000
 n : a.l.length <= 40
 l : ∀ i, i < a.l.length -> YQ (gD a.l i) = true
def dYrs (a : AVal) (H : Heap) : Option (List Yr × List Nat) := match HK a H with
 | some (n, g, f) => some (AJ n λ i => dYr (g i), f)
 | none => none
def C_sAsk : Ctr := { α := BSY, xs := λ a => [.d (eBd a.b), .d (Ff a.s), .d (gL a.l)], L := λ _ => [], val := λ _ => .int 0, keep := λ _ => [], pre := λ a => [AskOk a] }
def AHE : List AVal -> Heap -> Option (BSY × List (Nat × Nat) × List Nat)
 | [.d d, .d s, y], H => match dYrs y H with
  | some (l, f) => some (⟨fX d, AAO s, l⟩, [], f)
  | none => none
 | _, _ => none
def ANU : Ann := ann 34 [(AOV, C_CkB.spec dB1), (Ar, WB), (n_eY, C4Ky.spec d4Ky)]
def APA (a : BSY) : Prop := BB Try.prog ANU AFB (AS AFB) (C_sAsk.xs a) (AK []) (C_sAsk.val a) [] [] []
theorem ATP (a : BSY) : (APA a) = (((fX (DVal.agg [HP a.b.t, BM a.b.c])).t.length = a.b.t.length /\ (∀ (i : Nat), i < (fX (DVal.agg [HP a.b.t, BM a.b.c])).t.length -> (gD (fX (DVal.agg [HP a.b.t, BM
 a.b.c])).t i).x = (gD a.b.t i).x /\ (gD (fX (DVal.agg [HP a.b.t, BM a.b.c])).t i).d = (gD a.b.t i).d) /\ (fX (DVal.agg [HP a.b.t, BM a.b.c])).c = a.b.c /\ BdOk (fX (DVal.agg [HP a.b.t, BM a.b.c]))) /\ bif bif
 !HO a.s.lo (-1000000000 : Int) a.s.hi then true else decide (a.s.hi > (1000000000 : Int)) then Int.ofNat (0 : Nat) = Int.ofNat (4 : Nat) else bif decide ((↑a.l.length : Int) > (40 : Int)) then Int.ofNat (0 : Nat) =
 Int.ofNat (3 : Nat) else ((AJ a.l.length λ (i : Nat) => gD a.l i).length = a.l.length /\ (∀ (i : Nat), i < (AJ a.l.length λ (i : Nat) => gD a.l i).length -> (gD (AJ a.l.length λ (i : Nat) => gD a.l i) i).i.lo =
 (gD a.l i).i.lo /\ (gD (AJ a.l.length λ (i : Nat) => gD a.l i) i).i.hi = (gD a.l i).i.hi /\ (gD (AJ a.l.length λ (i : Nat) => gD a.l i) i).d.lo = (gD a.l i).d.lo /\ (gD (AJ a.l.length λ (i : Nat) => gD a.l i)
 i).d.hi = (gD a.l i).d.hi /\ (gD (AJ a.l.length λ (i : Nat) => gD a.l i) i).sp = (gD a.l i).sp) /\ (AJ a.l.length λ (i : Nat) => gD a.l i).length < (4611686018427387904 : Nat) /\ True) /\ bif !(AJ a.l.length λ (i :
 Nat) => gD a.l i).all λ (x : Yr) => YQ x then Int.ofNat (0 : Nat) = Int.ofNat (100 : Nat) else Int.ofNat (0 : Nat) = Int.ofNat (0 : Nat)) := by kernel_rfl
theorem BCN (a : BSY) (h : AskOk a) : APA a := by
 rw [ATP]; simp only [BF, eq_self, implies_true, and_self, true_and, and_true, true_implies, forall_const, decide_eq_true_eq, decide_eq_false_iff_not, Int.toNat_natCast, dSpan_eSpan, dInt_eInt, AV, BH, BJ, BC, AZ, AX, AY, Nat.zero_add, Int.zero_sub, Nat.le_eq, Nat.succ_eq_add_one, Nat.add_one_le_iff, Bool.not_eq_true', Bool.not_eq_false', rng_length, AT, AP]
 have hs := h.s
 have e1 : HO a.s.lo (-1000000000) a.s.hi = true := by simp [HO]; omega
 have e2 : (a.l.all λ (x : Yr) => YQ x) = true := by
  rw [List.all_eq_true]; intro x hx; obtain ⟨i, hi, rfl⟩ := OW hx; exact h.l i hi
 refine ⟨h.b, λ h0 => ?_, λ _ => ⟨λ h0 => absurd h.n (by omega), λ _ => ⟨by have := h.n; omega, λ h0 => by rw [e2] at h0; cases h0⟩⟩⟩
 rw [e1, decide_eq_false (by omega)] at h0; cases h0
theorem ASS : AR Try.prog ADQ (C_sAsk.spec AHE) := EX C_sAsk (λ _ => ANU) [] [] ATJ (λ _ => by kernel_rfl) (λ _ => AH BCC (AH Nx (AH BGV AM))) (λ (a : BSY) h => BCN a h) (λ _ => FK rfl rfl) _
structure BI where
 b : Bd
 d : Int
def zI : Value := .int .i64 0
def mpO (l : List Pt) (has : Int -> Bool) : AObj := .kmap (.int .i64) zI has λ n => .v (.int .i64 (bif has n then HL l n else 0))
def gsK (b : Bd) (d : Int) (has : Int -> Bool) (o : Nat) : List (Nat × HCell) := [(o, .live (.box [.mref (o + 3)])), (o + 1, .live (bdB b)), (o + 2, .live (.box [.int d])), (o + 3, .live (mpO b.t has))]
def gsL (b : Bd) (d : Int) (has : Int -> Bool) (o : Nat) : List (Nat × AObj) := [(o, .box [.mref (o + 3)]), (o + 1, bdB b), (o + 2, .box [.int d]), (o + 3, mpO b.t has)]
def gsF (o : Nat) : AVal := .fn (.func lN) [] [.bptr o 0, .bptr (o + 1) 0, .bptr (o + 2) 0]
def C_goes : Ctr := { α := BI, xs := λ a => [.d (eBd a.b), .int a.d], L := λ _ => [], val := λ _ => gsF 0, keep := λ a => gsK a.b a.d (λ _ => false) 0 }
def AOD : List AVal -> Heap -> Option (BI × List (Nat × Nat) × List Nat)
 | [.d d, .d (.v (.int _ x))], _ => some (⟨fX d, x⟩, [], [])
 | _, _ => none
def ANQ : Ann := { ann 8 [] with mt := λ id => id == 1 }
def AOM (a : BI) : Prop := BB Try.prog ANQ AFK (AS AFK) (C_goes.xs a) (AK []) (C_goes.val a) (C_goes.keep a) [(0, 2016), (1, 1000), (2, 1016), (3, 2000)] []
theorem ASW (a : BI) : (AOM a) = (a.b.t.length = a.b.t.length /\ (∀ (i : Nat), i < a.b.t.length -> (gD a.b.t i).x = (gD a.b.t i).x /\ (gD a.b.t i).d = (gD a.b.t i).d) /\ a.b.c = a.b.c /\ a.d = a.d /\ zI = Value.int
 IntKind.i64 0 /\ (∀ (n : Int), false = false) /\ ∀ (n : Int), (bif false then HL a.b.t n else 0) = 0) := by kernel_rfl
structure GX where
 b : Bd
 d : Int
 has : Int -> Bool
 x : Int
 y : Int
 sp : Bool
def kP (b : Bd) (d x y : Int) (sp : Bool) : Int := bif sp then 0 else Yv (wr (0 - b.c)) (wr (wr (d + HL b.t x) - y))
def C_goes1 : Ctr := { α := GX, xs := λ a => [.d (.agg [BM a.x, BM a.y]), .bool a.sp, .bptr 100 0, .bptr 101 0, .bptr 102 0], L := λ a => gsL a.b a.d a.has 100, val := λ a => .int (kP a.b a.d a.x a.y a.sp), keep := λ a => gsK a.b (kP a.b a.d a.x a.y a.sp) (λ n => decide (n = a.x) || a.has n) 100, pre := λ a => [BdOk a.b] }
def BKD (H : Heap) (id : Nat) : Option Bd := match H id with
 | .live (.box [.d (.list _ n g _), .d a]) => some ⟨AJ n λ i => dPt (g i), CR a⟩
 | _ => none
def AIP : List AVal -> Heap -> Option (GX × List (Nat × Nat) × List Nat)
 | [.d (.agg [.v (.int _ x), .v (.int _ y)]), .d (.v (.bool sp)), .bptr p _, .bptr q _, .bptr r _], H => match H p, BKD H q, H r with
  | .live (.box [.mref m]), some b, .live (.box [.d d]) => match H m with
   | .live (.kmap _ _ has _) => some (⟨b, CR d, has, x, y, sp⟩, [(100, p), (101, q), (102, r), (103, m)], [])
   | _ => none
  | _, _, _ => none
 | _, _ => none
def AIJ : Ann := { ann 39 [(ASF, C_due.spec AWP)] with E := [100, 101, 102, 103] }
def AIV (a : GX) : Prop := BB Try.prog AIJ J6 (AS J6) (C_goes1.xs a) (AK (C_goes1.L a)) (C_goes1.val a) (C_goes1.keep a) [] []
theorem ANA (a : GX) : (AIV a) = (Value.int IntKind.i64 0 = zI /\ bif !a.has a.x then ((fX (DVal.agg [HP a.b.t, DVal.v (Value.int IntKind.i64 a.b.c)])).t.length = a.b.t.length /\ (∀ (i : Nat), i < (fX
 (DVal.agg [HP a.b.t, DVal.v (Value.int IntKind.i64 a.b.c)])).t.length -> (gD (fX (DVal.agg [HP a.b.t, DVal.v (Value.int IntKind.i64 a.b.c)])).t i).x = (gD a.b.t i).x /\ (gD (fX (DVal.agg [HP a.b.t, DVal.v
 (Value.int IntKind.i64 a.b.c)])).t i).d = (gD a.b.t i).d) /\ (fX (DVal.agg [HP a.b.t, DVal.v (Value.int IntKind.i64 a.b.c)])).c = a.b.c /\ a.x = a.x /\ BdOk (fX (DVal.agg [HP a.b.t, DVal.v (Value.int IntKind.i64
 a.b.c)]))) /\ bif a.sp then kP a.b a.d a.x a.y a.sp = 0 /\ a.b.t.length = a.b.t.length /\ (∀ (i : Nat), i < a.b.t.length -> (gD a.b.t i).x = (gD a.b.t i).x /\ (gD a.b.t i).d = (gD a.b.t i).d) /\ a.b.c = a.b.c /\ kP a.b a.d
 a.x a.y a.sp = 0 /\ zI = zI /\ (∀ (n : Int), (decide (n = a.x) || a.has n) = BU a.has a.x n) /\ ∀ (n : Int), (bif decide (n = a.x) || a.has n then HL a.b.t n else 0) = bif decide (n = a.x) then HL (fX (DVal.agg
 [HP a.b.t, DVal.v (Value.int IntKind.i64 a.b.c)])).t a.x else bif a.has n then HL a.b.t n else 0 else kP a.b a.d a.x a.y a.sp = Yv (IntKind.i64.wrap (0 - a.b.c)) (IntKind.i64.wrap (IntKind.i64.wrap (a.d + HL
 (fX (DVal.agg [HP a.b.t, DVal.v (Value.int IntKind.i64 a.b.c)])).t a.x) - a.y)) /\ a.b.t.length = a.b.t.length /\ (∀ (i : Nat), i < a.b.t.length -> (gD a.b.t i).x = (gD a.b.t i).x /\ (gD a.b.t i).d = (gD a.b.t i).d) /\
 a.b.c = a.b.c /\ kP a.b a.d a.x a.y a.sp = Yv (IntKind.i64.wrap (0 - a.b.c)) (IntKind.i64.wrap (IntKind.i64.wrap (a.d + HL (fX (DVal.agg [HP a.b.t, DVal.v (Value.int IntKind.i64 a.b.c)])).t a.x) - a.y)) /\ zI = zI
 /\ (∀ (n : Int), (decide (n = a.x) || a.has n) = BU a.has a.x n) /\ ∀ (n : Int), (bif decide (n = a.x) || a.has n then HL a.b.t n else 0) = bif decide (n = a.x) then HL (fX (DVal.agg [HP a.b.t, DVal.v (Value.int
 IntKind.i64 a.b.c)])).t a.x else bif a.has n then HL a.b.t n else 0 else bif a.sp then kP a.b a.d a.x a.y a.sp = 0 /\ a.b.t.length = a.b.t.length /\ (∀ (i : Nat), i < a.b.t.length -> (gD a.b.t i).x = (gD a.b.t i).x /\ (gD
 a.b.t i).d = (gD a.b.t i).d) /\ a.b.c = a.b.c /\ kP a.b a.d a.x a.y a.sp = 0 /\ zI = zI /\ (∀ (n : Int), (decide (n = a.x) || a.has n) = a.has n) /\ ∀ (n : Int), (bif decide (n = a.x) || a.has n then HL a.b.t n else 0) =
 bif a.has n then HL a.b.t n else 0 else kP a.b a.d a.x a.y a.sp = Yv (IntKind.i64.wrap (0 - a.b.c)) (IntKind.i64.wrap (IntKind.i64.wrap (a.d + bif a.has a.x then HL a.b.t a.x else 0) - a.y)) /\ a.b.t.length =
 a.b.t.length /\ (∀ (i : Nat), i < a.b.t.length -> (gD a.b.t i).x = (gD a.b.t i).x /\ (gD a.b.t i).d = (gD a.b.t i).d) /\ a.b.c = a.b.c /\ kP a.b a.d a.x a.y a.sp = Yv (IntKind.i64.wrap (0 - a.b.c)) (IntKind.i64.wrap
 (IntKind.i64.wrap (a.d + bif a.has a.x then HL a.b.t a.x else 0) - a.y)) /\ zI = zI /\ (∀ (n : Int), (decide (n = a.x) || a.has n) = a.has n) /\ ∀ (n : Int), (bif decide (n = a.x) || a.has n then HL a.b.t n else 0) =
 bif a.has n then HL a.b.t n else 0) := by kernel_rfl
theorem BAD (a : BI) : AOM a := by
 rw [ASW]; simp only [BF, eq_self, implies_true, and_self, true_and, and_true, true_implies, forall_const, decide_eq_true_eq, decide_eq_false_iff_not, Int.toNat_natCast, dSpan_eSpan, dInt_eInt, AV, BH, BJ, BC, AZ, AX, AY, Nat.zero_add, Int.zero_sub, Nat.le_eq, Nat.succ_eq_add_one, Nat.add_one_le_iff, Bool.not_eq_true', Bool.not_eq_false', rng_length, AT, AP]; exact ⟨rfl, λ _ => rfl⟩
theorem ATU : AR Try.prog AFZ (C_goes.spec AOD) := EX C_goes (λ _ => ANQ) [(0, 2016), (1, 1000), (2, 1016), (3, 2000)] [] ASU (λ _ => by kernel_rfl) (λ _ => AM) (λ (a : BI) _ => BAD a) (λ _ => FK rfl rfl) _
theorem AVC (a : GX) (h : BdOk a.b) : AIV a := by
 rw [ANA]; simp only [BF, eq_self, implies_true, and_self, true_and, and_true, true_implies, forall_const, decide_eq_true_eq, decide_eq_false_iff_not, Int.toNat_natCast, dSpan_eSpan, dInt_eInt, AV, BH, BJ, BC, AZ, AX, AY, Nat.zero_add, Int.zero_sub, Nat.le_eq, Nat.succ_eq_add_one, Nat.add_one_le_iff, Bool.not_eq_true', Bool.not_eq_false', rng_length, AT, AP]
 have q : ∀ n, (decide (n = a.x) || a.has n) = BU a.has a.x n := λ n => rfl
 have e0 : ∀ n : Int, (bif decide (n = a.x) || a.has n then HL a.b.t n else 0) = bif decide (n = a.x) then HL a.b.t a.x else bif a.has n then HL a.b.t n else 0 := λ n => by
  by_cases hn : n = a.x
  ·subst hn; simp
  ·simp [hn]
 refine ⟨rfl, λ hn => ⟨h, λ hs => ⟨?_, ?_, q, e0⟩, λ hs => ⟨?_, ?_, q, e0⟩⟩, λ hn => ?_⟩
 ·unfold kP; rw [hs]; rfl
 ·unfold kP; rw [hs]; rfl
 ·unfold kP; rw [hs, Int.zero_sub]; rfl
 ·unfold kP; rw [hs, Int.zero_sub]; rfl
 have q2 : ∀ n, (decide (n = a.x) || a.has n) = a.has n := λ n => by
  by_cases h1 : n = a.x
  ·subst h1; simp [hn]
  ·simp [h1]
 refine ⟨λ hs => ⟨?_, ?_, q2, λ n => by rw [q2]⟩, λ hs => ⟨?_, ?_, q2, λ n => by rw [q2]⟩⟩
 ·unfold kP; rw [hs]; rfl
 ·unfold kP; rw [hs]; rfl
 ·unfold kP; rw [hs, hn, Int.zero_sub]; rfl
 ·unfold kP; rw [hs, hn, Int.zero_sub]; rfl
theorem AMM : AR Try.prog lN (C_goes1.spec AIP) := EX C_goes1 (λ _ => AIJ) [] [] ARA (λ _ => by kernel_rfl) (λ _ => AH BAP AM) (λ (a : GX) h => AVC a h) (λ _ => FK rfl rfl) _
def owK (b : Bd) (f g : Span -> Int) (l : List Yr) : Nat -> Int -> Int
 | 0, d => d
 | k + 1, d => kP b (owK b f g l k d) (f (gD l k).i) (g (gD l k).d) (gD l k).sp
def hasK (f : Span -> Int) (l : List Yr) : Nat -> Int -> Bool
 | 0, _ => false
 | k + 1, n => decide (n = f (gD l k).i) || hasK f l k n
def dbG (a : BSY) (k : Nat) : Span := ⟨owK a.b (·.lo) (·.hi) a.l (k + 1) a.s.lo, owK a.b (·.hi) (·.lo) a.l (k + 1) a.s.hi⟩
def JN (a : BSY) : List Span := AJ a.l.length λ k => dbG a k
def C_Debts : Ctr := { α := BSY, xs := λ a => [.d (eBd a.b), .d (Ff a.s), .d (gL a.l)], L := λ _ => [], val := λ a => .tup [.d (ADS (JN a)), .int 0], keep := λ _ => [], pre := λ a => [AskOk a /\ 1 <= a.l.length] }
def dbA (a : BSY) (k : Nat) : List (Nat × HCell) := gsK a.b (owK a.b (·.lo) (·.hi) a.l k a.s.lo) (hasK (·.lo) a.l k) 300
def dbB (a : BSY) (k : Nat) : List (Nat × HCell) := gsK a.b (owK a.b (·.hi) (·.lo) a.l k a.s.hi) (hasK (·.hi) a.l k) 310
def dbX : List (Nat × HCell) := [(320, .live (.box [.fn (.func Yk) [] [], .fn (.func fF) [] []])), (321, .live (.box [.fn (.func Ca) [] [], .fn (.func Bs) [] []]))]
def dbS (a : BSY) (k : Nat) (o : AVal) : List (Nat × AVal) := [(9, o), (10, gsF 300), (11, gsF 310), (12, .bptr 320 0), (13, .bptr 321 0), (35, .d (gL a.l)), (36, .int a.l.length), (37, .int k)]
def db8n (a : BSY) : Shape := { α := One, dflt := default, T := λ _ => ⟨dbS a 0 (.d QF), dbA a 0 ++ dbB a 0 ++ dbX⟩, inv := λ _ => True, meas := λ _ => 60, first := [(300, 6048), (301, 6049), (302, 6050), (303, 6051), (310, 6112), (311, 6113), (312, 6114), (313, 6115), (320, 7032), (321, 7048)] }
def db8o (a : BSY) : Shape := { α := Nat, dflt := 0, T := λ k => ⟨dbS a k (.own 330 2 0 k), dbA a k ++ dbB a k ++ dbX ++ [(330, .live (.row 2 k λ i => Ff (dbG a i)))]⟩, inv := λ k => 1 <= k /\ k <= a.l.length, meas := λ k => 50 - k, again := [(330, 13080)] }
def AIZ (a : BSY) : Ann := { ann 79 [(ADQ, C_sAsk.spec AHE), (AFZ, C_goes.spec AOD), (lN, C_goes1.spec AIP), (AOA, C_low.spec AHO), (ACG, C_high.spec AHO), (Yk, s_lo), (fF, s_hi), (Ca, s_hi), (Bs, s_lo)] with mt := λ id => id == 12, loops := λ id => if id = 8 then some [db8n a, db8o a] else none }
def AJB (a : BSY) : Prop := BB Try.prog (AIZ a) zN (AS zN) (C_Debts.xs a) (AK []) (C_Debts.val a) [] [] [330]
abbrev Eo (a : BSY) : Bd := fX (DVal.agg [HP a.b.t, BM a.b.c])
abbrev Da (a : BSY) : List Pt := (Eo a).t
abbrev Bi (a : BSY) : Nat := (Da a).length
abbrev Dx (a : BSY) : Prop := Bi a = a.b.t.length
abbrev bE (a : BSY) (i : Nat) : Pt := gD (Da a) i
abbrev Zk (a : BSY) (i : Nat) : Int := (bE a i).x
abbrev Zd (a : BSY) (i : Nat) : Int := (bE a i).d
abbrev Di (a : BSY) : Prop := ∀ (i : Nat), i < Bi a -> Zk a i = (gD a.b.t i).x /\ Zd a i = (gD a.b.t i).d
abbrev Zb (a : BSY) : Int := (Eo a).c
abbrev Dg (a : BSY) : Prop := Zb a = a.b.c
abbrev UF (a : BSY) : List Yr := AJ a.l.length λ (i : Nat) => gD a.l i
abbrev Lw (a : BSY) : Nat := (UF a).length
abbrev WH (a : BSY) (i : Nat) : Yr := gD (UF a) i
abbrev Ql (a : BSY) (i : Nat) : Span := (WH a i).i
abbrev Of (a : BSY) (i : Nat) : Span := (WH a i).d
abbrev VZ : Prop := (0 : Nat) = (0 : Nat)
abbrev WP (a : BSY) : Prop := a.l.length = a.l.length
abbrev Ke (a : BSY) (i : Nat) : Prop := (gD a.l i).i.lo = (gD a.l i).i.lo
abbrev Jg (a : BSY) (i : Nat) : Prop := (gD a.l i).i.hi = (gD a.l i).i.hi
abbrev Sn (a : BSY) (i : Nat) : Prop := (gD a.l i).d.lo = (gD a.l i).d.lo
abbrev Kv (a : BSY) (i : Nat) : Prop := (gD a.l i).d.hi = (gD a.l i).d.hi
abbrev XF (a : BSY) (i : Nat) : Prop := (gD a.l i).sp = (gD a.l i).sp
abbrev UB (a : BSY) : Prop := ∀ (i : Nat), i < a.l.length -> Ke a i /\ Jg a i /\ Sn a i /\ Kv a i /\ XF a i
abbrev VA (a : BSY) : Prop := (↑a.l.length : Int) = (↑a.l.length : Int)
abbrev UI : Prop := Int.ofNat (0 : Nat) = Int.ofNat (0 : Nat)
abbrev Rq (a : BSY) : Prop := a.b.t.length = Bi a
abbrev Pe (a : BSY) : Prop := ∀ (i : Nat), i < a.b.t.length -> (gD a.b.t i).x = Zk a i /\ (gD a.b.t i).d = Zd a i
abbrev Lr (a : BSY) : Prop := a.b.c = Zb a
abbrev OS (a : BSY) : Int := owK a.b (λ (x : Span) => x.lo) (λ (x : Span) => x.hi) a.l (0 : Nat) a.s.lo
abbrev z_Debts_29 (a : BSY) (n : Int) : Bool := hasK (λ (x : Span) => x.lo) a.l (0 : Nat) n
abbrev Ss (a : BSY) (n : Int) : Int := bif z_Debts_29 a n then HL a.b.t n else (0 : Int)
abbrev Fs (a : BSY) (n : Int) : Int := bif false then HL (Da a) n else (0 : Int)
abbrev MW (a : BSY) : Int := owK a.b (λ (x : Span) => x.hi) (λ (x : Span) => x.lo) a.l (0 : Nat) a.s.hi
abbrev z_Debts_33 (a : BSY) (n : Int) : Bool := hasK (λ (x : Span) => x.hi) a.l (0 : Nat) n
abbrev Fi (a : BSY) (n : Int) : Int := bif z_Debts_33 a n then HL a.b.t n else (0 : Int)
abbrev Gl (a : BSY) : Prop := (↑(0 : Nat) : Int) < (↑a.l.length : Int)
abbrev VY (a : BSY) : Yr := gD a.l (0 : Nat)
abbrev Kb (a : BSY) : Span := (VY a).i
abbrev NZ (a : BSY) : Int := (Kb a).lo
abbrev Lk (a : BSY) : Span := (VY a).d
abbrev UX (a : BSY) : Int := (Lk a).hi
abbrev MS (a : BSY) : Bool := (VY a).sp
abbrev Ly (a : BSY) : Prop := MS a = MS a
abbrev OU (a : BSY) : List Pt := AJ a.b.t.length λ (i : Nat) => gD a.b.t i
abbrev WM (a : BSY) : Nat := (OU a).length
abbrev OP (a : BSY) : Prop := WM a = a.b.t.length
abbrev Ix (a : BSY) (i : Nat) : Pt := gD (OU a) i
abbrev Hm (a : BSY) (i : Nat) : Int := (Ix a i).x
abbrev Ou (a : BSY) (i : Nat) : Int := (Ix a i).d
abbrev OG (a : BSY) : Prop := ∀ (i : Nat), i < WM a -> Hm a i = (gD a.b.t i).x /\ Ou a i = (gD a.b.t i).d
abbrev GB (a : BSY) (n : Int) : Int := HL (OU a) n
abbrev JV (a : BSY) : Bd := Bd.mk (OU a) a.b.c
abbrev MZ (a : BSY) : Prop := BdOk (JV a)
abbrev NP (a : BSY) : Int := (Kb a).hi
abbrev YA (a : BSY) : Int := (Lk a).lo
abbrev WV : Prop := (0 : Nat) < (1 : Nat)
abbrev Py : Prop := (2 : Nat) = (2 : Nat)
abbrev Og : Prop := (1 : Nat) <= (1 : Nat) /\ (WV -> Py)
abbrev PC (a : BSY) : Prop := a.b.t.length = WM a
abbrev PL (a : BSY) : Prop := ∀ (i : Nat), i < a.b.t.length -> (gD a.b.t i).x = Hm a i /\ (gD a.b.t i).d = Ou a i
abbrev KP (a : BSY) (a1 : Nat) : Int := owK a.b (λ (x : Span) => x.lo) (λ (x : Span) => x.hi) a.l a1 a.s.lo
abbrev Ta (a : BSY) : Int := kP (JV a) (OS a) (NZ a) (UX a) (MS a)
abbrev Le (n : Int) (a : BSY) : Bool := decide (n = NZ a) || z_Debts_29 a n
abbrev WX (a : BSY) (a1 : Nat) (n : Int) : Int := bif hasK (λ (x : Span) => x.lo) a.l a1 n then HL a.b.t n else (0 : Int)
abbrev JR (a : BSY) (a1 : Nat) : Int := owK a.b (λ (x : Span) => x.hi) (λ (x : Span) => x.lo) a.l a1 a.s.hi
abbrev Mr (a : BSY) : Int := kP (JV a) (MW a) (NP a) (YA a) (MS a)
abbrev Rt (n : Int) (a : BSY) : Bool := decide (n = NP a) || z_Debts_33 a n
abbrev TC (a : BSY) (a1 : Nat) (n : Int) : Int := bif hasK (λ (x : Span) => x.hi) a.l a1 n then HL a.b.t n else (0 : Int)
abbrev WN (a : Nat) (a1 : BSY) : Prop := (1 : Nat) <= a /\ a <= a1.l.length
abbrev XX (a : Nat) : Nat := (50 : Nat) - a
abbrev Om (a : BSY) : Prop := (JN a).length = (0 : Nat)
abbrev Je (a : Nat) (a1 : BSY) : Prop := (↑a : Int) < (↑a1.l.length : Int)
abbrev XE (a : Nat) : Nat := a + (1 : Nat)
abbrev Mt (a : Nat) (a1 : Nat) : Prop := a = XE a1
abbrev Nw (a : BSY) (a1 : Nat) : Int := kP (JV a) (KP a a1) (gD a.l a1).i.lo (gD a.l a1).d.hi (gD a.l a1).sp
abbrev Jo (n : Int) (a : BSY) (a1 : Nat) : Bool := decide (n = (gD a.l a1).i.lo) || hasK (λ (x : Span) => x.lo) a.l a1 n
abbrev Kl (a : BSY) (a1 : Nat) : Int := kP (JV a) (JR a a1) (gD a.l a1).i.hi (gD a.l a1).d.lo (gD a.l a1).sp
abbrev Pi (n : Int) (a : BSY) (a1 : Nat) : Bool := decide (n = (gD a.l a1).i.hi) || hasK (λ (x : Span) => x.hi) a.l a1 n
abbrev Gx (a : Nat) : Nat := (0 : Nat) + a
abbrev Fv (a : BSY) (j : Nat) : Span := dbG a (Gx j)
theorem AND (a : BSY) : (AJB a) = ((Dx a /\ Di a /\ Dg a /\ a.s.lo = a.s.lo /\ a.s.hi = a.s.hi /\ Lw a = a.l.length /\ (∀ (i : Nat), i < Lw a -> (Ql a i).lo = (gD a.l
 i).i.lo /\ (Ql a i).hi = (gD a.l i).i.hi /\ (Of a i).lo = (gD a.l i).d.lo /\ (Of a i).hi = (gD a.l i).d.hi /\ (WH a i).sp = (gD a.l i).sp) /\ AskOk (BSY.mk (Eo a) a.s (UF a))) /\
 (Dx a /\ Di a /\ Dg a /\ a.s.lo = a.s.lo /\ Dx a /\ Di a /\ Dg a /\ a.s.hi = a.s.hi) /\ (∃ (a_1 : One), (VZ /\ (∀ (i : Nat), i < (0 : Nat) -> false = false) /\ WP a /\
 UB a /\ VA a /\ UI /\ Rq a /\ Pe a /\ Lr a /\ OS a = a.s.lo /\ zI = zI /\ (∀ (n : Int), false = false) /\ (∀ (n : Int), Ss a n = Fs a n) /\ Rq a /\
 Pe a /\ Lr a /\ MW a = a.s.hi /\ zI = zI /\ (∀ (n : Int), false = false) /\ ∀ (n : Int), Fi a n = Fs a n) /\ True) /\ (∀ (a_1 : One), True -> bif decide (Gl a) then ((0 : Int) <=
 (↑(0 : Nat) : Int) /\ Gl a) /\ (NZ a = NZ a /\ UX a = UX a /\ Ly a /\ OP a /\ OG a /\ a.b.c = a.b.c /\ OS a = OS a /\ zI = zI /\ (∀ (n : Int), false =
 false) /\ (∀ (n : Int), (bif z_Debts_29 a n then GB a n else (0 : Int)) = Ss a n) /\ MZ a) /\ (NP a = NP a /\ YA a = YA a /\ Ly a /\ OP a /\ OG a /\
 a.b.c = a.b.c /\ MW a = MW a /\ zI = zI /\ (∀ (n : Int), false = false) /\ (∀ (n : Int), (bif z_Debts_33 a n then GB a n else (0 : Int)) = Fi a n) /\ MZ a) /\ ((True /\ ((0 : Nat) < (0 :
 Nat) -> (0 : Nat) = (2 : Nat))) /\ Og /\ (true = true -> WV) /\ (1 : Nat) <= (9223372036854775807 : Nat) /\ (16 : Nat) <= (140737488355328 : Nat)) /\ ∃ (a_3 : Nat), (VZ /\ a_3 = (1 : Nat) /\ WP a /\
 UB a /\ VA a /\ (↑a_3 : Int) = IntKind.i64.wrap ((↑(0 : Nat) : Int) + (1 : Int)) /\ PC a /\ PL a /\ a.b.c = a.b.c /\ KP a a_3 = Ta a /\ zI = zI /\ (∀ (n : Int), hasK (λ (x :
 Span) => x.lo) a.l a_3 n = Le n a) /\ (∀ (n : Int), WX a a_3 n = bif Le n a then GB a n else (0 : Int)) /\ PC a /\ PL a /\ a.b.c = a.b.c /\ JR a a_3 = Mr a /\ zI
 = zI /\ (∀ (n : Int), hasK (λ (x : Span) => x.hi) a.l a_3 n = Rt n a) /\ (∀ (n : Int), TC a a_3 n = bif Rt n a then GB a n else (0 : Int)) /\ a_3 = (1 : Nat) /\ ∀ (i : Nat), i < a_3 -> (dbG a
 i).lo = Ta a /\ (dbG a i).hi = Mr a) /\ WN a_3 a /\ XX a_3 < (60 : Nat) else Om a /\ Om a /\ UI) /\ ∀ (a_1 : Nat), WN a_1 a -> bif decide (Je a_1 a) then
 ((0 : Int) <= (↑a_1 : Int) /\ Je a_1 a) /\ (Ke a a_1 /\ Kv a a_1 /\ XF a a_1 /\ OP a /\ OG a /\ a.b.c = a.b.c /\ KP a a_1 = KP a a_1 /\ zI = zI /\ (∀ (n : Int), hasK
 (λ (x : Span) => x.lo) a.l a_1 n = hasK (λ (x : Span) => x.lo) a.l a_1 n) /\ (∀ (n : Int), (bif hasK (λ (x : Span) => x.lo) a.l a_1 n then GB a n else (0 : Int)) = WX a a_1 n) /\ MZ a) /\
 (Jg a a_1 /\ Sn a a_1 /\ XF a a_1 /\ OP a /\ OG a /\ a.b.c = a.b.c /\ JR a a_1 = JR a a_1 /\ zI = zI /\ (∀ (n : Int), hasK (λ (x : Span) => x.hi) a.l a_1 n = hasK (λ (x
 : Span) => x.hi) a.l a_1 n) /\ (∀ (n : Int), (bif hasK (λ (x : Span) => x.hi) a.l a_1 n then GB a n else (0 : Int)) = TC a a_1 n) /\ MZ a) /\ ((a_1 = a_1 /\ ((0 : Nat) < a_1 -> Py)) /\
 Og /\ (false = true -> WV) /\ XE a_1 <= (9223372036854775807 : Nat) /\ XE a_1 * (16 : Nat) <= (140737488355328 : Nat)) /\ ∃ (a_3 : Nat), (VZ /\ Mt a_3 a_1 /\ WP a /\
 UB a /\ VA a /\ (↑a_3 : Int) = IntKind.i64.wrap ((↑a_1 : Int) + (1 : Int)) /\ PC a /\ PL a /\ a.b.c = a.b.c /\ KP a a_3 = Nw a a_1 /\ zI = zI /\ (∀ (n : Int), hasK (λ (x : Span)
 => x.lo) a.l a_3 n = Jo n a a_1) /\ (∀ (n : Int), WX a a_3 n = bif Jo n a a_1 then GB a n else (0 : Int)) /\ PC a /\ PL a /\ a.b.c = a.b.c /\ JR a a_3 = Kl a a_1
 /\ zI = zI /\ (∀ (n : Int), hasK (λ (x : Span) => x.hi) a.l a_3 n = Pi n a a_1) /\ (∀ (n : Int), TC a a_3 n = bif Pi n a a_1 then GB a n else (0 : Int)) /\ Mt a_3 a_1 /\ ∀ (i : Nat),
 i < a_3 -> ((dbG a i).lo = bif decide (i < a_1) then (dbG a i).lo else Nw a a_1) /\ (dbG a i).hi = bif decide (i < a_1) then (dbG a i).hi else Kl a a_1) /\ WN a_3 a /\ XX a_3 < XX a_1
 else (JN a).length = a_1 /\ Gx a_1 <= a_1 /\ (∀ (j : Nat), j < (JN a).length -> (gD (JN a) j).lo = (Fv a j).lo /\ (gD (JN a) j).hi = (Fv a j).hi) /\ UI) := by kernel_rfl
theorem ATT (a : BSY) (h : AskOk a /\ 1 <= a.l.length) : AJB a := by
 obtain ⟨h, h1⟩ := h
 have hn := h.n
 rw [AND]; delta Eo Da Bi Dx bE Zk Zd Di Zb Dg UF Lw WH Ql Of VZ WP Ke Jg Sn Kv XF UB VA UI Rq Pe Lr OS z_Debts_29 Ss Fs MW z_Debts_33 Fi Gl VY Kb NZ Lk UX MS Ly OU WM OP Ix Hm Ou OG GB JV MZ NP YA WV Py Og PC PL KP Ta Le WX JR Mr Rt TC WN XX Om Je XE Mt Nw Jo Kl Pi Gx Fv; simp only [BF, eq_self, implies_true, and_self, true_and, and_true, true_implies, forall_const, decide_eq_true_eq, decide_eq_false_iff_not, Int.toNat_natCast, dSpan_eSpan, dInt_eInt, AV, BH, BJ, BC, AZ, AX, AY, Nat.zero_add, Int.zero_sub, Nat.le_eq, Nat.succ_eq_add_one, Nat.add_one_le_iff, Bool.not_eq_true', Bool.not_eq_false', rng_length, AT, AP, DL.b1]
 refine ⟨h, ⟨default, rfl, λ _ => rfl, rfl, λ _ => rfl⟩, ⟨λ _ => ⟨⟨by omega, by omega⟩, h.b, h.b, ⟨by omega, by omega, by omega, by omega, by omega⟩, 1, ⟨rfl, rfl, rfl, λ _ => rfl, λ _ => rfl, rfl, λ _ => rfl, λ _ => rfl, rfl, λ i hi => ?_⟩, ⟨by omega, by omega⟩, by omega⟩, λ h0 => absurd h0 (by omega)⟩, λ k hk => ⟨λ hlt => ⟨⟨by omega, by omega⟩, h.b, h.b, ⟨by omega, (λ h => by cases h), by omega, by omega⟩, k + 1, ⟨rfl, (CE (by omega)).symm, rfl, λ _ => rfl, λ _ => rfl, rfl, λ _ => rfl, λ _ => rfl, rfl, λ i hi => ?_⟩, ⟨by omega, by omega⟩, by omega⟩, λ hge => ?_⟩⟩
 ·obtain rfl : i = 0 := by omega
  exact ⟨rfl, rfl⟩
 ·by_cases h : i < k
  ·simp [h]
  ·obtain rfl : i = k := by omega
   simp only [decide_eq_false h, cond_false]
   exact ⟨rfl, rfl⟩
 ·obtain rfl : k = a.l.length := by omega
  refine ⟨rng_length _ _, Nat.le_refl _, λ j hj => ?_⟩
  have hj : j < a.l.length := by simpa [JN] using hj
  unfold JN; rw [FE _ _ _ hj]; exact ⟨rfl, rfl⟩
theorem ASC : AR Try.prog G7 (C_Debts.spec AHE) := EX C_Debts AIZ [] [330] ANG (λ _ => by kernel_rfl) (λ _ => AH ASS (AH ATU (AH AMM (AH BBW (AH ATY (AH ASV (AH ATW (AH AOK (AH ANK AM))))))))) (λ (a : BSY) h => ATT a h) (λ _ => FK rfl rfl) _
end Go.Bal
