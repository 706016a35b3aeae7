/- TopOwed: lists of integers. -/
import Derived.Test.YtgjkmndbkidgjaaGreatOwC
import Derived.Test.YtgjkmndbkidgjaaGreatSym13
set_option linter.unusedVariables false
set_option linter.unusedSimpArgs false
namespace Go.Bal
open Go Go.Sym Go.Proofs
def orS (s t : Sym.Spec) : Sym.Spec := λ xs H r => match s xs H r with
 | some x => some x
 | none => t xs H r
theorem aT {g : FuncId} {s t : Sym.Spec} (h1 : AR Try.prog g s) (h2 : AR Try.prog g t) : AR Try.prog g (orS s t) := λ xs H r x hx hp => by
 unfold orS at hx
 split at hx
 ·rename_i y hy; cases hx; exact h1 xs H r _ hy hp
 ·exact h2 xs H r x hx hp
structure LI where
 l : List Int
 x : Int
def ixM (l : List Int) (x : Int) : Int := BN (λ i => x == gD l i) l.length 0
def CK (l : List Int) (x : Int) : Bool := decide (0 <= ixM l x)
def d_LI : List AVal -> Heap -> Option (LI × List (Nat × Nat) × List Nat)
 | [y, .d x], H => match YY y H with
  | some (l, f) => some (⟨l, CR x⟩, [], f)
  | none => none
 | _, _ => none
def C_ix : Ctr := { α := LI, xs := λ a => [.d (AF a.l), .int a.x], L := λ _ => [], val := λ a => .int (ixM a.l a.x), keep := λ _ => [], pre := λ a => [a.l.length < 4611686018427387904] }
def A_ix (a : LI) : Ann := { ann 19 [] with loops := λ id => if id = 2 then some [{ α := Nat, dflt := 0, T := λ k => ⟨[(0, .d (AF a.l)), (1, .int a.x), (7, .int a.l.length), (8, .int k)], []⟩, inv := λ k => k <= a.l.length /\ ixM a.l a.x = BN (λ i => a.x == gD a.l i) (a.l.length - k) k, meas := λ k => a.l.length - k }] else none }
def V_ix (a : LI) : Prop := BB Try.prog (A_ix a) ALS (AS ALS) (C_ix.xs a) (AK []) (C_ix.val a) [] [] []
theorem BDZ (a : LI) : (V_ix a) = ((∃ (a_1 : Nat), (a.l.length = a.l.length /\ (∀ (i : Nat), i < a.l.length -> gD a.l i = gD a.l i) /\ a.x = a.x /\ (↑a.l.length : Int) = (↑a.l.length : Int) /\ (↑a_1 : Int) = 0) /\ a_1 <=
 a.l.length /\ ixM a.l a.x = BN (λ (i : Nat) => a.x == gD a.l i) (a.l.length - a_1) a_1) /\ ∀ (a_1 : Nat), a_1 <= a.l.length /\ ixM a.l a.x = BN (λ (i : Nat) => a.x == gD a.l i) (a.l.length - a_1) a_1 -> bif decide
 ((↑a_1 : Int) < (↑a.l.length : Int)) then (0 <= (↑a_1 : Int) /\ (↑a_1 : Int) < (↑a.l.length : Int)) /\ bif a.x == gD a.l a_1 then ixM a.l a.x = (↑a_1 : Int) else ∃ (a_3 : Nat), (a.l.length = a.l.length /\ (∀ (i : Nat), i <
 a.l.length -> gD a.l i = gD a.l i) /\ a.x = a.x /\ (↑a.l.length : Int) = (↑a.l.length : Int) /\ (↑a_3 : Int) = IntKind.i64.wrap ((↑a_1 : Int) + 1)) /\ (a_3 <= a.l.length /\ ixM a.l a.x = BN (λ (i : Nat) => a.x == gD a.l i)
 (a.l.length - a_3) a_3) /\ a.l.length - a_3 < a.l.length - a_1 else ixM a.l a.x = -1) := by kernel_rfl
theorem p_ix (a : LI) (h : a.l.length < 4611686018427387904) : V_ix a := by
 rw [BDZ]
 simp only [BF, eq_self, implies_true, and_self, true_and, and_true, true_implies, forall_const, decide_eq_true_eq, decide_eq_false_iff_not, Int.toNat_natCast, dSpan_eSpan, dInt_eInt, AV, BH, BJ, BC, AZ, AX, AY, Nat.zero_add, Int.zero_sub, Nat.le_eq, Nat.succ_eq_add_one, Nat.add_one_le_iff, Bool.not_eq_true', Bool.not_eq_false', rng_length, AT, AP]
 refine ⟨⟨0, rfl, Nat.zero_le _, rfl⟩, λ k ⟨h1, h2⟩ => ⟨λ hlt => ?_, λ hge => ?_⟩⟩
 ·have hlt : k < a.l.length := by omega
  refine ⟨⟨by omega, by omega⟩, λ hp => ?_, λ hp => ⟨k + 1, (CE (by omega)).symm, ⟨by omega, ?_⟩, by omega⟩⟩
  ·rw [h2]; exact DJ hlt (by simpa using hp)
  ·rw [h2]; exact FZ hlt (by simpa using hp)
 ·rw [h2]; exact EK (by omega)
theorem AVY : AR Try.prog AHH (C_ix.spec d_LI) := EX C_ix A_ix [] [] AZY (λ _ => by kernel_rfl) (λ _ => AM) (λ (a : LI) h => p_ix a h) (λ _ => FK rfl rfl) _
def C_ct : Ctr := { C_ix with val := λ (a : LI) => .bool (CK a.l a.x) }
def A_ct : Ann := ann 9 [(AHH, C_ix.spec d_LI)]
def V_ct (a : LI) : Prop := BB Try.prog A_ct AOB (AS AOB) [.d (AF a.l), .int a.x] (AK []) (.bool (CK a.l a.x)) [] [] []
theorem BGN (a : LI) : (V_ct a) = (((AJ a.l.length λ (i : Nat) => gD a.l i).length = a.l.length /\ (∀ (i : Nat), i < (AJ a.l.length λ (i : Nat) => gD a.l i).length -> gD (AJ a.l.length λ (i : Nat) => gD a.l i) i
 = gD a.l i) /\ a.x = a.x /\ (AJ a.l.length λ (i : Nat) => gD a.l i).length.succ.le 4611686018427387904) /\ CK a.l a.x = decide (ixM (AJ a.l.length λ (i : Nat) => gD a.l i) a.x >= 0)) := by kernel_rfl
def rwI (l : List Int) : AObj := .row 1 l.length λ i => BM (gD l i)
def C_ctO : Ctr := { ro := [100], α := LI, xs := λ a => [.own 100 1 0 a.l.length, .int a.x], L := λ a => [(100, rwI a.l)], val := λ a => .bool (CK a.l a.x), keep := λ a => [(100, .live (rwI a.l))], pre := λ a => [a.l.length < 4611686018427387904] }
def AWO : List AVal -> Heap -> Option (LI × List (Nat × Nat) × List Nat)
 | [.own id _ _ _, .d x], H => match H id with
  | .live (.row _ n g) => some (⟨AJ n λ i => CR (g i), CR x⟩, [(100, id)], [])
  | _ => none
 | _, _ => none
def rK := orS (C_ctO.spec AWO) (C_ct.spec d_LI)
theorem AWH (a : LI) (h : a.l.length < 4611686018427387904) : FnT Try.prog OO [.d (AF a.l), .int a.x] (AK []) (.bool (CK a.l a.x)) [] := JK (A := A_ct) (ren := []) (fz := []) (L := []) AZI (by kernel_rfl) (AH AVY AM) (by
 show V_ct a; rw [BGN]; simp [CK, AP]; omega)
theorem AZD : AR Try.prog OO (C_ct.spec d_LI) := okT C_ct (λ (a : LI) h => AWH a h) _
theorem BCH : AR Try.prog OO (C_ctO.spec AWO) := okT C_ctO (λ (a : LI) h => by
 have hf := AWH a h
 refine FnT.lend (fz := [100]) (xs := [.own 100 1 0 a.l.length, .int a.x]) (L := [(100, rwI a.l)]) hf rfl ?_ rfl ?_ _ ?_
 ·show [AVal.d (.list 1 a.l.length (λ j => BM (gD a.l (0 + j))) false), _] = _
  simp only [Nat.zero_add]; rfl
 ·show 0 + a.l.length <= a.l.length; omega
 ·exact ⟨rfl, trivial⟩) _
theorem RO : AR Try.prog OO rK := aT BCH AZD
theorem nT {l : List Int} {x : Int} : CK l x = true ↔ x ∈ l := by
 unfold CK ixM
 rw [decide_eq_true_eq, AEZ]
 constructor
 ·rintro ⟨i, _, h2, h3⟩
  have : x = gD l i := by simpa using h3
  rw [this]; exact ADP (by omega)
 ·intro h
  obtain ⟨i, hi, e⟩ := OW h
  exact ⟨i, Nat.zero_le _, by omega, by simp [e]⟩
def dU2 : List AVal -> Option I2
 | [.d (.v (.int .u64 a)), .d (.v (.int .u64 b))] => some ⟨a, b⟩
 | _ => none
def xU2 (x : I2) : List AVal := [.d (.v (.int .u64 x.a)), .d (.v (.int .u64 x.b))]
def AIN (x : I2) : Prop := BB Try.prog (ann 51 []) R2 (AS R2) (xU2 x) (AK []) (.tup [.d (.v (.int .u64 0)), .d (.v (.int .u64 x.b))]) [] [] []
theorem AML (x : I2) : (AIN x) = (((0 : Int) <= (32 : Int) /\ (32 : Int) <= (↑(64 : Nat) : Int)) /\ ((0 : Int) <= (32 : Int) /\ (32 : Int) <= (↑(64 : Nat) : Int)) /\ ((0 : Int) <= (32 : Int) /\ (32 : Int) <= (↑(64 : Nat) :
 Int)) /\ ((0 : Int) <= (32 : Int) /\ (32 : Int) <= (↑(64 : Nat) : Int)) /\ ((0 : Int) <= (32 : Int) /\ (32 : Int) <= (↑(64 : Nat) : Int)) /\ (0 : Int) = IntKind.u64.wrap (IntKind.u64.wrap (IntKind.u64.wrap (x.a / (2 : Int) ^
 Int.toNat (32 : Int) * (x.b / (2 : Int) ^ Int.toNat (32 : Int))) + IntKind.u64.wrap (IntKind.u64.wrap (x.a / (2 : Int) ^ Int.toNat (32 : Int) * P4 IntKind.u64 x.b (4294967295 : Int)) + IntKind.u64.wrap (P4
 IntKind.u64 x.a (4294967295 : Int) * P4 IntKind.u64 x.b (4294967295 : Int)) / (2 : Int) ^ Int.toNat (32 : Int)) / (2 : Int) ^ Int.toNat (32 : Int)) + IntKind.u64.wrap (P4 IntKind.u64 (IntKind.u64.wrap
 (IntKind.u64.wrap (x.a / (2 : Int) ^ Int.toNat (32 : Int) * P4 IntKind.u64 x.b (4294967295 : Int)) + IntKind.u64.wrap (P4 IntKind.u64 x.a (4294967295 : Int) * P4 IntKind.u64 x.b (4294967295 : Int)) / (2 : Int) ^
 Int.toNat (32 : Int))) (4294967295 : Int) + IntKind.u64.wrap (P4 IntKind.u64 x.a (4294967295 : Int) * (x.b / (2 : Int) ^ Int.toNat (32 : Int)))) / (2 : Int) ^ Int.toNat (32 : Int)) /\ x.b = IntKind.u64.wrap (x.a * x.b))
 := by kernel_rfl
def Vw := pD dU2 (λ x => .tup [.d (.v (.int .u64 0)), .d (.v (.int .u64 x.b))]) (λ x => [x.a = 1 /\ 0 <= x.b /\ x.b <= 40])
def AXX (x : I2) : Prop := BB Try.prog (ann 30 [(jU, Vw)]) AOT (AS AOT) (xU2 x) (AK []) (.tup [.d (.v (.int .u64 0)), .d (.v (.int .u64 x.b))]) [] [] []
theorem AZO (x : I2) : (AXX x) = ((x.a = (1 : Int) /\ (0 : Int) <= x.b /\ x.b <= (40 : Int)) /\ Int.ofNat (0 : Nat) = Int.ofNat (0 : Nat) /\ x.b = x.b) := by kernel_rfl
theorem hU2 (xs : List AVal) (a : I2) (h : dU2 xs = some a) : xs = xU2 a := by
 unfold dU2 at h; split at h <;> cases h; rfl
theorem u64w {n : Int} (h0 : 0 <= n) (h1 : n < 18446744073709551616) : IntKind.u64.wrap n = n := by
 simp only [IntKind.wrap, IntKind.bits, IntKind.signed]
 have : n % (2 ^ 64 : Int) = n := Int.emod_eq_of_lt h0 (by omega)
 simp only [this]
 simp
theorem ARR : AR Try.prog jU Vw := JO xU2 hU2 λ x h => JK (A := ann 51 []) (ren := []) (fz := []) AMS (by kernel_rfl) AM (by
 show AIN x; rw [AML]
 obtain ⟨a, b⟩ := x
 obtain ⟨h1, h2, h3⟩ : a = 1 /\ 0 <= b /\ b <= 40 := h
 subst h1
 obtain ⟨n, rfl⟩ := Int.eq_ofNat_of_zero_le h2
 have hn : n < 41 := by omega
 clear h2 h3
 revert hn; revert n; decide +kernel)
theorem BBZ : AR Try.prog ANF Vw := JO xU2 hU2 λ x h => JK (A := ann 30 [(jU, Vw)]) (ren := []) (fz := []) AZZ (by kernel_rfl) (AH ARR AM) (by
 show AXX x; rw [AZO]; exact ⟨h, rfl, rfl⟩)
def sng (s : Int) : List Int := [s]
def zSp : Int := 0
structure SpN where
 s : Int
 n : Nat
def C_rep : Ctr := { α := SpN, xs := λ a => [.d (AF (sng a.s)), .int a.n], val := λ a => .own 0 1 0 a.n, keep := λ a => [(0, .live (.row 1 a.n λ _ => BM a.s))], pre := λ a => [1 <= a.n /\ a.n <= 40] }
def AOF : List AVal -> Heap -> Option (SpN × List (Nat × Nat) × List Nat)
 | [y, .d n], H => match YY y H with
  | some (l, f) => some (⟨gD l 0, (CR n).toNat⟩, [], f)
  | none => none
 | _, _ => none
def rp8 (a : SpN) : Shape := { α := Nat, dflt := 0, T := λ k => ⟨[(7, .own 201 1 0 a.n), (8, .int k)], [(201, .live (.row 1 a.n λ i => BM (bif decide (i < k) then a.s else zSp)))]⟩, inv := λ k => 1 <= k /\ k <= a.n, meas := λ k => a.n - k, first := [(201, 7032)] }
def AWU (a : SpN) : Ann := { ann 48 [(ANF, Vw)] with loops := λ id => if id = 8 then some [rp8 a] else none }
def AWL (a : SpN) : Prop := BB Try.prog (AWU a) ALI (AS ALI) (C_rep.xs a) (AK []) (C_rep.val a) (C_rep.keep a) [(0, 201)] []
theorem BCL (a : SpN) : (AWL a) = ((IntKind.u64.wrap (↑(sng a.s).length : Int) = (1 : Int) /\ (0 : Int) <= IntKind.u64.wrap (↑a.n : Int) /\ IntKind.u64.wrap (↑a.n : Int) <= (40 : Int)) /\ bif bif decide ((0 : Int) > (0 :
 Int)) then true else decide (IntKind.u64.wrap (↑a.n : Int) > (9223372036854775807 : Int)) then False else ((0 : Int) <= IntKind.i64.wrap (IntKind.u64.wrap (↑a.n : Int)) /\ IntKind.i64.wrap (IntKind.u64.wrap (↑a.n : Int)) =
 IntKind.i64.wrap (IntKind.u64.wrap (↑a.n : Int)) /\ IntKind.i64.wrap (IntKind.u64.wrap (↑a.n : Int)) <= (9223372036854775807 : Int) /\ (↑(8 : Nat) : Int) * IntKind.i64.wrap (IntKind.u64.wrap (↑a.n : Int)) <= (281474976710656
 : Int)) /\ ((True /\ ((0 : Nat) < (sng a.s).length -> (1 : Nat) = (1 : Nat))) /\ (IntKind.i64.wrap (IntKind.u64.wrap (↑a.n : Int))).toNat.le (IntKind.i64.wrap (IntKind.u64.wrap (↑a.n : Int))).toNat) /\ (∃ (a_1 : Nat), ((0 :
 Nat) = (0 : Nat) /\ a.n = (IntKind.i64.wrap (IntKind.u64.wrap (↑a.n : Int))).toNat /\ (↑a_1 : Int) = (↑(min (sng a.s).length (IntKind.i64.wrap (IntKind.u64.wrap (↑a.n : Int))).toNat) : Int) /\ a.n = (IntKind.i64.wrap
 (IntKind.u64.wrap (↑a.n : Int))).toNat /\ ∀ (i : Nat), i < a.n -> (bif decide (i < a_1) then a.s else zSp) = bif decide (i < min (sng a.s).length (IntKind.i64.wrap (IntKind.u64.wrap (↑a.n : Int))).toNat) then gD (sng a.s)
 i else (0 : Int)) /\ (1 : Nat) <= a_1 /\ a_1 <= a.n) /\ ∀ (a_1 : Nat), (1 : Nat) <= a_1 /\ a_1 <= a.n -> bif decide ((↑a_1 : Int) < (↑a.n : Int)) then (((0 : Int) <= (↑a_1 : Int) /\ (↑a_1 : Int) <= (↑a.n : Int) /\ (↑a.n : Int) <=
 (↑a.n : Int) /\ ((↑a_1 : Int) = (0 : Int) ∨ (↑a_1 : Int) < (↑a.n : Int))) /\ ((0 : Int) <= (0 : Int) /\ (0 : Int) <= (↑a_1 : Int) /\ (↑a_1 : Int) <= (↑a.n : Int) /\ ((0 : Int) = (0 : Int) ∨ (0 : Int) < (↑a_1 : Int))) /\ ((0 :
 Nat) + (a_1 - (0 : Nat)) <= a.n /\ ((0 : Nat) < a_1 - (0 : Nat) -> (1 : Nat) = (1 : Nat))) /\ ((0 : Nat) + a_1 + (a.n - a_1)).le a.n) /\ ∃ (a_3 : Nat), ((0 : Nat) = (0 : Nat) /\ a.n = a.n /\ (↑a_3 : Int) = IntKind.i64.wrap
 ((↑a_1 : Int) + (↑(min (a_1 - Int.toNat (0 : Int)) (a.n - a_1)) : Int)) /\ a.n = a.n /\ ∀ (i : Nat), i < a.n -> (bif decide (i < a_3) then a.s else zSp) = bif decide ((0 : Nat) + a_1 <= i) && decide (i < (0 : Nat) + a_1 +
 min (a_1 - Int.toNat (0 : Int)) (a.n - a_1)) then bif decide ((0 : Nat) + Int.toNat (0 : Int) + (i - ((0 : Nat) + a_1)) < a_1) then a.s else zSp else bif decide (i < a_1) then a.s else zSp) /\ ((1 : Nat) <= a_3 /\ a_3 <=
 a.n) /\ a.n - a_3 < a.n - a_1 else (0 : Nat) = (0 : Nat) /\ a.n = a.n /\ a.n = a.n /\ ∀ (i : Nat), i < a.n -> a.s = bif decide (i < a_1) then a.s else zSp) := by kernel_rfl
theorem BFW (a : SpN) (h : 1 <= a.n /\ a.n <= 40) : AWL a := by
 obtain ⟨h1, h2⟩ := h
 have e1 : IntKind.u64.wrap (a.n : Int) = a.n := u64w (by omega) (by omega)
 have e2 : IntKind.i64.wrap (a.n : Int) = a.n := JA (by omega) (by omega)
 have e3 : (sng a.s).length = 1 := rfl
 rw [BCL]; simp only [BF, eq_self, implies_true, and_self, true_and, and_true, true_implies, forall_const, decide_eq_true_eq, decide_eq_false_iff_not, Int.toNat_natCast, dSpan_eSpan, dInt_eInt, AV, BH, BJ, BC, AZ, AX, AY, Nat.zero_add, Int.zero_sub, Nat.le_eq, Nat.succ_eq_add_one, Nat.add_one_le_iff, Bool.not_eq_true', Bool.not_eq_false', rng_length, AT, AP, e1, e2, e3, Nat.sub_zero, Int.toNat_zero]
 refine ⟨⟨rfl, by omega, by omega⟩, λ h => ?_, λ _ => ⟨⟨by omega, by omega, by omega⟩, by omega, ⟨1, ⟨by omega, λ i hi => ?_⟩, by omega, by omega⟩, λ k hk => ⟨λ hlt => ⟨⟨by omega, by omega, by omega⟩, min (2 * k) a.n, ⟨?_, λ i hi => ?_⟩, by omega, by omega⟩, λ hge i hi => ?_⟩⟩⟩
 ·simp at h; omega
 ·by_cases h : i < 1
  ·obtain rfl : i = 0 := by omega
   have : 0 < min 1 a.n := by omega
   simp [this]; rfl
  ·have : ¬ i < min 1 a.n := by omega
   simp [h, this, zSp]
 ·rw [JA (by omega) (by omega)]; omega
 ·have e : (decide (k <= i) && decide (i < k + min k (a.n - k))) = (decide (k <= i) && decide (i < min (2 * k) a.n)) := by
   congr 1; rw [decide_eq_decide]; omega
  rw [e]
  by_cases q1 : k <= i
  ·by_cases q2 : i < min (2 * k) a.n
   ·have q3 : i - k < k := by omega
    simp [q1, q2, q3]
   ·have q4 : ¬ i < k := by omega
    simp [q1, q2, q4]
  ·have q2 : i < min (2 * k) a.n := by omega
   have q3 : i < k := by omega
   simp [q1, q2, q3]
 ·have : i < k := by omega
  simp [this]
theorem ARV : AR Try.prog AIK (C_rep.spec AOF) := EX C_rep AWU [(0, 201)] [] AYR (λ _ => by kernel_rfl) (λ _ => AH BBZ AM) (λ a h => BFW a h) (λ _ => FK rfl rfl) _
structure L2 where
 a : List Int
 b : List Int
def d_L2 : List AVal -> Heap -> Option (L2 × List (Nat × Nat) × List Nat)
 | [y, z], H => match YY y H, YY z H with
  | some (l, f), some (m, g) => some (⟨l, m⟩, [], f ++ g)
  | _, _ => none
 | _, _ => none
def C_Same : Ctr := { α := L2, xs := λ a => [.d (AF a.a), .d (AF a.b)], L := λ _ => [], val := λ _ => .bool true, keep := λ _ => [], pre := λ a => [a.a.length < 4611686018427387904 /\ a.a = a.b] }
def AKU (a : L2) : Ann := { ann 26 [] with loops := λ id => if id = 4 then some [{ α := Nat, dflt := 0, T := λ k => ⟨[(0, .d (AF a.a)), (1, .d (AF a.b)), (5, .int k)], []⟩, inv := λ k => k <= a.a.length, meas := λ k => a.a.length - k }] else none }
def ALG (a : L2) : Prop := BB Try.prog (AKU a) ACX (AS ACX) (C_Same.xs a) (AK []) (C_Same.val a) [] [] []
theorem ATZ (a : L2) : (ALG a) = (bif (↑a.a.length : Int) != (↑a.b.length : Int) then true = false else (∃ (a_1 : Nat), (a.a.length = a.a.length /\ (∀ (i : Nat), i < a.a.length -> gD a.a i = gD a.a i) /\ a.b.length =
 a.b.length /\ (∀ (i : Nat), i < a.b.length -> gD a.b i = gD a.b i) /\ (↑a_1 : Int) = 0) /\ a_1.le a.a.length) /\ ∀ (a_1 : Nat), a_1.le a.a.length -> bif decide ((↑a_1 : Int) < (↑a.a.length : Int)) then ((0 <= (↑a_1 : Int) /\
 (↑a_1 : Int) < (↑a.a.length : Int)) /\ 0 <= (↑a_1 : Int) /\ (↑a_1 : Int) < (↑a.b.length : Int)) /\ bif gD a.a a_1 != gD a.b a_1 then true = false else ∃ (a_3 : Nat), (a.a.length = a.a.length /\ (∀ (i : Nat), i < a.a.length ->
 gD a.a i = gD a.a i) /\ a.b.length = a.b.length /\ (∀ (i : Nat), i < a.b.length -> gD a.b i = gD a.b i) /\ (↑a_3 : Int) = IntKind.i64.wrap ((↑a_1 : Int) + 1)) /\ a_3.le a.a.length /\ a.a.length - a_3 < a.a.length - a_1 else
 true = true) := by kernel_rfl
theorem AYO (a : L2) (h : a.a.length < 4611686018427387904 /\ a.a = a.b) : ALG a := by
 obtain ⟨a, b⟩ := a
 obtain ⟨h, rfl⟩ : a.length < 4611686018427387904 /\ a = b := h
 rw [ATZ]; simp only [BF, eq_self, implies_true, and_self, true_and, and_true, true_implies, forall_const, decide_eq_true_eq, decide_eq_false_iff_not, Int.toNat_natCast, dSpan_eSpan, dInt_eInt, AV, BH, BJ, BC, AZ, AX, AY, Nat.zero_add, Int.zero_sub, Nat.le_eq, Nat.succ_eq_add_one, Nat.add_one_le_iff, Bool.not_eq_true', Bool.not_eq_false', rng_length, AT, AP]
 refine ⟨λ h => by simp at h, λ _ => ⟨⟨0, rfl, Nat.zero_le _⟩, λ k hk => λ hlt => ⟨⟨by omega, by omega⟩, λ h0 => by simp at h0, λ _ => ⟨k + 1, (CE (by omega)).symm, by omega, by omega⟩⟩⟩⟩
theorem ASQ : AR Try.prog ACA (C_Same.spec d_L2) := EX C_Same AKU [] [] ASZ (λ _ => by kernel_rfl) (λ _ => AM) (λ (a : L2) h => AYO a h) (λ _ => FK rfl rfl) _
structure WII where
 l : List Wk
 a : Int
 b : Int
def HY (l : List Wk) : AObj := .box [.d (JZ l)]
def JC (H : Heap) (id : Nat) : Option (List Wk) := match H id with
 | .live (.box [.d (.list _ n g _)]) => some (AJ n λ i => BE (g i))
 | _ => none
def C_of : Ctr := { ro := [100], α := WII, xs := λ a => [.bptr 100 0, .int a.a, .int a.b], L := λ a => [(100, HY a.l)], val := λ a => .bool (CK (gD a.l a.a.toNat).of a.b), keep := λ a => [(100, .live (HY a.l))], pre := λ a => [(0 <= a.a /\ a.a < a.l.length) /\ (gD a.l a.a.toNat).of.length <= 5] }
def d_of : List AVal -> Heap -> Option (WII × List (Nat × Nat) × List Nat)
 | [.bptr p _, .d a, .d b], H => match JC H p with
  | some l => some (⟨l, CR a, CR b⟩, [(100, p)], [])
  | none => none
 | _, _ => none
def A_of : Ann := { ann 18 [(OO, rK)] with E := [100] }
def V_of (a : WII) : Prop := BB Try.prog A_of F_of (AS F_of) (C_of.xs a) (AK (C_of.L a)) (C_of.val a) (C_of.keep a) [] []
theorem BHR (a : WII) : (V_of a) = (((0 <= a.a /\ a.a < (↑a.l.length : Int)) /\ (AJ (gD a.l a.a.toNat).of.length λ (i : Nat) => gD (gD a.l a.a.toNat).of i).length = (gD a.l a.a.toNat).of.length /\ (∀ (i : Nat), i < (AJ
 (gD a.l a.a.toNat).of.length λ (i : Nat) => gD (gD a.l a.a.toNat).of i).length -> gD (AJ (gD a.l a.a.toNat).of.length λ (i : Nat) => gD (gD a.l a.a.toNat).of i) i = gD (gD a.l a.a.toNat).of i) /\ a.b = a.b /\ (AJ (gD
 a.l a.a.toNat).of.length λ (i : Nat) => gD (gD a.l a.a.toNat).of i).length.succ.le 4611686018427387904) /\ CK (gD a.l a.a.toNat).of a.b = CK (AJ (gD a.l a.a.toNat).of.length λ (i : Nat) => gD (gD a.l
 a.a.toNat).of i) a.b /\ a.l.length = a.l.length /\ ∀ (i : Nat), i < a.l.length -> (gD a.l i).of.length = (gD a.l i).of.length /\ (∀ (i_1 : Nat), i_1 < (gD a.l i).of.length -> gD (gD a.l i).of i_1 = gD (gD a.l i).of i_1) /\ (gD
 a.l i).ba = (gD a.l i).ba /\ (gD a.l i).mi = (gD a.l i).mi) := by kernel_rfl
theorem BIH : AR Try.prog n_of (C_of.spec d_of) := EX C_of (λ _ => A_of) [] [] BHS (λ _ => by kernel_rfl) (λ _ => AH RO AM) (λ (a : WII) h => by
 obtain ⟨h1, h2⟩ : (0 <= a.a /\ a.a < a.l.length) /\ (gD a.l a.a.toNat).of.length <= 5 := h
 show V_of a; rw [BHR]; simp only [BF, eq_self, implies_true, and_self, true_and, and_true, true_implies, forall_const, decide_eq_true_eq, decide_eq_false_iff_not, Int.toNat_natCast, dSpan_eSpan, dInt_eInt, AV, BH, BJ, BC, AZ, AX, AY, Nat.zero_add, Int.zero_sub, Nat.le_eq, Nat.succ_eq_add_one, Nat.add_one_le_iff, Bool.not_eq_true', Bool.not_eq_false', rng_length, AT, AP]; exact ⟨h1, by omega⟩) (λ _ => FK rfl rfl) _
end Go.Bal
