/- TopOwed: rosters that are right (package crew). Printed by genow.py. -/
import Derived.Test.YtgjkmndbkidgjaaGreatOwL
set_option linter.unusedVariables false
set_option linter.unusedSimpArgs false
namespace Go.Bal
open Go Go.Sym Go.Proofs
structure Sta where
 n : Int
 o : List Int
 deriving Inhabited
structure Ros where
 p : List (List Int)
 s : List Sta
 deriving Inhabited
def AW (x : Sta) : DVal := .agg [BM x.n, AF x.o]
def Ua (l : List Sta) : DVal := lst 2 l.length λ i => AW (gD l i)
def eIL (l : List (List Int)) : DVal := lst 1 l.length λ i => AF (gD l i)
def BS : DVal -> List Int
 | .list _ n g _ => AJ n λ i => CR (g i)
 | _ => []
def AU : DVal -> Sta
 | .agg [a, .list _ n g _] => ⟨CR a, AJ n λ i => CR (g i)⟩
 | _ => default
theorem FC (l : List Int) : BS (AF l) = l := by simp only [AF, lst, BS, dInt_eInt, AP]
theorem DD (x : Sta) : AU (AW x) = x := by
 cases x with
 | mk n o => simp only [AW, AF, lst, AU, dInt_eInt, AP]
theorem EF (n : Int) (o : List Int) : AU (.agg [BM n, AF o]) = ⟨n, o⟩ := DD ⟨n, o⟩
theorem CQ (r : Ros) : Ros.mk r.p r.s = r := rfl
def roB (r : Ros) : AObj := .box [.d (eIL r.p), .d (Ua r.s)]
def OT (H : Heap) (id : Nat) : Option Ros := match H id with
 | .live (.box [.d (.list _ n f _), .d (.list _ m g _)]) => some ⟨AJ n λ i => BS (f i), AJ m λ i => AU (g i)⟩
 | _ => none
structure RE where
 q : Ros
 e : Int
def YN (q : Ros) (e : Int) : Bool := HO e 0 (wr (q.s.length - 1))
def UV (q : Ros) (e : Int) : Bool := HO e 0 (wr (q.p.length - 1))
def d_RE : List AVal -> Heap -> Option (RE × List (Nat × Nat) × List Nat)
 | [.d d, .bptr j _], H => match OT H j with
  | some q => some (⟨q, CR d⟩, [(101, j)], [])
  | none => none
 | _, _ => none
def C_k11 : Ctr := { ro := [101], α := RE, xs := λ a => [.int a.e, .bptr 101 0], L := λ a => [(101, roB a.q)], val := λ a => .bool (YN a.q a.e), keep := λ a => [(101, .live (roB a.q))] }
def C_k21 : Ctr := { C_k11 with val := λ (a : RE) => .bool (UV a.q a.e) }
def AIB : Ann := { ann 10 [(ABF, WB)] with E := [101] }
def AWT (a : RE) : Prop := BB Try.prog AIB rL (AS rL) (C_k11.xs a) (AK (C_k11.L a)) (C_k11.val a) (C_k11.keep a) [] []
theorem AYV (a : RE) : (AWT a) = (YN a.q a.e = HO a.e 0 (IntKind.i64.wrap ((↑a.q.s.length : Int) - 1)) /\ a.q.p.length = a.q.p.length /\ (∀ (i : Nat), i < a.q.p.length -> (gD a.q.p i).length = (gD a.q.p i).length /\
 ∀ (i_1 : Nat), i_1 < (gD a.q.p i).length -> gD (gD a.q.p i) i_1 = gD (gD a.q.p i) i_1) /\ a.q.s.length = a.q.s.length /\ ∀ (i : Nat), i < a.q.s.length -> (gD a.q.s i).n = (gD a.q.s i).n /\ (gD a.q.s i).o.length = (gD a.q.s
 i).o.length /\ ∀ (i_1 : Nat), i_1 < (gD a.q.s i).o.length -> gD (gD a.q.s i).o i_1 = gD (gD a.q.s i).o i_1) := by kernel_rfl
def AVF (a : RE) : Prop := BB Try.prog AIB sZ (AS sZ) (C_k11.xs a) (AK (C_k11.L a)) (.bool (UV a.q a.e)) (C_k11.keep a) [] []
theorem BAG (a : RE) : (AVF a) = (UV a.q a.e = HO a.e 0 (IntKind.i64.wrap ((↑a.q.p.length : Int) - 1)) /\ a.q.p.length = a.q.p.length /\ (∀ (i : Nat), i < a.q.p.length -> (gD a.q.p i).length = (gD a.q.p i).length /\
 ∀ (i_1 : Nat), i_1 < (gD a.q.p i).length -> gD (gD a.q.p i) i_1 = gD (gD a.q.p i) i_1) /\ a.q.s.length = a.q.s.length /\ ∀ (i : Nat), i < a.q.s.length -> (gD a.q.s i).n = (gD a.q.s i).n /\ (gD a.q.s i).o.length = (gD a.q.s
 i).o.length /\ ∀ (i_1 : Nat), i_1 < (gD a.q.s i).o.length -> gD (gD a.q.s i).o i_1 = gD (gD a.q.s i).o i_1) := by kernel_rfl
def CB (l : List Int) : Bool := decide (BN (λ i => CK (AJ i λ j => gD l j) (gD l i)) l.length 0 < 0)
def C_once : Ctr := { α := List Int, xs := λ l => [.d (AF l)], L := λ _ => [], val := λ l => .bool (CB l), keep := λ _ => [], pre := λ l => [l.length < 4611686018427387904] }
def cX : List AVal -> Heap -> Option (List Int × List (Nat × Nat) × List Nat)
 | [y], H => match YY y H with
  | some (l, f) => some (l, [], f)
  | none => none
 | _, _ => none
def AQO (l : List Int) : Ann := { ann 18 [(OO, rK)] with loops := λ id => if id = 2 then some [{ α := Nat, dflt := 0, T := λ k => ⟨[(0, .d (AF l)), (5, .d (AF l)), (6, .int l.length), (7, .int k)], []⟩, inv := λ k => k <= l.length /\ BN (λ i => CK (AJ i λ j => gD l j) (gD l i)) l.length 0 = BN (λ i => CK (AJ i λ j => gD l j) (gD l i)) (l.length - k) k, meas := λ k => l.length - k }] else none }
def AQM (l : List Int) : Prop := BB Try.prog (AQO l) AER (AS AER) (C_once.xs l) (AK []) (C_once.val l) [] [] []
theorem AUT (l : List Int) : (AQM l) = ((∃ (a : Nat), (l.length = l.length /\ (∀ (i : Nat), i < l.length -> gD l i = gD l i) /\ l.length = l.length /\ (∀ (i : Nat), i < l.length -> gD l i = gD l i) /\ (↑l.length : Int)
 = (↑l.length : Int) /\ (↑a : Int) = (0 : Int)) /\ a <= l.length /\ BN (λ (i : Nat) => CK (AJ i λ (j : Nat) => gD l j) (gD l i)) l.length (0 : Nat) = BN (λ (i : Nat) => CK (AJ i λ (j : Nat) => gD l j) (gD l
 i)) (l.length - a) a) /\ ∀ (a : Nat), a <= l.length /\ BN (λ (i : Nat) => CK (AJ i λ (j : Nat) => gD l j) (gD l i)) l.length (0 : Nat) = BN (λ (i : Nat) => CK (AJ i λ (j : Nat) => gD l j) (gD l i)) (l.length
 - a) a -> bif decide ((↑a : Int) < (↑l.length : Int)) then ((0 : Int) <= (↑a : Int) /\ (↑a : Int) < (↑l.length : Int)) /\ (((0 : Int) <= (0 : Int) /\ (0 : Int) <= (↑a : Int) /\ (↑a : Int) <= (↑l.length : Int)) /\ (AJ (a -
 Int.toNat (0 : Int)) λ (i : Nat) => gD l (Int.toNat (0 : Int) + i)).length = a - Int.toNat (0 : Int) /\ (∀ (i : Nat), i < (AJ (a - (0 : Nat)) λ (i : Nat) => gD l ((0 : Nat) + i)).length -> gD (AJ (a - Int.toNat (0 :
 Int)) λ (i : Nat) => gD l (Int.toNat (0 : Int) + i)) i = gD l (Int.toNat (0 : Int) + i)) /\ gD l a = gD l a /\ (AJ (a - Int.toNat (0 : Int)) λ (i : Nat) => gD l (Int.toNat (0 : Int) + i)).length.succ.le
 (4611686018427387904 : Nat)) /\ bif CK (AJ (a - Int.toNat (0 : Int)) λ (i : Nat) => gD l (Int.toNat (0 : Int) + i)) (gD l a) then CB l = false else ∃ (a_2 : Nat), (l.length = l.length /\ (∀ (i : Nat), i < l.length
 -> gD l i = gD l i) /\ l.length = l.length /\ (∀ (i : Nat), i < l.length -> gD l i = gD l i) /\ (↑l.length : Int) = (↑l.length : Int) /\ (↑a_2 : Int) = IntKind.i64.wrap ((↑a : Int) + (1 : Int))) /\ (a_2 <= l.length /\ BN (λ (i
 : Nat) => CK (AJ i λ (j : Nat) => gD l j) (gD l i)) l.length (0 : Nat) = BN (λ (i : Nat) => CK (AJ i λ (j : Nat) => gD l j) (gD l i)) (l.length - a_2) a_2) /\ l.length - a_2 < l.length - a else CB l =
 true) := by kernel_rfl
def C_k3 : Ctr := { α := Sta, xs := λ s => [.d (AW s)], L := λ _ => [], val := λ s => .bool (CB s.o), keep := λ _ => [], pre := λ s => [s.o.length < 4611686018427387904] }
def d_k3 : List AVal -> Heap -> Option (Sta × List (Nat × Nat) × List Nat)
 | [.d d], _ => some (AU d, [], [])
 | _, _ => none
def V_k3 (s : Sta) : Prop := BB Try.prog (ann 6 [(dK, C_once.spec cX)]) T2 (AS T2) (C_k3.xs s) (AK []) (C_k3.val s) [] [] []
theorem BHX (s : Sta) : (V_k3 s) = (((AJ s.o.length λ (i : Nat) => gD s.o i).length = s.o.length /\ (∀ (i : Nat), i < (AJ s.o.length λ (i : Nat) => gD s.o i).length -> gD (AJ s.o.length λ (i : Nat) => gD s.o i)
 i = gD s.o i) /\ (AJ s.o.length λ (i : Nat) => gD s.o i).length.succ.le 4611686018427387904) /\ CB s.o = CB (AJ s.o.length λ (i : Nat) => gD s.o i)) := by kernel_rfl
theorem AYN : AR Try.prog Tk (C_k11.spec d_RE) := EX C_k11 (λ _ => AIB) [] [] AKI (λ _ => by kernel_rfl) (λ _ => AH I6 AM) (λ (a : RE) _ => by
 show AWT a; rw [AYV]; simp only [BF, eq_self, implies_true, and_self, true_and, and_true, true_implies, forall_const, decide_eq_true_eq, decide_eq_false_iff_not, Int.toNat_natCast, dSpan_eSpan, dInt_eInt, AV, BH, BJ, BC, AZ, AX, AY, Nat.zero_add, Int.zero_sub, Nat.le_eq, Nat.succ_eq_add_one, Nat.add_one_le_iff, Bool.not_eq_true', Bool.not_eq_false', rng_length, AT, AP, FC, DD]; rfl) (λ _ => FK rfl rfl) _
theorem BBD : AR Try.prog Xv (C_k21.spec d_RE) := EX C_k21 (λ _ => AIB) [] [] AKH (λ _ => by kernel_rfl) (λ _ => AH I6 AM) (λ (a : RE) _ => by
 show AVF a; rw [BAG]; simp only [BF, eq_self, implies_true, and_self, true_and, and_true, true_implies, forall_const, decide_eq_true_eq, decide_eq_false_iff_not, Int.toNat_natCast, dSpan_eSpan, dInt_eInt, AV, BH, BJ, BC, AZ, AX, AY, Nat.zero_add, Int.zero_sub, Nat.le_eq, Nat.succ_eq_add_one, Nat.add_one_le_iff, Bool.not_eq_true', Bool.not_eq_false', rng_length, AT, AP, FC, DD]; rfl) (λ _ => FK rfl rfl) _
theorem AYQ (l : List Int) (h : l.length < 4611686018427387904) : AQM l := by
 rw [AUT]; simp only [BF, eq_self, implies_true, and_self, true_and, and_true, true_implies, forall_const, decide_eq_true_eq, decide_eq_false_iff_not, Int.toNat_natCast, dSpan_eSpan, dInt_eInt, AV, BH, BJ, BC, AZ, AX, AY, Nat.zero_add, Int.zero_sub, Nat.le_eq, Nat.succ_eq_add_one, Nat.add_one_le_iff, Bool.not_eq_true', Bool.not_eq_false', rng_length, AT, AP]
 refine ⟨⟨0, rfl, Nat.zero_le _, rfl⟩, λ k ⟨h1, h2⟩ => ⟨λ hlt => ?_, λ hge => ?_⟩⟩
 ·have hlt : k < l.length := by omega
  have e : (AJ (k - Int.toNat 0) λ i => gD l (Int.toNat 0 + i)) = AJ k λ j => gD l j := by simp
  rw [e]
  refine ⟨⟨by omega, by omega⟩, ⟨⟨by omega, by omega, by omega⟩, λ i hi => ?_, ?_⟩, λ hp => ?_, λ hp => ⟨k + 1, (CE (by omega)).symm, ⟨by omega, ?_⟩, by omega⟩⟩
  ·have hi : i < k := by simpa using hi
   rw [FE _ _ _ hi]; simp
  ·simp; omega
  ·unfold CB; rw [h2, DJ hlt hp]; exact decide_eq_false (by omega)
  ·rw [h2]; exact FZ hlt hp
 ·unfold CB; rw [h2, EK (by omega)]; rfl
theorem AHI : AR Try.prog dK (C_once.spec cX) := EX C_once AQO [] [] AUH (λ _ => by kernel_rfl) (λ _ => AH RO AM) (λ (l : List Int) h => AYQ l h) (λ _ => FK rfl rfl) _
theorem BDY : AR Try.prog mL (C_k3.spec d_k3) := EX C_k3 (λ _ => ann 6 [(dK, C_once.spec cX)]) [] [] ARF (λ _ => by kernel_rfl) (λ _ => AH AHI AM) (λ (s : Sta) h => by
 have h : s.o.length < 4611686018427387904 := h
 show V_k3 s; rw [BHX]; simp only [BF, eq_self, implies_true, and_self, true_and, and_true, true_implies, forall_const, decide_eq_true_eq, decide_eq_false_iff_not, Int.toNat_natCast, dSpan_eSpan, dInt_eInt, AV, BH, BJ, BC, AZ, AX, AY, Nat.zero_add, Int.zero_sub, Nat.le_eq, Nat.succ_eq_add_one, Nat.add_one_le_iff, Bool.not_eq_true', Bool.not_eq_false', rng_length, AT, AP]; exact h) (λ _ => FK rfl rfl) _
def LXKg (q : Ros) : List (Nat × AObj) := [(101, roB q)]
def KXKg (q : Ros) : List (Nat × HCell) := [(101, .live (roB q))]
def fvKg (q : Ros) : AVal := .fn (.func Tk) [] [.bptr 101 0]
def BKg (q : Ros) : AObj := .box [fvKg q]
structure EKg where
 q : Ros
 e : Int
structure MKg where
 q : Ros
 l : List Int
def C1Kg : Ctr := { ro := [100, 101], α := EKg, xs := λ a => [.d (BM a.e), .bptr 100 0], L := λ a => (100, BKg a.q) :: LXKg a.q, val := λ a => .bool (!YN a.q a.e), keep := λ a => (100, .live (BKg a.q)) :: KXKg a.q, pre := λ a => [True] }
def d1Kg : List AVal -> Heap -> Option (EKg × List (Nat × Nat) × List Nat)
 | [.d d, .bptr id _], H => match H id with
  | .live (.box [.fn _ _ [.bptr j _]]) => match OT H j with
   | some q => some (⟨q, CR d⟩, [(100, id), (101, j)], [])
   | none => none
  | _ => none
 | _, _ => none
def A1Kg : Ann := { ann 8 [(Tk, C_k11.spec d_RE)] with E := [100, 101] }
def V1Kg (a : EKg) : Prop := BB Try.prog A1Kg Y1 (AS Y1) (C1Kg.xs a) (AK (C1Kg.L a)) (C1Kg.val a) (C1Kg.keep a) [] []
theorem BJT (a : EKg) : (V1Kg a) = ((a.e = a.e /\ (AJ a.q.p.length λ (i : Nat) => BS (AF (gD a.q.p i))).length = a.q.p.length /\ (∀ (i : Nat), i < (AJ a.q.p.length λ (i : Nat) => BS (AF (gD a.q.p
 i))).length -> (gD (AJ a.q.p.length λ (i : Nat) => BS (AF (gD a.q.p i))) i).length = (gD a.q.p i).length /\ ∀ (i_1 : Nat), i_1 < (gD (AJ a.q.p.length λ (i : Nat) => BS (AF (gD a.q.p i))) i).length -> gD (gD
 (AJ a.q.p.length λ (i : Nat) => BS (AF (gD a.q.p i))) i) i_1 = gD (gD a.q.p i) i_1) /\ (AJ a.q.s.length λ (i : Nat) => AU (AW (gD a.q.s i))).length = a.q.s.length /\ (∀ (i : Nat), i < (AJ a.q.s.length fun
 (i : Nat) => AU (AW (gD a.q.s i))).length -> (gD (AJ a.q.s.length λ (i : Nat) => AU (AW (gD a.q.s i))) i).n = (gD a.q.s i).n /\ (gD (AJ a.q.s.length λ (i : Nat) => AU (AW (gD a.q.s i))) i).o.length = (gD
 a.q.s i).o.length /\ ∀ (i_1 : Nat), i_1 < (gD (AJ a.q.s.length λ (i : Nat) => AU (AW (gD a.q.s i))) i).o.length -> gD (gD (AJ a.q.s.length λ (i : Nat) => AU (AW (gD a.q.s i))) i).o i_1 = gD (gD a.q.s i).o
 i_1) /\ a.q.p.length = (AJ a.q.p.length λ (i : Nat) => BS (AF (gD a.q.p i))).length /\ (∀ (i : Nat), i < a.q.p.length -> (gD a.q.p i).length = (gD (AJ a.q.p.length λ (i : Nat) => BS (AF (gD a.q.p i)))
 i).length /\ ∀ (i_1 : Nat), i_1 < (gD a.q.p i).length -> gD (gD a.q.p i) i_1 = gD (gD (AJ a.q.p.length λ (i : Nat) => BS (AF (gD a.q.p i))) i) i_1) /\ a.q.s.length = (AJ a.q.s.length λ (i : Nat) => AU (AW (gD
 a.q.s i))).length /\ ∀ (i : Nat), i < a.q.s.length -> (gD a.q.s i).n = (gD (AJ a.q.s.length λ (i : Nat) => AU (AW (gD a.q.s i))) i).n /\ (gD a.q.s i).o.length = (gD (AJ a.q.s.length λ (i : Nat) => AU (AW (gD
 a.q.s i))) i).o.length /\ ∀ (i_1 : Nat), i_1 < (gD a.q.s i).o.length -> gD (gD a.q.s i).o i_1 = gD (gD (AJ a.q.s.length λ (i : Nat) => AU (AW (gD a.q.s i))) i).o i_1) /\ (!YN a.q a.e) = !YN (Ros.mk (AJ
 a.q.p.length λ (i : Nat) => BS (AF (gD a.q.p i))) (AJ a.q.s.length λ (i : Nat) => AU (AW (gD a.q.s i)))) a.e /\ a.q.p.length = a.q.p.length /\ (∀ (i : Nat), i < a.q.p.length -> (gD a.q.p i).length = (gD a.q.p
 i).length /\ ∀ (i_1 : Nat), i_1 < (gD a.q.p i).length -> gD (gD a.q.p i) i_1 = gD (gD a.q.p i) i_1) /\ a.q.s.length = a.q.s.length /\ ∀ (i : Nat), i < a.q.s.length -> (gD a.q.s i).n = (gD a.q.s i).n /\ (gD a.q.s i).o.length =
 (gD a.q.s i).o.length /\ ∀ (i_1 : Nat), i_1 < (gD a.q.s i).o.length -> gD (gD a.q.s i).o i_1 = gD (gD a.q.s i).o i_1) := by kernel_rfl
theorem BEZ : AR Try.prog Tw (C1Kg.spec d1Kg) := EX C1Kg (λ _ => A1Kg) [] [] AOQ (λ _ => by kernel_rfl) (λ _ => AH AYN AM) (λ (a : EKg) h => by
 have h : True := h
 show V1Kg a; rw [BJT]; try simp [wr, AP, FC, DD, EF, CQ, h]; try omega) (λ _ => FK rfl rfl) _
def d2Kg : List AVal -> Heap -> Option (MKg × List (Nat × Nat) × List Nat)
 | [y, .fn _ _ [.bptr id _]], H => match HK y H with
  | some (n, g, f) => match H id with
   | .live (.box [.fn _ _ [.bptr j _]]) => match OT H j with
    | some q => some (⟨q, AJ n λ i => CR (g i)⟩, [(100, id), (101, j)], f)
    | none => none
   | _ => none
  | none => none
 | _, _ => none
def A2Kg (a : MKg) : Ann := { ann 19 [(Tw, C1Kg.spec d1Kg)] with E := [100, 101], loops := λ id => if id = 2 then some [{ α := Nat, dflt := 0, T := λ k => ⟨[(0, .d (AF a.l)), (1, .fn (.func Tw) [] [.bptr 100 0]), (7, .int a.l.length), (8, .int k)], (100, .live (BKg a.q)) :: KXKg a.q⟩, inv := λ k => k <= a.l.length /\ BN (λ i => !YN a.q (gD a.l i)) a.l.length 0 = BN (λ i => !YN a.q (gD a.l i)) (a.l.length - k) k, meas := λ k => a.l.length - k }] else none }
def PKg (a : MKg) : List Prop := [a.l.length < 4611686018427387904 /\ True]
def C2Kg : Ctr := { ro := [100, 101], α := MKg, xs := λ a => [.d (AF a.l), .fn (.func Tw) [] [.bptr 100 0]], L := λ a => (100, BKg a.q) :: LXKg a.q, val := λ a => .int (BN (λ i => !YN a.q (gD a.l i)) a.l.length 0), keep := λ a => (100, .live (BKg a.q)) :: KXKg a.q, pre := PKg }
def V2Kg (a : MKg) : Prop := BB Try.prog (A2Kg a) IQ (AS IQ) (C2Kg.xs a) (AK (C2Kg.L a)) (C2Kg.val a) (C2Kg.keep a) [] []
abbrev AEV (a : MKg) : Prop := a.l.length = a.l.length
abbrev AGT (a : MKg) (i : Nat) : Prop := gD a.l i = gD a.l i
abbrev ABX (a : MKg) : Prop := ∀ (i : Nat), i < a.l.length -> AGT a i
abbrev ACT (a : MKg) : Prop := (↑a.l.length : Int) = (↑a.l.length : Int)
abbrev AEQ (i : Nat) (a : MKg) : Prop := i < a.q.p.length
abbrev eY (a : MKg) (i : Nat) : Nat := (gD a.q.p i).length
abbrev ACQ (i : Nat) (a : MKg) (i1 : Nat) : Prop := i < eY a i1
abbrev tO (a : MKg) (i : Nat) (i1 : Nat) : Int := gD (gD a.q.p i) i1
abbrev eN (a : MKg) (i : Nat) : Nat := (gD a.q.s i).o.length
abbrev AFI (i : Nat) (a : MKg) (i1 : Nat) : Prop := i < eN a i1
abbrev Tg (a : MKg) (i : Nat) (i1 : Nat) : Int := gD (gD a.q.s i).o i1
abbrev Wi (a : MKg) : Prop := a.q.p.length = a.q.p.length /\ (∀ (i : Nat), AEQ i a -> eY a i = eY a i /\ ∀ (i_1 : Nat), ACQ i_1 a i -> tO a i i_1 = tO a i i_1) /\ a.q.s.length = a.q.s.length /\ ∀ (i
 : Nat), i < a.q.s.length -> (gD a.q.s i).n = (gD a.q.s i).n /\ eN a i = eN a i /\ ∀ (i_1 : Nat), AFI i_1 a i -> Tg a i i_1 = Tg a i i_1
abbrev Q5 (a : MKg) (i : Nat) : Bool := !YN a.q (gD a.l i)
abbrev kT (a : MKg) : Int := BN (λ (i : Nat) => Q5 a i) a.l.length 0
abbrev mC (a : MKg) (a1 : Nat) : Nat := a.l.length - a1
abbrev lV (a : Nat) (a1 : MKg) : Prop := a <= a1.l.length /\ kT a1 = BN (λ (i : Nat) => Q5 a1 i) (mC a1 a) a
abbrev V3 (a : Nat) (a1 : MKg) : Prop := (↑a : Int) < (↑a1.l.length : Int)
abbrev jB (a : MKg) : List (List Int) := AJ a.q.p.length λ (i : Nat) => BS (AF (gD a.q.p i))
abbrev kJ (a : MKg) : Nat := (jB a).length
abbrev A0 (a : MKg) (i : Nat) : List Int := gD (jB a) i
abbrev gZ (a : MKg) (i : Nat) : Nat := (A0 a i).length
abbrev B5 (a : MKg) (i : Nat) (i1 : Nat) : Int := gD (A0 a i) i1
abbrev kK (a : MKg) : List Sta := AJ a.q.s.length λ (i : Nat) => AU (AW (gD a.q.s i))
abbrev iJ (a : MKg) : Nat := (kK a).length
abbrev L9 (a : MKg) (i : Nat) : Sta := gD (kK a) i
abbrev G2 (a : MKg) (i : Nat) : Int := (L9 a i).n
abbrev yR (a : MKg) (i : Nat) : List Int := (L9 a i).o
abbrev iS (a : MKg) (i : Nat) : Nat := (yR a i).length
abbrev K5 (a : MKg) (i : Nat) (i1 : Nat) : Int := gD (yR a i) i1
theorem BJZ (a : MKg) : (V2Kg a) = ((∃ (a_1 : Nat), (AEV a /\ ABX a /\ ACT a /\ (↑a_1 : Int) = 0 /\ Wi a) /\ lV a_1 a) /\ ∀ (a_1 : Nat), lV a_1 a -> bif decide (V3 a_1 a) then ((0 <= (↑a_1 : Int) /\
 V3 a_1 a) /\ AGT a a_1 /\ kJ a = a.q.p.length /\ (∀ (i : Nat), i < kJ a -> gZ a i = eY a i /\ ∀ (i_1 : Nat), i_1 < gZ a i -> B5 a i i_1 = tO a i i_1) /\ iJ a = a.q.s.length /\ (∀ (i
 : Nat), i < iJ a -> G2 a i = (gD a.q.s i).n /\ iS a i = eN a i /\ ∀ (i_1 : Nat), i_1 < iS a i -> K5 a i i_1 = Tg a i i_1) /\ a.q.p.length = kJ a /\ (∀ (i : Nat), AEQ i a -> eY a i =
 gZ a i /\ ∀ (i_1 : Nat), ACQ i_1 a i -> tO a i i_1 = B5 a i i_1) /\ a.q.s.length = iJ a /\ (∀ (i : Nat), i < a.q.s.length -> (gD a.q.s i).n = G2 a i /\ eN a i = iS a i /\ ∀ (i_1 : Nat),
 AFI i_1 a i -> Tg a i i_1 = K5 a i i_1) /\ True) /\ bif !YN (Ros.mk (jB a) (kK a)) (gD a.l a_1) then kT a = (↑a_1 : Int) /\ Wi a else ∃ (a_3 : Nat), (AEV a /\ ABX a /\ ACT a /\ (↑a_3
 : Int) = IntKind.i64.wrap ((↑a_1 : Int) + 1) /\ Wi a) /\ lV a_3 a /\ mC a a_3 < mC a a_1 else kT a = -1 /\ Wi a) := by kernel_rfl
theorem p2Kg (a : MKg) (h : BG (PKg a)) : V2Kg a := by
 obtain ⟨h, hp⟩ : a.l.length < 4611686018427387904 /\ True := h
 rw [BJZ]; delta AEV AGT ABX ACT AEQ eY ACQ tO eN AFI Tg Wi Q5 kT mC lV V3 jB kJ A0 gZ B5 kK iJ L9 G2 yR iS K5
 simp only [BF, eq_self, implies_true, and_self, true_and, and_true, true_implies, forall_const, decide_eq_true_eq, decide_eq_false_iff_not, Int.toNat_natCast, dSpan_eSpan, dInt_eInt, AV, BH, BJ, BC, AZ, AX, AY, Nat.zero_add, Int.zero_sub, Nat.le_eq, Nat.succ_eq_add_one, Nat.add_one_le_iff, Bool.not_eq_true', Bool.not_eq_false', rng_length, AT, AP, FC, DD, EF, CQ]
 refine ⟨⟨0, rfl, Nat.zero_le _, rfl⟩, λ k ⟨h1, h2⟩ => ⟨λ hlt => ?_, λ hge => ?_⟩⟩
 ·have hlt : k < a.l.length := by omega
  refine ⟨⟨by omega, by omega⟩, λ hp => ?_, λ hp => ⟨k + 1, (CE (by omega)).symm, ⟨by omega, ?_⟩, by omega⟩⟩
  ·rw [h2]; exact DJ hlt (by simpa using hp)
  ·rw [h2]; exact FZ hlt (by simpa using hp)
 ·rw [h2]; exact EK (by omega)
theorem BIG : AR Try.prog JM (C2Kg.spec d2Kg) := EX C2Kg A2Kg [] [] WK (λ _ => by kernel_rfl) (λ _ => AH BEZ AM) p2Kg (λ _ => FK rfl rfl) _
def C3Kg : Ctr := { C2Kg with val := λ (a : MKg) => .bool (decide (BN (λ i => !YN a.q (gD a.l i)) a.l.length 0 >= 0)) }
def d3Kg : List AVal -> Heap -> Option (C3Kg.α × List (Nat × Nat) × List Nat) := d2Kg
def A3Kg : Ann := { ann 9 [(JM, C2Kg.spec d2Kg)] with E := [100, 101] }
def V3Kg (a : MKg) : Prop := BB Try.prog A3Kg IY (AS IY) (C3Kg.xs a) (AK (C3Kg.L a)) (C3Kg.val a) (C3Kg.keep a) [] []
theorem BHA (a : MKg) : (V3Kg a) = (((AJ a.l.length λ (i : Nat) => gD a.l i).length = a.l.length /\ (∀ (i : Nat), i < (AJ a.l.length λ (i : Nat) => gD a.l i).length -> gD (AJ a.l.length λ (i : Nat) => gD a.l i)
 i = gD a.l i) /\ (AJ a.q.p.length λ (i : Nat) => BS (AF (gD a.q.p i))).length = a.q.p.length /\ (∀ (i : Nat), i < (AJ a.q.p.length λ (i : Nat) => BS (AF (gD a.q.p i))).length -> (gD (AJ a.q.p.length λ (i
 : Nat) => BS (AF (gD a.q.p i))) i).length = (gD a.q.p i).length /\ ∀ (i_1 : Nat), i_1 < (gD (AJ a.q.p.length λ (i : Nat) => BS (AF (gD a.q.p i))) i).length -> gD (gD (AJ a.q.p.length λ (i : Nat) => BS
 (AF (gD a.q.p i))) i) i_1 = gD (gD a.q.p i) i_1) /\ (AJ a.q.s.length λ (i : Nat) => AU (AW (gD a.q.s i))).length = a.q.s.length /\ (∀ (i : Nat), i < (AJ a.q.s.length λ (i : Nat) => AU (AW (gD a.q.s
 i))).length -> (gD (AJ a.q.s.length λ (i : Nat) => AU (AW (gD a.q.s i))) i).n = (gD a.q.s i).n /\ (gD (AJ a.q.s.length λ (i : Nat) => AU (AW (gD a.q.s i))) i).o.length = (gD a.q.s i).o.length /\ ∀ (i_1 : Nat),
 i_1 < (gD (AJ a.q.s.length λ (i : Nat) => AU (AW (gD a.q.s i))) i).o.length -> gD (gD (AJ a.q.s.length λ (i : Nat) => AU (AW (gD a.q.s i))) i).o i_1 = gD (gD a.q.s i).o i_1) /\ a.q.p.length = (AJ
 a.q.p.length λ (i : Nat) => BS (AF (gD a.q.p i))).length /\ (∀ (i : Nat), i < a.q.p.length -> (gD a.q.p i).length = (gD (AJ a.q.p.length λ (i : Nat) => BS (AF (gD a.q.p i))) i).length /\ ∀ (i_1 : Nat), i_1 <
 (gD a.q.p i).length -> gD (gD a.q.p i) i_1 = gD (gD (AJ a.q.p.length λ (i : Nat) => BS (AF (gD a.q.p i))) i) i_1) /\ a.q.s.length = (AJ a.q.s.length λ (i : Nat) => AU (AW (gD a.q.s i))).length /\ (∀ (i :
 Nat), i < a.q.s.length -> (gD a.q.s i).n = (gD (AJ a.q.s.length λ (i : Nat) => AU (AW (gD a.q.s i))) i).n /\ (gD a.q.s i).o.length = (gD (AJ a.q.s.length λ (i : Nat) => AU (AW (gD a.q.s i))) i).o.length /\ ∀
 (i_1 : Nat), i_1 < (gD a.q.s i).o.length -> gD (gD a.q.s i).o i_1 = gD (gD (AJ a.q.s.length λ (i : Nat) => AU (AW (gD a.q.s i))) i).o i_1) /\ (AJ a.l.length λ (i : Nat) => gD a.l i).length < 4611686018427387904 /\
 True) /\ decide (BN (λ (i : Nat) => !YN a.q (gD a.l i)) a.l.length 0 >= 0) = decide (BN (λ (i : Nat) => !YN (Ros.mk (AJ a.q.p.length λ (i : Nat) => BS (AF (gD a.q.p i))) (AJ a.q.s.length λ (i : Nat) =>
 AU (AW (gD a.q.s i)))) (gD (AJ a.l.length λ (i : Nat) => gD a.l i) i)) (AJ a.l.length λ (i : Nat) => gD a.l i).length 0 >= 0) /\ a.q.p.length = a.q.p.length /\ (∀ (i : Nat), i < a.q.p.length -> (gD a.q.p i).length
 = (gD a.q.p i).length /\ ∀ (i_1 : Nat), i_1 < (gD a.q.p i).length -> gD (gD a.q.p i) i_1 = gD (gD a.q.p i) i_1) /\ a.q.s.length = a.q.s.length /\ ∀ (i : Nat), i < a.q.s.length -> (gD a.q.s i).n = (gD a.q.s i).n /\ (gD a.q.s
 i).o.length = (gD a.q.s i).o.length /\ ∀ (i_1 : Nat), i_1 < (gD a.q.s i).o.length -> gD (gD a.q.s i).o i_1 = gD (gD a.q.s i).o i_1) := by kernel_rfl
theorem BHY : AR Try.prog JD (C3Kg.spec d3Kg) := Ctr.spec_ok (C := C3Kg) (λ (a : MKg) h => JK (A := A3Kg) (ren := []) (fz := []) UA (by kernel_rfl) (AH BIG AM) (by
 obtain ⟨h, hp⟩ : a.l.length < 4611686018427387904 /\ True := h
 show V3Kg a; rw [BHA]; simp [h, AP, FC, DD, CQ]; try exact hp)) _
def d4Kg : List AVal -> Heap -> Option (MKg × List (Nat × Nat) × List Nat)
 | [y, .fn _ _ [.bptr j _]], H => match HK y H with
  | some (n, g, f) => match OT H j with
   | some q => some (⟨q, AJ n λ i => CR (g i)⟩, [(101, j)], f)
   | none => none
  | none => none
 | _, _ => none
def A4Kg : Ann := { ann 9 [(JD, C3Kg.spec d3Kg)] with E := [101] }
def C4Kg : Ctr := { ro := [101], α := MKg, xs := λ a => [.d (AF a.l), fvKg a.q], L := λ a => LXKg a.q, val := λ a => .bool (a.l.all λ x => YN a.q x), keep := λ a => KXKg a.q, pre := PKg }
def V4Kg (a : MKg) : Prop := BB Try.prog A4Kg F_eC (AS F_eC) (C4Kg.xs a) (AK (C4Kg.L a)) (C4Kg.val a) (C4Kg.keep a) [] []
theorem BKC (a : MKg) : (V4Kg a) = (((AJ a.l.length λ (i : Nat) => gD a.l i).length = a.l.length /\ (∀ (i : Nat), i < (AJ a.l.length λ (i : Nat) => gD a.l i).length -> gD (AJ a.l.length λ (i : Nat) => gD a.l i)
 i = gD a.l i) /\ (AJ a.q.p.length λ (i : Nat) => BS (AF (gD a.q.p i))).length = a.q.p.length /\ (∀ (i : Nat), i < (AJ a.q.p.length λ (i : Nat) => BS (AF (gD a.q.p i))).length -> (gD (AJ a.q.p.length λ (i
 : Nat) => BS (AF (gD a.q.p i))) i).length = (gD a.q.p i).length /\ ∀ (i_1 : Nat), i_1 < (gD (AJ a.q.p.length λ (i : Nat) => BS (AF (gD a.q.p i))) i).length -> gD (gD (AJ a.q.p.length λ (i : Nat) => BS
 (AF (gD a.q.p i))) i) i_1 = gD (gD a.q.p i) i_1) /\ (AJ a.q.s.length λ (i : Nat) => AU (AW (gD a.q.s i))).length = a.q.s.length /\ (∀ (i : Nat), i < (AJ a.q.s.length λ (i : Nat) => AU (AW (gD a.q.s
 i))).length -> (gD (AJ a.q.s.length λ (i : Nat) => AU (AW (gD a.q.s i))) i).n = (gD a.q.s i).n /\ (gD (AJ a.q.s.length λ (i : Nat) => AU (AW (gD a.q.s i))) i).o.length = (gD a.q.s i).o.length /\ ∀ (i_1 : Nat),
 i_1 < (gD (AJ a.q.s.length λ (i : Nat) => AU (AW (gD a.q.s i))) i).o.length -> gD (gD (AJ a.q.s.length λ (i : Nat) => AU (AW (gD a.q.s i))) i).o i_1 = gD (gD a.q.s i).o i_1) /\ a.q.p.length = (AJ
 a.q.p.length λ (i : Nat) => BS (AF (gD a.q.p i))).length /\ (∀ (i : Nat), i < a.q.p.length -> (gD a.q.p i).length = (gD (AJ a.q.p.length λ (i : Nat) => BS (AF (gD a.q.p i))) i).length /\ ∀ (i_1 : Nat), i_1 <
 (gD a.q.p i).length -> gD (gD a.q.p i) i_1 = gD (gD (AJ a.q.p.length λ (i : Nat) => BS (AF (gD a.q.p i))) i) i_1) /\ a.q.s.length = (AJ a.q.s.length λ (i : Nat) => AU (AW (gD a.q.s i))).length /\ (∀ (i :
 Nat), i < a.q.s.length -> (gD a.q.s i).n = (gD (AJ a.q.s.length λ (i : Nat) => AU (AW (gD a.q.s i))) i).n /\ (gD a.q.s i).o.length = (gD (AJ a.q.s.length λ (i : Nat) => AU (AW (gD a.q.s i))) i).o.length /\ ∀
 (i_1 : Nat), i_1 < (gD a.q.s i).o.length -> gD (gD a.q.s i).o i_1 = gD (gD (AJ a.q.s.length λ (i : Nat) => AU (AW (gD a.q.s i))) i).o i_1) /\ (AJ a.l.length λ (i : Nat) => gD a.l i).length < 4611686018427387904 /\
 True) /\ (a.l.all λ (x : Int) => YN a.q x) = !decide (BN (λ (i : Nat) => !YN (Ros.mk (AJ a.q.p.length λ (i : Nat) => BS (AF (gD a.q.p i))) (AJ a.q.s.length λ (i : Nat) => AU (AW (gD a.q.s i)))) (gD
 (AJ a.l.length λ (i : Nat) => gD a.l i) i)) (AJ a.l.length λ (i : Nat) => gD a.l i).length 0 >= 0) /\ a.q.p.length = a.q.p.length /\ (∀ (i : Nat), i < a.q.p.length -> (gD a.q.p i).length = (gD a.q.p i).length /\ ∀ (i_1
 : Nat), i_1 < (gD a.q.p i).length -> gD (gD a.q.p i) i_1 = gD (gD a.q.p i) i_1) /\ a.q.s.length = a.q.s.length /\ ∀ (i : Nat), i < a.q.s.length -> (gD a.q.s i).n = (gD a.q.s i).n /\ (gD a.q.s i).o.length = (gD a.q.s
 i).o.length /\ ∀ (i_1 : Nat), i_1 < (gD a.q.s i).o.length -> gD (gD a.q.s i).o i_1 = gD (gD a.q.s i).o i_1) := by kernel_rfl
theorem BJO (a : MKg) (h : BG (PKg a)) : FnT Try.prog n_eC (C4Kg.xs a) (AK (C4Kg.L a)) (C4Kg.val a) (C4Kg.keep a) := JK (A := A4Kg) (ren := []) (fz := []) AVE (by kernel_rfl) (AH BHY AM) (by
 have h' : a.l.length < 4611686018427387904 /\ True := h
 show V4Kg a; rw [BKC]; simp only [BF, eq_self, implies_true, and_self, true_and, and_true, true_implies, forall_const, decide_eq_true_eq, decide_eq_false_iff_not, Int.toNat_natCast, dSpan_eSpan, dInt_eInt, AV, BH, BJ, BC, AZ, AX, AY, Nat.zero_add, Int.zero_sub, Nat.le_eq, Nat.succ_eq_add_one, Nat.add_one_le_iff, Bool.not_eq_true', Bool.not_eq_false', rng_length, AT, AP, ge_iff_le, FC, DD, EF, CQ]
 rw [<- EO]
 exact ⟨h'.1, rfl⟩)
theorem BHL : AR Try.prog n_eC (C4Kg.spec d4Kg) := Ctr.spec_ok (C := C4Kg) BJO _
def LXKh (q : Ros) : List (Nat × AObj) := [(101, roB q)]
def KXKh (q : Ros) : List (Nat × HCell) := [(101, .live (roB q))]
def fvKh (q : Ros) : AVal := .fn (.func Xv) [] [.bptr 101 0]
def BKh (q : Ros) : AObj := .box [fvKh q]
structure EKh where
 q : Ros
 e : Int
structure MKh where
 q : Ros
 l : List Int
def C1Kh : Ctr := { ro := [100, 101], α := EKh, xs := λ a => [.d (BM a.e), .bptr 100 0], L := λ a => (100, BKh a.q) :: LXKh a.q, val := λ a => .bool (!UV a.q a.e), keep := λ a => (100, .live (BKh a.q)) :: KXKh a.q, pre := λ a => [True] }
def d1Kh : List AVal -> Heap -> Option (EKh × List (Nat × Nat) × List Nat)
 | [.d d, .bptr id _], H => match H id with
  | .live (.box [.fn _ _ [.bptr j _]]) => match OT H j with
   | some q => some (⟨q, CR d⟩, [(100, id), (101, j)], [])
   | none => none
  | _ => none
 | _, _ => none
def A1Kh : Ann := { ann 8 [(Xv, C_k21.spec d_RE)] with E := [100, 101] }
def V1Kh (a : EKh) : Prop := BB Try.prog A1Kh Y1 (AS Y1) (C1Kh.xs a) (AK (C1Kh.L a)) (C1Kh.val a) (C1Kh.keep a) [] []
theorem BGC (a : EKh) : (V1Kh a) = ((a.e = a.e /\ (AJ a.q.p.length λ (i : Nat) => BS (AF (gD a.q.p i))).length = a.q.p.length /\ (∀ (i : Nat), i < (AJ a.q.p.length λ (i : Nat) => BS (AF (gD a.q.p
 i))).length -> (gD (AJ a.q.p.length λ (i : Nat) => BS (AF (gD a.q.p i))) i).length = (gD a.q.p i).length /\ ∀ (i_1 : Nat), i_1 < (gD (AJ a.q.p.length λ (i : Nat) => BS (AF (gD a.q.p i))) i).length -> gD (gD
 (AJ a.q.p.length λ (i : Nat) => BS (AF (gD a.q.p i))) i) i_1 = gD (gD a.q.p i) i_1) /\ (AJ a.q.s.length λ (i : Nat) => AU (AW (gD a.q.s i))).length = a.q.s.length /\ (∀ (i : Nat), i < (AJ a.q.s.length fun
 (i : Nat) => AU (AW (gD a.q.s i))).length -> (gD (AJ a.q.s.length λ (i : Nat) => AU (AW (gD a.q.s i))) i).n = (gD a.q.s i).n /\ (gD (AJ a.q.s.length λ (i : Nat) => AU (AW (gD a.q.s i))) i).o.length = (gD
 a.q.s i).o.length /\ ∀ (i_1 : Nat), i_1 < (gD (AJ a.q.s.length λ (i : Nat) => AU (AW (gD a.q.s i))) i).o.length -> gD (gD (AJ a.q.s.length λ (i : Nat) => AU (AW (gD a.q.s i))) i).o i_1 = gD (gD a.q.s i).o
 i_1) /\ a.q.p.length = (AJ a.q.p.length λ (i : Nat) => BS (AF (gD a.q.p i))).length /\ (∀ (i : Nat), i < a.q.p.length -> (gD a.q.p i).length = (gD (AJ a.q.p.length λ (i : Nat) => BS (AF (gD a.q.p i)))
 i).length /\ ∀ (i_1 : Nat), i_1 < (gD a.q.p i).length -> gD (gD a.q.p i) i_1 = gD (gD (AJ a.q.p.length λ (i : Nat) => BS (AF (gD a.q.p i))) i) i_1) /\ a.q.s.length = (AJ a.q.s.length λ (i : Nat) => AU (AW (gD
 a.q.s i))).length /\ ∀ (i : Nat), i < a.q.s.length -> (gD a.q.s i).n = (gD (AJ a.q.s.length λ (i : Nat) => AU (AW (gD a.q.s i))) i).n /\ (gD a.q.s i).o.length = (gD (AJ a.q.s.length λ (i : Nat) => AU (AW (gD
 a.q.s i))) i).o.length /\ ∀ (i_1 : Nat), i_1 < (gD a.q.s i).o.length -> gD (gD a.q.s i).o i_1 = gD (gD (AJ a.q.s.length λ (i : Nat) => AU (AW (gD a.q.s i))) i).o i_1) /\ (!UV a.q a.e) = !UV (Ros.mk (AJ
 a.q.p.length λ (i : Nat) => BS (AF (gD a.q.p i))) (AJ a.q.s.length λ (i : Nat) => AU (AW (gD a.q.s i)))) a.e /\ a.q.p.length = a.q.p.length /\ (∀ (i : Nat), i < a.q.p.length -> (gD a.q.p i).length = (gD a.q.p
 i).length /\ ∀ (i_1 : Nat), i_1 < (gD a.q.p i).length -> gD (gD a.q.p i) i_1 = gD (gD a.q.p i) i_1) /\ a.q.s.length = a.q.s.length /\ ∀ (i : Nat), i < a.q.s.length -> (gD a.q.s i).n = (gD a.q.s i).n /\ (gD a.q.s i).o.length =
 (gD a.q.s i).o.length /\ ∀ (i_1 : Nat), i_1 < (gD a.q.s i).o.length -> gD (gD a.q.s i).o i_1 = gD (gD a.q.s i).o i_1) := by kernel_rfl
theorem BDR : AR Try.prog Tw (C1Kh.spec d1Kh) := EX C1Kh (λ _ => A1Kh) [] [] AOQ (λ _ => by kernel_rfl) (λ _ => AH BBD AM) (λ (a : EKh) h => by
 have h : True := h
 show V1Kh a; rw [BGC]; try simp [wr, AP, FC, DD, EF, CQ, h]; try omega) (λ _ => FK rfl rfl) _
def d2Kh : List AVal -> Heap -> Option (MKh × List (Nat × Nat) × List Nat)
 | [y, .fn _ _ [.bptr id _]], H => match HK y H with
  | some (n, g, f) => match H id with
   | .live (.box [.fn _ _ [.bptr j _]]) => match OT H j with
    | some q => some (⟨q, AJ n λ i => CR (g i)⟩, [(100, id), (101, j)], f)
    | none => none
   | _ => none
  | none => none
 | _, _ => none
def A2Kh (a : MKh) : Ann := { ann 19 [(Tw, C1Kh.spec d1Kh)] with E := [100, 101], loops := λ id => if id = 2 then some [{ α := Nat, dflt := 0, T := λ k => ⟨[(0, .d (AF a.l)), (1, .fn (.func Tw) [] [.bptr 100 0]), (7, .int a.l.length), (8, .int k)], (100, .live (BKh a.q)) :: KXKh a.q⟩, inv := λ k => k <= a.l.length /\ BN (λ i => !UV a.q (gD a.l i)) a.l.length 0 = BN (λ i => !UV a.q (gD a.l i)) (a.l.length - k) k, meas := λ k => a.l.length - k }] else none }
def PKh (a : MKh) : List Prop := [a.l.length < 4611686018427387904 /\ True]
def C2Kh : Ctr := { ro := [100, 101], α := MKh, xs := λ a => [.d (AF a.l), .fn (.func Tw) [] [.bptr 100 0]], L := λ a => (100, BKh a.q) :: LXKh a.q, val := λ a => .int (BN (λ i => !UV a.q (gD a.l i)) a.l.length 0), keep := λ a => (100, .live (BKh a.q)) :: KXKh a.q, pre := PKh }
def V2Kh (a : MKh) : Prop := BB Try.prog (A2Kh a) IQ (AS IQ) (C2Kh.xs a) (AK (C2Kh.L a)) (C2Kh.val a) (C2Kh.keep a) [] []
abbrev AEG (a : MKh) : Prop := a.l.length = a.l.length
abbrev ABY (a : MKh) (i : Nat) : Prop := gD a.l i = gD a.l i
abbrev ADF (a : MKh) : Prop := ∀ (i : Nat), i < a.l.length -> ABY a i
abbrev ACB (a : MKh) : Prop := (↑a.l.length : Int) = (↑a.l.length : Int)
abbrev AFC (i : Nat) (a : MKh) : Prop := i < a.q.p.length
abbrev dX (a : MKh) (i : Nat) : Nat := (gD a.q.p i).length
abbrev AGC (i : Nat) (a : MKh) (i1 : Nat) : Prop := i < dX a i1
abbrev uN (a : MKh) (i : Nat) (i1 : Nat) : Int := gD (gD a.q.p i) i1
abbrev aJ (a : MKh) (i : Nat) : Nat := (gD a.q.s i).o.length
abbrev ADZ (i : Nat) (a : MKh) (i1 : Nat) : Prop := i < aJ a i1
abbrev Uv (a : MKh) (i : Nat) (i1 : Nat) : Int := gD (gD a.q.s i).o i1
abbrev Ux (a : MKh) : Prop := a.q.p.length = a.q.p.length /\ (∀ (i : Nat), AFC i a -> dX a i = dX a i /\ ∀ (i_1 : Nat), AGC i_1 a i -> uN a i i_1 = uN a i i_1) /\ a.q.s.length = a.q.s.length /\ ∀ (i
 : Nat), i < a.q.s.length -> (gD a.q.s i).n = (gD a.q.s i).n /\ aJ a i = aJ a i /\ ∀ (i_1 : Nat), ADZ i_1 a i -> Uv a i i_1 = Uv a i i_1
abbrev P3 (a : MKh) (i : Nat) : Bool := !UV a.q (gD a.l i)
abbrev iZ (a : MKh) : Int := BN (λ (i : Nat) => P3 a i) a.l.length 0
abbrev jW (a : MKh) (a1 : Nat) : Nat := a.l.length - a1
abbrev jN (a : Nat) (a1 : MKh) : Prop := a <= a1.l.length /\ iZ a1 = BN (λ (i : Nat) => P3 a1 i) (jW a1 a) a
abbrev W0 (a : Nat) (a1 : MKh) : Prop := (↑a : Int) < (↑a1.l.length : Int)
abbrev mB (a : MKh) : List (List Int) := AJ a.q.p.length λ (i : Nat) => BS (AF (gD a.q.p i))
abbrev jT (a : MKh) : Nat := (mB a).length
abbrev yV (a : MKh) (i : Nat) : List Int := gD (mB a) i
abbrev hP (a : MKh) (i : Nat) : Nat := (yV a i).length
abbrev yU (a : MKh) (i : Nat) (i1 : Nat) : Int := gD (yV a i) i1
abbrev jF (a : MKh) : List Sta := AJ a.q.s.length λ (i : Nat) => AU (AW (gD a.q.s i))
abbrev jJ (a : MKh) : Nat := (jF a).length
abbrev U3 (a : MKh) (i : Nat) : Sta := gD (jF a) i
abbrev H8 (a : MKh) (i : Nat) : Int := (U3 a i).n
abbrev yK (a : MKh) (i : Nat) : List Int := (U3 a i).o
abbrev kL (a : MKh) (i : Nat) : Nat := (yK a i).length
abbrev P1 (a : MKh) (i : Nat) (i1 : Nat) : Int := gD (yK a i) i1
theorem BKB (a : MKh) : (V2Kh a) = ((∃ (a_1 : Nat), (AEG a /\ ADF a /\ ACB a /\ (↑a_1 : Int) = 0 /\ Ux a) /\ jN a_1 a) /\ ∀ (a_1 : Nat), jN a_1 a -> bif decide (W0 a_1 a) then ((0 <= (↑a_1 : Int) /\
 W0 a_1 a) /\ ABY a a_1 /\ jT a = a.q.p.length /\ (∀ (i : Nat), i < jT a -> hP a i = dX a i /\ ∀ (i_1 : Nat), i_1 < hP a i -> yU a i i_1 = uN a i i_1) /\ jJ a = a.q.s.length /\ (∀ (i
 : Nat), i < jJ a -> H8 a i = (gD a.q.s i).n /\ kL a i = aJ a i /\ ∀ (i_1 : Nat), i_1 < kL a i -> P1 a i i_1 = Uv a i i_1) /\ a.q.p.length = jT a /\ (∀ (i : Nat), AFC i a -> dX a i =
 hP a i /\ ∀ (i_1 : Nat), AGC i_1 a i -> uN a i i_1 = yU a i i_1) /\ a.q.s.length = jJ a /\ (∀ (i : Nat), i < a.q.s.length -> (gD a.q.s i).n = H8 a i /\ aJ a i = kL a i /\ ∀ (i_1 : Nat),
 ADZ i_1 a i -> Uv a i i_1 = P1 a i i_1) /\ True) /\ bif !UV (Ros.mk (mB a) (jF a)) (gD a.l a_1) then iZ a = (↑a_1 : Int) /\ Ux a else ∃ (a_3 : Nat), (AEG a /\ ADF a /\ ACB a /\ (↑a_3
 : Int) = IntKind.i64.wrap ((↑a_1 : Int) + 1) /\ Ux a) /\ jN a_3 a /\ jW a a_3 < jW a a_1 else iZ a = -1 /\ Ux a) := by kernel_rfl
theorem p2Kh (a : MKh) (h : BG (PKh a)) : V2Kh a := by
 obtain ⟨h, hp⟩ : a.l.length < 4611686018427387904 /\ True := h
 rw [BKB]; delta AEG ABY ADF ACB AFC dX AGC uN aJ ADZ Uv Ux P3 iZ jW jN W0 mB jT yV hP yU jF jJ U3 H8 yK kL P1
 simp only [BF, eq_self, implies_true, and_self, true_and, and_true, true_implies, forall_const, decide_eq_true_eq, decide_eq_false_iff_not, Int.toNat_natCast, dSpan_eSpan, dInt_eInt, AV, BH, BJ, BC, AZ, AX, AY, Nat.zero_add, Int.zero_sub, Nat.le_eq, Nat.succ_eq_add_one, Nat.add_one_le_iff, Bool.not_eq_true', Bool.not_eq_false', rng_length, AT, AP, FC, DD, EF, CQ]
 refine ⟨⟨0, rfl, Nat.zero_le _, rfl⟩, λ k ⟨h1, h2⟩ => ⟨λ hlt => ?_, λ hge => ?_⟩⟩
 ·have hlt : k < a.l.length := by omega
  refine ⟨⟨by omega, by omega⟩, λ hp => ?_, λ hp => ⟨k + 1, (CE (by omega)).symm, ⟨by omega, ?_⟩, by omega⟩⟩
  ·rw [h2]; exact DJ hlt (by simpa using hp)
  ·rw [h2]; exact FZ hlt (by simpa using hp)
 ·rw [h2]; exact EK (by omega)
theorem BFJ : AR Try.prog JM (C2Kh.spec d2Kh) := EX C2Kh A2Kh [] [] WK (λ _ => by kernel_rfl) (λ _ => AH BDR AM) p2Kh (λ _ => FK rfl rfl) _
def C3Kh : Ctr := { C2Kh with val := λ (a : MKh) => .bool (decide (BN (λ i => !UV a.q (gD a.l i)) a.l.length 0 >= 0)) }
def d3Kh : List AVal -> Heap -> Option (C3Kh.α × List (Nat × Nat) × List Nat) := d2Kh
def A3Kh : Ann := { ann 9 [(JM, C2Kh.spec d2Kh)] with E := [100, 101] }
def V3Kh (a : MKh) : Prop := BB Try.prog A3Kh IY (AS IY) (C3Kh.xs a) (AK (C3Kh.L a)) (C3Kh.val a) (C3Kh.keep a) [] []
theorem BIM (a : MKh) : (V3Kh a) = (((AJ a.l.length λ (i : Nat) => gD a.l i).length = a.l.length /\ (∀ (i : Nat), i < (AJ a.l.length λ (i : Nat) => gD a.l i).length -> gD (AJ a.l.length λ (i : Nat) => gD a.l i)
 i = gD a.l i) /\ (AJ a.q.p.length λ (i : Nat) => BS (AF (gD a.q.p i))).length = a.q.p.length /\ (∀ (i : Nat), i < (AJ a.q.p.length λ (i : Nat) => BS (AF (gD a.q.p i))).length -> (gD (AJ a.q.p.length λ (i
 : Nat) => BS (AF (gD a.q.p i))) i).length = (gD a.q.p i).length /\ ∀ (i_1 : Nat), i_1 < (gD (AJ a.q.p.length λ (i : Nat) => BS (AF (gD a.q.p i))) i).length -> gD (gD (AJ a.q.p.length λ (i : Nat) => BS
 (AF (gD a.q.p i))) i) i_1 = gD (gD a.q.p i) i_1) /\ (AJ a.q.s.length λ (i : Nat) => AU (AW (gD a.q.s i))).length = a.q.s.length /\ (∀ (i : Nat), i < (AJ a.q.s.length λ (i : Nat) => AU (AW (gD a.q.s
 i))).length -> (gD (AJ a.q.s.length λ (i : Nat) => AU (AW (gD a.q.s i))) i).n = (gD a.q.s i).n /\ (gD (AJ a.q.s.length λ (i : Nat) => AU (AW (gD a.q.s i))) i).o.length = (gD a.q.s i).o.length /\ ∀ (i_1 : Nat),
 i_1 < (gD (AJ a.q.s.length λ (i : Nat) => AU (AW (gD a.q.s i))) i).o.length -> gD (gD (AJ a.q.s.length λ (i : Nat) => AU (AW (gD a.q.s i))) i).o i_1 = gD (gD a.q.s i).o i_1) /\ a.q.p.length = (AJ
 a.q.p.length λ (i : Nat) => BS (AF (gD a.q.p i))).length /\ (∀ (i : Nat), i < a.q.p.length -> (gD a.q.p i).length = (gD (AJ a.q.p.length λ (i : Nat) => BS (AF (gD a.q.p i))) i).length /\ ∀ (i_1 : Nat), i_1 <
 (gD a.q.p i).length -> gD (gD a.q.p i) i_1 = gD (gD (AJ a.q.p.length λ (i : Nat) => BS (AF (gD a.q.p i))) i) i_1) /\ a.q.s.length = (AJ a.q.s.length λ (i : Nat) => AU (AW (gD a.q.s i))).length /\ (∀ (i :
 Nat), i < a.q.s.length -> (gD a.q.s i).n = (gD (AJ a.q.s.length λ (i : Nat) => AU (AW (gD a.q.s i))) i).n /\ (gD a.q.s i).o.length = (gD (AJ a.q.s.length λ (i : Nat) => AU (AW (gD a.q.s i))) i).o.length /\ ∀
 (i_1 : Nat), i_1 < (gD a.q.s i).o.length -> gD (gD a.q.s i).o i_1 = gD (gD (AJ a.q.s.length λ (i : Nat) => AU (AW (gD a.q.s i))) i).o i_1) /\ (AJ a.l.length λ (i : Nat) => gD a.l i).length < 4611686018427387904 /\
 True) /\ decide (BN (λ (i : Nat) => !UV a.q (gD a.l i)) a.l.length 0 >= 0) = decide (BN (λ (i : Nat) => !UV (Ros.mk (AJ a.q.p.length λ (i : Nat) => BS (AF (gD a.q.p i))) (AJ a.q.s.length λ (i : Nat) =>
 AU (AW (gD a.q.s i)))) (gD (AJ a.l.length λ (i : Nat) => gD a.l i) i)) (AJ a.l.length λ (i : Nat) => gD a.l i).length 0 >= 0) /\ a.q.p.length = a.q.p.length /\ (∀ (i : Nat), i < a.q.p.length -> (gD a.q.p i).length
 = (gD a.q.p i).length /\ ∀ (i_1 : Nat), i_1 < (gD a.q.p i).length -> gD (gD a.q.p i) i_1 = gD (gD a.q.p i) i_1) /\ a.q.s.length = a.q.s.length /\ ∀ (i : Nat), i < a.q.s.length -> (gD a.q.s i).n = (gD a.q.s i).n /\ (gD a.q.s
 i).o.length = (gD a.q.s i).o.length /\ ∀ (i_1 : Nat), i_1 < (gD a.q.s i).o.length -> gD (gD a.q.s i).o i_1 = gD (gD a.q.s i).o i_1) := by kernel_rfl
theorem BJM : AR Try.prog JD (C3Kh.spec d3Kh) := Ctr.spec_ok (C := C3Kh) (λ (a : MKh) h => JK (A := A3Kh) (ren := []) (fz := []) UA (by kernel_rfl) (AH BFJ AM) (by
 obtain ⟨h, hp⟩ : a.l.length < 4611686018427387904 /\ True := h
 show V3Kh a; rw [BIM]; simp [h, AP, FC, DD, CQ]; try exact hp)) _
def d4Kh : List AVal -> Heap -> Option (MKh × List (Nat × Nat) × List Nat)
 | [y, .fn _ _ [.bptr j _]], H => match HK y H with
  | some (n, g, f) => match OT H j with
   | some q => some (⟨q, AJ n λ i => CR (g i)⟩, [(101, j)], f)
   | none => none
  | none => none
 | _, _ => none
def A4Kh : Ann := { ann 9 [(JD, C3Kh.spec d3Kh)] with E := [101] }
def C4Kh : Ctr := { ro := [101], α := MKh, xs := λ a => [.d (AF a.l), fvKh a.q], L := λ a => LXKh a.q, val := λ a => .bool (a.l.all λ x => UV a.q x), keep := λ a => KXKh a.q, pre := PKh }
def V4Kh (a : MKh) : Prop := BB Try.prog A4Kh F_eC (AS F_eC) (C4Kh.xs a) (AK (C4Kh.L a)) (C4Kh.val a) (C4Kh.keep a) [] []
theorem BHI (a : MKh) : (V4Kh a) = (((AJ a.l.length λ (i : Nat) => gD a.l i).length = a.l.length /\ (∀ (i : Nat), i < (AJ a.l.length λ (i : Nat) => gD a.l i).length -> gD (AJ a.l.length λ (i : Nat) => gD a.l i)
 i = gD a.l i) /\ (AJ a.q.p.length λ (i : Nat) => BS (AF (gD a.q.p i))).length = a.q.p.length /\ (∀ (i : Nat), i < (AJ a.q.p.length λ (i : Nat) => BS (AF (gD a.q.p i))).length -> (gD (AJ a.q.p.length λ (i
 : Nat) => BS (AF (gD a.q.p i))) i).length = (gD a.q.p i).length /\ ∀ (i_1 : Nat), i_1 < (gD (AJ a.q.p.length λ (i : Nat) => BS (AF (gD a.q.p i))) i).length -> gD (gD (AJ a.q.p.length λ (i : Nat) => BS
 (AF (gD a.q.p i))) i) i_1 = gD (gD a.q.p i) i_1) /\ (AJ a.q.s.length λ (i : Nat) => AU (AW (gD a.q.s i))).length = a.q.s.length /\ (∀ (i : Nat), i < (AJ a.q.s.length λ (i : Nat) => AU (AW (gD a.q.s
 i))).length -> (gD (AJ a.q.s.length λ (i : Nat) => AU (AW (gD a.q.s i))) i).n = (gD a.q.s i).n /\ (gD (AJ a.q.s.length λ (i : Nat) => AU (AW (gD a.q.s i))) i).o.length = (gD a.q.s i).o.length /\ ∀ (i_1 : Nat),
 i_1 < (gD (AJ a.q.s.length λ (i : Nat) => AU (AW (gD a.q.s i))) i).o.length -> gD (gD (AJ a.q.s.length λ (i : Nat) => AU (AW (gD a.q.s i))) i).o i_1 = gD (gD a.q.s i).o i_1) /\ a.q.p.length = (AJ
 a.q.p.length λ (i : Nat) => BS (AF (gD a.q.p i))).length /\ (∀ (i : Nat), i < a.q.p.length -> (gD a.q.p i).length = (gD (AJ a.q.p.length λ (i : Nat) => BS (AF (gD a.q.p i))) i).length /\ ∀ (i_1 : Nat), i_1 <
 (gD a.q.p i).length -> gD (gD a.q.p i) i_1 = gD (gD (AJ a.q.p.length λ (i : Nat) => BS (AF (gD a.q.p i))) i) i_1) /\ a.q.s.length = (AJ a.q.s.length λ (i : Nat) => AU (AW (gD a.q.s i))).length /\ (∀ (i :
 Nat), i < a.q.s.length -> (gD a.q.s i).n = (gD (AJ a.q.s.length λ (i : Nat) => AU (AW (gD a.q.s i))) i).n /\ (gD a.q.s i).o.length = (gD (AJ a.q.s.length λ (i : Nat) => AU (AW (gD a.q.s i))) i).o.length /\ ∀
 (i_1 : Nat), i_1 < (gD a.q.s i).o.length -> gD (gD a.q.s i).o i_1 = gD (gD (AJ a.q.s.length λ (i : Nat) => AU (AW (gD a.q.s i))) i).o i_1) /\ (AJ a.l.length λ (i : Nat) => gD a.l i).length < 4611686018427387904 /\
 True) /\ (a.l.all λ (x : Int) => UV a.q x) = !decide (BN (λ (i : Nat) => !UV (Ros.mk (AJ a.q.p.length λ (i : Nat) => BS (AF (gD a.q.p i))) (AJ a.q.s.length λ (i : Nat) => AU (AW (gD a.q.s i)))) (gD
 (AJ a.l.length λ (i : Nat) => gD a.l i) i)) (AJ a.l.length λ (i : Nat) => gD a.l i).length 0 >= 0) /\ a.q.p.length = a.q.p.length /\ (∀ (i : Nat), i < a.q.p.length -> (gD a.q.p i).length = (gD a.q.p i).length /\ ∀ (i_1
 : Nat), i_1 < (gD a.q.p i).length -> gD (gD a.q.p i) i_1 = gD (gD a.q.p i) i_1) /\ a.q.s.length = a.q.s.length /\ ∀ (i : Nat), i < a.q.s.length -> (gD a.q.s i).n = (gD a.q.s i).n /\ (gD a.q.s i).o.length = (gD a.q.s
 i).o.length /\ ∀ (i_1 : Nat), i_1 < (gD a.q.s i).o.length -> gD (gD a.q.s i).o i_1 = gD (gD a.q.s i).o i_1) := by kernel_rfl
theorem BJV (a : MKh) (h : BG (PKh a)) : FnT Try.prog n_eC (C4Kh.xs a) (AK (C4Kh.L a)) (C4Kh.val a) (C4Kh.keep a) := JK (A := A4Kh) (ren := []) (fz := []) AVE (by kernel_rfl) (AH BJM AM) (by
 have h' : a.l.length < 4611686018427387904 /\ True := h
 show V4Kh a; rw [BHI]; simp only [BF, eq_self, implies_true, and_self, true_and, and_true, true_implies, forall_const, decide_eq_true_eq, decide_eq_false_iff_not, Int.toNat_natCast, dSpan_eSpan, dInt_eInt, AV, BH, BJ, BC, AZ, AX, AY, Nat.zero_add, Int.zero_sub, Nat.le_eq, Nat.succ_eq_add_one, Nat.add_one_le_iff, Bool.not_eq_true', Bool.not_eq_false', rng_length, AT, AP, ge_iff_le, FC, DD, EF, CQ]
 rw [<- EO]
 exact ⟨h'.1, rfl⟩)
theorem BEN : AR Try.prog n_eC (C4Kh.spec d4Kh) := Ctr.spec_ok (C := C4Kh) BJV _
structure RL where
 q : Ros
 e : List Int
structure RS where
 q : Ros
 e : Sta
def X1 (q : Ros) (e : List Int) : Bool := e.all λ x => YN q x
def X0 (q : Ros) (e : Sta) : Bool := bif HO e.n 1 12 then e.o.all λ x => UV q x else false
def C_k1 : Ctr := { ro := [101], α := RL, xs := λ a => [.d (AF a.e), .bptr 101 0], L := λ a => [(101, roB a.q)], val := λ a => .bool (X1 a.q a.e), keep := λ a => [(101, .live (roB a.q))], pre := λ a => [a.e.length < 4611686018427387904] }
def d_k1 : List AVal -> Heap -> Option (RL × List (Nat × Nat) × List Nat)
 | [.d d, .bptr j _], H => match OT H j with
  | some q => some (⟨q, BS d⟩, [(101, j)], [])
  | none => none
 | _, _ => none
def A_k1 : Ann := { ann 7 [(n_eC, C4Kg.spec d4Kg)] with E := [101] }
def V_k1 (a : RL) : Prop := BB Try.prog A_k1 S5 (AS S5) (C_k1.xs a) (AK (C_k1.L a)) (C_k1.val a) (C_k1.keep a) [] []
theorem BJH (a : RL) : (V_k1 a) = (((AJ a.e.length λ (i : Nat) => gD a.e i).length = a.e.length /\ (∀ (i : Nat), i < (AJ a.e.length λ (i : Nat) => gD a.e i).length -> gD (AJ a.e.length λ (i : Nat) => gD a.e i) i
 = gD a.e i) /\ (AJ a.q.p.length λ (i : Nat) => BS (AF (gD a.q.p i))).length = a.q.p.length /\ (∀ (i : Nat), i < (AJ a.q.p.length λ (i : Nat) => BS (AF (gD a.q.p i))).length -> (gD (AJ a.q.p.length λ (i :
 Nat) => BS (AF (gD a.q.p i))) i).length = (gD a.q.p i).length /\ ∀ (i_1 : Nat), i_1 < (gD (AJ a.q.p.length λ (i : Nat) => BS (AF (gD a.q.p i))) i).length -> gD (gD (AJ a.q.p.length λ (i : Nat) => BS
 (AF (gD a.q.p i))) i) i_1 = gD (gD a.q.p i) i_1) /\ (AJ a.q.s.length λ (i : Nat) => AU (AW (gD a.q.s i))).length = a.q.s.length /\ (∀ (i : Nat), i < (AJ a.q.s.length λ (i : Nat) => AU (AW (gD a.q.s
 i))).length -> (gD (AJ a.q.s.length λ (i : Nat) => AU (AW (gD a.q.s i))) i).n = (gD a.q.s i).n /\ (gD (AJ a.q.s.length λ (i : Nat) => AU (AW (gD a.q.s i))) i).o.length = (gD a.q.s i).o.length /\ ∀ (i_1 : Nat),
 i_1 < (gD (AJ a.q.s.length λ (i : Nat) => AU (AW (gD a.q.s i))) i).o.length -> gD (gD (AJ a.q.s.length λ (i : Nat) => AU (AW (gD a.q.s i))) i).o i_1 = gD (gD a.q.s i).o i_1) /\ a.q.p.length = (AJ
 a.q.p.length λ (i : Nat) => BS (AF (gD a.q.p i))).length /\ (∀ (i : Nat), i < a.q.p.length -> (gD a.q.p i).length = (gD (AJ a.q.p.length λ (i : Nat) => BS (AF (gD a.q.p i))) i).length /\ ∀ (i_1 : Nat), i_1 <
 (gD a.q.p i).length -> gD (gD a.q.p i) i_1 = gD (gD (AJ a.q.p.length λ (i : Nat) => BS (AF (gD a.q.p i))) i) i_1) /\ a.q.s.length = (AJ a.q.s.length λ (i : Nat) => AU (AW (gD a.q.s i))).length /\ (∀ (i :
 Nat), i < a.q.s.length -> (gD a.q.s i).n = (gD (AJ a.q.s.length λ (i : Nat) => AU (AW (gD a.q.s i))) i).n /\ (gD a.q.s i).o.length = (gD (AJ a.q.s.length λ (i : Nat) => AU (AW (gD a.q.s i))) i).o.length /\ ∀
 (i_1 : Nat), i_1 < (gD a.q.s i).o.length -> gD (gD a.q.s i).o i_1 = gD (gD (AJ a.q.s.length λ (i : Nat) => AU (AW (gD a.q.s i))) i).o i_1) /\ (AJ a.e.length λ (i : Nat) => gD a.e i).length < 4611686018427387904 /\
 True) /\ (X1 a.q a.e = (AJ a.e.length λ (i : Nat) => gD a.e i).all λ (x : Int) => YN (Ros.mk (AJ a.q.p.length λ (i : Nat) => BS (AF (gD a.q.p i))) (AJ a.q.s.length λ (i : Nat) => AU (AW (gD a.q.s
 i)))) x) /\ a.q.p.length = a.q.p.length /\ (∀ (i : Nat), i < a.q.p.length -> (gD a.q.p i).length = (gD a.q.p i).length /\ ∀ (i_1 : Nat), i_1 < (gD a.q.p i).length -> gD (gD a.q.p i) i_1 = gD (gD a.q.p i) i_1) /\ a.q.s.length =
 a.q.s.length /\ ∀ (i : Nat), i < a.q.s.length -> (gD a.q.s i).n = (gD a.q.s i).n /\ (gD a.q.s i).o.length = (gD a.q.s i).o.length /\ ∀ (i_1 : Nat), i_1 < (gD a.q.s i).o.length -> gD (gD a.q.s i).o i_1 = gD (gD a.q.s i).o i_1)
 := by kernel_rfl
def C_k2 : Ctr := { ro := [101], α := RS, xs := λ a => [.d (AW a.e), .bptr 101 0], L := λ a => [(101, roB a.q)], val := λ a => .bool (X0 a.q a.e), keep := λ a => [(101, .live (roB a.q))], pre := λ a => [a.e.o.length < 4611686018427387904] }
def d_k2 : List AVal -> Heap -> Option (RS × List (Nat × Nat) × List Nat)
 | [.d d, .bptr j _], H => match OT H j with
  | some q => some (⟨q, AU d⟩, [(101, j)], [])
  | none => none
 | _, _ => none
def A_k2 : Ann := { ann 13 [(ABF, WB), (n_eC, C4Kh.spec d4Kh)] with E := [101] }
def V_k2 (a : RS) : Prop := BB Try.prog A_k2 J3 (AS J3) (C_k2.xs a) (AK (C_k2.L a)) (C_k2.val a) (C_k2.keep a) [] []
theorem BCW (a : RS) : (V_k2 a) = ((HO a.e.n 1 12 = true -> (AJ a.e.o.length λ (i : Nat) => gD a.e.o i).length = a.e.o.length /\ (∀ (i : Nat), i < (AJ a.e.o.length λ (i : Nat) => gD a.e.o i).length -> gD (AJ
 a.e.o.length λ (i : Nat) => gD a.e.o i) i = gD a.e.o i) /\ (AJ a.q.p.length λ (i : Nat) => BS (AF (gD a.q.p i))).length = a.q.p.length /\ (∀ (i : Nat), i < (AJ a.q.p.length λ (i : Nat) => BS (AF (gD a.q.p
 i))).length -> (gD (AJ a.q.p.length λ (i : Nat) => BS (AF (gD a.q.p i))) i).length = (gD a.q.p i).length /\ ∀ (i_1 : Nat), i_1 < (gD (AJ a.q.p.length λ (i : Nat) => BS (AF (gD a.q.p i))) i).length -> gD (gD
 (AJ a.q.p.length λ (i : Nat) => BS (AF (gD a.q.p i))) i) i_1 = gD (gD a.q.p i) i_1) /\ (AJ a.q.s.length λ (i : Nat) => AU (AW (gD a.q.s i))).length = a.q.s.length /\ (∀ (i : Nat), i < (AJ a.q.s.length fun
 (i : Nat) => AU (AW (gD a.q.s i))).length -> (gD (AJ a.q.s.length λ (i : Nat) => AU (AW (gD a.q.s i))) i).n = (gD a.q.s i).n /\ (gD (AJ a.q.s.length λ (i : Nat) => AU (AW (gD a.q.s i))) i).o.length = (gD
 a.q.s i).o.length /\ ∀ (i_1 : Nat), i_1 < (gD (AJ a.q.s.length λ (i : Nat) => AU (AW (gD a.q.s i))) i).o.length -> gD (gD (AJ a.q.s.length λ (i : Nat) => AU (AW (gD a.q.s i))) i).o i_1 = gD (gD a.q.s i).o
 i_1) /\ a.q.p.length = (AJ a.q.p.length λ (i : Nat) => BS (AF (gD a.q.p i))).length /\ (∀ (i : Nat), i < a.q.p.length -> (gD a.q.p i).length = (gD (AJ a.q.p.length λ (i : Nat) => BS (AF (gD a.q.p i)))
 i).length /\ ∀ (i_1 : Nat), i_1 < (gD a.q.p i).length -> gD (gD a.q.p i) i_1 = gD (gD (AJ a.q.p.length λ (i : Nat) => BS (AF (gD a.q.p i))) i) i_1) /\ a.q.s.length = (AJ a.q.s.length λ (i : Nat) => AU (AW (gD
 a.q.s i))).length /\ (∀ (i : Nat), i < a.q.s.length -> (gD a.q.s i).n = (gD (AJ a.q.s.length λ (i : Nat) => AU (AW (gD a.q.s i))) i).n /\ (gD a.q.s i).o.length = (gD (AJ a.q.s.length λ (i : Nat) => AU (AW (gD
 a.q.s i))) i).o.length /\ ∀ (i_1 : Nat), i_1 < (gD a.q.s i).o.length -> gD (gD a.q.s i).o i_1 = gD (gD (AJ a.q.s.length λ (i : Nat) => AU (AW (gD a.q.s i))) i).o i_1) /\ (AJ a.e.o.length λ (i : Nat) => gD a.e.o
 i).length < 4611686018427387904 /\ True) /\ (X0 a.q a.e = bif HO a.e.n 1 12 then (AJ a.e.o.length λ (i : Nat) => gD a.e.o i).all λ (x : Int) => UV (Ros.mk (AJ a.q.p.length λ (i : Nat) => BS (AF (gD a.q.p
 i))) (AJ a.q.s.length λ (i : Nat) => AU (AW (gD a.q.s i)))) x else false) /\ a.q.p.length = a.q.p.length /\ (∀ (i : Nat), i < a.q.p.length -> (gD a.q.p i).length = (gD a.q.p i).length /\ ∀ (i_1 : Nat), i_1 < (gD a.q.p
 i).length -> gD (gD a.q.p i) i_1 = gD (gD a.q.p i) i_1) /\ a.q.s.length = a.q.s.length /\ ∀ (i : Nat), i < a.q.s.length -> (gD a.q.s i).n = (gD a.q.s i).n /\ (gD a.q.s i).o.length = (gD a.q.s i).o.length /\ ∀ (i_1 : Nat), i_1
 < (gD a.q.s i).o.length -> gD (gD a.q.s i).o i_1 = gD (gD a.q.s i).o i_1) := by kernel_rfl
theorem BDU : AR Try.prog lS (C_k1.spec d_k1) := EX C_k1 (λ _ => A_k1) [] [] APN (λ _ => by kernel_rfl) (λ _ => AH BHL AM) (λ (a : RL) h => by
 have h : a.e.length < 4611686018427387904 := h
 show V_k1 a; rw [BJH]; simp only [BF, eq_self, implies_true, and_self, true_and, and_true, true_implies, forall_const, decide_eq_true_eq, decide_eq_false_iff_not, Int.toNat_natCast, dSpan_eSpan, dInt_eInt, AV, BH, BJ, BC, AZ, AX, AY, Nat.zero_add, Int.zero_sub, Nat.le_eq, Nat.succ_eq_add_one, Nat.add_one_le_iff, Bool.not_eq_true', Bool.not_eq_false', rng_length, AT, AP, FC, DD, CQ]; exact ⟨h, rfl⟩) (λ _ => FK rfl rfl) _
theorem BJU : AR Try.prog jD (C_k2.spec d_k2) := EX C_k2 (λ _ => A_k2) [] [] AKY (λ _ => by kernel_rfl) (λ _ => AH I6 (AH BEN AM)) (λ (a : RS) h => by
 have h : a.e.o.length < 4611686018427387904 := h
 show V_k2 a; rw [BCW]; simp only [BF, eq_self, implies_true, and_self, true_and, and_true, true_implies, forall_const, decide_eq_true_eq, decide_eq_false_iff_not, Int.toNat_natCast, dSpan_eSpan, dInt_eInt, AV, BH, BJ, BC, AZ, AX, AY, Nat.zero_add, Int.zero_sub, Nat.le_eq, Nat.succ_eq_add_one, Nat.add_one_le_iff, Bool.not_eq_true', Bool.not_eq_false', rng_length, AT, AP, FC, DD, EF, CQ]; exact ⟨λ _ => h, rfl⟩) (λ _ => FK rfl rfl) _
def LXKi (q : Ros) : List (Nat × AObj) := [(101, roB q)]
def KXKi (q : Ros) : List (Nat × HCell) := [(101, .live (roB q))]
def fvKi (q : Ros) : AVal := .fn (.func lS) [] [.bptr 101 0]
def BKi (q : Ros) : AObj := .box [fvKi q]
structure EKi where
 q : Ros
 e : (List Int)
structure MKi where
 q : Ros
 l : List (List Int)
def C1Ki : Ctr := { ro := [100, 101], α := EKi, xs := λ a => [.d (AF a.e), .bptr 100 0], L := λ a => (100, BKi a.q) :: LXKi a.q, val := λ a => .bool (!X1 a.q a.e), keep := λ a => (100, .live (BKi a.q)) :: KXKi a.q, pre := λ a => [a.e.length < 4611686018427387904] }
def d1Ki : List AVal -> Heap -> Option (EKi × List (Nat × Nat) × List Nat)
 | [.d d, .bptr id _], H => match H id with
  | .live (.box [.fn _ _ [.bptr j _]]) => match OT H j with
   | some q => some (⟨q, BS d⟩, [(100, id), (101, j)], [])
   | none => none
  | _ => none
 | _, _ => none
def A1Ki : Ann := { ann 8 [(lS, C_k1.spec d_k1)] with E := [100, 101] }
def V1Ki (a : EKi) : Prop := BB Try.prog A1Ki ABH (AS ABH) (C1Ki.xs a) (AK (C1Ki.L a)) (C1Ki.val a) (C1Ki.keep a) [] []
theorem BJS (a : EKi) : (V1Ki a) = (((BS (AF a.e)).length = a.e.length /\ (∀ (i : Nat), i < (BS (AF a.e)).length -> gD (BS (AF a.e)) i = gD a.e i) /\ (AJ a.q.p.length λ (i : Nat) => BS (AF (gD a.q.p
 i))).length = a.q.p.length /\ (∀ (i : Nat), i < (AJ a.q.p.length λ (i : Nat) => BS (AF (gD a.q.p i))).length -> (gD (AJ a.q.p.length λ (i : Nat) => BS (AF (gD a.q.p i))) i).length = (gD a.q.p i).length /\ ∀
 (i_1 : Nat), i_1 < (gD (AJ a.q.p.length λ (i : Nat) => BS (AF (gD a.q.p i))) i).length -> gD (gD (AJ a.q.p.length λ (i : Nat) => BS (AF (gD a.q.p i))) i) i_1 = gD (gD a.q.p i) i_1) /\ (AJ a.q.s.length fun
 (i : Nat) => AU (AW (gD a.q.s i))).length = a.q.s.length /\ (∀ (i : Nat), i < (AJ a.q.s.length λ (i : Nat) => AU (AW (gD a.q.s i))).length -> (gD (AJ a.q.s.length λ (i : Nat) => AU (AW (gD a.q.s i))) i).n
 = (gD a.q.s i).n /\ (gD (AJ a.q.s.length λ (i : Nat) => AU (AW (gD a.q.s i))) i).o.length = (gD a.q.s i).o.length /\ ∀ (i_1 : Nat), i_1 < (gD (AJ a.q.s.length λ (i : Nat) => AU (AW (gD a.q.s i))) i).o.length
 -> gD (gD (AJ a.q.s.length λ (i : Nat) => AU (AW (gD a.q.s i))) i).o i_1 = gD (gD a.q.s i).o i_1) /\ a.q.p.length = (AJ a.q.p.length λ (i : Nat) => BS (AF (gD a.q.p i))).length /\ (∀ (i : Nat), i <
 a.q.p.length -> (gD a.q.p i).length = (gD (AJ a.q.p.length λ (i : Nat) => BS (AF (gD a.q.p i))) i).length /\ ∀ (i_1 : Nat), i_1 < (gD a.q.p i).length -> gD (gD a.q.p i) i_1 = gD (gD (AJ a.q.p.length λ (i : Nat)
 => BS (AF (gD a.q.p i))) i) i_1) /\ a.q.s.length = (AJ a.q.s.length λ (i : Nat) => AU (AW (gD a.q.s i))).length /\ (∀ (i : Nat), i < a.q.s.length -> (gD a.q.s i).n = (gD (AJ a.q.s.length λ (i : Nat) => AU
 (AW (gD a.q.s i))) i).n /\ (gD a.q.s i).o.length = (gD (AJ a.q.s.length λ (i : Nat) => AU (AW (gD a.q.s i))) i).o.length /\ ∀ (i_1 : Nat), i_1 < (gD a.q.s i).o.length -> gD (gD a.q.s i).o i_1 = gD (gD (AJ
 a.q.s.length λ (i : Nat) => AU (AW (gD a.q.s i))) i).o i_1) /\ (BS (AF a.e)).length.succ.le 4611686018427387904) /\ (!X1 a.q a.e) = !X1 (Ros.mk (AJ a.q.p.length λ (i : Nat) => BS (AF (gD a.q.p i)))
 (AJ a.q.s.length λ (i : Nat) => AU (AW (gD a.q.s i)))) (BS (AF a.e)) /\ a.q.p.length = a.q.p.length /\ (∀ (i : Nat), i < a.q.p.length -> (gD a.q.p i).length = (gD a.q.p i).length /\ ∀ (i_1 : Nat), i_1 < (gD a.q.p
 i).length -> gD (gD a.q.p i) i_1 = gD (gD a.q.p i) i_1) /\ a.q.s.length = a.q.s.length /\ ∀ (i : Nat), i < a.q.s.length -> (gD a.q.s i).n = (gD a.q.s i).n /\ (gD a.q.s i).o.length = (gD a.q.s i).o.length /\ ∀ (i_1 : Nat), i_1
 < (gD a.q.s i).o.length -> gD (gD a.q.s i).o i_1 = gD (gD a.q.s i).o i_1) := by kernel_rfl
theorem BGU : AR Try.prog Tu (C1Ki.spec d1Ki) := EX C1Ki (λ _ => A1Ki) [] [] AQV (λ _ => by kernel_rfl) (λ _ => AH BDU AM) (λ (a : EKi) h => by
 have h : a.e.length < 4611686018427387904 := h
 show V1Ki a; rw [BJS]; try simp [wr, AP, FC, DD, EF, CQ, h]; try omega) (λ _ => FK rfl rfl) _
def d2Ki : List AVal -> Heap -> Option (MKi × List (Nat × Nat) × List Nat)
 | [y, .fn _ _ [.bptr id _]], H => match HK y H with
  | some (n, g, f) => match H id with
   | .live (.box [.fn _ _ [.bptr j _]]) => match OT H j with
    | some q => some (⟨q, AJ n λ i => BS (g i)⟩, [(100, id), (101, j)], f)
    | none => none
   | _ => none
  | none => none
 | _, _ => none
def A2Ki (a : MKi) : Ann := { ann 19 [(Tu, C1Ki.spec d1Ki)] with E := [100, 101], loops := λ id => if id = 2 then some [{ α := Nat, dflt := 0, T := λ k => ⟨[(0, .d (eIL a.l)), (1, .fn (.func Tu) [] [.bptr 100 0]), (7, .int a.l.length), (8, .int k)], (100, .live (BKi a.q)) :: KXKi a.q⟩, inv := λ k => k <= a.l.length /\ BN (λ i => !X1 a.q (gD a.l i)) a.l.length 0 = BN (λ i => !X1 a.q (gD a.l i)) (a.l.length - k) k, meas := λ k => a.l.length - k }] else none }
def PKi (a : MKi) : List Prop := [a.l.length < 4611686018427387904 /\ ∀ i, i < a.l.length -> (gD a.l i).length < 4611686018427387904]
def C2Ki : Ctr := { ro := [100, 101], α := MKi, xs := λ a => [.d (eIL a.l), .fn (.func Tu) [] [.bptr 100 0]], L := λ a => (100, BKi a.q) :: LXKi a.q, val := λ a => .int (BN (λ i => !X1 a.q (gD a.l i)) a.l.length 0), keep := λ a => (100, .live (BKi a.q)) :: KXKi a.q, pre := PKi }
def V2Ki (a : MKi) : Prop := BB Try.prog (A2Ki a) Z0 (AS Z0) (C2Ki.xs a) (AK (C2Ki.L a)) (C2Ki.val a) (C2Ki.keep a) [] []
abbrev AES (a : MKi) : Prop := a.l.length = a.l.length
abbrev oH (a : MKi) (i : Nat) : Nat := (gD a.l i).length
abbrev H6 (a : MKi) (i : Nat) (i1 : Nat) : Int := gD (gD a.l i) i1
abbrev AEC (a : MKi) : Prop := ∀ (i : Nat), i < a.l.length -> oH a i = oH a i /\ ∀ (i_1 : Nat), i_1 < oH a i -> H6 a i i_1 = H6 a i i_1
abbrev AEE (a : MKi) : Prop := (↑a.l.length : Int) = (↑a.l.length : Int)
abbrev AEL (i : Nat) (a : MKi) : Prop := i < a.q.p.length
abbrev bV (a : MKi) (i : Nat) : Nat := (gD a.q.p i).length
abbrev AEU (i : Nat) (a : MKi) (i1 : Nat) : Prop := i < bV a i1
abbrev oW (a : MKi) (i : Nat) (i1 : Nat) : Int := gD (gD a.q.p i) i1
abbrev Yh (a : MKi) (i : Nat) : Nat := (gD a.q.s i).o.length
abbrev G9 (i : Nat) (a : MKi) (i1 : Nat) : Prop := i < Yh a i1
abbrev Xl (a : MKi) (i : Nat) (i1 : Nat) : Int := gD (gD a.q.s i).o i1
abbrev Wl (a : MKi) : Prop := a.q.p.length = a.q.p.length /\ (∀ (i : Nat), AEL i a -> bV a i = bV a i /\ ∀ (i_1 : Nat), AEU i_1 a i -> oW a i i_1 = oW a i i_1) /\ a.q.s.length = a.q.s.length /\ ∀ (i
 : Nat), i < a.q.s.length -> (gD a.q.s i).n = (gD a.q.s i).n /\ Yh a i = Yh a i /\ ∀ (i_1 : Nat), G9 i_1 a i -> Xl a i i_1 = Xl a i i_1
abbrev A1 (a : MKi) (i : Nat) : Bool := !X1 a.q (gD a.l i)
abbrev gQ (a : MKi) : Int := BN (λ (i : Nat) => A1 a i) a.l.length 0
abbrev lZ (a : MKi) (a1 : Nat) : Nat := a.l.length - a1
abbrev iN (a : Nat) (a1 : MKi) : Prop := a <= a1.l.length /\ gQ a1 = BN (λ (i : Nat) => A1 a1 i) (lZ a1 a) a
abbrev C2 (a : Nat) (a1 : MKi) : Prop := (↑a : Int) < (↑a1.l.length : Int)
abbrev lU (a : MKi) (a1 : Nat) : List Int := BS (AF (gD a.l a1))
abbrev gS (a : MKi) (a1 : Nat) : Nat := (lU a a1).length
abbrev kO (a : MKi) : List (List Int) := AJ a.q.p.length λ (i : Nat) => BS (AF (gD a.q.p i))
abbrev kZ (a : MKi) : Nat := (kO a).length
abbrev F8 (a : MKi) (i : Nat) : List Int := gD (kO a) i
abbrev kG (a : MKi) (i : Nat) : Nat := (F8 a i).length
abbrev J2 (a : MKi) (i : Nat) (i1 : Nat) : Int := gD (F8 a i) i1
abbrev iQ (a : MKi) : List Sta := AJ a.q.s.length λ (i : Nat) => AU (AW (gD a.q.s i))
abbrev iI (a : MKi) : Nat := (iQ a).length
abbrev V6 (a : MKi) (i : Nat) : Sta := gD (iQ a) i
abbrev J5 (a : MKi) (i : Nat) : Int := (V6 a i).n
abbrev V5 (a : MKi) (i : Nat) : List Int := (V6 a i).o
abbrev kB (a : MKi) (i : Nat) : Nat := (V5 a i).length
abbrev R0 (a : MKi) (i : Nat) (i1 : Nat) : Int := gD (V5 a i) i1
theorem BGJ (a : MKi) : (V2Ki a) = ((∃ (a_1 : Nat), (AES a /\ AEC a /\ AEE a /\ (↑a_1 : Int) = 0 /\ Wl a) /\ iN a_1 a) /\ ∀ (a_1 : Nat), iN a_1 a -> bif decide (C2 a_1 a) then ((0 <= (↑a_1 : Int) /\
 C2 a_1 a) /\ gS a a_1 = oH a a_1 /\ (∀ (i : Nat), i < gS a a_1 -> gD (lU a a_1) i = H6 a a_1 i) /\ kZ a = a.q.p.length /\ (∀ (i : Nat), i < kZ a -> kG a i = bV a i /\ ∀ (i_1 :
 Nat), i_1 < kG a i -> J2 a i i_1 = oW a i i_1) /\ iI a = a.q.s.length /\ (∀ (i : Nat), i < iI a -> J5 a i = (gD a.q.s i).n /\ kB a i = Yh a i /\ ∀ (i_1 : Nat), i_1 < kB a i -> R0
 a i i_1 = Xl a i i_1) /\ a.q.p.length = kZ a /\ (∀ (i : Nat), AEL i a -> bV a i = kG a i /\ ∀ (i_1 : Nat), AEU i_1 a i -> oW a i i_1 = J2 a i i_1) /\ a.q.s.length = iI a /\ (∀ (i : Nat), i
 < a.q.s.length -> (gD a.q.s i).n = J5 a i /\ Yh a i = kB a i /\ ∀ (i_1 : Nat), G9 i_1 a i -> Xl a i i_1 = R0 a i i_1) /\ (gS a a_1).succ.le 4611686018427387904) /\ bif !X1 (Ros.mk (kO a)
 (iQ a)) (lU a a_1) then gQ a = (↑a_1 : Int) /\ Wl a else ∃ (a_3 : Nat), (AES a /\ AEC a /\ AEE a /\ (↑a_3 : Int) = IntKind.i64.wrap ((↑a_1 : Int) + 1) /\ Wl a) /\ iN a_3 a /\ lZ a a_3
 < lZ a a_1 else gQ a = -1 /\ Wl a) := by kernel_rfl
theorem p2Ki (a : MKi) (h : BG (PKi a)) : V2Ki a := by
 obtain ⟨h, hp⟩ : a.l.length < 4611686018427387904 /\ ∀ i, i < a.l.length -> (gD a.l i).length < 4611686018427387904 := h
 rw [BGJ]; delta AES oH H6 AEC AEE AEL bV AEU oW Yh G9 Xl Wl A1 gQ lZ iN C2 lU gS kO kZ F8 kG J2 iQ iI V6 J5 V5 kB R0
 simp only [BF, eq_self, implies_true, and_self, true_and, and_true, true_implies, forall_const, decide_eq_true_eq, decide_eq_false_iff_not, Int.toNat_natCast, dSpan_eSpan, dInt_eInt, AV, BH, BJ, BC, AZ, AX, AY, Nat.zero_add, Int.zero_sub, Nat.le_eq, Nat.succ_eq_add_one, Nat.add_one_le_iff, Bool.not_eq_true', Bool.not_eq_false', rng_length, AT, AP, FC, DD, EF, CQ]
 refine ⟨⟨0, rfl, Nat.zero_le _, rfl⟩, λ k ⟨h1, h2⟩ => ⟨λ hlt => ?_, λ hge => ?_⟩⟩
 ·have hlt : k < a.l.length := by omega
  refine ⟨⟨by omega, hp k hlt⟩, λ hp => ?_, λ hp => ⟨k + 1, (CE (by omega)).symm, ⟨by omega, ?_⟩, by omega⟩⟩
  ·rw [h2]; exact DJ hlt (by simpa using hp)
  ·rw [h2]; exact FZ hlt (by simpa using hp)
 ·rw [h2]; exact EK (by omega)
theorem BGK : AR Try.prog X7 (C2Ki.spec d2Ki) := EX C2Ki A2Ki [] [] ALQ (λ _ => by kernel_rfl) (λ _ => AH BGU AM) p2Ki (λ _ => FK rfl rfl) _
def C3Ki : Ctr := { C2Ki with val := λ (a : MKi) => .bool (decide (BN (λ i => !X1 a.q (gD a.l i)) a.l.length 0 >= 0)) }
def d3Ki : List AVal -> Heap -> Option (C3Ki.α × List (Nat × Nat) × List Nat) := d2Ki
def A3Ki : Ann := { ann 9 [(X7, C2Ki.spec d2Ki)] with E := [100, 101] }
def V3Ki (a : MKi) : Prop := BB Try.prog A3Ki Y0 (AS Y0) (C3Ki.xs a) (AK (C3Ki.L a)) (C3Ki.val a) (C3Ki.keep a) [] []
theorem BGT (a : MKi) : (V3Ki a) = (((AJ a.l.length λ (i : Nat) => BS (AF (gD a.l i))).length = a.l.length /\ (∀ (i : Nat), i < (AJ a.l.length λ (i : Nat) => BS (AF (gD a.l i))).length -> (gD (AJ
 a.l.length λ (i : Nat) => BS (AF (gD a.l i))) i).length = (gD a.l i).length /\ ∀ (i_1 : Nat), i_1 < (gD (AJ a.l.length λ (i : Nat) => BS (AF (gD a.l i))) i).length -> gD (gD (AJ a.l.length λ (i : Nat) =>
 BS (AF (gD a.l i))) i) i_1 = gD (gD a.l i) i_1) /\ (AJ a.q.p.length λ (i : Nat) => BS (AF (gD a.q.p i))).length = a.q.p.length /\ (∀ (i : Nat), i < (AJ a.q.p.length λ (i : Nat) => BS (AF (gD a.q.p
 i))).length -> (gD (AJ a.q.p.length λ (i : Nat) => BS (AF (gD a.q.p i))) i).length = (gD a.q.p i).length /\ ∀ (i_1 : Nat), i_1 < (gD (AJ a.q.p.length λ (i : Nat) => BS (AF (gD a.q.p i))) i).length -> gD (gD
 (AJ a.q.p.length λ (i : Nat) => BS (AF (gD a.q.p i))) i) i_1 = gD (gD a.q.p i) i_1) /\ (AJ a.q.s.length λ (i : Nat) => AU (AW (gD a.q.s i))).length = a.q.s.length /\ (∀ (i : Nat), i < (AJ a.q.s.length fun
 (i : Nat) => AU (AW (gD a.q.s i))).length -> (gD (AJ a.q.s.length λ (i : Nat) => AU (AW (gD a.q.s i))) i).n = (gD a.q.s i).n /\ (gD (AJ a.q.s.length λ (i : Nat) => AU (AW (gD a.q.s i))) i).o.length = (gD
 a.q.s i).o.length /\ ∀ (i_1 : Nat), i_1 < (gD (AJ a.q.s.length λ (i : Nat) => AU (AW (gD a.q.s i))) i).o.length -> gD (gD (AJ a.q.s.length λ (i : Nat) => AU (AW (gD a.q.s i))) i).o i_1 = gD (gD a.q.s i).o
 i_1) /\ a.q.p.length = (AJ a.q.p.length λ (i : Nat) => BS (AF (gD a.q.p i))).length /\ (∀ (i : Nat), i < a.q.p.length -> (gD a.q.p i).length = (gD (AJ a.q.p.length λ (i : Nat) => BS (AF (gD a.q.p i)))
 i).length /\ ∀ (i_1 : Nat), i_1 < (gD a.q.p i).length -> gD (gD a.q.p i) i_1 = gD (gD (AJ a.q.p.length λ (i : Nat) => BS (AF (gD a.q.p i))) i) i_1) /\ a.q.s.length = (AJ a.q.s.length λ (i : Nat) => AU (AW (gD
 a.q.s i))).length /\ (∀ (i : Nat), i < a.q.s.length -> (gD a.q.s i).n = (gD (AJ a.q.s.length λ (i : Nat) => AU (AW (gD a.q.s i))) i).n /\ (gD a.q.s i).o.length = (gD (AJ a.q.s.length λ (i : Nat) => AU (AW (gD
 a.q.s i))) i).o.length /\ ∀ (i_1 : Nat), i_1 < (gD a.q.s i).o.length -> gD (gD a.q.s i).o i_1 = gD (gD (AJ a.q.s.length λ (i : Nat) => AU (AW (gD a.q.s i))) i).o i_1) /\ (AJ a.l.length λ (i : Nat) => BS (AF
 (gD a.l i))).length < 4611686018427387904 /\ ∀ (i : Nat), i < (AJ a.l.length λ (i : Nat) => BS (AF (gD a.l i))).length -> (gD (AJ a.l.length λ (i : Nat) => BS (AF (gD a.l i))) i).length <
 4611686018427387904) /\ decide (BN (λ (i : Nat) => !X1 a.q (gD a.l i)) a.l.length 0 >= 0) = decide (BN (λ (i : Nat) => !X1 (Ros.mk (AJ a.q.p.length λ (i : Nat) => BS (AF (gD a.q.p i))) (AJ a.q.s.length fun
 (i : Nat) => AU (AW (gD a.q.s i)))) (gD (AJ a.l.length λ (i : Nat) => BS (AF (gD a.l i))) i)) (AJ a.l.length λ (i : Nat) => BS (AF (gD a.l i))).length 0 >= 0) /\ a.q.p.length = a.q.p.length /\ (∀ (i :
 Nat), i < a.q.p.length -> (gD a.q.p i).length = (gD a.q.p i).length /\ ∀ (i_1 : Nat), i_1 < (gD a.q.p i).length -> gD (gD a.q.p i) i_1 = gD (gD a.q.p i) i_1) /\ a.q.s.length = a.q.s.length /\ ∀ (i : Nat), i < a.q.s.length ->
 (gD a.q.s i).n = (gD a.q.s i).n /\ (gD a.q.s i).o.length = (gD a.q.s i).o.length /\ ∀ (i_1 : Nat), i_1 < (gD a.q.s i).o.length -> gD (gD a.q.s i).o i_1 = gD (gD a.q.s i).o i_1) := by kernel_rfl
theorem BKE : AR Try.prog Y3 (C3Ki.spec d3Ki) := Ctr.spec_ok (C := C3Ki) (λ (a : MKi) h => JK (A := A3Ki) (ren := []) (fz := []) ARY (by kernel_rfl) (AH BGK AM) (by
 obtain ⟨h, hp⟩ : a.l.length < 4611686018427387904 /\ ∀ i, i < a.l.length -> (gD a.l i).length < 4611686018427387904 := h
 show V3Ki a; rw [BGT]; simp [h, AP, FC, DD, CQ]; try exact hp)) _
def d4Ki : List AVal -> Heap -> Option (MKi × List (Nat × Nat) × List Nat)
 | [y, .fn _ _ [.bptr j _]], H => match HK y H with
  | some (n, g, f) => match OT H j with
   | some q => some (⟨q, AJ n λ i => BS (g i)⟩, [(101, j)], f)
   | none => none
  | none => none
 | _, _ => none
def A4Ki : Ann := { ann 9 [(Y3, C3Ki.spec d3Ki)] with E := [101] }
def C4Ki : Ctr := { ro := [101], α := MKi, xs := λ a => [.d (eIL a.l), fvKi a.q], L := λ a => LXKi a.q, val := λ a => .bool (a.l.all λ x => X1 a.q x), keep := λ a => KXKi a.q, pre := PKi }
def V4Ki (a : MKi) : Prop := BB Try.prog A4Ki F_eL (AS F_eL) (C4Ki.xs a) (AK (C4Ki.L a)) (C4Ki.val a) (C4Ki.keep a) [] []
theorem BEY (a : MKi) : (V4Ki a) = (((AJ a.l.length λ (i : Nat) => BS (AF (gD a.l i))).length = a.l.length /\ (∀ (i : Nat), i < (AJ a.l.length λ (i : Nat) => BS (AF (gD a.l i))).length -> (gD (AJ
 a.l.length λ (i : Nat) => BS (AF (gD a.l i))) i).length = (gD a.l i).length /\ ∀ (i_1 : Nat), i_1 < (gD (AJ a.l.length λ (i : Nat) => BS (AF (gD a.l i))) i).length -> gD (gD (AJ a.l.length λ (i : Nat) =>
 BS (AF (gD a.l i))) i) i_1 = gD (gD a.l i) i_1) /\ (AJ a.q.p.length λ (i : Nat) => BS (AF (gD a.q.p i))).length = a.q.p.length /\ (∀ (i : Nat), i < (AJ a.q.p.length λ (i : Nat) => BS (AF (gD a.q.p
 i))).length -> (gD (AJ a.q.p.length λ (i : Nat) => BS (AF (gD a.q.p i))) i).length = (gD a.q.p i).length /\ ∀ (i_1 : Nat), i_1 < (gD (AJ a.q.p.length λ (i : Nat) => BS (AF (gD a.q.p i))) i).length -> gD (gD
 (AJ a.q.p.length λ (i : Nat) => BS (AF (gD a.q.p i))) i) i_1 = gD (gD a.q.p i) i_1) /\ (AJ a.q.s.length λ (i : Nat) => AU (AW (gD a.q.s i))).length = a.q.s.length /\ (∀ (i : Nat), i < (AJ a.q.s.length fun
 (i : Nat) => AU (AW (gD a.q.s i))).length -> (gD (AJ a.q.s.length λ (i : Nat) => AU (AW (gD a.q.s i))) i).n = (gD a.q.s i).n /\ (gD (AJ a.q.s.length λ (i : Nat) => AU (AW (gD a.q.s i))) i).o.length = (gD
 a.q.s i).o.length /\ ∀ (i_1 : Nat), i_1 < (gD (AJ a.q.s.length λ (i : Nat) => AU (AW (gD a.q.s i))) i).o.length -> gD (gD (AJ a.q.s.length λ (i : Nat) => AU (AW (gD a.q.s i))) i).o i_1 = gD (gD a.q.s i).o
 i_1) /\ a.q.p.length = (AJ a.q.p.length λ (i : Nat) => BS (AF (gD a.q.p i))).length /\ (∀ (i : Nat), i < a.q.p.length -> (gD a.q.p i).length = (gD (AJ a.q.p.length λ (i : Nat) => BS (AF (gD a.q.p i)))
 i).length /\ ∀ (i_1 : Nat), i_1 < (gD a.q.p i).length -> gD (gD a.q.p i) i_1 = gD (gD (AJ a.q.p.length λ (i : Nat) => BS (AF (gD a.q.p i))) i) i_1) /\ a.q.s.length = (AJ a.q.s.length λ (i : Nat) => AU (AW (gD
 a.q.s i))).length /\ (∀ (i : Nat), i < a.q.s.length -> (gD a.q.s i).n = (gD (AJ a.q.s.length λ (i : Nat) => AU (AW (gD a.q.s i))) i).n /\ (gD a.q.s i).o.length = (gD (AJ a.q.s.length λ (i : Nat) => AU (AW (gD
 a.q.s i))) i).o.length /\ ∀ (i_1 : Nat), i_1 < (gD a.q.s i).o.length -> gD (gD a.q.s i).o i_1 = gD (gD (AJ a.q.s.length λ (i : Nat) => AU (AW (gD a.q.s i))) i).o i_1) /\ (AJ a.l.length λ (i : Nat) => BS (AF
 (gD a.l i))).length < 4611686018427387904 /\ ∀ (i : Nat), i < (AJ a.l.length λ (i : Nat) => BS (AF (gD a.l i))).length -> (gD (AJ a.l.length λ (i : Nat) => BS (AF (gD a.l i))) i).length <
 4611686018427387904) /\ (a.l.all λ (x : List Int) => X1 a.q x) = !decide (BN (λ (i : Nat) => !X1 (Ros.mk (AJ a.q.p.length λ (i : Nat) => BS (AF (gD a.q.p i))) (AJ a.q.s.length λ (i : Nat) => AU (AW
 (gD a.q.s i)))) (gD (AJ a.l.length λ (i : Nat) => BS (AF (gD a.l i))) i)) (AJ a.l.length λ (i : Nat) => BS (AF (gD a.l i))).length 0 >= 0) /\ a.q.p.length = a.q.p.length /\ (∀ (i : Nat), i < a.q.p.length ->
 (gD a.q.p i).length = (gD a.q.p i).length /\ ∀ (i_1 : Nat), i_1 < (gD a.q.p i).length -> gD (gD a.q.p i) i_1 = gD (gD a.q.p i) i_1) /\ a.q.s.length = a.q.s.length /\ ∀ (i : Nat), i < a.q.s.length -> (gD a.q.s i).n = (gD a.q.s
 i).n /\ (gD a.q.s i).o.length = (gD a.q.s i).o.length /\ ∀ (i_1 : Nat), i_1 < (gD a.q.s i).o.length -> gD (gD a.q.s i).o i_1 = gD (gD a.q.s i).o i_1) := by kernel_rfl
theorem BFE (a : MKi) (h : BG (PKi a)) : FnT Try.prog n_eL (C4Ki.xs a) (AK (C4Ki.L a)) (C4Ki.val a) (C4Ki.keep a) := JK (A := A4Ki) (ren := []) (fz := []) AXQ (by kernel_rfl) (AH BKE AM) (by
 have h' : a.l.length < 4611686018427387904 /\ ∀ i, i < a.l.length -> (gD a.l i).length < 4611686018427387904 := h
 show V4Ki a; rw [BEY]; simp only [BF, eq_self, implies_true, and_self, true_and, and_true, true_implies, forall_const, decide_eq_true_eq, decide_eq_false_iff_not, Int.toNat_natCast, dSpan_eSpan, dInt_eInt, AV, BH, BJ, BC, AZ, AX, AY, Nat.zero_add, Int.zero_sub, Nat.le_eq, Nat.succ_eq_add_one, Nat.add_one_le_iff, Bool.not_eq_true', Bool.not_eq_false', rng_length, AT, AP, ge_iff_le, FC, DD, EF, CQ]
 rw [<- EO]
 exact ⟨h', rfl⟩)
theorem BIE : AR Try.prog n_eL (C4Ki.spec d4Ki) := Ctr.spec_ok (C := C4Ki) BFE _
def fvKj (q : One) : AVal := .fn (.func dK) [] []
def BKj (q : One) : AObj := .box [fvKj q]
structure EKj where
 q : One
 e : (List Int)
structure MKj where
 q : One
 l : List (List Int)
def C1Kj : Ctr := { ro := [100], α := EKj, xs := λ a => [.d (AF a.e), .bptr 100 0], L := λ a => (100, BKj a.q) :: [], val := λ a => .bool (!CB a.e), keep := λ a => (100, .live (BKj a.q)) :: [], pre := λ a => [a.e.length < 4611686018427387904] }
def d1Kj : List AVal -> Heap -> Option (EKj × List (Nat × Nat) × List Nat)
 | [.d d, .bptr id _], H => some (⟨default, BS d⟩, [(100, id)], [])
 | _, _ => none
def A1Kj : Ann := { ann 8 [(dK, C_once.spec cX)] with E := [100] }
def V1Kj (a : EKj) : Prop := BB Try.prog A1Kj ABH (AS ABH) (C1Kj.xs a) (AK (C1Kj.L a)) (C1Kj.val a) (C1Kj.keep a) [] []
theorem BEO (a : EKj) : (V1Kj a) = (((AJ a.e.length λ (i : Nat) => gD a.e i).length = a.e.length /\ (∀ (i : Nat), i < (AJ a.e.length λ (i : Nat) => gD a.e i).length -> gD (AJ a.e.length λ (i : Nat) => gD a.e i)
 i = gD a.e i) /\ (AJ a.e.length λ (i : Nat) => gD a.e i).length.succ.le 4611686018427387904) /\ (!CB a.e) = !CB (AJ a.e.length λ (i : Nat) => gD a.e i)) := by kernel_rfl
theorem BDM : AR Try.prog Tu (C1Kj.spec d1Kj) := EX C1Kj (λ _ => A1Kj) [] [] AQV (λ _ => by kernel_rfl) (λ _ => AH AHI AM) (λ (a : EKj) h => by
 have h : a.e.length < 4611686018427387904 := h
 show V1Kj a; rw [BEO]; try simp [wr, AP, FC, DD, EF, CQ, h]; try omega) (λ _ => FK rfl rfl) _
def d2Kj : List AVal -> Heap -> Option (MKj × List (Nat × Nat) × List Nat)
 | [y, .fn _ _ [.bptr id _]], H => match HK y H with
  | some (n, g, f) => some (⟨default, AJ n λ i => BS (g i)⟩, [(100, id)], f)
  | none => none
 | _, _ => none
def A2Kj (a : MKj) : Ann := { ann 19 [(Tu, C1Kj.spec d1Kj)] with E := [100], loops := λ id => if id = 2 then some [{ α := Nat, dflt := 0, T := λ k => ⟨[(0, .d (eIL a.l)), (1, .fn (.func Tu) [] [.bptr 100 0]), (7, .int a.l.length), (8, .int k)], (100, .live (BKj a.q)) :: []⟩, inv := λ k => k <= a.l.length /\ BN (λ i => !CB (gD a.l i)) a.l.length 0 = BN (λ i => !CB (gD a.l i)) (a.l.length - k) k, meas := λ k => a.l.length - k }] else none }
def PKj (a : MKj) : List Prop := [a.l.length < 4611686018427387904 /\ ∀ i, i < a.l.length -> (gD a.l i).length < 4611686018427387904]
def C2Kj : Ctr := { ro := [100], α := MKj, xs := λ a => [.d (eIL a.l), .fn (.func Tu) [] [.bptr 100 0]], L := λ a => (100, BKj a.q) :: [], val := λ a => .int (BN (λ i => !CB (gD a.l i)) a.l.length 0), keep := λ a => (100, .live (BKj a.q)) :: [], pre := PKj }
def V2Kj (a : MKj) : Prop := BB Try.prog (A2Kj a) Z0 (AS Z0) (C2Kj.xs a) (AK (C2Kj.L a)) (C2Kj.val a) (C2Kj.keep a) [] []
theorem BGE (a : MKj) : (V2Kj a) = ((∃ (a_1 : Nat), (a.l.length = a.l.length /\ (∀ (i : Nat), i < a.l.length -> (gD a.l i).length = (gD a.l i).length /\ ∀ (i_1 : Nat), i_1 < (gD a.l i).length -> gD (gD a.l i) i_1 = gD (gD
 a.l i) i_1) /\ (↑a.l.length : Int) = (↑a.l.length : Int) /\ (↑a_1 : Int) = 0) /\ a_1 <= a.l.length /\ BN (λ (i : Nat) => !CB (gD a.l i)) a.l.length 0 = BN (λ (i : Nat) => !CB (gD a.l i)) (a.l.length - a_1) a_1) /\
 ∀ (a_1 : Nat), a_1 <= a.l.length /\ BN (λ (i : Nat) => !CB (gD a.l i)) a.l.length 0 = BN (λ (i : Nat) => !CB (gD a.l i)) (a.l.length - a_1) a_1 -> bif decide ((↑a_1 : Int) < (↑a.l.length : Int)) then ((0 <= (↑a_1
 : Int) /\ (↑a_1 : Int) < (↑a.l.length : Int)) /\ (BS (AF (gD a.l a_1))).length = (gD a.l a_1).length /\ (∀ (i : Nat), i < (BS (AF (gD a.l a_1))).length -> gD (BS (AF (gD a.l a_1))) i = gD (gD a.l a_1) i) /\
 (BS (AF (gD a.l a_1))).length.succ.le 4611686018427387904) /\ bif !CB (BS (AF (gD a.l a_1))) then BN (λ (i : Nat) => !CB (gD a.l i)) a.l.length 0 = (↑a_1 : Int) else ∃ (a_3 : Nat), (a.l.length =
 a.l.length /\ (∀ (i : Nat), i < a.l.length -> (gD a.l i).length = (gD a.l i).length /\ ∀ (i_1 : Nat), i_1 < (gD a.l i).length -> gD (gD a.l i) i_1 = gD (gD a.l i) i_1) /\ (↑a.l.length : Int) = (↑a.l.length : Int) /\ (↑a_3 :
 Int) = IntKind.i64.wrap ((↑a_1 : Int) + 1)) /\ (a_3 <= a.l.length /\ BN (λ (i : Nat) => !CB (gD a.l i)) a.l.length 0 = BN (λ (i : Nat) => !CB (gD a.l i)) (a.l.length - a_3) a_3) /\ a.l.length - a_3 < a.l.length -
 a_1 else BN (λ (i : Nat) => !CB (gD a.l i)) a.l.length 0 = -1) := by kernel_rfl
theorem p2Kj (a : MKj) (h : BG (PKj a)) : V2Kj a := by
 obtain ⟨h, hp⟩ : a.l.length < 4611686018427387904 /\ ∀ i, i < a.l.length -> (gD a.l i).length < 4611686018427387904 := h
 rw [BGE]
 simp only [BF, eq_self, implies_true, and_self, true_and, and_true, true_implies, forall_const, decide_eq_true_eq, decide_eq_false_iff_not, Int.toNat_natCast, dSpan_eSpan, dInt_eInt, AV, BH, BJ, BC, AZ, AX, AY, Nat.zero_add, Int.zero_sub, Nat.le_eq, Nat.succ_eq_add_one, Nat.add_one_le_iff, Bool.not_eq_true', Bool.not_eq_false', rng_length, AT, AP, FC, DD, EF, CQ]
 refine ⟨⟨0, rfl, Nat.zero_le _, rfl⟩, λ k ⟨h1, h2⟩ => ⟨λ hlt => ?_, λ hge => ?_⟩⟩
 ·have hlt : k < a.l.length := by omega
  refine ⟨⟨by omega, hp k hlt⟩, λ hp => ?_, λ hp => ⟨k + 1, (CE (by omega)).symm, ⟨by omega, ?_⟩, by omega⟩⟩
  ·rw [h2]; exact DJ hlt (by simpa using hp)
  ·rw [h2]; exact FZ hlt (by simpa using hp)
 ·rw [h2]; exact EK (by omega)
theorem BJK : AR Try.prog X7 (C2Kj.spec d2Kj) := EX C2Kj A2Kj [] [] ALQ (λ _ => by kernel_rfl) (λ _ => AH BDM AM) p2Kj (λ _ => FK rfl rfl) _
def C3Kj : Ctr := { C2Kj with val := λ (a : MKj) => .bool (decide (BN (λ i => !CB (gD a.l i)) a.l.length 0 >= 0)) }
def d3Kj : List AVal -> Heap -> Option (C3Kj.α × List (Nat × Nat) × List Nat) := d2Kj
def A3Kj : Ann := { ann 9 [(X7, C2Kj.spec d2Kj)] with E := [100] }
def V3Kj (a : MKj) : Prop := BB Try.prog A3Kj Y0 (AS Y0) (C3Kj.xs a) (AK (C3Kj.L a)) (C3Kj.val a) (C3Kj.keep a) [] []
theorem BDT (a : MKj) : (V3Kj a) = (((AJ a.l.length λ (i : Nat) => BS (AF (gD a.l i))).length = a.l.length /\ (∀ (i : Nat), i < (AJ a.l.length λ (i : Nat) => BS (AF (gD a.l i))).length -> (gD (AJ
 a.l.length λ (i : Nat) => BS (AF (gD a.l i))) i).length = (gD a.l i).length /\ ∀ (i_1 : Nat), i_1 < (gD (AJ a.l.length λ (i : Nat) => BS (AF (gD a.l i))) i).length -> gD (gD (AJ a.l.length λ (i : Nat) =>
 BS (AF (gD a.l i))) i) i_1 = gD (gD a.l i) i_1) /\ (AJ a.l.length λ (i : Nat) => BS (AF (gD a.l i))).length < 4611686018427387904 /\ ∀ (i : Nat), i < (AJ a.l.length λ (i : Nat) => BS (AF (gD a.l
 i))).length -> (gD (AJ a.l.length λ (i : Nat) => BS (AF (gD a.l i))) i).length < 4611686018427387904) /\ decide (BN (λ (i : Nat) => !CB (gD a.l i)) a.l.length 0 >= 0) = decide (BN (λ (i : Nat) => !CB (gD
 (AJ a.l.length λ (i : Nat) => BS (AF (gD a.l i))) i)) (AJ a.l.length λ (i : Nat) => BS (AF (gD a.l i))).length 0 >= 0)) := by kernel_rfl
theorem BEE : AR Try.prog Y3 (C3Kj.spec d3Kj) := Ctr.spec_ok (C := C3Kj) (λ (a : MKj) h => JK (A := A3Kj) (ren := []) (fz := []) ARY (by kernel_rfl) (AH BJK AM) (by
 obtain ⟨h, hp⟩ : a.l.length < 4611686018427387904 /\ ∀ i, i < a.l.length -> (gD a.l i).length < 4611686018427387904 := h
 show V3Kj a; rw [BDT]; simp [h, AP, FC, DD, CQ]; try exact hp)) _
def d4Kj : List AVal -> Heap -> Option (MKj × List (Nat × Nat) × List Nat)
 | [y, .fn _ _ _], H => match HK y H with
  | some (n, g, f) => some (⟨default, AJ n λ i => BS (g i)⟩, [], f)
  | none => none
 | _, _ => none
def A4Kj : Ann := { ann 9 [(Y3, C3Kj.spec d3Kj)] with E := [] }
def C4Kj : Ctr := { ro := [], α := MKj, xs := λ a => [.d (eIL a.l), fvKj a.q], L := λ a => [], val := λ a => .bool (a.l.all λ x => CB x), keep := λ a => [], pre := PKj }
def V4Kj (a : MKj) : Prop := BB Try.prog A4Kj F_eL (AS F_eL) (C4Kj.xs a) (AK (C4Kj.L a)) (C4Kj.val a) (C4Kj.keep a) [] []
theorem BGP (a : MKj) : (V4Kj a) = (((AJ a.l.length λ (i : Nat) => BS (AF (gD a.l i))).length = a.l.length /\ (∀ (i : Nat), i < (AJ a.l.length λ (i : Nat) => BS (AF (gD a.l i))).length -> (gD (AJ
 a.l.length λ (i : Nat) => BS (AF (gD a.l i))) i).length = (gD a.l i).length /\ ∀ (i_1 : Nat), i_1 < (gD (AJ a.l.length λ (i : Nat) => BS (AF (gD a.l i))) i).length -> gD (gD (AJ a.l.length λ (i : Nat) =>
 BS (AF (gD a.l i))) i) i_1 = gD (gD a.l i) i_1) /\ (AJ a.l.length λ (i : Nat) => BS (AF (gD a.l i))).length < 4611686018427387904 /\ ∀ (i : Nat), i < (AJ a.l.length λ (i : Nat) => BS (AF (gD a.l
 i))).length -> (gD (AJ a.l.length λ (i : Nat) => BS (AF (gD a.l i))) i).length < 4611686018427387904) /\ (a.l.all λ (x : List Int) => CB x) = !decide (BN (λ (i : Nat) => !CB (gD (AJ a.l.length λ (i :
 Nat) => BS (AF (gD a.l i))) i)) (AJ a.l.length λ (i : Nat) => BS (AF (gD a.l i))).length 0 >= 0)) := by kernel_rfl
theorem BJD (a : MKj) (h : BG (PKj a)) : FnT Try.prog n_eL (C4Kj.xs a) (AK (C4Kj.L a)) (C4Kj.val a) (C4Kj.keep a) := JK (A := A4Kj) (ren := []) (fz := []) AXQ (by kernel_rfl) (AH BEE AM) (by
 have h' : a.l.length < 4611686018427387904 /\ ∀ i, i < a.l.length -> (gD a.l i).length < 4611686018427387904 := h
 show V4Kj a; rw [BGP]; simp only [BF, eq_self, implies_true, and_self, true_and, and_true, true_implies, forall_const, decide_eq_true_eq, decide_eq_false_iff_not, Int.toNat_natCast, dSpan_eSpan, dInt_eInt, AV, BH, BJ, BC, AZ, AX, AY, Nat.zero_add, Int.zero_sub, Nat.le_eq, Nat.succ_eq_add_one, Nat.add_one_le_iff, Bool.not_eq_true', Bool.not_eq_false', rng_length, AT, AP, ge_iff_le, FC, DD, EF, CQ]
 rw [<- EO]
 exact ⟨h', rfl⟩)
theorem BHJ : AR Try.prog n_eL (C4Kj.spec d4Kj) := Ctr.spec_ok (C := C4Kj) BJD _
def LXKk (q : Ros) : List (Nat × AObj) := [(101, roB q)]
def KXKk (q : Ros) : List (Nat × HCell) := [(101, .live (roB q))]
def fvKk (q : Ros) : AVal := .fn (.func jD) [] [.bptr 101 0]
def BKk (q : Ros) : AObj := .box [fvKk q]
structure EKk where
 q : Ros
 e : Sta
structure MKk where
 q : Ros
 l : List Sta
def C1Kk : Ctr := { ro := [100, 101], α := EKk, xs := λ a => [.d (AW a.e), .bptr 100 0], L := λ a => (100, BKk a.q) :: LXKk a.q, val := λ a => .bool (!X0 a.q a.e), keep := λ a => (100, .live (BKk a.q)) :: KXKk a.q, pre := λ a => [a.e.o.length < 4611686018427387904] }
def d1Kk : List AVal -> Heap -> Option (EKk × List (Nat × Nat) × List Nat)
 | [.d d, .bptr id _], H => match H id with
  | .live (.box [.fn _ _ [.bptr j _]]) => match OT H j with
   | some q => some (⟨q, AU d⟩, [(100, id), (101, j)], [])
   | none => none
  | _ => none
 | _, _ => none
def A1Kk : Ann := { ann 8 [(jD, C_k2.spec d_k2)] with E := [100, 101] }
def V1Kk (a : EKk) : Prop := BB Try.prog A1Kk ABN (AS ABN) (C1Kk.xs a) (AK (C1Kk.L a)) (C1Kk.val a) (C1Kk.keep a) [] []
theorem BGA (a : EKk) : (V1Kk a) = (((AU (DVal.agg [BM a.e.n, AF a.e.o])).n = a.e.n /\ (AU (DVal.agg [BM a.e.n, AF a.e.o])).o.length = a.e.o.length /\ (∀ (i : Nat), i < (AU (DVal.agg [BM a.e.n, AF
 a.e.o])).o.length -> gD (AU (DVal.agg [BM a.e.n, AF a.e.o])).o i = gD a.e.o i) /\ (AJ a.q.p.length λ (i : Nat) => BS (AF (gD a.q.p i))).length = a.q.p.length /\ (∀ (i : Nat), i < (AJ a.q.p.length λ (i :
 Nat) => BS (AF (gD a.q.p i))).length -> (gD (AJ a.q.p.length λ (i : Nat) => BS (AF (gD a.q.p i))) i).length = (gD a.q.p i).length /\ ∀ (i_1 : Nat), i_1 < (gD (AJ a.q.p.length λ (i : Nat) => BS (AF (gD
 a.q.p i))) i).length -> gD (gD (AJ a.q.p.length λ (i : Nat) => BS (AF (gD a.q.p i))) i) i_1 = gD (gD a.q.p i) i_1) /\ (AJ a.q.s.length λ (i : Nat) => AU (AW (gD a.q.s i))).length = a.q.s.length /\ (∀ (i :
 Nat), i < (AJ a.q.s.length λ (i : Nat) => AU (AW (gD a.q.s i))).length -> (gD (AJ a.q.s.length λ (i : Nat) => AU (AW (gD a.q.s i))) i).n = (gD a.q.s i).n /\ (gD (AJ a.q.s.length λ (i : Nat) => AU (AW
 (gD a.q.s i))) i).o.length = (gD a.q.s i).o.length /\ ∀ (i_1 : Nat), i_1 < (gD (AJ a.q.s.length λ (i : Nat) => AU (AW (gD a.q.s i))) i).o.length -> gD (gD (AJ a.q.s.length λ (i : Nat) => AU (AW (gD a.q.s i)))
 i).o i_1 = gD (gD a.q.s i).o i_1) /\ a.q.p.length = (AJ a.q.p.length λ (i : Nat) => BS (AF (gD a.q.p i))).length /\ (∀ (i : Nat), i < a.q.p.length -> (gD a.q.p i).length = (gD (AJ a.q.p.length λ (i : Nat) => BS
 (AF (gD a.q.p i))) i).length /\ ∀ (i_1 : Nat), i_1 < (gD a.q.p i).length -> gD (gD a.q.p i) i_1 = gD (gD (AJ a.q.p.length λ (i : Nat) => BS (AF (gD a.q.p i))) i) i_1) /\ a.q.s.length = (AJ a.q.s.length λ (i :
 Nat) => AU (AW (gD a.q.s i))).length /\ (∀ (i : Nat), i < a.q.s.length -> (gD a.q.s i).n = (gD (AJ a.q.s.length λ (i : Nat) => AU (AW (gD a.q.s i))) i).n /\ (gD a.q.s i).o.length = (gD (AJ a.q.s.length λ (i :
 Nat) => AU (AW (gD a.q.s i))) i).o.length /\ ∀ (i_1 : Nat), i_1 < (gD a.q.s i).o.length -> gD (gD a.q.s i).o i_1 = gD (gD (AJ a.q.s.length λ (i : Nat) => AU (AW (gD a.q.s i))) i).o i_1) /\ (AU (DVal.agg [BM
 a.e.n, AF a.e.o])).o.length.succ.le 4611686018427387904) /\ (!X0 a.q a.e) = !X0 (Ros.mk (AJ a.q.p.length λ (i : Nat) => BS (AF (gD a.q.p i))) (AJ a.q.s.length λ (i : Nat) => AU (AW (gD a.q.s i))))
 (AU (DVal.agg [BM a.e.n, AF a.e.o])) /\ a.q.p.length = a.q.p.length /\ (∀ (i : Nat), i < a.q.p.length -> (gD a.q.p i).length = (gD a.q.p i).length /\ ∀ (i_1 : Nat), i_1 < (gD a.q.p i).length -> gD (gD a.q.p i) i_1 =
 gD (gD a.q.p i) i_1) /\ a.q.s.length = a.q.s.length /\ ∀ (i : Nat), i < a.q.s.length -> (gD a.q.s i).n = (gD a.q.s i).n /\ (gD a.q.s i).o.length = (gD a.q.s i).o.length /\ ∀ (i_1 : Nat), i_1 < (gD a.q.s i).o.length -> gD (gD
 a.q.s i).o i_1 = gD (gD a.q.s i).o i_1) := by kernel_rfl
theorem BGW : AR Try.prog Tv (C1Kk.spec d1Kk) := EX C1Kk (λ _ => A1Kk) [] [] ARG (λ _ => by kernel_rfl) (λ _ => AH BJU AM) (λ (a : EKk) h => by
 have h : a.e.o.length < 4611686018427387904 := h
 show V1Kk a; rw [BGA]; try simp [wr, AP, FC, DD, EF, CQ, h]; try omega) (λ _ => FK rfl rfl) _
def d2Kk : List AVal -> Heap -> Option (MKk × List (Nat × Nat) × List Nat)
 | [y, .fn _ _ [.bptr id _]], H => match HK y H with
  | some (n, g, f) => match H id with
   | .live (.box [.fn _ _ [.bptr j _]]) => match OT H j with
    | some q => some (⟨q, AJ n λ i => AU (g i)⟩, [(100, id), (101, j)], f)
    | none => none
   | _ => none
  | none => none
 | _, _ => none
def A2Kk (a : MKk) : Ann := { ann 19 [(Tv, C1Kk.spec d1Kk)] with E := [100, 101], loops := λ id => if id = 2 then some [{ α := Nat, dflt := 0, T := λ k => ⟨[(0, .d (Ua a.l)), (1, .fn (.func Tv) [] [.bptr 100 0]), (7, .int a.l.length), (8, .int k)], (100, .live (BKk a.q)) :: KXKk a.q⟩, inv := λ k => k <= a.l.length /\ BN (λ i => !X0 a.q (gD a.l i)) a.l.length 0 = BN (λ i => !X0 a.q (gD a.l i)) (a.l.length - k) k, meas := λ k => a.l.length - k }] else none }
def PKk (a : MKk) : List Prop := [a.l.length < 4611686018427387904 /\ ∀ i, i < a.l.length -> (gD a.l i).o.length < 4611686018427387904]
def C2Kk : Ctr := { ro := [100, 101], α := MKk, xs := λ a => [.d (Ua a.l), .fn (.func Tv) [] [.bptr 100 0]], L := λ a => (100, BKk a.q) :: LXKk a.q, val := λ a => .int (BN (λ i => !X0 a.q (gD a.l i)) a.l.length 0), keep := λ a => (100, .live (BKk a.q)) :: KXKk a.q, pre := PKk }
def V2Kk (a : MKk) : Prop := BB Try.prog (A2Kk a) AAU (AS AAU) (C2Kk.xs a) (AK (C2Kk.L a)) (C2Kk.val a) (C2Kk.keep a) [] []
abbrev AGQ (a : MKk) : Prop := a.l.length = a.l.length
abbrev V9 (a : MKk) (i : Nat) (i1 : Nat) : Int := gD (gD a.l i).o i1
abbrev AGK (a : MKk) : Prop := ∀ (i : Nat), i < a.l.length -> (gD a.l i).n = (gD a.l i).n /\ (gD a.l i).o.length = (gD a.l i).o.length /\ ∀ (i_1 : Nat), i_1 < (gD a.l i).o.length -> V9 a i i_1 = V9 a i i_1
abbrev AFV (a : MKk) : Prop := (↑a.l.length : Int) = (↑a.l.length : Int)
abbrev AFY (i : Nat) (a : MKk) : Prop := i < a.q.p.length
abbrev fB (a : MKk) (i : Nat) : Nat := (gD a.q.p i).length
abbrev ADT (i : Nat) (a : MKk) (i1 : Nat) : Prop := i < fB a i1
abbrev rW (a : MKk) (i : Nat) (i1 : Nat) : Int := gD (gD a.q.p i) i1
abbrev Yl (a : MKk) (i : Nat) : Nat := (gD a.q.s i).o.length
abbrev AGR (i : Nat) (a : MKk) (i1 : Nat) : Prop := i < Yl a i1
abbrev Vx (a : MKk) (i : Nat) (i1 : Nat) : Int := gD (gD a.q.s i).o i1
abbrev Xg (a : MKk) : Prop := a.q.p.length = a.q.p.length /\ (∀ (i : Nat), AFY i a -> fB a i = fB a i /\ ∀ (i_1 : Nat), ADT i_1 a i -> rW a i i_1 = rW a i i_1) /\ a.q.s.length = a.q.s.length /\ ∀ (i
 : Nat), i < a.q.s.length -> (gD a.q.s i).n = (gD a.q.s i).n /\ Yl a i = Yl a i /\ ∀ (i_1 : Nat), AGR i_1 a i -> Vx a i i_1 = Vx a i i_1
abbrev zL (a : MKk) (i : Nat) : Bool := !X0 a.q (gD a.l i)
abbrev mH (a : MKk) : Int := BN (λ (i : Nat) => zL a i) a.l.length 0
abbrev kY (a : MKk) (a1 : Nat) : Nat := a.l.length - a1
abbrev hG (a : Nat) (a1 : MKk) : Prop := a <= a1.l.length /\ mH a1 = BN (λ (i : Nat) => zL a1 i) (kY a1 a) a
abbrev C6 (a : Nat) (a1 : MKk) : Prop := (↑a : Int) < (↑a1.l.length : Int)
abbrev iL (a : MKk) (a1 : Nat) : Sta := AU (DVal.agg [BM (gD a.l a1).n, AF (gD a.l a1).o])
abbrev O5 (a : MKk) (a1 : Nat) : List Int := (iL a a1).o
abbrev mI (a : MKk) (a1 : Nat) : Nat := (O5 a a1).length
abbrev mP (a : MKk) : List (List Int) := AJ a.q.p.length λ (i : Nat) => BS (AF (gD a.q.p i))
abbrev jY (a : MKk) : Nat := (mP a).length
abbrev zQ (a : MKk) (i : Nat) : List Int := gD (mP a) i
abbrev mQ (a : MKk) (i : Nat) : Nat := (zQ a i).length
abbrev J7 (a : MKk) (i : Nat) (i1 : Nat) : Int := gD (zQ a i) i1
abbrev iC (a : MKk) : List Sta := AJ a.q.s.length λ (i : Nat) => AU (AW (gD a.q.s i))
abbrev kF (a : MKk) : Nat := (iC a).length
abbrev S7 (a : MKk) (i : Nat) : Sta := gD (iC a) i
abbrev M4 (a : MKk) (i : Nat) : Int := (S7 a i).n
abbrev Q8 (a : MKk) (i : Nat) : List Int := (S7 a i).o
abbrev iK (a : MKk) (i : Nat) : Nat := (Q8 a i).length
abbrev T6 (a : MKk) (i : Nat) (i1 : Nat) : Int := gD (Q8 a i) i1
theorem BDO (a : MKk) : (V2Kk a) = ((∃ (a_1 : Nat), (AGQ a /\ AGK a /\ AFV a /\ (↑a_1 : Int) = 0 /\ Xg a) /\ hG a_1 a) /\ ∀ (a_1 : Nat), hG a_1 a -> bif decide (C6 a_1 a) then ((0 <= (↑a_1 : Int) /\
 C6 a_1 a) /\ (iL a a_1).n = (gD a.l a_1).n /\ mI a a_1 = (gD a.l a_1).o.length /\ (∀ (i : Nat), i < mI a a_1 -> gD (O5 a a_1) i = V9 a a_1 i) /\ jY a = a.q.p.length /\ (∀ (i : Nat), i <
 jY a -> mQ a i = fB a i /\ ∀ (i_1 : Nat), i_1 < mQ a i -> J7 a i i_1 = rW a i i_1) /\ kF a = a.q.s.length /\ (∀ (i : Nat), i < kF a -> M4 a i = (gD a.q.s i).n /\ iK a i = Yl a
 i /\ ∀ (i_1 : Nat), i_1 < iK a i -> T6 a i i_1 = Vx a i i_1) /\ a.q.p.length = jY a /\ (∀ (i : Nat), AFY i a -> fB a i = mQ a i /\ ∀ (i_1 : Nat), ADT i_1 a i -> rW a i i_1 = J7 a i
 i_1) /\ a.q.s.length = kF a /\ (∀ (i : Nat), i < a.q.s.length -> (gD a.q.s i).n = M4 a i /\ Yl a i = iK a i /\ ∀ (i_1 : Nat), AGR i_1 a i -> Vx a i i_1 = T6 a i i_1) /\ (mI a a_1).succ.le
 4611686018427387904) /\ bif !X0 (Ros.mk (mP a) (iC a)) (iL a a_1) then mH a = (↑a_1 : Int) /\ Xg a else ∃ (a_3 : Nat), (AGQ a /\ AGK a /\ AFV a /\ (↑a_3 : Int) = IntKind.i64.wrap ((↑a_1 :
 Int) + 1) /\ Xg a) /\ hG a_3 a /\ kY a a_3 < kY a a_1 else mH a = -1 /\ Xg a) := by kernel_rfl
theorem p2Kk (a : MKk) (h : BG (PKk a)) : V2Kk a := by
 obtain ⟨h, hp⟩ : a.l.length < 4611686018427387904 /\ ∀ i, i < a.l.length -> (gD a.l i).o.length < 4611686018427387904 := h
 rw [BDO]; delta AGQ V9 AGK AFV AFY fB ADT rW Yl AGR Vx Xg zL mH kY hG C6 iL O5 mI mP jY zQ mQ J7 iC kF S7 M4 Q8 iK T6
 simp only [BF, eq_self, implies_true, and_self, true_and, and_true, true_implies, forall_const, decide_eq_true_eq, decide_eq_false_iff_not, Int.toNat_natCast, dSpan_eSpan, dInt_eInt, AV, BH, BJ, BC, AZ, AX, AY, Nat.zero_add, Int.zero_sub, Nat.le_eq, Nat.succ_eq_add_one, Nat.add_one_le_iff, Bool.not_eq_true', Bool.not_eq_false', rng_length, AT, AP, FC, DD, EF, CQ]
 refine ⟨⟨0, rfl, Nat.zero_le _, rfl⟩, λ k ⟨h1, h2⟩ => ⟨λ hlt => ?_, λ hge => ?_⟩⟩
 ·have hlt : k < a.l.length := by omega
  refine ⟨⟨by omega, hp k hlt⟩, λ hp => ?_, λ hp => ⟨k + 1, (CE (by omega)).symm, ⟨by omega, ?_⟩, by omega⟩⟩
  ·rw [h2]; exact DJ hlt (by simpa using hp)
  ·rw [h2]; exact FZ hlt (by simpa using hp)
 ·rw [h2]; exact EK (by omega)
theorem BHB : AR Try.prog AAE (C2Kk.spec d2Kk) := EX C2Kk A2Kk [] [] AOE (λ _ => by kernel_rfl) (λ _ => AH BGW AM) p2Kk (λ _ => FK rfl rfl) _
def C3Kk : Ctr := { C2Kk with val := λ (a : MKk) => .bool (decide (BN (λ i => !X0 a.q (gD a.l i)) a.l.length 0 >= 0)) }
def d3Kk : List AVal -> Heap -> Option (C3Kk.α × List (Nat × Nat) × List Nat) := d2Kk
def A3Kk : Ann := { ann 9 [(AAE, C2Kk.spec d2Kk)] with E := [100, 101] }
def V3Kk (a : MKk) : Prop := BB Try.prog A3Kk AAJ (AS AAJ) (C3Kk.xs a) (AK (C3Kk.L a)) (C3Kk.val a) (C3Kk.keep a) [] []
theorem BHF (a : MKk) : (V3Kk a) = (((AJ a.l.length λ (i : Nat) => AU (AW (gD a.l i))).length = a.l.length /\ (∀ (i : Nat), i < (AJ a.l.length λ (i : Nat) => AU (AW (gD a.l i))).length -> (gD (AJ
 a.l.length λ (i : Nat) => AU (AW (gD a.l i))) i).n = (gD a.l i).n /\ (gD (AJ a.l.length λ (i : Nat) => AU (AW (gD a.l i))) i).o.length = (gD a.l i).o.length /\ ∀ (i_1 : Nat), i_1 < (gD (AJ a.l.length λ (i :
 Nat) => AU (AW (gD a.l i))) i).o.length -> gD (gD (AJ a.l.length λ (i : Nat) => AU (AW (gD a.l i))) i).o i_1 = gD (gD a.l i).o i_1) /\ (AJ a.q.p.length λ (i : Nat) => BS (AF (gD a.q.p i))).length =
 a.q.p.length /\ (∀ (i : Nat), i < (AJ a.q.p.length λ (i : Nat) => BS (AF (gD a.q.p i))).length -> (gD (AJ a.q.p.length λ (i : Nat) => BS (AF (gD a.q.p i))) i).length = (gD a.q.p i).length /\ ∀ (i_1 : Nat),
 i_1 < (gD (AJ a.q.p.length λ (i : Nat) => BS (AF (gD a.q.p i))) i).length -> gD (gD (AJ a.q.p.length λ (i : Nat) => BS (AF (gD a.q.p i))) i) i_1 = gD (gD a.q.p i) i_1) /\ (AJ a.q.s.length λ (i : Nat) =>
 AU (AW (gD a.q.s i))).length = a.q.s.length /\ (∀ (i : Nat), i < (AJ a.q.s.length λ (i : Nat) => AU (AW (gD a.q.s i))).length -> (gD (AJ a.q.s.length λ (i : Nat) => AU (AW (gD a.q.s i))) i).n = (gD a.q.s
 i).n /\ (gD (AJ a.q.s.length λ (i : Nat) => AU (AW (gD a.q.s i))) i).o.length = (gD a.q.s i).o.length /\ ∀ (i_1 : Nat), i_1 < (gD (AJ a.q.s.length λ (i : Nat) => AU (AW (gD a.q.s i))) i).o.length -> gD (gD
 (AJ a.q.s.length λ (i : Nat) => AU (AW (gD a.q.s i))) i).o i_1 = gD (gD a.q.s i).o i_1) /\ a.q.p.length = (AJ a.q.p.length λ (i : Nat) => BS (AF (gD a.q.p i))).length /\ (∀ (i : Nat), i < a.q.p.length -> (gD
 a.q.p i).length = (gD (AJ a.q.p.length λ (i : Nat) => BS (AF (gD a.q.p i))) i).length /\ ∀ (i_1 : Nat), i_1 < (gD a.q.p i).length -> gD (gD a.q.p i) i_1 = gD (gD (AJ a.q.p.length λ (i : Nat) => BS (AF (gD
 a.q.p i))) i) i_1) /\ a.q.s.length = (AJ a.q.s.length λ (i : Nat) => AU (AW (gD a.q.s i))).length /\ (∀ (i : Nat), i < a.q.s.length -> (gD a.q.s i).n = (gD (AJ a.q.s.length λ (i : Nat) => AU (AW (gD a.q.s i)))
 i).n /\ (gD a.q.s i).o.length = (gD (AJ a.q.s.length λ (i : Nat) => AU (AW (gD a.q.s i))) i).o.length /\ ∀ (i_1 : Nat), i_1 < (gD a.q.s i).o.length -> gD (gD a.q.s i).o i_1 = gD (gD (AJ a.q.s.length λ (i : Nat) =>
 AU (AW (gD a.q.s i))) i).o i_1) /\ (AJ a.l.length λ (i : Nat) => AU (AW (gD a.l i))).length < 4611686018427387904 /\ ∀ (i : Nat), i < (AJ a.l.length λ (i : Nat) => AU (AW (gD a.l i))).length -> (gD (AJ
 a.l.length λ (i : Nat) => AU (AW (gD a.l i))) i).o.length < 4611686018427387904) /\ decide (BN (λ (i : Nat) => !X0 a.q (gD a.l i)) a.l.length 0 >= 0) = decide (BN (λ (i : Nat) => !X0 (Ros.mk (AJ a.q.p.length
 λ (i : Nat) => BS (AF (gD a.q.p i))) (AJ a.q.s.length λ (i : Nat) => AU (AW (gD a.q.s i)))) (gD (AJ a.l.length λ (i : Nat) => AU (AW (gD a.l i))) i)) (AJ a.l.length λ (i : Nat) => AU (AW (gD
 a.l i))).length 0 >= 0) /\ a.q.p.length = a.q.p.length /\ (∀ (i : Nat), i < a.q.p.length -> (gD a.q.p i).length = (gD a.q.p i).length /\ ∀ (i_1 : Nat), i_1 < (gD a.q.p i).length -> gD (gD a.q.p i) i_1 = gD (gD a.q.p i) i_1) /\
 a.q.s.length = a.q.s.length /\ ∀ (i : Nat), i < a.q.s.length -> (gD a.q.s i).n = (gD a.q.s i).n /\ (gD a.q.s i).o.length = (gD a.q.s i).o.length /\ ∀ (i_1 : Nat), i_1 < (gD a.q.s i).o.length -> gD (gD a.q.s i).o i_1 = gD (gD
 a.q.s i).o i_1) := by kernel_rfl
theorem BIU : AR Try.prog ABS (C3Kk.spec d3Kk) := Ctr.spec_ok (C := C3Kk) (λ (a : MKk) h => JK (A := A3Kk) (ren := []) (fz := []) AMG (by kernel_rfl) (AH BHB AM) (by
 obtain ⟨h, hp⟩ : a.l.length < 4611686018427387904 /\ ∀ i, i < a.l.length -> (gD a.l i).o.length < 4611686018427387904 := h
 show V3Kk a; rw [BHF]; simp [h, AP, FC, DD, CQ]; try exact hp)) _
def d4Kk : List AVal -> Heap -> Option (MKk × List (Nat × Nat) × List Nat)
 | [y, .fn _ _ [.bptr j _]], H => match HK y H with
  | some (n, g, f) => match OT H j with
   | some q => some (⟨q, AJ n λ i => AU (g i)⟩, [(101, j)], f)
   | none => none
  | none => none
 | _, _ => none
def A4Kk : Ann := { ann 9 [(ABS, C3Kk.spec d3Kk)] with E := [101] }
def C4Kk : Ctr := { ro := [101], α := MKk, xs := λ a => [.d (Ua a.l), fvKk a.q], L := λ a => LXKk a.q, val := λ a => .bool (a.l.all λ x => X0 a.q x), keep := λ a => KXKk a.q, pre := PKk }
def V4Kk (a : MKk) : Prop := BB Try.prog A4Kk F_eS (AS F_eS) (C4Kk.xs a) (AK (C4Kk.L a)) (C4Kk.val a) (C4Kk.keep a) [] []
theorem BHK (a : MKk) : (V4Kk a) = (((AJ a.l.length λ (i : Nat) => AU (AW (gD a.l i))).length = a.l.length /\ (∀ (i : Nat), i < (AJ a.l.length λ (i : Nat) => AU (AW (gD a.l i))).length -> (gD (AJ
 a.l.length λ (i : Nat) => AU (AW (gD a.l i))) i).n = (gD a.l i).n /\ (gD (AJ a.l.length λ (i : Nat) => AU (AW (gD a.l i))) i).o.length = (gD a.l i).o.length /\ ∀ (i_1 : Nat), i_1 < (gD (AJ a.l.length λ (i :
 Nat) => AU (AW (gD a.l i))) i).o.length -> gD (gD (AJ a.l.length λ (i : Nat) => AU (AW (gD a.l i))) i).o i_1 = gD (gD a.l i).o i_1) /\ (AJ a.q.p.length λ (i : Nat) => BS (AF (gD a.q.p i))).length =
 a.q.p.length /\ (∀ (i : Nat), i < (AJ a.q.p.length λ (i : Nat) => BS (AF (gD a.q.p i))).length -> (gD (AJ a.q.p.length λ (i : Nat) => BS (AF (gD a.q.p i))) i).length = (gD a.q.p i).length /\ ∀ (i_1 : Nat),
 i_1 < (gD (AJ a.q.p.length λ (i : Nat) => BS (AF (gD a.q.p i))) i).length -> gD (gD (AJ a.q.p.length λ (i : Nat) => BS (AF (gD a.q.p i))) i) i_1 = gD (gD a.q.p i) i_1) /\ (AJ a.q.s.length λ (i : Nat) =>
 AU (AW (gD a.q.s i))).length = a.q.s.length /\ (∀ (i : Nat), i < (AJ a.q.s.length λ (i : Nat) => AU (AW (gD a.q.s i))).length -> (gD (AJ a.q.s.length λ (i : Nat) => AU (AW (gD a.q.s i))) i).n = (gD a.q.s
 i).n /\ (gD (AJ a.q.s.length λ (i : Nat) => AU (AW (gD a.q.s i))) i).o.length = (gD a.q.s i).o.length /\ ∀ (i_1 : Nat), i_1 < (gD (AJ a.q.s.length λ (i : Nat) => AU (AW (gD a.q.s i))) i).o.length -> gD (gD
 (AJ a.q.s.length λ (i : Nat) => AU (AW (gD a.q.s i))) i).o i_1 = gD (gD a.q.s i).o i_1) /\ a.q.p.length = (AJ a.q.p.length λ (i : Nat) => BS (AF (gD a.q.p i))).length /\ (∀ (i : Nat), i < a.q.p.length -> (gD
 a.q.p i).length = (gD (AJ a.q.p.length λ (i : Nat) => BS (AF (gD a.q.p i))) i).length /\ ∀ (i_1 : Nat), i_1 < (gD a.q.p i).length -> gD (gD a.q.p i) i_1 = gD (gD (AJ a.q.p.length λ (i : Nat) => BS (AF (gD
 a.q.p i))) i) i_1) /\ a.q.s.length = (AJ a.q.s.length λ (i : Nat) => AU (AW (gD a.q.s i))).length /\ (∀ (i : Nat), i < a.q.s.length -> (gD a.q.s i).n = (gD (AJ a.q.s.length λ (i : Nat) => AU (AW (gD a.q.s i)))
 i).n /\ (gD a.q.s i).o.length = (gD (AJ a.q.s.length λ (i : Nat) => AU (AW (gD a.q.s i))) i).o.length /\ ∀ (i_1 : Nat), i_1 < (gD a.q.s i).o.length -> gD (gD a.q.s i).o i_1 = gD (gD (AJ a.q.s.length λ (i : Nat) =>
 AU (AW (gD a.q.s i))) i).o i_1) /\ (AJ a.l.length λ (i : Nat) => AU (AW (gD a.l i))).length < 4611686018427387904 /\ ∀ (i : Nat), i < (AJ a.l.length λ (i : Nat) => AU (AW (gD a.l i))).length -> (gD (AJ
 a.l.length λ (i : Nat) => AU (AW (gD a.l i))) i).o.length < 4611686018427387904) /\ (a.l.all λ (x : Sta) => X0 a.q x) = !decide (BN (λ (i : Nat) => !X0 (Ros.mk (AJ a.q.p.length λ (i : Nat) => BS (AF
 (gD a.q.p i))) (AJ a.q.s.length λ (i : Nat) => AU (AW (gD a.q.s i)))) (gD (AJ a.l.length λ (i : Nat) => AU (AW (gD a.l i))) i)) (AJ a.l.length λ (i : Nat) => AU (AW (gD a.l i))).length 0 >= 0) /\
 a.q.p.length = a.q.p.length /\ (∀ (i : Nat), i < a.q.p.length -> (gD a.q.p i).length = (gD a.q.p i).length /\ ∀ (i_1 : Nat), i_1 < (gD a.q.p i).length -> gD (gD a.q.p i) i_1 = gD (gD a.q.p i) i_1) /\ a.q.s.length =
 a.q.s.length /\ ∀ (i : Nat), i < a.q.s.length -> (gD a.q.s i).n = (gD a.q.s i).n /\ (gD a.q.s i).o.length = (gD a.q.s i).o.length /\ ∀ (i_1 : Nat), i_1 < (gD a.q.s i).o.length -> gD (gD a.q.s i).o i_1 = gD (gD a.q.s i).o i_1)
 := by kernel_rfl
theorem BDI (a : MKk) (h : BG (PKk a)) : FnT Try.prog n_eS (C4Kk.xs a) (AK (C4Kk.L a)) (C4Kk.val a) (C4Kk.keep a) := JK (A := A4Kk) (ren := []) (fz := []) AYA (by kernel_rfl) (AH BIU AM) (by
 have h' : a.l.length < 4611686018427387904 /\ ∀ i, i < a.l.length -> (gD a.l i).o.length < 4611686018427387904 := h
 show V4Kk a; rw [BHK]; simp only [BF, eq_self, implies_true, and_self, true_and, and_true, true_implies, forall_const, decide_eq_true_eq, decide_eq_false_iff_not, Int.toNat_natCast, dSpan_eSpan, dInt_eInt, AV, BH, BJ, BC, AZ, AX, AY, Nat.zero_add, Int.zero_sub, Nat.le_eq, Nat.succ_eq_add_one, Nat.add_one_le_iff, Bool.not_eq_true', Bool.not_eq_false', rng_length, AT, AP, ge_iff_le, FC, DD, EF, CQ]
 rw [<- EO]
 exact ⟨h', rfl⟩)
theorem BJP : AR Try.prog n_eS (C4Kk.spec d4Kk) := Ctr.spec_ok (C := C4Kk) BDI _
def fvKm (q : One) : AVal := .fn (.func mL) [] []
def BKm (q : One) : AObj := .box [fvKm q]
structure EKm where
 q : One
 e : Sta
structure MKm where
 q : One
 l : List Sta
def C1Km : Ctr := { ro := [100], α := EKm, xs := λ a => [.d (AW a.e), .bptr 100 0], L := λ a => (100, BKm a.q) :: [], val := λ a => .bool (!CB a.e.o), keep := λ a => (100, .live (BKm a.q)) :: [], pre := λ a => [a.e.o.length < 4611686018427387904] }
def d1Km : List AVal -> Heap -> Option (EKm × List (Nat × Nat) × List Nat)
 | [.d d, .bptr id _], H => some (⟨default, AU d⟩, [(100, id)], [])
 | _, _ => none
def A1Km : Ann := { ann 8 [(mL, C_k3.spec d_k3)] with E := [100] }
def V1Km (a : EKm) : Prop := BB Try.prog A1Km ABN (AS ABN) (C1Km.xs a) (AK (C1Km.L a)) (C1Km.val a) (C1Km.keep a) [] []
theorem BIY (a : EKm) : (V1Km a) = (((AU (DVal.agg [BM a.e.n, AF a.e.o])).n = a.e.n /\ (AU (DVal.agg [BM a.e.n, AF a.e.o])).o.length = a.e.o.length /\ (∀ (i : Nat), i < (AU (DVal.agg [BM a.e.n, AF
 a.e.o])).o.length -> gD (AU (DVal.agg [BM a.e.n, AF a.e.o])).o i = gD a.e.o i) /\ (AU (DVal.agg [BM a.e.n, AF a.e.o])).o.length.succ.le 4611686018427387904) /\ (!CB a.e.o) = !CB (AU (DVal.agg [BM
 a.e.n, AF a.e.o])).o) := by kernel_rfl
theorem BIK : AR Try.prog Tv (C1Km.spec d1Km) := EX C1Km (λ _ => A1Km) [] [] ARG (λ _ => by kernel_rfl) (λ _ => AH BDY AM) (λ (a : EKm) h => by
 have h : a.e.o.length < 4611686018427387904 := h
 show V1Km a; rw [BIY]; try simp [wr, AP, FC, DD, EF, CQ, h]; try omega) (λ _ => FK rfl rfl) _
def d2Km : List AVal -> Heap -> Option (MKm × List (Nat × Nat) × List Nat)
 | [y, .fn _ _ [.bptr id _]], H => match HK y H with
  | some (n, g, f) => some (⟨default, AJ n λ i => AU (g i)⟩, [(100, id)], f)
  | none => none
 | _, _ => none
def A2Km (a : MKm) : Ann := { ann 19 [(Tv, C1Km.spec d1Km)] with E := [100], loops := λ id => if id = 2 then some [{ α := Nat, dflt := 0, T := λ k => ⟨[(0, .d (Ua a.l)), (1, .fn (.func Tv) [] [.bptr 100 0]), (7, .int a.l.length), (8, .int k)], (100, .live (BKm a.q)) :: []⟩, inv := λ k => k <= a.l.length /\ BN (λ i => !CB (gD a.l i).o) a.l.length 0 = BN (λ i => !CB (gD a.l i).o) (a.l.length - k) k, meas := λ k => a.l.length - k }] else none }
def PKm (a : MKm) : List Prop := [a.l.length < 4611686018427387904 /\ ∀ i, i < a.l.length -> (gD a.l i).o.length < 4611686018427387904]
def C2Km : Ctr := { ro := [100], α := MKm, xs := λ a => [.d (Ua a.l), .fn (.func Tv) [] [.bptr 100 0]], L := λ a => (100, BKm a.q) :: [], val := λ a => .int (BN (λ i => !CB (gD a.l i).o) a.l.length 0), keep := λ a => (100, .live (BKm a.q)) :: [], pre := PKm }
def V2Km (a : MKm) : Prop := BB Try.prog (A2Km a) AAU (AS AAU) (C2Km.xs a) (AK (C2Km.L a)) (C2Km.val a) (C2Km.keep a) [] []
theorem BEJ (a : MKm) : (V2Km a) = ((∃ (a_1 : Nat), (a.l.length = a.l.length /\ (∀ (i : Nat), i < a.l.length -> (gD a.l i).n = (gD a.l i).n /\ (gD a.l i).o.length = (gD a.l i).o.length /\ ∀ (i_1 : Nat), i_1 < (gD a.l
 i).o.length -> gD (gD a.l i).o i_1 = gD (gD a.l i).o i_1) /\ (↑a.l.length : Int) = (↑a.l.length : Int) /\ (↑a_1 : Int) = 0) /\ a_1 <= a.l.length /\ BN (λ (i : Nat) => !CB (gD a.l i).o) a.l.length 0 = BN (λ (i : Nat)
 => !CB (gD a.l i).o) (a.l.length - a_1) a_1) /\ ∀ (a_1 : Nat), a_1 <= a.l.length /\ BN (λ (i : Nat) => !CB (gD a.l i).o) a.l.length 0 = BN (λ (i : Nat) => !CB (gD a.l i).o) (a.l.length - a_1) a_1 -> bif decide
 ((↑a_1 : Int) < (↑a.l.length : Int)) then ((0 <= (↑a_1 : Int) /\ (↑a_1 : Int) < (↑a.l.length : Int)) /\ (AU (DVal.agg [BM (gD a.l a_1).n, AF (gD a.l a_1).o])).n = (gD a.l a_1).n /\ (AU (DVal.agg [BM (gD a.l
 a_1).n, AF (gD a.l a_1).o])).o.length = (gD a.l a_1).o.length /\ (∀ (i : Nat), i < (AU (DVal.agg [BM (gD a.l a_1).n, AF (gD a.l a_1).o])).o.length -> gD (AU (DVal.agg [BM (gD a.l a_1).n, AF (gD a.l
 a_1).o])).o i = gD (gD a.l a_1).o i) /\ (AU (DVal.agg [BM (gD a.l a_1).n, AF (gD a.l a_1).o])).o.length.succ.le 4611686018427387904) /\ bif !CB (AU (DVal.agg [BM (gD a.l a_1).n, AF (gD a.l a_1).o])).o
 then BN (λ (i : Nat) => !CB (gD a.l i).o) a.l.length 0 = (↑a_1 : Int) else ∃ (a_3 : Nat), (a.l.length = a.l.length /\ (∀ (i : Nat), i < a.l.length -> (gD a.l i).n = (gD a.l i).n /\ (gD a.l i).o.length = (gD a.l
 i).o.length /\ ∀ (i_1 : Nat), i_1 < (gD a.l i).o.length -> gD (gD a.l i).o i_1 = gD (gD a.l i).o i_1) /\ (↑a.l.length : Int) = (↑a.l.length : Int) /\ (↑a_3 : Int) = IntKind.i64.wrap ((↑a_1 : Int) + 1)) /\ (a_3 <= a.l.length /\
 BN (λ (i : Nat) => !CB (gD a.l i).o) a.l.length 0 = BN (λ (i : Nat) => !CB (gD a.l i).o) (a.l.length - a_3) a_3) /\ a.l.length - a_3 < a.l.length - a_1 else BN (λ (i : Nat) => !CB (gD a.l i).o)
 a.l.length 0 = -1) := by kernel_rfl
theorem p2Km (a : MKm) (h : BG (PKm a)) : V2Km a := by
 obtain ⟨h, hp⟩ : a.l.length < 4611686018427387904 /\ ∀ i, i < a.l.length -> (gD a.l i).o.length < 4611686018427387904 := h
 rw [BEJ]
 simp only [BF, eq_self, implies_true, and_self, true_and, and_true, true_implies, forall_const, decide_eq_true_eq, decide_eq_false_iff_not, Int.toNat_natCast, dSpan_eSpan, dInt_eInt, AV, BH, BJ, BC, AZ, AX, AY, Nat.zero_add, Int.zero_sub, Nat.le_eq, Nat.succ_eq_add_one, Nat.add_one_le_iff, Bool.not_eq_true', Bool.not_eq_false', rng_length, AT, AP, FC, DD, EF, CQ]
 refine ⟨⟨0, rfl, Nat.zero_le _, rfl⟩, λ k ⟨h1, h2⟩ => ⟨λ hlt => ?_, λ hge => ?_⟩⟩
 ·have hlt : k < a.l.length := by omega
  refine ⟨⟨by omega, hp k hlt⟩, λ hp => ?_, λ hp => ⟨k + 1, (CE (by omega)).symm, ⟨by omega, ?_⟩, by omega⟩⟩
  ·rw [h2]; exact DJ hlt (by simpa using hp)
  ·rw [h2]; exact FZ hlt (by simpa using hp)
 ·rw [h2]; exact EK (by omega)
theorem BJR : AR Try.prog AAE (C2Km.spec d2Km) := EX C2Km A2Km [] [] AOE (λ _ => by kernel_rfl) (λ _ => AH BIK AM) p2Km (λ _ => FK rfl rfl) _
def C3Km : Ctr := { C2Km with val := λ (a : MKm) => .bool (decide (BN (λ i => !CB (gD a.l i).o) a.l.length 0 >= 0)) }
def d3Km : List AVal -> Heap -> Option (C3Km.α × List (Nat × Nat) × List Nat) := d2Km
def A3Km : Ann := { ann 9 [(AAE, C2Km.spec d2Km)] with E := [100] }
def V3Km (a : MKm) : Prop := BB Try.prog A3Km AAJ (AS AAJ) (C3Km.xs a) (AK (C3Km.L a)) (C3Km.val a) (C3Km.keep a) [] []
theorem BEB (a : MKm) : (V3Km a) = (((AJ a.l.length λ (i : Nat) => AU (AW (gD a.l i))).length = a.l.length /\ (∀ (i : Nat), i < (AJ a.l.length λ (i : Nat) => AU (AW (gD a.l i))).length -> (gD (AJ
 a.l.length λ (i : Nat) => AU (AW (gD a.l i))) i).n = (gD a.l i).n /\ (gD (AJ a.l.length λ (i : Nat) => AU (AW (gD a.l i))) i).o.length = (gD a.l i).o.length /\ ∀ (i_1 : Nat), i_1 < (gD (AJ a.l.length λ (i :
 Nat) => AU (AW (gD a.l i))) i).o.length -> gD (gD (AJ a.l.length λ (i : Nat) => AU (AW (gD a.l i))) i).o i_1 = gD (gD a.l i).o i_1) /\ (AJ a.l.length λ (i : Nat) => AU (AW (gD a.l i))).length <
 4611686018427387904 /\ ∀ (i : Nat), i < (AJ a.l.length λ (i : Nat) => AU (AW (gD a.l i))).length -> (gD (AJ a.l.length λ (i : Nat) => AU (AW (gD a.l i))) i).o.length < 4611686018427387904) /\ decide (BN (fun
 (i : Nat) => !CB (gD a.l i).o) a.l.length 0 >= 0) = decide (BN (λ (i : Nat) => !CB (gD (AJ a.l.length λ (i : Nat) => AU (AW (gD a.l i))) i).o) (AJ a.l.length λ (i : Nat) => AU (AW (gD a.l
 i))).length 0 >= 0)) := by kernel_rfl
theorem BHO : AR Try.prog ABS (C3Km.spec d3Km) := Ctr.spec_ok (C := C3Km) (λ (a : MKm) h => JK (A := A3Km) (ren := []) (fz := []) AMG (by kernel_rfl) (AH BJR AM) (by
 obtain ⟨h, hp⟩ : a.l.length < 4611686018427387904 /\ ∀ i, i < a.l.length -> (gD a.l i).o.length < 4611686018427387904 := h
 show V3Km a; rw [BEB]; simp [h, AP, FC, DD, CQ]; try exact hp)) _
def d4Km : List AVal -> Heap -> Option (MKm × List (Nat × Nat) × List Nat)
 | [y, .fn _ _ _], H => match HK y H with
  | some (n, g, f) => some (⟨default, AJ n λ i => AU (g i)⟩, [], f)
  | none => none
 | _, _ => none
def A4Km : Ann := { ann 9 [(ABS, C3Km.spec d3Km)] with E := [] }
def C4Km : Ctr := { ro := [], α := MKm, xs := λ a => [.d (Ua a.l), fvKm a.q], L := λ a => [], val := λ a => .bool (a.l.all λ x => CB x.o), keep := λ a => [], pre := PKm }
def V4Km (a : MKm) : Prop := BB Try.prog A4Km F_eS (AS F_eS) (C4Km.xs a) (AK (C4Km.L a)) (C4Km.val a) (C4Km.keep a) [] []
theorem BFT (a : MKm) : (V4Km a) = (((AJ a.l.length λ (i : Nat) => AU (AW (gD a.l i))).length = a.l.length /\ (∀ (i : Nat), i < (AJ a.l.length λ (i : Nat) => AU (AW (gD a.l i))).length -> (gD (AJ
 a.l.length λ (i : Nat) => AU (AW (gD a.l i))) i).n = (gD a.l i).n /\ (gD (AJ a.l.length λ (i : Nat) => AU (AW (gD a.l i))) i).o.length = (gD a.l i).o.length /\ ∀ (i_1 : Nat), i_1 < (gD (AJ a.l.length λ (i :
 Nat) => AU (AW (gD a.l i))) i).o.length -> gD (gD (AJ a.l.length λ (i : Nat) => AU (AW (gD a.l i))) i).o i_1 = gD (gD a.l i).o i_1) /\ (AJ a.l.length λ (i : Nat) => AU (AW (gD a.l i))).length <
 4611686018427387904 /\ ∀ (i : Nat), i < (AJ a.l.length λ (i : Nat) => AU (AW (gD a.l i))).length -> (gD (AJ a.l.length λ (i : Nat) => AU (AW (gD a.l i))) i).o.length < 4611686018427387904) /\ (a.l.all λ (x :
 Sta) => CB x.o) = !decide (BN (λ (i : Nat) => !CB (gD (AJ a.l.length λ (i : Nat) => AU (AW (gD a.l i))) i).o) (AJ a.l.length λ (i : Nat) => AU (AW (gD a.l i))).length 0 >= 0)) := by kernel_rfl
theorem BIX (a : MKm) (h : BG (PKm a)) : FnT Try.prog n_eS (C4Km.xs a) (AK (C4Km.L a)) (C4Km.val a) (C4Km.keep a) := JK (A := A4Km) (ren := []) (fz := []) AYA (by kernel_rfl) (AH BHO AM) (by
 have h' : a.l.length < 4611686018427387904 /\ ∀ i, i < a.l.length -> (gD a.l i).o.length < 4611686018427387904 := h
 show V4Km a; rw [BFT]; simp only [BF, eq_self, implies_true, and_self, true_and, and_true, true_implies, forall_const, decide_eq_true_eq, decide_eq_false_iff_not, Int.toNat_natCast, dSpan_eSpan, dInt_eInt, AV, BH, BJ, BC, AZ, AX, AY, Nat.zero_add, Int.zero_sub, Nat.le_eq, Nat.succ_eq_add_one, Nat.add_one_le_iff, Bool.not_eq_true', Bool.not_eq_false', rng_length, AT, AP, ge_iff_le, FC, DD, EF, CQ]
 rw [<- EO]
 exact ⟨h', rfl⟩)
theorem BJW : AR Try.prog n_eS (C4Km.spec d4Km) := Ctr.spec_ok (C := C4Km) BIX _
end Go.Bal
