/- Package chart: every pair. Printed by gench2.py. -/
import Derived.Test.YtdbjalgfomknhaaChG2
set_option linter.unusedVariables false
set_option linter.unusedSimpArgs false
namespace Go.Bal
open Go Go.Sym Go.Proofs
def LXPp (q : Dk) : List (Nat × AObj) := [(101, dkB q 102), (102, dkM q)]
def KXPp (q : Dk) : List (Nat × HCell) := [(101, .live (dkB q 102)), (102, .live (dkM q))]
def fvPp (q : Dk) : AVal := .fn (.func BPU) [.bptr 101 0] []
def BPp (q : Dk) : AObj := .box [fvPp q]
structure EPp where
 q : Dk
 e : Pr
structure MPp where
 q : Dk
 l : List Pr
def C1Pp : Ctr := { ro := [100, 101, 102], α := EPp, xs := λ a => [.d (ePr a.e), .bptr 100 0], L := λ a => (100, BPp a.q) :: LXPp a.q, val := λ a => .bool (!HX a.q.c a.e), keep := λ a => (100, .live (BPp a.q)) :: KXPp a.q, pre := λ a => [a.q.c.ns.length < 1073741824 /\ True] }
def d1Pp : List AVal -> Heap -> Option (EPp × List (Nat × Nat) × List Nat)
 | [.d d, .bptr id _], H => match H id with
  | .live (.box [.fn _ [.bptr j _] _]) => match eY H j with
   | some (q, m) => some (⟨q, dPr d⟩, [(100, id), (101, j), (102, m)], [])
   | none => none
  | _ => none
 | _, _ => none
def A1Pp : Ann := { ann 8 [(BPU, C_pair.spec dDkP)] with E := [100, 101, 102] }
def V1Pp (a : EPp) : Prop := AZ Try.prog A1Pp CKQ (AL CKQ) (C1Pp.xs a) (AG (C1Pp.L a)) (C1Pp.val a) (C1Pp.keep a) [] []
abbrev BVV (a : EPp) : Prop := a.q.c.p.lo = a.q.c.p.lo
abbrev BLU (a : EPp) : Prop := a.q.c.p.hi = a.q.c.p.hi
abbrev BSM (a : EPp) : Prop := a.q.c.base = a.q.c.base
abbrev BOJ (a : EPp) : Prop := a.q.c.scale = a.q.c.scale
abbrev BMN (a : EPp) : Prop := a.q.c.off = a.q.c.off
abbrev BOR (a : EPp) : List Mk := AE a.q.c.ms.length λ (i : Nat) => gD a.q.c.ms i
abbrev BPP (a : EPp) : Nat := (BOR a).length
abbrev BZV (a : EPp) (i : Nat) : Mk := gD (BOR a) i
abbrev BZW (a : EPp) (i : Nat) : Int := (BZV a i).pl
abbrev CAD (a : EPp) (i : Nat) : Int := (BZV a i).ht
abbrev Zk (a : EPp) : List Nt := AE a.q.c.ns.length λ (i : Nat) => gD a.q.c.ns i
abbrev vY (a : EPp) : Nat := (Zk a).length
abbrev APE (a : EPp) (i : Nat) : Nt := gD (Zk a) i
abbrev BNV (a : EPp) (i : Nat) : Int := (APE a i).mi
abbrev BUS (a : EPp) (i : Nat) : Span := (APE a i).t
abbrev BSL (a : EPp) (i : Nat) : Int := (BUS a i).lo
abbrev xD (a : EPp) (i : Nat) : Int := (gD a.q.c.ns i).t.lo
abbrev BTP (a : EPp) (i : Nat) : Int := (BUS a i).hi
abbrev H6 (a : EPp) (i : Nat) : Int := (gD a.q.c.ns i).t.hi
abbrev BPG (a : EPp) (i : Nat) : Span := (APE a i).s
abbrev BTQ (a : EPp) (i : Nat) : Int := (BPG a i).lo
abbrev B5 (a : EPp) (i : Nat) : Int := (gD a.q.c.ns i).s.lo
abbrev BMX (a : EPp) (i : Nat) : Int := (BPG a i).hi
abbrev xF (a : EPp) (i : Nat) : Int := (gD a.q.c.ns i).s.hi
abbrev AOE (a : EPp) : Prop := ∀ (i : Nat), i < 40 -> a.q.sp i = a.q.sp i
abbrev BOY (a : EPp) (n : Int) : Bool := hasN (Zk a) n
abbrev AOM (a : EPp) : Prop := ∀ (n : Int), a.q.st n = a.q.st n
abbrev AOX (a : EPp) (n : Int) : Nt := ntOf (Zk a) n
abbrev BTD (a : EPp) (n : Int) : Int := (AOX a n).mi
abbrev BLS (a : EPp) (n : Int) : Span := (AOX a n).t
abbrev BPD (a : EPp) (n : Int) : Int := (BLS a n).lo
abbrev BPQ (a : EPp) (n : Int) : Int := (BLS a n).hi
abbrev BND (a : EPp) (n : Int) : Span := (AOX a n).s
abbrev BTU (a : EPp) (n : Int) : Int := (BND a n).lo
abbrev BOZ (a : EPp) (n : Int) : Int := (BND a n).hi
abbrev BVM (i : Nat) (a : EPp) : Prop := i < a.q.c.ms.length
abbrev BQQ (i : Nat) (a : EPp) : Prop := i < a.q.c.ns.length
theorem DAN (a : EPp) : (V1Pp a) = ((a.e.a = a.e.a /\ a.e.b = a.e.b /\ BVV a /\ BLU a /\ BSM a /\ BOJ a /\ BMN a /\ BPP a = a.q.c.ms.length /\ (∀ (i : Nat), i < BPP a -> BZW a i = (gD a.q.c.ms i).pl /\
 CAD a i = (gD a.q.c.ms i).ht) /\ vY a = a.q.c.ns.length /\ (∀ (i : Nat), i < vY a -> BNV a i = (gD a.q.c.ns i).mi /\ BSL a i = xD a i /\ BTP a i = H6 a i /\ BTQ a i = B5 a i /\
 BMX a i = xF a i) /\ AOE a /\ AT = AT /\ (∀ (n : Int), BOY a n = hasN a.q.c.ns n) /\ AOM a /\ (∀ (n : Int), BTD a n = (ntOf a.q.c.ns n).mi /\ BPD a n = (ntOf a.q.c.ns n).t.lo /\ BPQ a n =
 (ntOf a.q.c.ns n).t.hi /\ BTU a n = (ntOf a.q.c.ns n).s.lo /\ BOZ a n = (ntOf a.q.c.ns n).s.hi) /\ BVV a /\ BLU a /\ BSM a /\ BOJ a /\ BMN a /\ a.q.c.ms.length = BPP a /\ (∀ (i : Nat), BVM i a -> (gD
 a.q.c.ms i).pl = BZW a i /\ (gD a.q.c.ms i).ht = CAD a i) /\ a.q.c.ns.length = vY a /\ (∀ (i : Nat), BQQ i a -> (gD a.q.c.ns i).mi = BNV a i /\ xD a i = BSL a i /\ H6 a i = BTP a i /\
 B5 a i = BTQ a i /\ xF a i = BMX a i) /\ AOE a /\ AT = AT /\ (∀ (n : Int), hasN a.q.c.ns n = BOY a n) /\ AOM a /\ (∀ (n : Int), (ntOf a.q.c.ns n).mi = BTD a n /\ (ntOf a.q.c.ns n).t.lo =
 BPD a n /\ (ntOf a.q.c.ns n).t.hi = BPQ a n /\ (ntOf a.q.c.ns n).s.lo = BTU a n /\ (ntOf a.q.c.ns n).s.hi = BOZ a n) /\ vY a < 1073741824 /\ True) /\ (!HX a.q.c a.e) = !HX (Cht.mk a.q.c.p a.q.c.base
 a.q.c.scale a.q.c.off (BOR a) (Zk a)) a.e /\ BVV a /\ BLU a /\ BSM a /\ BOJ a /\ BMN a /\ a.q.c.ms.length = a.q.c.ms.length /\ (∀ (i : Nat), BVM i a -> (gD a.q.c.ms i).pl = (gD a.q.c.ms i).pl /\ (gD
 a.q.c.ms i).ht = (gD a.q.c.ms i).ht) /\ a.q.c.ns.length = a.q.c.ns.length /\ (∀ (i : Nat), BQQ i a -> (gD a.q.c.ns i).mi = (gD a.q.c.ns i).mi /\ xD a i = xD a i /\ H6 a i = H6 a i /\ B5 a i =
 B5 a i /\ xF a i = xF a i) /\ AOE a /\ AT = AT /\ (∀ (n : Int), hasN a.q.c.ns n = hasN a.q.c.ns n) /\ AOM a /\ ∀ (n : Int), (ntOf a.q.c.ns n).mi = (ntOf a.q.c.ns n).mi /\ (ntOf a.q.c.ns n).t.lo = (ntOf
 a.q.c.ns n).t.lo /\ (ntOf a.q.c.ns n).t.hi = (ntOf a.q.c.ns n).t.hi /\ (ntOf a.q.c.ns n).s.lo = (ntOf a.q.c.ns n).s.lo /\ (ntOf a.q.c.ns n).s.hi = (ntOf a.q.c.ns n).s.hi) := by kernel_rfl
theorem DAK : AM Try.prog BYM (C1Pp.spec d1Pp) := LF C1Pp (λ _ => A1Pp) [] [] CXK (λ _ => by kernel_rfl) (λ _ => AC CRD AJ) (λ (a : EPp) h => by
 have h : a.q.c.ns.length < 1073741824 := (show a.q.c.ns.length < 1073741824 /\ True from h).1
 show V1Pp a; rw [DAN]; delta BVV BLU BSM BOJ BMN BOR BPP BZV BZW CAD Zk vY APE BNV BUS BSL xD BTP H6 BPG BTQ B5 BMX xF AOE BOY AOM AOX BTD BLS BPD BPQ BND BTU BOZ BVM BQQ; simp [wr, HW, h, BZ]) (λ _ => NP rfl rfl) _
def d2Pp : List AVal -> Heap -> Option (MPp × List (Nat × Nat) × List Nat)
 | [y, .fn _ _ [.bptr id _]], H => match wI y H with
  | some (n, g, f) => match H id with
   | .live (.box [.fn _ [.bptr j _] _]) => match eY H j with
    | some (q, m) => some (⟨q, AE n λ i => dPr (g i)⟩, [(100, id), (101, j), (102, m)], f)
    | none => none
   | _ => none
  | none => none
 | _, _ => none
def A2Pp (a : MPp) : Ann := { ann 19 [(BYM, C1Pp.spec d1Pp)] with E := [100, 101, 102], loops := λ id => if id = 2 then some [{ α := Nat, dflt := 0, T := λ k => ⟨[(0, .d (Cf a.l)), (1, .fn (.func BYM) [] [.bptr 100 0]), (7, .int a.l.length), (8, .int k)], (100, .live (BPp a.q)) :: KXPp a.q⟩, inv := λ k => k <= a.l.length /\ HI (λ i => !HX a.q.c (gD a.l i)) a.l.length 0 = HI (λ i => !HX a.q.c (gD a.l i)) (a.l.length - k) k, meas := λ k => a.l.length - k }] else none }
def PPp (a : MPp) : List Prop := [a.l.length < 4611686018427387904 /\ a.q.c.ns.length < 1073741824]
def C2Pp : Ctr := { ro := [100, 101, 102], α := MPp, xs := λ a => [.d (Cf a.l), .fn (.func BYM) [] [.bptr 100 0]], L := λ a => (100, BPp a.q) :: LXPp a.q, val := λ a => .int (HI (λ i => !HX a.q.c (gD a.l i)) a.l.length 0), keep := λ a => (100, .live (BPp a.q)) :: KXPp a.q, pre := PPp }
def V2Pp (a : MPp) : Prop := AZ Try.prog (A2Pp a) CNL (AL CNL) (C2Pp.xs a) (AG (C2Pp.L a)) (C2Pp.val a) (C2Pp.keep a) [] []
abbrev BZZ (a : MPp) : Prop := a.l.length = a.l.length
abbrev CBT (a : MPp) (i : Nat) : Prop := (gD a.l i).a = (gD a.l i).a
abbrev BZP (a : MPp) (i : Nat) : Prop := (gD a.l i).b = (gD a.l i).b
abbrev CBM (a : MPp) : Prop := ∀ (i : Nat), i < a.l.length -> CBT a i /\ BZP a i
abbrev CAS (a : MPp) : Prop := (↑a.l.length : Int) = (↑a.l.length : Int)
abbrev BMZ (a : MPp) : Prop := a.q.c.p.lo = a.q.c.p.lo
abbrev BQH (a : MPp) : Prop := a.q.c.p.hi = a.q.c.p.hi
abbrev BQP (a : MPp) : Prop := a.q.c.base = a.q.c.base
abbrev BQC (a : MPp) : Prop := a.q.c.scale = a.q.c.scale
abbrev BVJ (a : MPp) : Prop := a.q.c.off = a.q.c.off
abbrev BUG (i : Nat) (a : MPp) : Prop := i < a.q.c.ms.length
abbrev BUC (i : Nat) (a : MPp) : Prop := i < a.q.c.ns.length
abbrev C6 (a : MPp) (i : Nat) : Int := (gD a.q.c.ns i).t.lo
abbrev uE (a : MPp) (i : Nat) : Int := (gD a.q.c.ns i).t.hi
abbrev uY (a : MPp) (i : Nat) : Int := (gD a.q.c.ns i).s.lo
abbrev uC (a : MPp) (i : Nat) : Int := (gD a.q.c.ns i).s.hi
abbrev AMV (a : MPp) : Prop := ∀ (i : Nat), i < 40 -> a.q.sp i = a.q.sp i
abbrev ANM (a : MPp) : Prop := ∀ (n : Int), a.q.st n = a.q.st n
abbrev yK (a : MPp) : Prop := BMZ a /\ BQH a /\ BQP a /\ BQC a /\ BVJ a /\ a.q.c.ms.length = a.q.c.ms.length /\ (∀ (i : Nat), BUG i a -> (gD a.q.c.ms i).pl = (gD a.q.c.ms i).pl /\ (gD a.q.c.ms i).ht = (gD
 a.q.c.ms i).ht) /\ a.q.c.ns.length = a.q.c.ns.length /\ (∀ (i : Nat), BUC i a -> (gD a.q.c.ns i).mi = (gD a.q.c.ns i).mi /\ C6 a i = C6 a i /\ uE a i = uE a i /\ uY a i = uY a i /\ uC a i
 = uC a i) /\ AMV a /\ AT = AT /\ (∀ (n : Int), hasN a.q.c.ns n = hasN a.q.c.ns n) /\ ANM a /\ ∀ (n : Int), (ntOf a.q.c.ns n).mi = (ntOf a.q.c.ns n).mi /\ (ntOf a.q.c.ns n).t.lo = (ntOf a.q.c.ns n).t.lo /\ (ntOf
 a.q.c.ns n).t.hi = (ntOf a.q.c.ns n).t.hi /\ (ntOf a.q.c.ns n).s.lo = (ntOf a.q.c.ns n).s.lo /\ (ntOf a.q.c.ns n).s.hi = (ntOf a.q.c.ns n).s.hi
abbrev BUM (a : MPp) (i : Nat) : Bool := !HX a.q.c (gD a.l i)
abbrev AMG (a : MPp) : Int := HI (λ (i : Nat) => BUM a i) a.l.length 0
abbrev AMN (a : MPp) (a1 : Nat) : Nat := a.l.length - a1
abbrev APA (a : Nat) (a1 : MPp) : Prop := a <= a1.l.length /\ AMG a1 = HI (λ (i : Nat) => BUM a1 i) (AMN a1 a) a
abbrev BPR (a : Nat) (a1 : MPp) : Prop := (↑a : Int) < (↑a1.l.length : Int)
abbrev AOI (a : MPp) : List Mk := AE a.q.c.ms.length λ (i : Nat) => gD a.q.c.ms i
abbrev AMU (a : MPp) : Nat := (AOI a).length
abbrev BQS (a : MPp) (i : Nat) : Mk := gD (AOI a) i
abbrev BSV (a : MPp) (i : Nat) : Int := (BQS a i).pl
abbrev BSA (a : MPp) (i : Nat) : Int := (BQS a i).ht
abbrev bO (a : MPp) : List Nt := AE a.q.c.ns.length λ (i : Nat) => gD a.q.c.ns i
abbrev C9 (a : MPp) : Nat := (bO a).length
abbrev APG (a : MPp) (i : Nat) : Nt := gD (bO a) i
abbrev BOP (a : MPp) (i : Nat) : Int := (APG a i).mi
abbrev BUU (a : MPp) (i : Nat) : Span := (APG a i).t
abbrev BNT (a : MPp) (i : Nat) : Int := (BUU a i).lo
abbrev BRC (a : MPp) (i : Nat) : Int := (BUU a i).hi
abbrev BML (a : MPp) (i : Nat) : Span := (APG a i).s
abbrev BLO (a : MPp) (i : Nat) : Int := (BML a i).lo
abbrev BTT (a : MPp) (i : Nat) : Int := (BML a i).hi
abbrev BOS (a : MPp) (n : Int) : Bool := hasN (bO a) n
abbrev ANR (a : MPp) (n : Int) : Nt := ntOf (bO a) n
abbrev BNN (a : MPp) (n : Int) : Int := (ANR a n).mi
abbrev BOW (a : MPp) (n : Int) : Span := (ANR a n).t
abbrev BNO (a : MPp) (n : Int) : Int := (BOW a n).lo
abbrev BRB (a : MPp) (n : Int) : Int := (BOW a n).hi
abbrev BVD (a : MPp) (n : Int) : Span := (ANR a n).s
abbrev BPN (a : MPp) (n : Int) : Int := (BVD a n).lo
abbrev BSE (a : MPp) (n : Int) : Int := (BVD a n).hi
theorem DAQ (a : MPp) : (V2Pp a) = ((∃ (a_1 : Nat), (BZZ a /\ CBM a /\ CAS a /\ (↑a_1 : Int) = 0 /\ yK a) /\ APA a_1 a) /\ ∀ (a_1 : Nat), APA a_1 a -> bif decide (BPR a_1 a) then ((0 <= (↑a_1 : Int) /\
 BPR a_1 a) /\ CBT a a_1 /\ BZP a a_1 /\ BMZ a /\ BQH a /\ BQP a /\ BQC a /\ BVJ a /\ AMU a = a.q.c.ms.length /\ (∀ (i : Nat), i < AMU a -> BSV a i = (gD a.q.c.ms i).pl /\ BSA a i = (gD
 a.q.c.ms i).ht) /\ C9 a = a.q.c.ns.length /\ (∀ (i : Nat), i < C9 a -> BOP a i = (gD a.q.c.ns i).mi /\ BNT a i = C6 a i /\ BRC a i = uE a i /\ BLO a i = uY a i /\ BTT a i = uC a
 i) /\ AMV a /\ AT = AT /\ (∀ (n : Int), BOS a n = hasN a.q.c.ns n) /\ ANM a /\ (∀ (n : Int), BNN a n = (ntOf a.q.c.ns n).mi /\ BNO a n = (ntOf a.q.c.ns n).t.lo /\ BRB a n = (ntOf a.q.c.ns n).t.hi /\
 BPN a n = (ntOf a.q.c.ns n).s.lo /\ BSE a n = (ntOf a.q.c.ns n).s.hi) /\ BMZ a /\ BQH a /\ BQP a /\ BQC a /\ BVJ a /\ a.q.c.ms.length = AMU a /\ (∀ (i : Nat), BUG i a -> (gD a.q.c.ms i).pl = BSV
 a i /\ (gD a.q.c.ms i).ht = BSA a i) /\ a.q.c.ns.length = C9 a /\ (∀ (i : Nat), BUC i a -> (gD a.q.c.ns i).mi = BOP a i /\ C6 a i = BNT a i /\ uE a i = BRC a i /\ uY a i = BLO a i /\
 uC a i = BTT a i) /\ AMV a /\ AT = AT /\ (∀ (n : Int), hasN a.q.c.ns n = BOS a n) /\ ANM a /\ (∀ (n : Int), (ntOf a.q.c.ns n).mi = BNN a n /\ (ntOf a.q.c.ns n).t.lo = BNO a n /\ (ntOf a.q.c.ns
 n).t.hi = BRB a n /\ (ntOf a.q.c.ns n).s.lo = BPN a n /\ (ntOf a.q.c.ns n).s.hi = BSE a n) /\ C9 a < 1073741824 /\ True) /\ bif !HX (Cht.mk a.q.c.p a.q.c.base a.q.c.scale a.q.c.off (AOI a) (bO a))
 (gD a.l a_1) then AMG a = (↑a_1 : Int) /\ yK a else ∃ (a_3 : Nat), (BZZ a /\ CBM a /\ CAS a /\ (↑a_3 : Int) = IntKind.i64.wrap ((↑a_1 : Int) + 1) /\ yK a) /\ APA a_3 a /\ AMN a a_3 < AMN a a_1
 else AMG a = -1 /\ yK a) := by kernel_rfl
theorem p2Pp (a : MPp) (h : BC (PPp a)) : V2Pp a := by
 obtain ⟨h, hp⟩ : a.l.length < 4611686018427387904 /\ a.q.c.ns.length < 1073741824 := h
 rw [DAQ]; delta BZZ CBT BZP CBM CAS BMZ BQH BQP BQC BVJ BUG BUC C6 uE uY uC AMV ANM yK BUM AMG AMN APA BPR AOI AMU BQS BSV BSA bO C9 APG BOP BUU BNT BRC BML BLO BTT BOS ANR BNN BOW BNO BRB BVD BPN BSE
 simp only [CC, eq_self, implies_true, forall_const]
 refine ⟨⟨0, rfl, Nat.zero_le _, rfl⟩, λ k ⟨h1, h2⟩ => ⟨λ hlt => ?_, λ hge => ?_⟩⟩
 ·have hlt : k < a.l.length := by omega
  refine ⟨⟨⟨by omega, by omega⟩, hp⟩, λ hp => ?_, λ hp => ⟨k + 1, (GE (by omega)).symm, ⟨by omega, ?_⟩, by omega⟩⟩
  ·rw [h2]; exact Jf hlt (by simpa using hp)
  ·rw [h2]; exact AWD hlt (by simpa using hp)
 ·rw [h2]; exact zL (by omega)
theorem CZG : AM Try.prog CIX (C2Pp.spec d2Pp) := LF C2Pp A2Pp [] [] CVS (λ _ => by kernel_rfl) (λ _ => AC DAK AJ) p2Pp (λ _ => NP rfl rfl) _
def C3Pp : Ctr := { C2Pp with val := λ (a : MPp) => .bool (decide (HI (λ i => !HX a.q.c (gD a.l i)) a.l.length 0 >= 0)) }
def d3Pp : List AVal -> Heap -> Option (C3Pp.α × List (Nat × Nat) × List Nat) := d2Pp
def A3Pp : Ann := { ann 9 [(CIX, C2Pp.spec d2Pp)] with E := [100, 101, 102] }
def V3Pp (a : MPp) : Prop := AZ Try.prog A3Pp COE (AL COE) (C3Pp.xs a) (AG (C3Pp.L a)) (C3Pp.val a) (C3Pp.keep a) [] []
abbrev BZT (a : MPp) : List Pr := AE a.l.length λ (i : Nat) => gD a.l i
abbrev BBF (a : MPp) : Nat := (BZT a).length
abbrev BNP (a : MPp) (i : Nat) : Pr := gD (BZT a) i
abbrev BNC (a : MPp) : Prop := a.q.c.p.lo = a.q.c.p.lo
abbrev BMW (a : MPp) : Prop := a.q.c.p.hi = a.q.c.p.hi
abbrev BOE (a : MPp) : Prop := a.q.c.base = a.q.c.base
abbrev BLZ (a : MPp) : Prop := a.q.c.scale = a.q.c.scale
abbrev BSZ (a : MPp) : Prop := a.q.c.off = a.q.c.off
abbrev BUW (a : MPp) : List Mk := AE a.q.c.ms.length λ (i : Nat) => gD a.q.c.ms i
abbrev BKZ (a : MPp) : Nat := (BUW a).length
abbrev BQI (a : MPp) (i : Nat) : Mk := gD (BUW a) i
abbrev BVH (a : MPp) (i : Nat) : Int := (BQI a i).pl
abbrev BNJ (a : MPp) (i : Nat) : Int := (BQI a i).ht
abbrev dO (a : MPp) : List Nt := AE a.q.c.ns.length λ (i : Nat) => gD a.q.c.ns i
abbrev yB (a : MPp) : Nat := (dO a).length
abbrev AMX (a : MPp) (i : Nat) : Nt := gD (dO a) i
abbrev BMR (a : MPp) (i : Nat) : Int := (AMX a i).mi
abbrev BSH (a : MPp) (i : Nat) : Span := (AMX a i).t
abbrev BPW (a : MPp) (i : Nat) : Int := (BSH a i).lo
abbrev uQ (a : MPp) (i : Nat) : Int := (gD a.q.c.ns i).t.lo
abbrev BNI (a : MPp) (i : Nat) : Int := (BSH a i).hi
abbrev E0 (a : MPp) (i : Nat) : Int := (gD a.q.c.ns i).t.hi
abbrev BOK (a : MPp) (i : Nat) : Span := (AMX a i).s
abbrev BKY (a : MPp) (i : Nat) : Int := (BOK a i).lo
abbrev C7 (a : MPp) (i : Nat) : Int := (gD a.q.c.ns i).s.lo
abbrev BRK (a : MPp) (i : Nat) : Int := (BOK a i).hi
abbrev wG (a : MPp) (i : Nat) : Int := (gD a.q.c.ns i).s.hi
abbrev APJ (a : MPp) : Prop := ∀ (i : Nat), i < 40 -> a.q.sp i = a.q.sp i
abbrev BQX (a : MPp) (n : Int) : Bool := hasN (dO a) n
abbrev APO (a : MPp) : Prop := ∀ (n : Int), a.q.st n = a.q.st n
abbrev ANH (a : MPp) (n : Int) : Nt := ntOf (dO a) n
abbrev BNL (a : MPp) (n : Int) : Int := (ANH a n).mi
abbrev BUF (a : MPp) (n : Int) : Span := (ANH a n).t
abbrev BSR (a : MPp) (n : Int) : Int := (BUF a n).lo
abbrev BNZ (a : MPp) (n : Int) : Int := (BUF a n).hi
abbrev BPZ (a : MPp) (n : Int) : Span := (ANH a n).s
abbrev BNW (a : MPp) (n : Int) : Int := (BPZ a n).lo
abbrev BLA (a : MPp) (n : Int) : Int := (BPZ a n).hi
abbrev BTJ (i : Nat) (a : MPp) : Prop := i < a.q.c.ms.length
abbrev BMH (i : Nat) (a : MPp) : Prop := i < a.q.c.ns.length
theorem CZB (a : MPp) : (V3Pp a) = ((BBF a = a.l.length /\ (∀ (i : Nat), i < BBF a -> (BNP a i).a = (gD a.l i).a /\ (BNP a i).b = (gD a.l i).b) /\ BNC a /\ BMW a /\ BOE a /\ BLZ a /\ BSZ a /\ BKZ a
 = a.q.c.ms.length /\ (∀ (i : Nat), i < BKZ a -> BVH a i = (gD a.q.c.ms i).pl /\ BNJ a i = (gD a.q.c.ms i).ht) /\ yB a = a.q.c.ns.length /\ (∀ (i : Nat), i < yB a -> BMR a i = (gD a.q.c.ns i).mi /\
 BPW a i = uQ a i /\ BNI a i = E0 a i /\ BKY a i = C7 a i /\ BRK a i = wG a i) /\ APJ a /\ AT = AT /\ (∀ (n : Int), BQX a n = hasN a.q.c.ns n) /\ APO a /\ (∀ (n : Int), BNL a
 n = (ntOf a.q.c.ns n).mi /\ BSR a n = (ntOf a.q.c.ns n).t.lo /\ BNZ a n = (ntOf a.q.c.ns n).t.hi /\ BNW a n = (ntOf a.q.c.ns n).s.lo /\ BLA a n = (ntOf a.q.c.ns n).s.hi) /\ BNC a /\ BMW a /\ BOE a /\
 BLZ a /\ BSZ a /\ a.q.c.ms.length = BKZ a /\ (∀ (i : Nat), BTJ i a -> (gD a.q.c.ms i).pl = BVH a i /\ (gD a.q.c.ms i).ht = BNJ a i) /\ a.q.c.ns.length = yB a /\ (∀ (i : Nat), BMH i a -> (gD a.q.c.ns
 i).mi = BMR a i /\ uQ a i = BPW a i /\ E0 a i = BNI a i /\ C7 a i = BKY a i /\ wG a i = BRK a i) /\ APJ a /\ AT = AT /\ (∀ (n : Int), hasN a.q.c.ns n = BQX a n) /\ APO a /\ (∀
 (n : Int), (ntOf a.q.c.ns n).mi = BNL a n /\ (ntOf a.q.c.ns n).t.lo = BSR a n /\ (ntOf a.q.c.ns n).t.hi = BNZ a n /\ (ntOf a.q.c.ns n).s.lo = BNW a n /\ (ntOf a.q.c.ns n).s.hi = BLA a n) /\ BBF a <
 4611686018427387904 /\ yB a < 1073741824) /\ decide (HI (λ (i : Nat) => !HX a.q.c (gD a.l i)) a.l.length 0 >= 0) = decide (HI (λ (i : Nat) => !HX (Cht.mk a.q.c.p a.q.c.base a.q.c.scale a.q.c.off (BUW a)
 (dO a)) (BNP a i)) (BBF a) 0 >= 0) /\ BNC a /\ BMW a /\ BOE a /\ BLZ a /\ BSZ a /\ a.q.c.ms.length = a.q.c.ms.length /\ (∀ (i : Nat), BTJ i a -> (gD a.q.c.ms i).pl = (gD a.q.c.ms i).pl /\ (gD a.q.c.ms
 i).ht = (gD a.q.c.ms i).ht) /\ a.q.c.ns.length = a.q.c.ns.length /\ (∀ (i : Nat), BMH i a -> (gD a.q.c.ns i).mi = (gD a.q.c.ns i).mi /\ uQ a i = uQ a i /\ E0 a i = E0 a i /\ C7 a i = C7 a i /\
 wG a i = wG a i) /\ APJ a /\ AT = AT /\ (∀ (n : Int), hasN a.q.c.ns n = hasN a.q.c.ns n) /\ APO a /\ ∀ (n : Int), (ntOf a.q.c.ns n).mi = (ntOf a.q.c.ns n).mi /\ (ntOf a.q.c.ns n).t.lo = (ntOf a.q.c.ns
 n).t.lo /\ (ntOf a.q.c.ns n).t.hi = (ntOf a.q.c.ns n).t.hi /\ (ntOf a.q.c.ns n).s.lo = (ntOf a.q.c.ns n).s.lo /\ (ntOf a.q.c.ns n).s.hi = (ntOf a.q.c.ns n).s.hi) := by kernel_rfl
theorem DAR : AM Try.prog CHD (C3Pp.spec d3Pp) := Ctr.spec_ok (C := C3Pp) (λ (a : MPp) h => UO (A := A3Pp) (ren := []) (fz := []) CWV (by kernel_rfl) (AC CZG AJ) (by
 obtain ⟨h, hp⟩ : a.l.length < 4611686018427387904 /\ a.q.c.ns.length < 1073741824 := h
 show V3Pp a; rw [CZB]; delta BZT BBF BNP BNC BMW BOE BLZ BSZ BUW BKZ BQI BVH BNJ dO yB AMX BMR BSH BPW uQ BNI E0 BOK BKY C7 BRK wG APJ BQX APO ANH BNL BUF BSR BNZ BPZ BNW BLA BTJ BMH; simp [h, hp, HW, BZ])) _
def d4Pp : List AVal -> Heap -> Option (MPp × List (Nat × Nat) × List Nat)
 | [y, .fn _ [.bptr j _] _], H => match wI y H with
  | some (n, g, f) => match eY H j with
   | some (q, m) => some (⟨q, AE n λ i => dPr (g i)⟩, [(101, j), (102, m)], f)
   | none => none
  | none => none
 | _, _ => none
def A4Pp : Ann := { ann 9 [(CHD, C3Pp.spec d3Pp)] with E := [101, 102] }
def C4Pp : Ctr := { ro := [101, 102], α := MPp, xs := λ a => [.d (Cf a.l), fvPp a.q], L := λ a => LXPp a.q, val := λ a => .bool (a.l.all λ x => HX a.q.c x), keep := λ a => KXPp a.q, pre := PPp }
def V4Pp (a : MPp) : Prop := AZ Try.prog A4Pp F_eP (AL F_eP) (C4Pp.xs a) (AG (C4Pp.L a)) (C4Pp.val a) (C4Pp.keep a) [] []
abbrev CAY (a : MPp) : List Pr := AE a.l.length λ (i : Nat) => gD a.l i
abbrev AYV (a : MPp) : Nat := (CAY a).length
abbrev BKR (a : MPp) (i : Nat) : Pr := gD (CAY a) i
abbrev BRI (a : MPp) : Prop := a.q.c.p.lo = a.q.c.p.lo
abbrev BQV (a : MPp) : Prop := a.q.c.p.hi = a.q.c.p.hi
abbrev BLI (a : MPp) : Prop := a.q.c.base = a.q.c.base
abbrev BLR (a : MPp) : Prop := a.q.c.scale = a.q.c.scale
abbrev BKU (a : MPp) : Prop := a.q.c.off = a.q.c.off
abbrev BMB (a : MPp) : List Mk := AE a.q.c.ms.length λ (i : Nat) => gD a.q.c.ms i
abbrev BTM (a : MPp) : Nat := (BMB a).length
abbrev BRS (a : MPp) (i : Nat) : Mk := gD (BMB a) i
abbrev BSY (a : MPp) (i : Nat) : Int := (BRS a i).pl
abbrev BLD (a : MPp) (i : Nat) : Int := (BRS a i).ht
abbrev dQ (a : MPp) : List Nt := AE a.q.c.ns.length λ (i : Nat) => gD a.q.c.ns i
abbrev vD (a : MPp) : Nat := (dQ a).length
abbrev AOG (a : MPp) (i : Nat) : Nt := gD (dQ a) i
abbrev BUV (a : MPp) (i : Nat) : Int := (AOG a i).mi
abbrev BPS (a : MPp) (i : Nat) : Span := (AOG a i).t
abbrev BOX (a : MPp) (i : Nat) : Int := (BPS a i).lo
abbrev D7 (a : MPp) (i : Nat) : Int := (gD a.q.c.ns i).t.lo
abbrev BPL (a : MPp) (i : Nat) : Int := (BPS a i).hi
abbrev yC (a : MPp) (i : Nat) : Int := (gD a.q.c.ns i).t.hi
abbrev BLW (a : MPp) (i : Nat) : Span := (AOG a i).s
abbrev BVR (a : MPp) (i : Nat) : Int := (BLW a i).lo
abbrev G5 (a : MPp) (i : Nat) : Int := (gD a.q.c.ns i).s.lo
abbrev BTZ (a : MPp) (i : Nat) : Int := (BLW a i).hi
abbrev uF (a : MPp) (i : Nat) : Int := (gD a.q.c.ns i).s.hi
abbrev AOP (a : MPp) : Prop := ∀ (i : Nat), i < 40 -> a.q.sp i = a.q.sp i
abbrev BNB (a : MPp) (n : Int) : Bool := hasN (dQ a) n
abbrev AMS (a : MPp) : Prop := ∀ (n : Int), a.q.st n = a.q.st n
abbrev AOZ (a : MPp) (n : Int) : Nt := ntOf (dQ a) n
abbrev BRY (a : MPp) (n : Int) : Int := (AOZ a n).mi
abbrev BQB (a : MPp) (n : Int) : Span := (AOZ a n).t
abbrev BVU (a : MPp) (n : Int) : Int := (BQB a n).lo
abbrev BNS (a : MPp) (n : Int) : Int := (BQB a n).hi
abbrev BLY (a : MPp) (n : Int) : Span := (AOZ a n).s
abbrev BUJ (a : MPp) (n : Int) : Int := (BLY a n).lo
abbrev BOI (a : MPp) (n : Int) : Int := (BLY a n).hi
abbrev BMG (i : Nat) (a : MPp) : Prop := i < a.q.c.ms.length
abbrev BQR (i : Nat) (a : MPp) : Prop := i < a.q.c.ns.length
theorem DAI (a : MPp) : (V4Pp a) = ((AYV a = a.l.length /\ (∀ (i : Nat), i < AYV a -> (BKR a i).a = (gD a.l i).a /\ (BKR a i).b = (gD a.l i).b) /\ BRI a /\ BQV a /\ BLI a /\ BLR a /\ BKU a /\ BTM a
 = a.q.c.ms.length /\ (∀ (i : Nat), i < BTM a -> BSY a i = (gD a.q.c.ms i).pl /\ BLD a i = (gD a.q.c.ms i).ht) /\ vD a = a.q.c.ns.length /\ (∀ (i : Nat), i < vD a -> BUV a i = (gD a.q.c.ns i).mi /\
 BOX a i = D7 a i /\ BPL a i = yC a i /\ BVR a i = G5 a i /\ BTZ a i = uF a i) /\ AOP a /\ AT = AT /\ (∀ (n : Int), BNB a n = hasN a.q.c.ns n) /\ AMS a /\ (∀ (n : Int), BRY a
 n = (ntOf a.q.c.ns n).mi /\ BVU a n = (ntOf a.q.c.ns n).t.lo /\ BNS a n = (ntOf a.q.c.ns n).t.hi /\ BUJ a n = (ntOf a.q.c.ns n).s.lo /\ BOI a n = (ntOf a.q.c.ns n).s.hi) /\ BRI a /\ BQV a /\ BLI a /\
 BLR a /\ BKU a /\ a.q.c.ms.length = BTM a /\ (∀ (i : Nat), BMG i a -> (gD a.q.c.ms i).pl = BSY a i /\ (gD a.q.c.ms i).ht = BLD a i) /\ a.q.c.ns.length = vD a /\ (∀ (i : Nat), BQR i a -> (gD a.q.c.ns
 i).mi = BUV a i /\ D7 a i = BOX a i /\ yC a i = BPL a i /\ G5 a i = BVR a i /\ uF a i = BTZ a i) /\ AOP a /\ AT = AT /\ (∀ (n : Int), hasN a.q.c.ns n = BNB a n) /\ AMS a /\ (∀
 (n : Int), (ntOf a.q.c.ns n).mi = BRY a n /\ (ntOf a.q.c.ns n).t.lo = BVU a n /\ (ntOf a.q.c.ns n).t.hi = BNS a n /\ (ntOf a.q.c.ns n).s.lo = BUJ a n /\ (ntOf a.q.c.ns n).s.hi = BOI a n) /\ AYV a <
 4611686018427387904 /\ vD a < 1073741824) /\ (a.l.all λ (x : Pr) => HX a.q.c x) = !decide (HI (λ (i : Nat) => !HX (Cht.mk a.q.c.p a.q.c.base a.q.c.scale a.q.c.off (BMB a) (dQ a)) (BKR a i))
 (AYV a) 0 >= 0) /\ BRI a /\ BQV a /\ BLI a /\ BLR a /\ BKU a /\ a.q.c.ms.length = a.q.c.ms.length /\ (∀ (i : Nat), BMG i a -> (gD a.q.c.ms i).pl = (gD a.q.c.ms i).pl /\ (gD a.q.c.ms i).ht = (gD a.q.c.ms
 i).ht) /\ a.q.c.ns.length = a.q.c.ns.length /\ (∀ (i : Nat), BQR i a -> (gD a.q.c.ns i).mi = (gD a.q.c.ns i).mi /\ D7 a i = D7 a i /\ yC a i = yC a i /\ G5 a i = G5 a i /\ uF a i = uF
 a i) /\ AOP a /\ AT = AT /\ (∀ (n : Int), hasN a.q.c.ns n = hasN a.q.c.ns n) /\ AMS a /\ ∀ (n : Int), (ntOf a.q.c.ns n).mi = (ntOf a.q.c.ns n).mi /\ (ntOf a.q.c.ns n).t.lo = (ntOf a.q.c.ns n).t.lo /\ (ntOf a.q.c.ns
 n).t.hi = (ntOf a.q.c.ns n).t.hi /\ (ntOf a.q.c.ns n).s.lo = (ntOf a.q.c.ns n).s.lo /\ (ntOf a.q.c.ns n).s.hi = (ntOf a.q.c.ns n).s.hi) := by kernel_rfl
theorem CYX (a : MPp) (h : BC (PPp a)) : FnT Try.prog n_eP (C4Pp.xs a) (AG (C4Pp.L a)) (C4Pp.val a) (C4Pp.keep a) := UO (A := A4Pp) (ren := []) (fz := []) CZF (by kernel_rfl) (AC DAR AJ) (by
 have h' : a.l.length < 4611686018427387904 /\ a.q.c.ns.length < 1073741824 := h
 show V4Pp a; rw [DAI]; delta CAY AYV BKR BRI BQV BLI BLR BKU BMB BTM BRS BSY BLD dQ vD AOG BUV BPS BOX D7 BPL yC BLW BVR G5 BTZ uF AOP BNB AMS AOZ BRY BQB BVU BNS BLY BUJ BOI BMG BQR; simp only [CC, eq_self, implies_true, forall_const, ge_iff_le]
 rw [<- dA]
 exact ⟨h', rfl⟩)
theorem CZD : AM Try.prog n_eP (C4Pp.spec d4Pp) := Ctr.spec_ok (C := C4Pp) CYX _
end Go.Bal
