/- Package chart: every pair. Printed by gench2.py. -/
import Derived.Test.YtdbjalgfomknhaaChG2
set_option linter.unusedVariables false
set_option linter.unusedSimpArgs false
namespace Go.Bal
open Go Go.Sym Go.Proofs
def LXPp (q : Dk) : List (Nat × AObj) := [(101, dkB q 102), (102, dkM q)]
def KXPp (q : Dk) : List (Nat × HCell) := [(101, .live (dkB q 102)), (102, .live (dkM q))]
def fvPp (q : Dk) : AVal := .fn (.func CDG) [.bptr 101 0] []
def BPp (q : Dk) : AObj := .box [fvPp q]
structure EPp where
 q : Dk
 e : Pr
structure MPp where
 q : Dk
 l : List Pr
def C1Pp : Ctr := { ro := [100, 101, 102], α := EPp, xs := λ a => [.d (ePr a.e), .bptr 100 0], L := λ a => (100, BPp a.q) :: LXPp a.q, val := λ a => .bool (!IN a.q.c a.e), keep := λ a => (100, .live (BPp a.q)) :: KXPp a.q, pre := λ a => [a.q.c.ns.length < 1073741824 /\ True] }
def d1Pp : List AVal -> Heap -> Option (EPp × List (Nat × Nat) × List Nat)
 | [.d d, .bptr id _], H => match H id with
  | .live (.box [.fn _ [.bptr j _] _]) => match rT H j with
   | some (q, m) => some (⟨q, dPr d⟩, [(100, id), (101, j), (102, m)], [])
   | none => none
  | _ => none
 | _, _ => none
def A1Pp : Ann := { ann 8 [(CDG, C_pair.spec dDkP)] with E := [100, 101, 102] }
def V1Pp (a : EPp) : Prop := AZ Try.prog A1Pp DEB (AN DEB) (C1Pp.xs a) (AF (C1Pp.L a)) (C1Pp.val a) (C1Pp.keep a) [] []
abbrev CFE (a : EPp) : Prop := a.q.c.p.lo = a.q.c.p.lo
abbrev CEM (a : EPp) : Prop := a.q.c.p.hi = a.q.c.p.hi
abbrev CJQ (a : EPp) : Prop := a.q.c.base = a.q.c.base
abbrev CCZ (a : EPp) : Prop := a.q.c.scale = a.q.c.scale
abbrev CIZ (a : EPp) : Prop := a.q.c.off = a.q.c.off
abbrev CJN (a : EPp) : List Mk := AE a.q.c.ms.length λ (i : Nat) => gD a.q.c.ms i
abbrev CMH (a : EPp) : Nat := (CJN a).length
abbrev CQL (a : EPp) (i : Nat) : Mk := gD (CJN a) i
abbrev CRD (a : EPp) (i : Nat) : Int := (CQL a i).pl
abbrev CRU (a : EPp) (i : Nat) : Int := (CQL a i).ht
abbrev eI (a : EPp) : List Nt := AE a.q.c.ns.length λ (i : Nat) => gD a.q.c.ns i
abbrev Q5 (a : EPp) : Nat := (eI a).length
abbrev BHB (a : EPp) (i : Nat) : Nt := gD (eI a) i
abbrev CFX (a : EPp) (i : Nat) : Int := (BHB a i).mi
abbrev CHC (a : EPp) (i : Nat) : Span := (BHB a i).t
abbrev CLE (a : EPp) (i : Nat) : Int := (CHC a i).lo
abbrev X4 (a : EPp) (i : Nat) : Int := (gD a.q.c.ns i).t.lo
abbrev CIT (a : EPp) (i : Nat) : Int := (CHC a i).hi
abbrev O7 (a : EPp) (i : Nat) : Int := (gD a.q.c.ns i).t.hi
abbrev CMJ (a : EPp) (i : Nat) : Span := (BHB a i).s
abbrev CMR (a : EPp) (i : Nat) : Int := (CMJ a i).lo
abbrev Z7 (a : EPp) (i : Nat) : Int := (gD a.q.c.ns i).s.lo
abbrev CFG (a : EPp) (i : Nat) : Int := (CMJ a i).hi
abbrev X6 (a : EPp) (i : Nat) : Int := (gD a.q.c.ns i).s.hi
abbrev BIY (a : EPp) : Prop := ∀ (i : Nat), i < 40 -> a.q.sp i = a.q.sp i
abbrev CDB (a : EPp) (n : Int) : Bool := hasN (eI a) n
abbrev BGS (a : EPp) : Prop := ∀ (n : Int), a.q.st n = a.q.st n
abbrev BGI (a : EPp) (n : Int) : Nt := ntOf (eI a) n
abbrev CKY (a : EPp) (n : Int) : Int := (BGI a n).mi
abbrev CIG (a : EPp) (n : Int) : Span := (BGI a n).t
abbrev CGY (a : EPp) (n : Int) : Int := (CIG a n).lo
abbrev CGG (a : EPp) (n : Int) : Int := (CIG a n).hi
abbrev CIU (a : EPp) (n : Int) : Span := (BGI a n).s
abbrev CHO (a : EPp) (n : Int) : Int := (CIU a n).lo
abbrev CDD (a : EPp) (n : Int) : Int := (CIU a n).hi
abbrev CKR (i : Nat) (a : EPp) : Prop := i < a.q.c.ms.length
abbrev CHV (i : Nat) (a : EPp) : Prop := i < a.q.c.ns.length
theorem DRK (a : EPp) : (V1Pp a) = ((a.e.a = a.e.a /\ a.e.b = a.e.b /\ CFE a /\ CEM a /\ CJQ a /\ CCZ a /\ CIZ a /\ CMH a = a.q.c.ms.length /\ (∀ (i : Nat), i < CMH a -> CRD a i = (gD a.q.c.ms i).pl /\
 CRU a i = (gD a.q.c.ms i).ht) /\ Q5 a = a.q.c.ns.length /\ (∀ (i : Nat), i < Q5 a -> CFX a i = (gD a.q.c.ns i).mi /\ CLE a i = X4 a i /\ CIT a i = O7 a i /\ CMR a i = Z7 a i /\
 CFG a i = X6 a i) /\ BIY a /\ AU = AU /\ (∀ (n : Int), CDB a n = hasN a.q.c.ns n) /\ BGS a /\ (∀ (n : Int), CKY a n = (ntOf a.q.c.ns n).mi /\ CGY a n = (ntOf a.q.c.ns n).t.lo /\ CGG a n =
 (ntOf a.q.c.ns n).t.hi /\ CHO a n = (ntOf a.q.c.ns n).s.lo /\ CDD a n = (ntOf a.q.c.ns n).s.hi) /\ CFE a /\ CEM a /\ CJQ a /\ CCZ a /\ CIZ a /\ a.q.c.ms.length = CMH a /\ (∀ (i : Nat), CKR i a -> (gD
 a.q.c.ms i).pl = CRD a i /\ (gD a.q.c.ms i).ht = CRU a i) /\ a.q.c.ns.length = Q5 a /\ (∀ (i : Nat), CHV i a -> (gD a.q.c.ns i).mi = CFX a i /\ X4 a i = CLE a i /\ O7 a i = CIT a i /\
 Z7 a i = CMR a i /\ X6 a i = CFG a i) /\ BIY a /\ AU = AU /\ (∀ (n : Int), hasN a.q.c.ns n = CDB a n) /\ BGS a /\ (∀ (n : Int), (ntOf a.q.c.ns n).mi = CKY a n /\ (ntOf a.q.c.ns n).t.lo =
 CGY a n /\ (ntOf a.q.c.ns n).t.hi = CGG a n /\ (ntOf a.q.c.ns n).s.lo = CHO a n /\ (ntOf a.q.c.ns n).s.hi = CDD a n) /\ Q5 a < 1073741824 /\ True) /\ (!IN a.q.c a.e) = !IN (Cht.mk a.q.c.p a.q.c.base
 a.q.c.scale a.q.c.off (CJN a) (eI a)) a.e /\ CFE a /\ CEM a /\ CJQ a /\ CCZ a /\ CIZ a /\ a.q.c.ms.length = a.q.c.ms.length /\ (∀ (i : Nat), CKR i a -> (gD a.q.c.ms i).pl = (gD a.q.c.ms i).pl /\ (gD
 a.q.c.ms i).ht = (gD a.q.c.ms i).ht) /\ a.q.c.ns.length = a.q.c.ns.length /\ (∀ (i : Nat), CHV i a -> (gD a.q.c.ns i).mi = (gD a.q.c.ns i).mi /\ X4 a i = X4 a i /\ O7 a i = O7 a i /\ Z7 a i =
 Z7 a i /\ X6 a i = X6 a i) /\ BIY a /\ AU = AU /\ (∀ (n : Int), hasN a.q.c.ns n = hasN a.q.c.ns n) /\ BGS a /\ ∀ (n : Int), (ntOf a.q.c.ns n).mi = (ntOf a.q.c.ns n).mi /\ (ntOf a.q.c.ns n).t.lo = (ntOf
 a.q.c.ns n).t.lo /\ (ntOf a.q.c.ns n).t.hi = (ntOf a.q.c.ns n).t.hi /\ (ntOf a.q.c.ns n).s.lo = (ntOf a.q.c.ns n).s.lo /\ (ntOf a.q.c.ns n).s.hi = (ntOf a.q.c.ns n).s.hi) := by kernel_rfl
theorem DQX : AP Try.prog CNU (C1Pp.spec d1Pp) := MC C1Pp (λ _ => A1Pp) [] [] DNN (λ _ => by kernel_rfl) (λ _ => AD DFV AK) (λ (a : EPp) h => by
 have h : a.q.c.ns.length < 1073741824 := (show a.q.c.ns.length < 1073741824 /\ True from h).1
 show V1Pp a; rw [DRK]; delta CFE CEM CJQ CCZ CIZ CJN CMH CQL CRD CRU eI Q5 BHB CFX CHC CLE X4 CIT O7 CMJ CMR Z7 CFG X6 BIY CDB BGS BGI CKY CIG CGY CGG CIU CHO CDD CKR CHV; simp [wr, JI, h, BO]) (λ _ => MO rfl rfl) _
def d2Pp : List AVal -> Heap -> Option (MPp × List (Nat × Nat) × List Nat)
 | [y, .fn _ _ [.bptr id _]], H => match T5 y H with
  | some (n, g, f) => match H id with
   | .live (.box [.fn _ [.bptr j _] _]) => match rT H j with
    | some (q, m) => some (⟨q, AE n λ i => dPr (g i)⟩, [(100, id), (101, j), (102, m)], f)
    | none => none
   | _ => none
  | none => none
 | _, _ => none
def A2Pp (a : MPp) : Ann := { ann 19 [(CNU, C1Pp.spec d1Pp)] with E := [100, 101, 102], loops := λ id => if id = 2 then some [{ α := Nat, dflt := 0, T := λ k => ⟨[(0, .d (Ga a.l)), (1, .fn (.func CNU) [] [.bptr 100 0]), (7, .int a.l.length), (8, .int k)], (100, .live (BPp a.q)) :: KXPp a.q⟩, inv := λ k => k <= a.l.length /\ IB (λ i => !IN a.q.c (gD a.l i)) a.l.length 0 = IB (λ i => !IN a.q.c (gD a.l i)) (a.l.length - k) k, meas := λ k => a.l.length - k }] else none }
def PPp (a : MPp) : List Prop := [a.l.length < 4611686018427387904 /\ a.q.c.ns.length < 1073741824]
def C2Pp : Ctr := { ro := [100, 101, 102], α := MPp, xs := λ a => [.d (Ga a.l), .fn (.func CNU) [] [.bptr 100 0]], L := λ a => (100, BPp a.q) :: LXPp a.q, val := λ a => .int (IB (λ i => !IN a.q.c (gD a.l i)) a.l.length 0), keep := λ a => (100, .live (BPp a.q)) :: KXPp a.q, pre := PPp }
def V2Pp (a : MPp) : Prop := AZ Try.prog (A2Pp a) CYG (AN CYG) (C2Pp.xs a) (AF (C2Pp.L a)) (C2Pp.val a) (C2Pp.keep a) [] []
abbrev CRE (a : MPp) : Prop := a.l.length = a.l.length
abbrev CPY (a : MPp) (i : Nat) : Prop := (gD a.l i).a = (gD a.l i).a
abbrev CQF (a : MPp) (i : Nat) : Prop := (gD a.l i).b = (gD a.l i).b
abbrev CSV (a : MPp) : Prop := ∀ (i : Nat), i < a.l.length -> CPY a i /\ CQF a i
abbrev CSF (a : MPp) : Prop := (↑a.l.length : Int) = (↑a.l.length : Int)
abbrev CDT (a : MPp) : Prop := a.q.c.p.lo = a.q.c.p.lo
abbrev CEA (a : MPp) : Prop := a.q.c.p.hi = a.q.c.p.hi
abbrev CEE (a : MPp) : Prop := a.q.c.base = a.q.c.base
abbrev CGM (a : MPp) : Prop := a.q.c.scale = a.q.c.scale
abbrev CEW (a : MPp) : Prop := a.q.c.off = a.q.c.off
abbrev CLU (i : Nat) (a : MPp) : Prop := i < a.q.c.ms.length
abbrev CJP (i : Nat) (a : MPp) : Prop := i < a.q.c.ns.length
abbrev AEY (a : MPp) (i : Nat) : Int := (gD a.q.c.ns i).t.lo
abbrev L6 (a : MPp) (i : Nat) : Int := (gD a.q.c.ns i).t.hi
abbrev P1 (a : MPp) (i : Nat) : Int := (gD a.q.c.ns i).s.lo
abbrev X8 (a : MPp) (i : Nat) : Int := (gD a.q.c.ns i).s.hi
abbrev BGB (a : MPp) : Prop := ∀ (i : Nat), i < 40 -> a.q.sp i = a.q.sp i
abbrev BJB (a : MPp) : Prop := ∀ (n : Int), a.q.st n = a.q.st n
abbrev ABI (a : MPp) : Prop := CDT a /\ CEA a /\ CEE a /\ CGM a /\ CEW a /\ a.q.c.ms.length = a.q.c.ms.length /\ (∀ (i : Nat), CLU i a -> (gD a.q.c.ms i).pl = (gD a.q.c.ms i).pl /\ (gD a.q.c.ms i).ht = (gD
 a.q.c.ms i).ht) /\ a.q.c.ns.length = a.q.c.ns.length /\ (∀ (i : Nat), CJP i a -> (gD a.q.c.ns i).mi = (gD a.q.c.ns i).mi /\ AEY a i = AEY a i /\ L6 a i = L6 a i /\ P1 a i = P1 a i /\ X8 a i
 = X8 a i) /\ BGB a /\ AU = AU /\ (∀ (n : Int), hasN a.q.c.ns n = hasN a.q.c.ns n) /\ BJB a /\ ∀ (n : Int), (ntOf a.q.c.ns n).mi = (ntOf a.q.c.ns n).mi /\ (ntOf a.q.c.ns n).t.lo = (ntOf a.q.c.ns n).t.lo /\ (ntOf
 a.q.c.ns n).t.hi = (ntOf a.q.c.ns n).t.hi /\ (ntOf a.q.c.ns n).s.lo = (ntOf a.q.c.ns n).s.lo /\ (ntOf a.q.c.ns n).s.hi = (ntOf a.q.c.ns n).s.hi
abbrev CII (a : MPp) (i : Nat) : Bool := !IN a.q.c (gD a.l i)
abbrev BGL (a : MPp) : Int := IB (λ (i : Nat) => CII a i) a.l.length 0
abbrev BHX (a : MPp) (a1 : Nat) : Nat := a.l.length - a1
abbrev BGM (a : Nat) (a1 : MPp) : Prop := a <= a1.l.length /\ BGL a1 = IB (λ (i : Nat) => CII a1 i) (BHX a1 a) a
abbrev CFN (a : Nat) (a1 : MPp) : Prop := (↑a : Int) < (↑a1.l.length : Int)
abbrev BHM (a : MPp) : List Mk := AE a.q.c.ms.length λ (i : Nat) => gD a.q.c.ms i
abbrev BIB (a : MPp) : Nat := (BHM a).length
abbrev CFJ (a : MPp) (i : Nat) : Mk := gD (BHM a) i
abbrev CDA (a : MPp) (i : Nat) : Int := (CFJ a i).pl
abbrev CKD (a : MPp) (i : Nat) : Int := (CFJ a i).ht
abbrev oZ (a : MPp) : List Nt := AE a.q.c.ns.length λ (i : Nat) => gD a.q.c.ns i
abbrev Z4 (a : MPp) : Nat := (oZ a).length
abbrev BGV (a : MPp) (i : Nat) : Nt := gD (oZ a) i
abbrev CHK (a : MPp) (i : Nat) : Int := (BGV a i).mi
abbrev CLS (a : MPp) (i : Nat) : Span := (BGV a i).t
abbrev CGH (a : MPp) (i : Nat) : Int := (CLS a i).lo
abbrev CLA (a : MPp) (i : Nat) : Int := (CLS a i).hi
abbrev CHU (a : MPp) (i : Nat) : Span := (BGV a i).s
abbrev CID (a : MPp) (i : Nat) : Int := (CHU a i).lo
abbrev CFD (a : MPp) (i : Nat) : Int := (CHU a i).hi
abbrev CFM (a : MPp) (n : Int) : Bool := hasN (oZ a) n
abbrev BHK (a : MPp) (n : Int) : Nt := ntOf (oZ a) n
abbrev CGJ (a : MPp) (n : Int) : Int := (BHK a n).mi
abbrev CJB (a : MPp) (n : Int) : Span := (BHK a n).t
abbrev CKV (a : MPp) (n : Int) : Int := (CJB a n).lo
abbrev CHE (a : MPp) (n : Int) : Int := (CJB a n).hi
abbrev CLY (a : MPp) (n : Int) : Span := (BHK a n).s
abbrev CGA (a : MPp) (n : Int) : Int := (CLY a n).lo
abbrev CIF (a : MPp) (n : Int) : Int := (CLY a n).hi
theorem DSX (a : MPp) : (V2Pp a) = ((∃ (a_1 : Nat), (CRE a /\ CSV a /\ CSF a /\ (↑a_1 : Int) = 0 /\ ABI a) /\ BGM a_1 a) /\ ∀ (a_1 : Nat), BGM a_1 a -> bif decide (CFN a_1 a) then ((0 <= (↑a_1 : Int) /\
 CFN a_1 a) /\ CPY a a_1 /\ CQF a a_1 /\ CDT a /\ CEA a /\ CEE a /\ CGM a /\ CEW a /\ BIB a = a.q.c.ms.length /\ (∀ (i : Nat), i < BIB a -> CDA a i = (gD a.q.c.ms i).pl /\ CKD a i = (gD
 a.q.c.ms i).ht) /\ Z4 a = a.q.c.ns.length /\ (∀ (i : Nat), i < Z4 a -> CHK a i = (gD a.q.c.ns i).mi /\ CGH a i = AEY a i /\ CLA a i = L6 a i /\ CID a i = P1 a i /\ CFD a i = X8 a
 i) /\ BGB a /\ AU = AU /\ (∀ (n : Int), CFM a n = hasN a.q.c.ns n) /\ BJB a /\ (∀ (n : Int), CGJ a n = (ntOf a.q.c.ns n).mi /\ CKV a n = (ntOf a.q.c.ns n).t.lo /\ CHE a n = (ntOf a.q.c.ns n).t.hi /\
 CGA a n = (ntOf a.q.c.ns n).s.lo /\ CIF a n = (ntOf a.q.c.ns n).s.hi) /\ CDT a /\ CEA a /\ CEE a /\ CGM a /\ CEW a /\ a.q.c.ms.length = BIB a /\ (∀ (i : Nat), CLU i a -> (gD a.q.c.ms i).pl = CDA
 a i /\ (gD a.q.c.ms i).ht = CKD a i) /\ a.q.c.ns.length = Z4 a /\ (∀ (i : Nat), CJP i a -> (gD a.q.c.ns i).mi = CHK a i /\ AEY a i = CGH a i /\ L6 a i = CLA a i /\ P1 a i = CID a i /\
 X8 a i = CFD a i) /\ BGB a /\ AU = AU /\ (∀ (n : Int), hasN a.q.c.ns n = CFM a n) /\ BJB a /\ (∀ (n : Int), (ntOf a.q.c.ns n).mi = CGJ a n /\ (ntOf a.q.c.ns n).t.lo = CKV a n /\ (ntOf a.q.c.ns
 n).t.hi = CHE a n /\ (ntOf a.q.c.ns n).s.lo = CGA a n /\ (ntOf a.q.c.ns n).s.hi = CIF a n) /\ Z4 a < 1073741824 /\ True) /\ bif !IN (Cht.mk a.q.c.p a.q.c.base a.q.c.scale a.q.c.off (BHM a) (oZ a))
 (gD a.l a_1) then BGL a = (↑a_1 : Int) /\ ABI a else ∃ (a_3 : Nat), (CRE a /\ CSV a /\ CSF a /\ (↑a_3 : Int) = IntKind.i64.wrap ((↑a_1 : Int) + 1) /\ ABI a) /\ BGM a_3 a /\ BHX a a_3 < BHX a a_1
 else BGL a = -1 /\ ABI a) := by kernel_rfl
theorem p2Pp (a : MPp) (h : BB (PPp a)) : V2Pp a := by
 obtain ⟨h, hp⟩ : a.l.length < 4611686018427387904 /\ a.q.c.ns.length < 1073741824 := h
 rw [DSX]; delta CRE CPY CQF CSV CSF CDT CEA CEE CGM CEW CLU CJP AEY L6 P1 X8 BGB BJB ABI CII BGL BHX BGM CFN BHM BIB CFJ CDA CKD oZ Z4 BGV CHK CLS CGH CLA CHU CID CFD CFM BHK CGJ CJB CKV CHE CLY CGA CIF
 simp only [CC, eq_self, implies_true, forall_const]
 refine ⟨⟨0, rfl, Nat.zero_le _, rfl⟩, λ k ⟨h1, h2⟩ => ⟨λ hlt => ?_, λ hge => ?_⟩⟩
 ·have hlt : k < a.l.length := by omega
  refine ⟨⟨⟨by omega, by omega⟩, hp⟩, λ hp => ?_, λ hp => ⟨k + 1, (GC (by omega)).symm, ⟨by omega, ?_⟩, by omega⟩⟩
  ·rw [h2]; exact Ox hlt (by simpa using hp)
  ·rw [h2]; exact BWB hlt (by simpa using hp)
 ·rw [h2]; exact Y8 (by omega)
theorem DST : AP Try.prog DCA (C2Pp.spec d2Pp) := MC C2Pp A2Pp [] [] DPA (λ _ => by kernel_rfl) (λ _ => AD DQX AK) p2Pp (λ _ => MO rfl rfl) _
def C3Pp : Ctr := { C2Pp with val := λ (a : MPp) => .bool (decide (IB (λ i => !IN a.q.c (gD a.l i)) a.l.length 0 >= 0)) }
def d3Pp : List AVal -> Heap -> Option (C3Pp.α × List (Nat × Nat) × List Nat) := d2Pp
def A3Pp : Ann := { ann 9 [(DCA, C2Pp.spec d2Pp)] with E := [100, 101, 102] }
def V3Pp (a : MPp) : Prop := AZ Try.prog A3Pp DEI (AN DEI) (C3Pp.xs a) (AF (C3Pp.L a)) (C3Pp.val a) (C3Pp.keep a) [] []
abbrev CSC (a : MPp) : List Pr := AE a.l.length λ (i : Nat) => gD a.l i
abbrev BRP (a : MPp) : Nat := (CSC a).length
abbrev CGT (a : MPp) (i : Nat) : Pr := gD (CSC a) i
abbrev CEU (a : MPp) : Prop := a.q.c.p.lo = a.q.c.p.lo
abbrev CFS (a : MPp) : Prop := a.q.c.p.hi = a.q.c.p.hi
abbrev CEB (a : MPp) : Prop := a.q.c.base = a.q.c.base
abbrev CDL (a : MPp) : Prop := a.q.c.scale = a.q.c.scale
abbrev CGF (a : MPp) : Prop := a.q.c.off = a.q.c.off
abbrev CFZ (a : MPp) : List Mk := AE a.q.c.ms.length λ (i : Nat) => gD a.q.c.ms i
abbrev CGU (a : MPp) : Nat := (CFZ a).length
abbrev CEG (a : MPp) (i : Nat) : Mk := gD (CFZ a) i
abbrev CET (a : MPp) (i : Nat) : Int := (CEG a i).pl
abbrev CIX (a : MPp) (i : Nat) : Int := (CEG a i).ht
abbrev oJ (a : MPp) : List Nt := AE a.q.c.ns.length λ (i : Nat) => gD a.q.c.ns i
abbrev L0 (a : MPp) : Nat := (oJ a).length
abbrev BIJ (a : MPp) (i : Nat) : Nt := gD (oJ a) i
abbrev CGW (a : MPp) (i : Nat) : Int := (BIJ a i).mi
abbrev CLG (a : MPp) (i : Nat) : Span := (BIJ a i).t
abbrev CMN (a : MPp) (i : Nat) : Int := (CLG a i).lo
abbrev AEW (a : MPp) (i : Nat) : Int := (gD a.q.c.ns i).t.lo
abbrev CLT (a : MPp) (i : Nat) : Int := (CLG a i).hi
abbrev ADH (a : MPp) (i : Nat) : Int := (gD a.q.c.ns i).t.hi
abbrev CMG (a : MPp) (i : Nat) : Span := (BIJ a i).s
abbrev CMQ (a : MPp) (i : Nat) : Int := (CMG a i).lo
abbrev X3 (a : MPp) (i : Nat) : Int := (gD a.q.c.ns i).s.lo
abbrev CFO (a : MPp) (i : Nat) : Int := (CMG a i).hi
abbrev S7 (a : MPp) (i : Nat) : Int := (gD a.q.c.ns i).s.hi
abbrev BGC (a : MPp) : Prop := ∀ (i : Nat), i < 40 -> a.q.sp i = a.q.sp i
abbrev CED (a : MPp) (n : Int) : Bool := hasN (oJ a) n
abbrev BII (a : MPp) : Prop := ∀ (n : Int), a.q.st n = a.q.st n
abbrev BIT (a : MPp) (n : Int) : Nt := ntOf (oJ a) n
abbrev CMM (a : MPp) (n : Int) : Int := (BIT a n).mi
abbrev CMX (a : MPp) (n : Int) : Span := (BIT a n).t
abbrev CEV (a : MPp) (n : Int) : Int := (CMX a n).lo
abbrev CHA (a : MPp) (n : Int) : Int := (CMX a n).hi
abbrev CHR (a : MPp) (n : Int) : Span := (BIT a n).s
abbrev CHZ (a : MPp) (n : Int) : Int := (CHR a n).lo
abbrev CGI (a : MPp) (n : Int) : Int := (CHR a n).hi
abbrev CEP (i : Nat) (a : MPp) : Prop := i < a.q.c.ms.length
abbrev CIQ (i : Nat) (a : MPp) : Prop := i < a.q.c.ns.length
theorem DQY (a : MPp) : (V3Pp a) = ((BRP a = a.l.length /\ (∀ (i : Nat), i < BRP a -> (CGT a i).a = (gD a.l i).a /\ (CGT a i).b = (gD a.l i).b) /\ CEU a /\ CFS a /\ CEB a /\ CDL a /\ CGF a /\ CGU a
 = a.q.c.ms.length /\ (∀ (i : Nat), i < CGU a -> CET a i = (gD a.q.c.ms i).pl /\ CIX a i = (gD a.q.c.ms i).ht) /\ L0 a = a.q.c.ns.length /\ (∀ (i : Nat), i < L0 a -> CGW a i = (gD a.q.c.ns i).mi /\
 CMN a i = AEW a i /\ CLT a i = ADH a i /\ CMQ a i = X3 a i /\ CFO a i = S7 a i) /\ BGC a /\ AU = AU /\ (∀ (n : Int), CED a n = hasN a.q.c.ns n) /\ BII a /\ (∀ (n : Int), CMM a
 n = (ntOf a.q.c.ns n).mi /\ CEV a n = (ntOf a.q.c.ns n).t.lo /\ CHA a n = (ntOf a.q.c.ns n).t.hi /\ CHZ a n = (ntOf a.q.c.ns n).s.lo /\ CGI a n = (ntOf a.q.c.ns n).s.hi) /\ CEU a /\ CFS a /\ CEB a /\
 CDL a /\ CGF a /\ a.q.c.ms.length = CGU a /\ (∀ (i : Nat), CEP i a -> (gD a.q.c.ms i).pl = CET a i /\ (gD a.q.c.ms i).ht = CIX a i) /\ a.q.c.ns.length = L0 a /\ (∀ (i : Nat), CIQ i a -> (gD a.q.c.ns
 i).mi = CGW a i /\ AEW a i = CMN a i /\ ADH a i = CLT a i /\ X3 a i = CMQ a i /\ S7 a i = CFO a i) /\ BGC a /\ AU = AU /\ (∀ (n : Int), hasN a.q.c.ns n = CED a n) /\ BII a /\ (∀
 (n : Int), (ntOf a.q.c.ns n).mi = CMM a n /\ (ntOf a.q.c.ns n).t.lo = CEV a n /\ (ntOf a.q.c.ns n).t.hi = CHA a n /\ (ntOf a.q.c.ns n).s.lo = CHZ a n /\ (ntOf a.q.c.ns n).s.hi = CGI a n) /\ BRP a <
 4611686018427387904 /\ L0 a < 1073741824) /\ decide (IB (λ (i : Nat) => !IN a.q.c (gD a.l i)) a.l.length 0 >= 0) = decide (IB (λ (i : Nat) => !IN (Cht.mk a.q.c.p a.q.c.base a.q.c.scale a.q.c.off (CFZ a)
 (oJ a)) (CGT a i)) (BRP a) 0 >= 0) /\ CEU a /\ CFS a /\ CEB a /\ CDL a /\ CGF a /\ a.q.c.ms.length = a.q.c.ms.length /\ (∀ (i : Nat), CEP i a -> (gD a.q.c.ms i).pl = (gD a.q.c.ms i).pl /\ (gD a.q.c.ms
 i).ht = (gD a.q.c.ms i).ht) /\ a.q.c.ns.length = a.q.c.ns.length /\ (∀ (i : Nat), CIQ i a -> (gD a.q.c.ns i).mi = (gD a.q.c.ns i).mi /\ AEW a i = AEW a i /\ ADH a i = ADH a i /\ X3 a i = X3 a i /\
 S7 a i = S7 a i) /\ BGC a /\ AU = AU /\ (∀ (n : Int), hasN a.q.c.ns n = hasN a.q.c.ns n) /\ BII a /\ ∀ (n : Int), (ntOf a.q.c.ns n).mi = (ntOf a.q.c.ns n).mi /\ (ntOf a.q.c.ns n).t.lo = (ntOf a.q.c.ns
 n).t.lo /\ (ntOf a.q.c.ns n).t.hi = (ntOf a.q.c.ns n).t.hi /\ (ntOf a.q.c.ns n).s.lo = (ntOf a.q.c.ns n).s.lo /\ (ntOf a.q.c.ns n).s.hi = (ntOf a.q.c.ns n).s.hi) := by kernel_rfl
theorem DQV : AP Try.prog DCE (C3Pp.spec d3Pp) := Ctr.spec_ok (C := C3Pp) (λ (a : MPp) h => TV (A := A3Pp) (ren := []) (fz := []) DPK (by kernel_rfl) (AD DST AK) (by
 obtain ⟨h, hp⟩ : a.l.length < 4611686018427387904 /\ a.q.c.ns.length < 1073741824 := h
 show V3Pp a; rw [DQY]; delta CSC BRP CGT CEU CFS CEB CDL CGF CFZ CGU CEG CET CIX oJ L0 BIJ CGW CLG CMN AEW CLT ADH CMG CMQ X3 CFO S7 BGC CED BII BIT CMM CMX CEV CHA CHR CHZ CGI CEP CIQ; simp [h, hp, JI, BO])) _
def d4Pp : List AVal -> Heap -> Option (MPp × List (Nat × Nat) × List Nat)
 | [y, .fn _ [.bptr j _] _], H => match T5 y H with
  | some (n, g, f) => match rT H j with
   | some (q, m) => some (⟨q, AE n λ i => dPr (g i)⟩, [(101, j), (102, m)], f)
   | none => none
  | none => none
 | _, _ => none
def A4Pp : Ann := { ann 9 [(DCE, C3Pp.spec d3Pp)] with E := [101, 102] }
def C4Pp : Ctr := { ro := [101, 102], α := MPp, xs := λ a => [.d (Ga a.l), fvPp a.q], L := λ a => LXPp a.q, val := λ a => .bool (a.l.all λ x => IN a.q.c x), keep := λ a => KXPp a.q, pre := PPp }
def V4Pp (a : MPp) : Prop := AZ Try.prog A4Pp F_eP (AN F_eP) (C4Pp.xs a) (AF (C4Pp.L a)) (C4Pp.val a) (C4Pp.keep a) [] []
abbrev CTD (a : MPp) : List Pr := AE a.l.length λ (i : Nat) => gD a.l i
abbrev BXA (a : MPp) : Nat := (CTD a).length
abbrev CFP (a : MPp) (i : Nat) : Pr := gD (CTD a) i
abbrev CFW (a : MPp) : Prop := a.q.c.p.lo = a.q.c.p.lo
abbrev CJG (a : MPp) : Prop := a.q.c.p.hi = a.q.c.p.hi
abbrev CJT (a : MPp) : Prop := a.q.c.base = a.q.c.base
abbrev CJU (a : MPp) : Prop := a.q.c.scale = a.q.c.scale
abbrev CJS (a : MPp) : Prop := a.q.c.off = a.q.c.off
abbrev CEK (a : MPp) : List Mk := AE a.q.c.ms.length λ (i : Nat) => gD a.q.c.ms i
abbrev CFT (a : MPp) : Nat := (CEK a).length
abbrev CDC (a : MPp) (i : Nat) : Mk := gD (CEK a) i
abbrev CHI (a : MPp) (i : Nat) : Int := (CDC a i).pl
abbrev CJY (a : MPp) (i : Nat) : Int := (CDC a i).ht
abbrev cB (a : MPp) : List Nt := AE a.q.c.ns.length λ (i : Nat) => gD a.q.c.ns i
abbrev ABT (a : MPp) : Nat := (cB a).length
abbrev BIW (a : MPp) (i : Nat) : Nt := gD (cB a) i
abbrev CJM (a : MPp) (i : Nat) : Int := (BIW a i).mi
abbrev CKH (a : MPp) (i : Nat) : Span := (BIW a i).t
abbrev CDE (a : MPp) (i : Nat) : Int := (CKH a i).lo
abbrev ADO (a : MPp) (i : Nat) : Int := (gD a.q.c.ns i).t.lo
abbrev CKQ (a : MPp) (i : Nat) : Int := (CKH a i).hi
abbrev U3 (a : MPp) (i : Nat) : Int := (gD a.q.c.ns i).t.hi
abbrev CHH (a : MPp) (i : Nat) : Span := (BIW a i).s
abbrev CKC (a : MPp) (i : Nat) : Int := (CHH a i).lo
abbrev Q7 (a : MPp) (i : Nat) : Int := (gD a.q.c.ns i).s.lo
abbrev CLK (a : MPp) (i : Nat) : Int := (CHH a i).hi
abbrev R7 (a : MPp) (i : Nat) : Int := (gD a.q.c.ns i).s.hi
abbrev BIK (a : MPp) : Prop := ∀ (i : Nat), i < 40 -> a.q.sp i = a.q.sp i
abbrev CIW (a : MPp) (n : Int) : Bool := hasN (cB a) n
abbrev BGW (a : MPp) : Prop := ∀ (n : Int), a.q.st n = a.q.st n
abbrev BHI (a : MPp) (n : Int) : Nt := ntOf (cB a) n
abbrev CFI (a : MPp) (n : Int) : Int := (BHI a n).mi
abbrev CHM (a : MPp) (n : Int) : Span := (BHI a n).t
abbrev CHP (a : MPp) (n : Int) : Int := (CHM a n).lo
abbrev CLR (a : MPp) (n : Int) : Int := (CHM a n).hi
abbrev CKN (a : MPp) (n : Int) : Span := (BHI a n).s
abbrev CHX (a : MPp) (n : Int) : Int := (CKN a n).lo
abbrev CDP (a : MPp) (n : Int) : Int := (CKN a n).hi
abbrev CLF (i : Nat) (a : MPp) : Prop := i < a.q.c.ms.length
abbrev CDN (i : Nat) (a : MPp) : Prop := i < a.q.c.ns.length
theorem DSZ (a : MPp) : (V4Pp a) = ((BXA a = a.l.length /\ (∀ (i : Nat), i < BXA a -> (CFP a i).a = (gD a.l i).a /\ (CFP a i).b = (gD a.l i).b) /\ CFW a /\ CJG a /\ CJT a /\ CJU a /\ CJS a /\ CFT a
 = a.q.c.ms.length /\ (∀ (i : Nat), i < CFT a -> CHI a i = (gD a.q.c.ms i).pl /\ CJY a i = (gD a.q.c.ms i).ht) /\ ABT a = a.q.c.ns.length /\ (∀ (i : Nat), i < ABT a -> CJM a i = (gD a.q.c.ns i).mi /\
 CDE a i = ADO a i /\ CKQ a i = U3 a i /\ CKC a i = Q7 a i /\ CLK a i = R7 a i) /\ BIK a /\ AU = AU /\ (∀ (n : Int), CIW a n = hasN a.q.c.ns n) /\ BGW a /\ (∀ (n : Int), CFI a
 n = (ntOf a.q.c.ns n).mi /\ CHP a n = (ntOf a.q.c.ns n).t.lo /\ CLR a n = (ntOf a.q.c.ns n).t.hi /\ CHX a n = (ntOf a.q.c.ns n).s.lo /\ CDP a n = (ntOf a.q.c.ns n).s.hi) /\ CFW a /\ CJG a /\ CJT a /\
 CJU a /\ CJS a /\ a.q.c.ms.length = CFT a /\ (∀ (i : Nat), CLF i a -> (gD a.q.c.ms i).pl = CHI a i /\ (gD a.q.c.ms i).ht = CJY a i) /\ a.q.c.ns.length = ABT a /\ (∀ (i : Nat), CDN i a -> (gD a.q.c.ns
 i).mi = CJM a i /\ ADO a i = CDE a i /\ U3 a i = CKQ a i /\ Q7 a i = CKC a i /\ R7 a i = CLK a i) /\ BIK a /\ AU = AU /\ (∀ (n : Int), hasN a.q.c.ns n = CIW a n) /\ BGW a /\ (∀
 (n : Int), (ntOf a.q.c.ns n).mi = CFI a n /\ (ntOf a.q.c.ns n).t.lo = CHP a n /\ (ntOf a.q.c.ns n).t.hi = CLR a n /\ (ntOf a.q.c.ns n).s.lo = CHX a n /\ (ntOf a.q.c.ns n).s.hi = CDP a n) /\ BXA a <
 4611686018427387904 /\ ABT a < 1073741824) /\ (a.l.all λ (x : Pr) => IN a.q.c x) = !decide (IB (λ (i : Nat) => !IN (Cht.mk a.q.c.p a.q.c.base a.q.c.scale a.q.c.off (CEK a) (cB a)) (CFP a i))
 (BXA a) 0 >= 0) /\ CFW a /\ CJG a /\ CJT a /\ CJU a /\ CJS a /\ a.q.c.ms.length = a.q.c.ms.length /\ (∀ (i : Nat), CLF i a -> (gD a.q.c.ms i).pl = (gD a.q.c.ms i).pl /\ (gD a.q.c.ms i).ht = (gD a.q.c.ms
 i).ht) /\ a.q.c.ns.length = a.q.c.ns.length /\ (∀ (i : Nat), CDN i a -> (gD a.q.c.ns i).mi = (gD a.q.c.ns i).mi /\ ADO a i = ADO a i /\ U3 a i = U3 a i /\ Q7 a i = Q7 a i /\ R7 a i = R7
 a i) /\ BIK a /\ AU = AU /\ (∀ (n : Int), hasN a.q.c.ns n = hasN a.q.c.ns n) /\ BGW a /\ ∀ (n : Int), (ntOf a.q.c.ns n).mi = (ntOf a.q.c.ns n).mi /\ (ntOf a.q.c.ns n).t.lo = (ntOf a.q.c.ns n).t.lo /\ (ntOf a.q.c.ns
 n).t.hi = (ntOf a.q.c.ns n).t.hi /\ (ntOf a.q.c.ns n).s.lo = (ntOf a.q.c.ns n).s.lo /\ (ntOf a.q.c.ns n).s.hi = (ntOf a.q.c.ns n).s.hi) := by kernel_rfl
theorem DQG (a : MPp) (h : BB (PPp a)) : FnT Try.prog n_eP (C4Pp.xs a) (AF (C4Pp.L a)) (C4Pp.val a) (C4Pp.keep a) := TV (A := A4Pp) (ren := []) (fz := []) DSQ (by kernel_rfl) (AD DQV AK) (by
 have h' : a.l.length < 4611686018427387904 /\ a.q.c.ns.length < 1073741824 := h
 show V4Pp a; rw [DSZ]; delta CTD BXA CFP CFW CJG CJT CJU CJS CEK CFT CDC CHI CJY cB ABT BIW CJM CKH CDE ADO CKQ U3 CHH CKC Q7 CLK R7 BIK CIW BGW BHI CFI CHM CHP CLR CKN CHX CDP CLF CDN; simp only [CC, eq_self, implies_true, forall_const, ge_iff_le]
 rw [<- oC]
 exact ⟨h', rfl⟩)
theorem DRD : AP Try.prog n_eP (C4Pp.spec d4Pp) := Ctr.spec_ok (C := C4Pp) DQG _
end Go.Bal
