/- Package chart: every pair. Printed by gench2.py. -/
import Derived.Test.YtdbjalgfomknhaaChG2
set_option linter.unusedVariables false
set_option linter.unusedSimpArgs false
namespace Go.Bal
open Go Go.Sym Go.Proofs
def LXPp (q : Dk) : List (Nat × AObj) := [(101, dkB q 102), (102, dkM q)]
def KXPp (q : Dk) : List (Nat × HCell) := [(101, .live (dkB q 102)), (102, .live (dkM q))]
def fvPp (q : Dk) : AVal := .fn (.func CNY) [.bptr 101 0] []
def BPp (q : Dk) : AObj := .box [fvPp q]
structure EPp where
 q : Dk
 e : Pr
structure MPp where
 q : Dk
 l : List Pr
def C1Pp : Ctr := { ro := [100, 101, 102], α := EPp, xs := λ a => [.d (ePr a.e), .bptr 100 0], L := λ a => (100, BPp a.q) :: LXPp a.q, val := λ a => .bool (!IP a.q.c a.e), keep := λ a => (100, .live (BPp a.q)) :: KXPp a.q, pre := λ a => [a.q.c.ns.length < 1073741824 /\ True] }
def d1Pp : List AVal -> Heap -> Option (EPp × List (Nat × Nat) × List Nat)
 | [.d d, .bptr id _], H => match H id with
  | .live (.box [.fn _ [.bptr j _] _]) => match rX H j with
   | some (q, m) => some (⟨q, dPr d⟩, [(100, id), (101, j), (102, m)], [])
   | none => none
  | _ => none
 | _, _ => none
def A1Pp : Ann := { ann 8 [(CNY, C_pair.spec dDkP)] with E := [100, 101, 102] }
def V1Pp (a : EPp) : Prop := BA Try.prog A1Pp DEF (AL DEF) (C1Pp.xs a) (AG (C1Pp.L a)) (C1Pp.val a) (C1Pp.keep a) [] []
abbrev CGO (a : EPp) : Prop := a.q.c.p.lo = a.q.c.p.lo
abbrev CIG (a : EPp) : Prop := a.q.c.p.hi = a.q.c.p.hi
abbrev CIA (a : EPp) : Prop := a.q.c.base = a.q.c.base
abbrev CIT (a : EPp) : Prop := a.q.c.scale = a.q.c.scale
abbrev CHT (a : EPp) : Prop := a.q.c.off = a.q.c.off
abbrev CFK (a : EPp) : List Mk := AF a.q.c.ms.length λ (i : Nat) => gD a.q.c.ms i
abbrev CFQ (a : EPp) : Nat := (CFK a).length
abbrev CVA (a : EPp) (i : Nat) : Mk := gD (CFK a) i
abbrev CVL (a : EPp) (i : Nat) : Int := (CVA a i).pl
abbrev CTU (a : EPp) (i : Nat) : Int := (CVA a i).ht
abbrev jH (a : EPp) : List Nt := AF a.q.c.ns.length λ (i : Nat) => gD a.q.c.ns i
abbrev ADW (a : EPp) : Nat := (jH a).length
abbrev BJY (a : EPp) (i : Nat) : Nt := gD (jH a) i
abbrev CLN (a : EPp) (i : Nat) : Int := (BJY a i).mi
abbrev CKA (a : EPp) (i : Nat) : Span := (BJY a i).t
abbrev CHN (a : EPp) (i : Nat) : Int := (CKA a i).lo
abbrev AAV (a : EPp) (i : Nat) : Int := (gD a.q.c.ns i).t.lo
abbrev CKC (a : EPp) (i : Nat) : Int := (CKA a i).hi
abbrev AEL (a : EPp) (i : Nat) : Int := (gD a.q.c.ns i).t.hi
abbrev CGE (a : EPp) (i : Nat) : Span := (BJY a i).s
abbrev CNA (a : EPp) (i : Nat) : Int := (CGE a i).lo
abbrev AJU (a : EPp) (i : Nat) : Int := (gD a.q.c.ns i).s.lo
abbrev CGN (a : EPp) (i : Nat) : Int := (CGE a i).hi
abbrev ABZ (a : EPp) (i : Nat) : Int := (gD a.q.c.ns i).s.hi
abbrev BLO (a : EPp) : Prop := ∀ (i : Nat), i < 40 -> a.q.sp i = a.q.sp i
abbrev CLI (a : EPp) (n : Int) : Bool := hasN (jH a) n
abbrev BKK (a : EPp) : Prop := ∀ (n : Int), a.q.st n = a.q.st n
abbrev BJB (a : EPp) (n : Int) : Nt := ntOf (jH a) n
abbrev COY (a : EPp) (n : Int) : Int := (BJB a n).mi
abbrev CFW (a : EPp) (n : Int) : Span := (BJB a n).t
abbrev CFP (a : EPp) (n : Int) : Int := (CFW a n).lo
abbrev CLD (a : EPp) (n : Int) : Int := (CFW a n).hi
abbrev CJO (a : EPp) (n : Int) : Span := (BJB a n).s
abbrev CKE (a : EPp) (n : Int) : Int := (CJO a n).lo
abbrev CMA (a : EPp) (n : Int) : Int := (CJO a n).hi
abbrev CNQ (i : Nat) (a : EPp) : Prop := i < a.q.c.ms.length
abbrev CGS (i : Nat) (a : EPp) : Prop := i < a.q.c.ns.length
theorem DVB (a : EPp) : (V1Pp a) = ((a.e.a = a.e.a /\ a.e.b = a.e.b /\ CGO a /\ CIG a /\ CIA a /\ CIT a /\ CHT a /\ CFQ a = a.q.c.ms.length /\ (∀ (i : Nat), i < CFQ a -> CVL a i = (gD a.q.c.ms i).pl /\
 CTU a i = (gD a.q.c.ms i).ht) /\ ADW a = a.q.c.ns.length /\ (∀ (i : Nat), i < ADW a -> CLN a i = (gD a.q.c.ns i).mi /\ CHN a i = AAV a i /\ CKC a i = AEL a i /\ CNA a i = AJU a i /\
 CGN a i = ABZ a i) /\ BLO a /\ AO = AO /\ (∀ (n : Int), CLI a n = hasN a.q.c.ns n) /\ BKK a /\ (∀ (n : Int), COY a n = (ntOf a.q.c.ns n).mi /\ CFP a n = (ntOf a.q.c.ns n).t.lo /\ CLD a n =
 (ntOf a.q.c.ns n).t.hi /\ CKE a n = (ntOf a.q.c.ns n).s.lo /\ CMA a n = (ntOf a.q.c.ns n).s.hi) /\ CGO a /\ CIG a /\ CIA a /\ CIT a /\ CHT a /\ a.q.c.ms.length = CFQ a /\ (∀ (i : Nat), CNQ i a -> (gD
 a.q.c.ms i).pl = CVL a i /\ (gD a.q.c.ms i).ht = CTU a i) /\ a.q.c.ns.length = ADW a /\ (∀ (i : Nat), CGS i a -> (gD a.q.c.ns i).mi = CLN a i /\ AAV a i = CHN a i /\ AEL a i = CKC a i /\
 AJU a i = CNA a i /\ ABZ a i = CGN a i) /\ BLO a /\ AO = AO /\ (∀ (n : Int), hasN a.q.c.ns n = CLI a n) /\ BKK a /\ (∀ (n : Int), (ntOf a.q.c.ns n).mi = COY a n /\ (ntOf a.q.c.ns n).t.lo =
 CFP a n /\ (ntOf a.q.c.ns n).t.hi = CLD a n /\ (ntOf a.q.c.ns n).s.lo = CKE a n /\ (ntOf a.q.c.ns n).s.hi = CMA a n) /\ ADW a < 1073741824 /\ True) /\ (!IP a.q.c a.e) = !IP (Cht.mk a.q.c.p a.q.c.base
 a.q.c.scale a.q.c.off (CFK a) (jH a)) a.e /\ CGO a /\ CIG a /\ CIA a /\ CIT a /\ CHT a /\ a.q.c.ms.length = a.q.c.ms.length /\ (∀ (i : Nat), CNQ i a -> (gD a.q.c.ms i).pl = (gD a.q.c.ms i).pl /\ (gD
 a.q.c.ms i).ht = (gD a.q.c.ms i).ht) /\ a.q.c.ns.length = a.q.c.ns.length /\ (∀ (i : Nat), CGS i a -> (gD a.q.c.ns i).mi = (gD a.q.c.ns i).mi /\ AAV a i = AAV a i /\ AEL a i = AEL a i /\ AJU a i =
 AJU a i /\ ABZ a i = ABZ a i) /\ BLO a /\ AO = AO /\ (∀ (n : Int), hasN a.q.c.ns n = hasN a.q.c.ns n) /\ BKK a /\ ∀ (n : Int), (ntOf a.q.c.ns n).mi = (ntOf a.q.c.ns n).mi /\ (ntOf a.q.c.ns n).t.lo = (ntOf
 a.q.c.ns n).t.lo /\ (ntOf a.q.c.ns n).t.hi = (ntOf a.q.c.ns n).t.hi /\ (ntOf a.q.c.ns n).s.lo = (ntOf a.q.c.ns n).s.lo /\ (ntOf a.q.c.ns n).s.hi = (ntOf a.q.c.ns n).s.hi) := by kernel_rfl
theorem DTM : AN Try.prog CSL (C1Pp.spec d1Pp) := MB C1Pp (λ _ => A1Pp) [] [] DPY (λ _ => by kernel_rfl) (λ _ => AD DKH AI) (λ (a : EPp) h => by
 have h : a.q.c.ns.length < 1073741824 := (show a.q.c.ns.length < 1073741824 /\ True from h).1
 show V1Pp a; rw [DVB]; delta CGO CIG CIA CIT CHT CFK CFQ CVA CVL CTU jH ADW BJY CLN CKA CHN AAV CKC AEL CGE CNA AJU CGN ABZ BLO CLI BKK BJB COY CFW CFP CLD CJO CKE CMA CNQ CGS; simp [wr, AJ, h, BI]) (λ _ => OS rfl rfl) _
def d2Pp : List AVal -> Heap -> Option (MPp × List (Nat × Nat) × List Nat)
 | [y, .fn _ _ [.bptr id _]], H => match rT y H with
  | some (n, g, f) => match H id with
   | .live (.box [.fn _ [.bptr j _] _]) => match rX H j with
    | some (q, m) => some (⟨q, AF n λ i => dPr (g i)⟩, [(100, id), (101, j), (102, m)], f)
    | none => none
   | _ => none
  | none => none
 | _, _ => none
def A2Pp (a : MPp) : Ann := { ann 19 [(CSL, C1Pp.spec d1Pp)] with E := [100, 101, 102], loops := λ id => if id = 2 then some [{ α := Nat, dflt := 0, T := λ k => ⟨[(0, .d (Ij a.l)), (1, .fn (.func CSL) [] [.bptr 100 0]), (7, .int a.l.length), (8, .int k)], (100, .live (BPp a.q)) :: KXPp a.q⟩, inv := λ k => k <= a.l.length /\ GK (λ i => !IP a.q.c (gD a.l i)) a.l.length 0 = GK (λ i => !IP a.q.c (gD a.l i)) (a.l.length - k) k, meas := λ k => a.l.length - k }] else none }
def PPp (a : MPp) : List Prop := [a.l.length < 4611686018427387904 /\ a.q.c.ns.length < 1073741824]
def C2Pp : Ctr := { ro := [100, 101, 102], α := MPp, xs := λ a => [.d (Ij a.l), .fn (.func CSL) [] [.bptr 100 0]], L := λ a => (100, BPp a.q) :: LXPp a.q, val := λ a => .int (GK (λ i => !IP a.q.c (gD a.l i)) a.l.length 0), keep := λ a => (100, .live (BPp a.q)) :: KXPp a.q, pre := PPp }
def V2Pp (a : MPp) : Prop := BA Try.prog (A2Pp a) DCV (AL DCV) (C2Pp.xs a) (AG (C2Pp.L a)) (C2Pp.val a) (C2Pp.keep a) [] []
abbrev CUB (a : MPp) : Prop := a.l.length = a.l.length
abbrev CTQ (a : MPp) (i : Nat) : Prop := (gD a.l i).a = (gD a.l i).a
abbrev CTD (a : MPp) (i : Nat) : Prop := (gD a.l i).b = (gD a.l i).b
abbrev CVP (a : MPp) : Prop := ∀ (i : Nat), i < a.l.length -> CTQ a i /\ CTD a i
abbrev CSQ (a : MPp) : Prop := (↑a.l.length : Int) = (↑a.l.length : Int)
abbrev CLF (a : MPp) : Prop := a.q.c.p.lo = a.q.c.p.lo
abbrev CIU (a : MPp) : Prop := a.q.c.p.hi = a.q.c.p.hi
abbrev CJT (a : MPp) : Prop := a.q.c.base = a.q.c.base
abbrev CII (a : MPp) : Prop := a.q.c.scale = a.q.c.scale
abbrev CFI (a : MPp) : Prop := a.q.c.off = a.q.c.off
abbrev COE (i : Nat) (a : MPp) : Prop := i < a.q.c.ms.length
abbrev CGV (i : Nat) (a : MPp) : Prop := i < a.q.c.ns.length
abbrev ADU (a : MPp) (i : Nat) : Int := (gD a.q.c.ns i).t.lo
abbrev AAG (a : MPp) (i : Nat) : Int := (gD a.q.c.ns i).t.hi
abbrev Z3 (a : MPp) (i : Nat) : Int := (gD a.q.c.ns i).s.lo
abbrev ACX (a : MPp) (i : Nat) : Int := (gD a.q.c.ns i).s.hi
abbrev BLK (a : MPp) : Prop := ∀ (i : Nat), i < 40 -> a.q.sp i = a.q.sp i
abbrev BKQ (a : MPp) : Prop := ∀ (n : Int), a.q.st n = a.q.st n
abbrev ADX (a : MPp) : Prop := CLF a /\ CIU a /\ CJT a /\ CII a /\ CFI a /\ a.q.c.ms.length = a.q.c.ms.length /\ (∀ (i : Nat), COE i a -> (gD a.q.c.ms i).pl = (gD a.q.c.ms i).pl /\ (gD a.q.c.ms i).ht = (gD
 a.q.c.ms i).ht) /\ a.q.c.ns.length = a.q.c.ns.length /\ (∀ (i : Nat), CGV i a -> (gD a.q.c.ns i).mi = (gD a.q.c.ns i).mi /\ ADU a i = ADU a i /\ AAG a i = AAG a i /\ Z3 a i = Z3 a i /\ ACX a i
 = ACX a i) /\ BLK a /\ AO = AO /\ (∀ (n : Int), hasN a.q.c.ns n = hasN a.q.c.ns n) /\ BKQ a /\ ∀ (n : Int), (ntOf a.q.c.ns n).mi = (ntOf a.q.c.ns n).mi /\ (ntOf a.q.c.ns n).t.lo = (ntOf a.q.c.ns n).t.lo /\ (ntOf
 a.q.c.ns n).t.hi = (ntOf a.q.c.ns n).t.hi /\ (ntOf a.q.c.ns n).s.lo = (ntOf a.q.c.ns n).s.lo /\ (ntOf a.q.c.ns n).s.hi = (ntOf a.q.c.ns n).s.hi
abbrev CLP (a : MPp) (i : Nat) : Bool := !IP a.q.c (gD a.l i)
abbrev BKD (a : MPp) : Int := GK (λ (i : Nat) => CLP a i) a.l.length 0
abbrev BKI (a : MPp) (a1 : Nat) : Nat := a.l.length - a1
abbrev BKJ (a : Nat) (a1 : MPp) : Prop := a <= a1.l.length /\ BKD a1 = GK (λ (i : Nat) => CLP a1 i) (BKI a1 a) a
abbrev CLO (a : Nat) (a1 : MPp) : Prop := (↑a : Int) < (↑a1.l.length : Int)
abbrev BIO (a : MPp) : List Mk := AF a.q.c.ms.length λ (i : Nat) => gD a.q.c.ms i
abbrev BJR (a : MPp) : Nat := (BIO a).length
abbrev CGT (a : MPp) (i : Nat) : Mk := gD (BIO a) i
abbrev CND (a : MPp) (i : Nat) : Int := (CGT a i).pl
abbrev CMH (a : MPp) (i : Nat) : Int := (CGT a i).ht
abbrev pQ (a : MPp) : List Nt := AF a.q.c.ns.length λ (i : Nat) => gD a.q.c.ns i
abbrev ACJ (a : MPp) : Nat := (pQ a).length
abbrev BJV (a : MPp) (i : Nat) : Nt := gD (pQ a) i
abbrev CNR (a : MPp) (i : Nat) : Int := (BJV a i).mi
abbrev CLB (a : MPp) (i : Nat) : Span := (BJV a i).t
abbrev CFM (a : MPp) (i : Nat) : Int := (CLB a i).lo
abbrev COP (a : MPp) (i : Nat) : Int := (CLB a i).hi
abbrev COI (a : MPp) (i : Nat) : Span := (BJV a i).s
abbrev CIW (a : MPp) (i : Nat) : Int := (COI a i).lo
abbrev CEQ (a : MPp) (i : Nat) : Int := (COI a i).hi
abbrev CIK (a : MPp) (n : Int) : Bool := hasN (pQ a) n
abbrev BLT (a : MPp) (n : Int) : Nt := ntOf (pQ a) n
abbrev CHW (a : MPp) (n : Int) : Int := (BLT a n).mi
abbrev CIE (a : MPp) (n : Int) : Span := (BLT a n).t
abbrev COD (a : MPp) (n : Int) : Int := (CIE a n).lo
abbrev CKP (a : MPp) (n : Int) : Int := (CIE a n).hi
abbrev CHL (a : MPp) (n : Int) : Span := (BLT a n).s
abbrev CNO (a : MPp) (n : Int) : Int := (CHL a n).lo
abbrev CMD (a : MPp) (n : Int) : Int := (CHL a n).hi
theorem DSQ (a : MPp) : (V2Pp a) = ((∃ (a_1 : Nat), (CUB a /\ CVP a /\ CSQ a /\ (↑a_1 : Int) = 0 /\ ADX a) /\ BKJ a_1 a) /\ ∀ (a_1 : Nat), BKJ a_1 a -> bif decide (CLO a_1 a) then ((0 <= (↑a_1 : Int) /\
 CLO a_1 a) /\ CTQ a a_1 /\ CTD a a_1 /\ CLF a /\ CIU a /\ CJT a /\ CII a /\ CFI a /\ BJR a = a.q.c.ms.length /\ (∀ (i : Nat), i < BJR a -> CND a i = (gD a.q.c.ms i).pl /\ CMH a i = (gD
 a.q.c.ms i).ht) /\ ACJ a = a.q.c.ns.length /\ (∀ (i : Nat), i < ACJ a -> CNR a i = (gD a.q.c.ns i).mi /\ CFM a i = ADU a i /\ COP a i = AAG a i /\ CIW a i = Z3 a i /\ CEQ a i = ACX a
 i) /\ BLK a /\ AO = AO /\ (∀ (n : Int), CIK a n = hasN a.q.c.ns n) /\ BKQ a /\ (∀ (n : Int), CHW a n = (ntOf a.q.c.ns n).mi /\ COD a n = (ntOf a.q.c.ns n).t.lo /\ CKP a n = (ntOf a.q.c.ns n).t.hi /\
 CNO a n = (ntOf a.q.c.ns n).s.lo /\ CMD a n = (ntOf a.q.c.ns n).s.hi) /\ CLF a /\ CIU a /\ CJT a /\ CII a /\ CFI a /\ a.q.c.ms.length = BJR a /\ (∀ (i : Nat), COE i a -> (gD a.q.c.ms i).pl = CND
 a i /\ (gD a.q.c.ms i).ht = CMH a i) /\ a.q.c.ns.length = ACJ a /\ (∀ (i : Nat), CGV i a -> (gD a.q.c.ns i).mi = CNR a i /\ ADU a i = CFM a i /\ AAG a i = COP a i /\ Z3 a i = CIW a i /\
 ACX a i = CEQ a i) /\ BLK a /\ AO = AO /\ (∀ (n : Int), hasN a.q.c.ns n = CIK a n) /\ BKQ a /\ (∀ (n : Int), (ntOf a.q.c.ns n).mi = CHW a n /\ (ntOf a.q.c.ns n).t.lo = COD a n /\ (ntOf a.q.c.ns
 n).t.hi = CKP a n /\ (ntOf a.q.c.ns n).s.lo = CNO a n /\ (ntOf a.q.c.ns n).s.hi = CMD a n) /\ ACJ a < 1073741824 /\ True) /\ bif !IP (Cht.mk a.q.c.p a.q.c.base a.q.c.scale a.q.c.off (BIO a) (pQ a))
 (gD a.l a_1) then BKD a = (↑a_1 : Int) /\ ADX a else ∃ (a_3 : Nat), (CUB a /\ CVP a /\ CSQ a /\ (↑a_3 : Int) = IntKind.i64.wrap ((↑a_1 : Int) + 1) /\ ADX a) /\ BKJ a_3 a /\ BKI a a_3 < BKI a a_1
 else BKD a = -1 /\ ADX a) := by kernel_rfl
theorem p2Pp (a : MPp) (h : BC (PPp a)) : V2Pp a := by
 obtain ⟨h, hp⟩ : a.l.length < 4611686018427387904 /\ a.q.c.ns.length < 1073741824 := h
 rw [DSQ]; delta CUB CTQ CTD CVP CSQ CLF CIU CJT CII CFI COE CGV ADU AAG Z3 ACX BLK BKQ ADX CLP BKD BKI BKJ CLO BIO BJR CGT CND CMH pQ ACJ BJV CNR CLB CFM COP COI CIW CEQ CIK BLT CHW CIE COD CKP CHL CNO CMD
 simp only [AU, eq_self, implies_true, and_self, true_and, and_true, true_implies, forall_const, decide_eq_true_eq, decide_eq_false_iff_not, Int.toNat_natCast, dSpan_eSpan, dInt_eInt, AY, AW, AX, Nat.zero_add, Int.zero_sub, Nat.le_eq, Nat.succ_eq_add_one, Nat.add_one_le_iff, Bool.not_eq_true', Bool.not_eq_false', rng_length, AK, AJ]
 refine ⟨⟨0, rfl, Nat.zero_le _, rfl⟩, λ k ⟨h1, h2⟩ => ⟨λ hlt => ?_, λ hge => ?_⟩⟩
 ·have hlt : k < a.l.length := by omega
  refine ⟨⟨⟨by omega, by omega⟩, hp⟩, λ hp => ?_, λ hp => ⟨k + 1, (FM (by omega)).symm, ⟨by omega, ?_⟩, by omega⟩⟩
  ·rw [h2]; exact Ei hlt (by simpa using hp)
  ·rw [h2]; exact AYJ hlt (by simpa using hp)
 ·rw [h2]; exact gQ (by omega)
theorem DVM : AN Try.prog DCA (C2Pp.spec d2Pp) := MB C2Pp A2Pp [] [] DSG (λ _ => by kernel_rfl) (λ _ => AD DTM AI) p2Pp (λ _ => OS rfl rfl) _
def C3Pp : Ctr := { C2Pp with val := λ (a : MPp) => .bool (decide (GK (λ i => !IP a.q.c (gD a.l i)) a.l.length 0 >= 0)) }
def d3Pp : List AVal -> Heap -> Option (C3Pp.α × List (Nat × Nat) × List Nat) := d2Pp
def A3Pp : Ann := { ann 9 [(DCA, C2Pp.spec d2Pp)] with E := [100, 101, 102] }
def V3Pp (a : MPp) : Prop := BA Try.prog A3Pp DFN (AL DFN) (C3Pp.xs a) (AG (C3Pp.L a)) (C3Pp.val a) (C3Pp.keep a) [] []
abbrev CWB (a : MPp) : List Pr := AF a.l.length λ (i : Nat) => gD a.l i
abbrev BMH (a : MPp) : Nat := (CWB a).length
abbrev CHE (a : MPp) (i : Nat) : Pr := gD (CWB a) i
abbrev CNN (a : MPp) : Prop := a.q.c.p.lo = a.q.c.p.lo
abbrev CNV (a : MPp) : Prop := a.q.c.p.hi = a.q.c.p.hi
abbrev CHP (a : MPp) : Prop := a.q.c.base = a.q.c.base
abbrev COS (a : MPp) : Prop := a.q.c.scale = a.q.c.scale
abbrev CJX (a : MPp) : Prop := a.q.c.off = a.q.c.off
abbrev CLR (a : MPp) : List Mk := AF a.q.c.ms.length λ (i : Nat) => gD a.q.c.ms i
abbrev CGJ (a : MPp) : Nat := (CLR a).length
abbrev CIR (a : MPp) (i : Nat) : Mk := gD (CLR a) i
abbrev CGI (a : MPp) (i : Nat) : Int := (CIR a i).pl
abbrev CKH (a : MPp) (i : Nat) : Int := (CIR a i).ht
abbrev lE (a : MPp) : List Nt := AF a.q.c.ns.length λ (i : Nat) => gD a.q.c.ns i
abbrev ACI (a : MPp) : Nat := (lE a).length
abbrev BJX (a : MPp) (i : Nat) : Nt := gD (lE a) i
abbrev COL (a : MPp) (i : Nat) : Int := (BJX a i).mi
abbrev CNG (a : MPp) (i : Nat) : Span := (BJX a i).t
abbrev CHV (a : MPp) (i : Nat) : Int := (CNG a i).lo
abbrev AIJ (a : MPp) (i : Nat) : Int := (gD a.q.c.ns i).t.lo
abbrev CIJ (a : MPp) (i : Nat) : Int := (CNG a i).hi
abbrev ADG (a : MPp) (i : Nat) : Int := (gD a.q.c.ns i).t.hi
abbrev CFE (a : MPp) (i : Nat) : Span := (BJX a i).s
abbrev CER (a : MPp) (i : Nat) : Int := (CFE a i).lo
abbrev AHS (a : MPp) (i : Nat) : Int := (gD a.q.c.ns i).s.lo
abbrev CGB (a : MPp) (i : Nat) : Int := (CFE a i).hi
abbrev AEJ (a : MPp) (i : Nat) : Int := (gD a.q.c.ns i).s.hi
abbrev BKU (a : MPp) : Prop := ∀ (i : Nat), i < 40 -> a.q.sp i = a.q.sp i
abbrev COH (a : MPp) (n : Int) : Bool := hasN (lE a) n
abbrev BJW (a : MPp) : Prop := ∀ (n : Int), a.q.st n = a.q.st n
abbrev BKV (a : MPp) (n : Int) : Nt := ntOf (lE a) n
abbrev CJA (a : MPp) (n : Int) : Int := (BKV a n).mi
abbrev CFT (a : MPp) (n : Int) : Span := (BKV a n).t
abbrev CMB (a : MPp) (n : Int) : Int := (CFT a n).lo
abbrev CKJ (a : MPp) (n : Int) : Int := (CFT a n).hi
abbrev CNU (a : MPp) (n : Int) : Span := (BKV a n).s
abbrev CPN (a : MPp) (n : Int) : Int := (CNU a n).lo
abbrev CPK (a : MPp) (n : Int) : Int := (CNU a n).hi
abbrev CNI (i : Nat) (a : MPp) : Prop := i < a.q.c.ms.length
abbrev CLH (i : Nat) (a : MPp) : Prop := i < a.q.c.ns.length
theorem DTC (a : MPp) : (V3Pp a) = ((BMH a = a.l.length /\ (∀ (i : Nat), i < BMH a -> (CHE a i).a = (gD a.l i).a /\ (CHE a i).b = (gD a.l i).b) /\ CNN a /\ CNV a /\ CHP a /\ COS a /\ CJX a /\ CGJ a
 = a.q.c.ms.length /\ (∀ (i : Nat), i < CGJ a -> CGI a i = (gD a.q.c.ms i).pl /\ CKH a i = (gD a.q.c.ms i).ht) /\ ACI a = a.q.c.ns.length /\ (∀ (i : Nat), i < ACI a -> COL a i = (gD a.q.c.ns i).mi /\
 CHV a i = AIJ a i /\ CIJ a i = ADG a i /\ CER a i = AHS a i /\ CGB a i = AEJ a i) /\ BKU a /\ AO = AO /\ (∀ (n : Int), COH a n = hasN a.q.c.ns n) /\ BJW a /\ (∀ (n : Int), CJA a
 n = (ntOf a.q.c.ns n).mi /\ CMB a n = (ntOf a.q.c.ns n).t.lo /\ CKJ a n = (ntOf a.q.c.ns n).t.hi /\ CPN a n = (ntOf a.q.c.ns n).s.lo /\ CPK a n = (ntOf a.q.c.ns n).s.hi) /\ CNN a /\ CNV a /\ CHP a /\
 COS a /\ CJX a /\ a.q.c.ms.length = CGJ a /\ (∀ (i : Nat), CNI i a -> (gD a.q.c.ms i).pl = CGI a i /\ (gD a.q.c.ms i).ht = CKH a i) /\ a.q.c.ns.length = ACI a /\ (∀ (i : Nat), CLH i a -> (gD a.q.c.ns
 i).mi = COL a i /\ AIJ a i = CHV a i /\ ADG a i = CIJ a i /\ AHS a i = CER a i /\ AEJ a i = CGB a i) /\ BKU a /\ AO = AO /\ (∀ (n : Int), hasN a.q.c.ns n = COH a n) /\ BJW a /\ (∀
 (n : Int), (ntOf a.q.c.ns n).mi = CJA a n /\ (ntOf a.q.c.ns n).t.lo = CMB a n /\ (ntOf a.q.c.ns n).t.hi = CKJ a n /\ (ntOf a.q.c.ns n).s.lo = CPN a n /\ (ntOf a.q.c.ns n).s.hi = CPK a n) /\ BMH a <
 4611686018427387904 /\ ACI a < 1073741824) /\ decide (GK (λ (i : Nat) => !IP a.q.c (gD a.l i)) a.l.length 0 >= 0) = decide (GK (λ (i : Nat) => !IP (Cht.mk a.q.c.p a.q.c.base a.q.c.scale a.q.c.off (CLR a)
 (lE a)) (CHE a i)) (BMH a) 0 >= 0) /\ CNN a /\ CNV a /\ CHP a /\ COS a /\ CJX a /\ a.q.c.ms.length = a.q.c.ms.length /\ (∀ (i : Nat), CNI i a -> (gD a.q.c.ms i).pl = (gD a.q.c.ms i).pl /\ (gD a.q.c.ms
 i).ht = (gD a.q.c.ms i).ht) /\ a.q.c.ns.length = a.q.c.ns.length /\ (∀ (i : Nat), CLH i a -> (gD a.q.c.ns i).mi = (gD a.q.c.ns i).mi /\ AIJ a i = AIJ a i /\ ADG a i = ADG a i /\ AHS a i = AHS a i /\
 AEJ a i = AEJ a i) /\ BKU a /\ AO = AO /\ (∀ (n : Int), hasN a.q.c.ns n = hasN a.q.c.ns n) /\ BJW a /\ ∀ (n : Int), (ntOf a.q.c.ns n).mi = (ntOf a.q.c.ns n).mi /\ (ntOf a.q.c.ns n).t.lo = (ntOf a.q.c.ns
 n).t.lo /\ (ntOf a.q.c.ns n).t.hi = (ntOf a.q.c.ns n).t.hi /\ (ntOf a.q.c.ns n).s.lo = (ntOf a.q.c.ns n).s.lo /\ (ntOf a.q.c.ns n).s.hi = (ntOf a.q.c.ns n).s.hi) := by kernel_rfl
theorem DSX : AN Try.prog DEL (C3Pp.spec d3Pp) := Ctr.spec_ok (C := C3Pp) (λ (a : MPp) h => PJ (A := A3Pp) (ren := []) (fz := []) DRK (by kernel_rfl) (AD DVM AI) (by
 obtain ⟨h, hp⟩ : a.l.length < 4611686018427387904 /\ a.q.c.ns.length < 1073741824 := h
 show V3Pp a; rw [DTC]; delta CWB BMH CHE CNN CNV CHP COS CJX CLR CGJ CIR CGI CKH lE ACI BJX COL CNG CHV AIJ CIJ ADG CFE CER AHS CGB AEJ BKU COH BJW BKV CJA CFT CMB CKJ CNU CPN CPK CNI CLH; simp [h, hp, AJ, BI])) _
def d4Pp : List AVal -> Heap -> Option (MPp × List (Nat × Nat) × List Nat)
 | [y, .fn _ [.bptr j _] _], H => match rT y H with
  | some (n, g, f) => match rX H j with
   | some (q, m) => some (⟨q, AF n λ i => dPr (g i)⟩, [(101, j), (102, m)], f)
   | none => none
  | none => none
 | _, _ => none
def A4Pp : Ann := { ann 9 [(DEL, C3Pp.spec d3Pp)] with E := [101, 102] }
def C4Pp : Ctr := { ro := [101, 102], α := MPp, xs := λ a => [.d (Ij a.l), fvPp a.q], L := λ a => LXPp a.q, val := λ a => .bool (a.l.all λ x => IP a.q.c x), keep := λ a => KXPp a.q, pre := PPp }
def V4Pp (a : MPp) : Prop := BA Try.prog A4Pp F_eP (AL F_eP) (C4Pp.xs a) (AG (C4Pp.L a)) (C4Pp.val a) (C4Pp.keep a) [] []
abbrev CUD (a : MPp) : List Pr := AF a.l.length λ (i : Nat) => gD a.l i
abbrev CCO (a : MPp) : Nat := (CUD a).length
abbrev CPI (a : MPp) (i : Nat) : Pr := gD (CUD a) i
abbrev CIO (a : MPp) : Prop := a.q.c.p.lo = a.q.c.p.lo
abbrev CJK (a : MPp) : Prop := a.q.c.p.hi = a.q.c.p.hi
abbrev CFY (a : MPp) : Prop := a.q.c.base = a.q.c.base
abbrev CHI (a : MPp) : Prop := a.q.c.scale = a.q.c.scale
abbrev CPD (a : MPp) : Prop := a.q.c.off = a.q.c.off
abbrev CNM (a : MPp) : List Mk := AF a.q.c.ms.length λ (i : Nat) => gD a.q.c.ms i
abbrev CNZ (a : MPp) : Nat := (CNM a).length
abbrev CMG (a : MPp) (i : Nat) : Mk := gD (CNM a) i
abbrev CJZ (a : MPp) (i : Nat) : Int := (CMG a i).pl
abbrev CJI (a : MPp) (i : Nat) : Int := (CMG a i).ht
abbrev iT (a : MPp) : List Nt := AF a.q.c.ns.length λ (i : Nat) => gD a.q.c.ns i
abbrev AEW (a : MPp) : Nat := (iT a).length
abbrev BLU (a : MPp) (i : Nat) : Nt := gD (iT a) i
abbrev CMZ (a : MPp) (i : Nat) : Int := (BLU a i).mi
abbrev CJR (a : MPp) (i : Nat) : Span := (BLU a i).t
abbrev CMX (a : MPp) (i : Nat) : Int := (CJR a i).lo
abbrev AHO (a : MPp) (i : Nat) : Int := (gD a.q.c.ns i).t.lo
abbrev CGL (a : MPp) (i : Nat) : Int := (CJR a i).hi
abbrev AEE (a : MPp) (i : Nat) : Int := (gD a.q.c.ns i).t.hi
abbrev COM (a : MPp) (i : Nat) : Span := (BLU a i).s
abbrev CGM (a : MPp) (i : Nat) : Int := (COM a i).lo
abbrev AEV (a : MPp) (i : Nat) : Int := (gD a.q.c.ns i).s.lo
abbrev CGF (a : MPp) (i : Nat) : Int := (COM a i).hi
abbrev ABG (a : MPp) (i : Nat) : Int := (gD a.q.c.ns i).s.hi
abbrev BJM (a : MPp) : Prop := ∀ (i : Nat), i < 40 -> a.q.sp i = a.q.sp i
abbrev CKG (a : MPp) (n : Int) : Bool := hasN (iT a) n
abbrev BIU (a : MPp) : Prop := ∀ (n : Int), a.q.st n = a.q.st n
abbrev BJA (a : MPp) (n : Int) : Nt := ntOf (iT a) n
abbrev CLY (a : MPp) (n : Int) : Int := (BJA a n).mi
abbrev CKO (a : MPp) (n : Int) : Span := (BJA a n).t
abbrev CMI (a : MPp) (n : Int) : Int := (CKO a n).lo
abbrev CLM (a : MPp) (n : Int) : Int := (CKO a n).hi
abbrev CJH (a : MPp) (n : Int) : Span := (BJA a n).s
abbrev CKU (a : MPp) (n : Int) : Int := (CJH a n).lo
abbrev CGX (a : MPp) (n : Int) : Int := (CJH a n).hi
abbrev CME (i : Nat) (a : MPp) : Prop := i < a.q.c.ms.length
abbrev CIP (i : Nat) (a : MPp) : Prop := i < a.q.c.ns.length
theorem DTF (a : MPp) : (V4Pp a) = ((CCO a = a.l.length /\ (∀ (i : Nat), i < CCO a -> (CPI a i).a = (gD a.l i).a /\ (CPI a i).b = (gD a.l i).b) /\ CIO a /\ CJK a /\ CFY a /\ CHI a /\ CPD a /\ CNZ a
 = a.q.c.ms.length /\ (∀ (i : Nat), i < CNZ a -> CJZ a i = (gD a.q.c.ms i).pl /\ CJI a i = (gD a.q.c.ms i).ht) /\ AEW a = a.q.c.ns.length /\ (∀ (i : Nat), i < AEW a -> CMZ a i = (gD a.q.c.ns i).mi /\
 CMX a i = AHO a i /\ CGL a i = AEE a i /\ CGM a i = AEV a i /\ CGF a i = ABG a i) /\ BJM a /\ AO = AO /\ (∀ (n : Int), CKG a n = hasN a.q.c.ns n) /\ BIU a /\ (∀ (n : Int), CLY a
 n = (ntOf a.q.c.ns n).mi /\ CMI a n = (ntOf a.q.c.ns n).t.lo /\ CLM a n = (ntOf a.q.c.ns n).t.hi /\ CKU a n = (ntOf a.q.c.ns n).s.lo /\ CGX a n = (ntOf a.q.c.ns n).s.hi) /\ CIO a /\ CJK a /\ CFY a /\
 CHI a /\ CPD a /\ a.q.c.ms.length = CNZ a /\ (∀ (i : Nat), CME i a -> (gD a.q.c.ms i).pl = CJZ a i /\ (gD a.q.c.ms i).ht = CJI a i) /\ a.q.c.ns.length = AEW a /\ (∀ (i : Nat), CIP i a -> (gD a.q.c.ns
 i).mi = CMZ a i /\ AHO a i = CMX a i /\ AEE a i = CGL a i /\ AEV a i = CGM a i /\ ABG a i = CGF a i) /\ BJM a /\ AO = AO /\ (∀ (n : Int), hasN a.q.c.ns n = CKG a n) /\ BIU a /\ (∀
 (n : Int), (ntOf a.q.c.ns n).mi = CLY a n /\ (ntOf a.q.c.ns n).t.lo = CMI a n /\ (ntOf a.q.c.ns n).t.hi = CLM a n /\ (ntOf a.q.c.ns n).s.lo = CKU a n /\ (ntOf a.q.c.ns n).s.hi = CGX a n) /\ CCO a <
 4611686018427387904 /\ AEW a < 1073741824) /\ (a.l.all λ (x : Pr) => IP a.q.c x) = !decide (GK (λ (i : Nat) => !IP (Cht.mk a.q.c.p a.q.c.base a.q.c.scale a.q.c.off (CNM a) (iT a)) (CPI a i))
 (CCO a) 0 >= 0) /\ CIO a /\ CJK a /\ CFY a /\ CHI a /\ CPD a /\ a.q.c.ms.length = a.q.c.ms.length /\ (∀ (i : Nat), CME i a -> (gD a.q.c.ms i).pl = (gD a.q.c.ms i).pl /\ (gD a.q.c.ms i).ht = (gD a.q.c.ms
 i).ht) /\ a.q.c.ns.length = a.q.c.ns.length /\ (∀ (i : Nat), CIP i a -> (gD a.q.c.ns i).mi = (gD a.q.c.ns i).mi /\ AHO a i = AHO a i /\ AEE a i = AEE a i /\ AEV a i = AEV a i /\ ABG a i = ABG
 a i) /\ BJM a /\ AO = AO /\ (∀ (n : Int), hasN a.q.c.ns n = hasN a.q.c.ns n) /\ BIU a /\ ∀ (n : Int), (ntOf a.q.c.ns n).mi = (ntOf a.q.c.ns n).mi /\ (ntOf a.q.c.ns n).t.lo = (ntOf a.q.c.ns n).t.lo /\ (ntOf a.q.c.ns
 n).t.hi = (ntOf a.q.c.ns n).t.hi /\ (ntOf a.q.c.ns n).s.lo = (ntOf a.q.c.ns n).s.lo /\ (ntOf a.q.c.ns n).s.hi = (ntOf a.q.c.ns n).s.hi) := by kernel_rfl
theorem DTI (a : MPp) (h : BC (PPp a)) : FnT Try.prog n_eP (C4Pp.xs a) (AG (C4Pp.L a)) (C4Pp.val a) (C4Pp.keep a) := PJ (A := A4Pp) (ren := []) (fz := []) DUJ (by kernel_rfl) (AD DSX AI) (by
 have h' : a.l.length < 4611686018427387904 /\ a.q.c.ns.length < 1073741824 := h
 show V4Pp a; rw [DTF]; delta CUD CCO CPI CIO CJK CFY CHI CPD CNM CNZ CMG CJZ CJI iT AEW BLU CMZ CJR CMX AHO CGL AEE COM CGM AEV CGF ABG BJM CKG BIU BJA CLY CKO CMI CLM CJH CKU CGX CME CIP; simp only [AU, eq_self, implies_true, and_self, true_and, and_true, true_implies, forall_const, decide_eq_true_eq, decide_eq_false_iff_not, Int.toNat_natCast, dSpan_eSpan, dInt_eInt, AY, AW, AX, Nat.zero_add, Int.zero_sub, Nat.le_eq, Nat.succ_eq_add_one, Nat.add_one_le_iff, Bool.not_eq_true', Bool.not_eq_false', rng_length, AK, AJ, ge_iff_le]
 rw [<- Es]
 exact ⟨h', rfl⟩)
theorem DTA : AN Try.prog n_eP (C4Pp.spec d4Pp) := Ctr.spec_ok (C := C4Pp) DTI _
end Go.Bal
