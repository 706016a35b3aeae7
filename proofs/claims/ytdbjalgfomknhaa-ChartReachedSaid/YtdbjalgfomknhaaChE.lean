/- Package chart: every. Printed by gench.py. -/
import Derived.Test.YtdbjalgfomknhaaChA
set_option linter.unusedVariables false
set_option linter.unusedSimpArgs false
namespace Go.Bal
open Go Go.Sym Go.Proofs
def allB (p : Nat -> Bool) : Nat -> Bool
 | 0 => true
 | n + 1 => allB p n && p n
theorem Ia {p : Nat -> Bool} : ∀ {n : Nat}, allB p n = true ↔ ∀ i, i < n -> p i = true
 | 0 => by simp [allB]
 | n + 1 => by
  simp only [allB, Bool.and_eq_true, Ia (n := n)]
  constructor
  ·intro h i hi
   by_cases he : i = n
   ·subst he; exact h.2
   ·exact h.1 i (by omega)
  ·exact λ h => ⟨λ i hi => h i (by omega), h n (by omega)⟩
theorem CTE {p : Nat -> Bool} : ∀ {n k : Nat}, (0 <= GK p n k) ↔ ∃ i, k <= i /\ i < k + n /\ p i = true
 | 0, k => by simp [GK]; omega
 | n + 1, k => by
  simp only [GK]
  by_cases h : p k = true
  ·rw [if_pos h]
   constructor
   ·intro _; exact ⟨k, Nat.le_refl _, by omega, h⟩
   ·intro _; omega
  ·rw [if_neg h, CTE (n := n) (k := k + 1)]
   constructor
   ·rintro ⟨i, h1, h2, h3⟩; exact ⟨i, by omega, by omega, h3⟩
   ·rintro ⟨i, h1, h2, h3⟩
    refine ⟨i, ?_, by omega, h3⟩
    by_cases he : i = k
    ·subst he; exact absurd h3 h
    ·omega
theorem DGC {p : Nat -> Bool} {n : Nat} : (!decide (0 <= GK (λ i => !p i) n 0)) = allB p n := by
 rw [Bool.eq_iff_iff, Ia]
 simp only [Bool.not_eq_true', decide_eq_false_iff_not, CTE, Nat.zero_le, Nat.zero_add, true_and]
 constructor
 ·intro h i hi
  cases hp : p i with
  | true => rfl
  | false => exact (h ⟨i, hi, by simp [hp]⟩).elim
 ·rintro h ⟨i, hi, hp⟩
  rw [h i hi] at hp; cases hp
theorem Es {α : Type} [Inhabited α] {p : α -> Bool} {l : List α} : (!decide (0 <= GK (λ i => !p (gD l i)) l.length 0)) = l.all p := by
 rw [DGC, Bool.eq_iff_iff, Ia, List.all_eq_true]
 exact ⟨λ h x hx => by obtain ⟨i, hi, rfl⟩ := Oe hx; exact h i hi, λ h i hi => h _ (RK hi)⟩
def chB (c : Cht) : AObj := .box [.int c.p.lo, .int c.p.hi, .int c.base, .int c.scale, .int c.off, .d (eMks c.ms), .d (eNts c.ns)]
def YR (H : Heap) (id : Nat) : Option Cht := match H id with
 | .live (.box [.d a, .d b, .d c, .d d, .d e, .d (.list _ n f _), .d (.list _ m g _)]) => some ⟨⟨BV a, BV b⟩, BV c, BV d, BV e, AF n λ i => dMk (f i), AF m λ i => dNt (g i)⟩
 | _ => none
structure ChN where
 q : Cht
 e : Nt
def C_ck1 : Ctr := { ro := [101], α := ChN, xs := λ a => [.d (eNt a.e), .bptr 101 0], L := λ a => [(101, chB a.q)], val := λ a => .bool (CF a.e a.q.ms.length), keep := λ a => [(101, .live (chB a.q))] }
def DNO : List AVal -> Heap -> Option (ChN × List (Nat × Nat) × List Nat)
 | [.d d, .bptr id _], H => match YR H id with
  | some q => some (⟨q, dNt d⟩, [(101, id)], [])
  | none => none
 | _, _ => none
def DMJ : Ann := { ann 9 [(CNL, CZF)] with E := [101] }
def DOW (a : ChN) : Prop := BA Try.prog DMJ BTH (AL BTH) (C_ck1.xs a) (AG (C_ck1.L a)) (C_ck1.val a) (C_ck1.keep a) [] []
theorem DRY (a : ChN) : (DOW a) = (CF a.e (↑a.q.ms.length : Int) = CF (Nt.mk a.e.mi a.e.t a.e.s) (↑a.q.ms.length : Int) /\ a.q.p.lo = a.q.p.lo /\ a.q.p.hi = a.q.p.hi /\ a.q.base = a.q.base /\ a.q.scale =
 a.q.scale /\ a.q.off = a.q.off /\ a.q.ms.length = a.q.ms.length /\ (∀ (i : Nat), i < a.q.ms.length -> (gD a.q.ms i).pl = (gD a.q.ms i).pl /\ (gD a.q.ms i).ht = (gD a.q.ms i).ht) /\ a.q.ns.length = a.q.ns.length /\ ∀ (i : Nat),
 i < a.q.ns.length -> (gD a.q.ns i).mi = (gD a.q.ns i).mi /\ (gD a.q.ns i).t.lo = (gD a.q.ns i).t.lo /\ (gD a.q.ns i).t.hi = (gD a.q.ns i).t.hi /\ (gD a.q.ns i).s.lo = (gD a.q.ns i).s.lo /\ (gD a.q.ns i).s.hi = (gD a.q.ns
 i).s.hi) := by kernel_rfl
theorem DQJ : AN Try.prog AHR (C_ck1.spec DNO) := MB C_ck1 (λ _ => DMJ) [] [] CZR (λ _ => by kernel_rfl) (λ _ => AD DHX AI) (λ (a : ChN) _ => by
 show DOW a; rw [DRY]; simp [wr, AJ]) (λ _ => OS rfl rfl) _
def DZ (s : Span) : Bool := decide (s.lo <= s.hi)
def DCI (x : Span) : Prop := BA Try.prog (ann 8 []) CVN (AL CVN) (xS1 x) (AG []) (.bool (DZ x)) [] [] []
theorem DLH (x : Span) : (DCI x) = (DZ x = decide (x.lo <= x.hi)) := by kernel_rfl
def CJD := pD dS1 λ x => .bool (DZ x)
theorem DKD : AN Try.prog CFN CJD := XL xS1 hS1 λ x _ => PJ (A := ann 8 []) (ren := []) (fz := []) DJY (by kernel_rfl) AI (by
 show DCI x; rw [DLH]; try simp [DZ])
def DDH (x : Span) : Prop := BA Try.prog (ann 8 []) CVK (AL CVK) (xS1 x) (AG []) (.bool (DZ x)) [] [] []
theorem DJR (x : Span) : (DDH x) = (DZ x = decide (x.lo <= x.hi)) := by kernel_rfl
theorem DKO : AN Try.prog CNK CJD := XL xS1 hS1 λ x _ => PJ (A := ann 8 []) (ren := []) (fz := []) DMC (by kernel_rfl) AI (by
 show DDH x; rw [DJR]; try simp [DZ])
def DMP (x : Int) : Prop := BA Try.prog (ann 5 [(sZ, s_in)]) BZQ (AL BZQ) (xI1 x) (AG []) (.bool (DT x (-100000000) 100000000)) [] [] []
theorem DQX (x : Int) : (DMP x) = (DT x (-100000000) 100000000 = DT x (-100000000) 100000000) := by kernel_rfl
def DMK := pD dI1 λ x => .bool (DT x (-100000000) 100000000)
theorem DQN : AN Try.prog ADD DMK := XL xI1 hI1 λ x _ => PJ (A := ann 5 [(sZ, s_in)]) (ren := []) (fz := []) CZS (by kernel_rfl) (AD rV AI) (by
 show DMP x; rw [DQX]; try simp)
def LXNr (q : Cht) : List (Nat × AObj) := [(101, chB q)]
def KXNr (q : Cht) : List (Nat × HCell) := [(101, .live (chB q))]
def fvNr (q : Cht) : AVal := .fn (.func AHR) [] [.bptr 101 0]
def BNr (q : Cht) : AObj := .box [fvNr q]
structure ENr where
 q : Cht
 e : Nt
structure MNr where
 q : Cht
 l : List Nt
def C1Nr : Ctr := { ro := [100, 101], α := ENr, xs := λ a => [.d (eNt a.e), .bptr 100 0], L := λ a => (100, BNr a.q) :: LXNr a.q, val := λ a => .bool (!CF a.e a.q.ms.length), keep := λ a => (100, .live (BNr a.q)) :: KXNr a.q }
def d1Nr : List AVal -> Heap -> Option (ENr × List (Nat × Nat) × List Nat)
 | [.d d, .bptr id _], H => match H id with
  | .live (.box [.fn _ _ [.bptr j _]]) => match YR H j with
   | some q => some (⟨q, dNt d⟩, [(100, id), (101, j)], [])
   | none => none
  | _ => none
 | _, _ => none
def A1Nr : Ann := { ann 8 [(AHR, C_ck1.spec DNO)] with E := [100, 101] }
def V1Nr (a : ENr) : Prop := BA Try.prog A1Nr DFV (AL DFV) (C1Nr.xs a) (AG (C1Nr.L a)) (C1Nr.val a) (C1Nr.keep a) [] []
theorem DSN (a : ENr) : (V1Nr a) = ((a.e.mi = a.e.mi /\ a.e.t.lo = a.e.t.lo /\ a.e.t.hi = a.e.t.hi /\ a.e.s.lo = a.e.s.lo /\ a.e.s.hi = a.e.s.hi /\ a.q.p.lo = a.q.p.lo /\ a.q.p.hi = a.q.p.hi /\ a.q.base = a.q.base /\ a.q.scale
 = a.q.scale /\ a.q.off = a.q.off /\ (AF a.q.ms.length λ (i : Nat) => gD a.q.ms i).length = a.q.ms.length /\ (∀ (i : Nat), i < (AF a.q.ms.length λ (i : Nat) => gD a.q.ms i).length -> (gD (AF a.q.ms.length λ (i : Nat)
 => gD a.q.ms i) i).pl = (gD a.q.ms i).pl /\ (gD (AF a.q.ms.length λ (i : Nat) => gD a.q.ms i) i).ht = (gD a.q.ms i).ht) /\ (AF a.q.ns.length λ (i : Nat) => gD a.q.ns i).length = a.q.ns.length /\ (∀ (i : Nat), i < (AF
 a.q.ns.length λ (i : Nat) => gD a.q.ns i).length -> (gD (AF a.q.ns.length λ (i : Nat) => gD a.q.ns i) i).mi = (gD a.q.ns i).mi /\ (gD (AF a.q.ns.length λ (i : Nat) => gD a.q.ns i) i).t.lo = (gD a.q.ns i).t.lo /\ (gD
 (AF a.q.ns.length λ (i : Nat) => gD a.q.ns i) i).t.hi = (gD a.q.ns i).t.hi /\ (gD (AF a.q.ns.length λ (i : Nat) => gD a.q.ns i) i).s.lo = (gD a.q.ns i).s.lo /\ (gD (AF a.q.ns.length λ (i : Nat) => gD a.q.ns i)
 i).s.hi = (gD a.q.ns i).s.hi) /\ a.q.p.lo = a.q.p.lo /\ a.q.p.hi = a.q.p.hi /\ a.q.base = a.q.base /\ a.q.scale = a.q.scale /\ a.q.off = a.q.off /\ a.q.ms.length = (AF a.q.ms.length λ (i : Nat) => gD a.q.ms i).length /\ (∀
 (i : Nat), i < a.q.ms.length -> (gD a.q.ms i).pl = (gD (AF a.q.ms.length λ (i : Nat) => gD a.q.ms i) i).pl /\ (gD a.q.ms i).ht = (gD (AF a.q.ms.length λ (i : Nat) => gD a.q.ms i) i).ht) /\ a.q.ns.length = (AF
 a.q.ns.length λ (i : Nat) => gD a.q.ns i).length /\ ∀ (i : Nat), i < a.q.ns.length -> (gD a.q.ns i).mi = (gD (AF a.q.ns.length λ (i : Nat) => gD a.q.ns i) i).mi /\ (gD a.q.ns i).t.lo = (gD (AF a.q.ns.length λ (i :
 Nat) => gD a.q.ns i) i).t.lo /\ (gD a.q.ns i).t.hi = (gD (AF a.q.ns.length λ (i : Nat) => gD a.q.ns i) i).t.hi /\ (gD a.q.ns i).s.lo = (gD (AF a.q.ns.length λ (i : Nat) => gD a.q.ns i) i).s.lo /\ (gD a.q.ns i).s.hi =
 (gD (AF a.q.ns.length λ (i : Nat) => gD a.q.ns i) i).s.hi) /\ (!CF a.e (↑a.q.ms.length : Int)) = !CF (Nt.mk a.e.mi a.e.t a.e.s) (↑(AF a.q.ms.length λ (i : Nat) => gD a.q.ms i).length : Int) /\ a.q.p.lo =
 a.q.p.lo /\ a.q.p.hi = a.q.p.hi /\ a.q.base = a.q.base /\ a.q.scale = a.q.scale /\ a.q.off = a.q.off /\ a.q.ms.length = a.q.ms.length /\ (∀ (i : Nat), i < a.q.ms.length -> (gD a.q.ms i).pl = (gD a.q.ms i).pl /\ (gD a.q.ms i).ht
 = (gD a.q.ms i).ht) /\ a.q.ns.length = a.q.ns.length /\ ∀ (i : Nat), i < a.q.ns.length -> (gD a.q.ns i).mi = (gD a.q.ns i).mi /\ (gD a.q.ns i).t.lo = (gD a.q.ns i).t.lo /\ (gD a.q.ns i).t.hi = (gD a.q.ns i).t.hi /\ (gD a.q.ns
 i).s.lo = (gD a.q.ns i).s.lo /\ (gD a.q.ns i).s.hi = (gD a.q.ns i).s.hi) := by kernel_rfl
theorem DUB : AN Try.prog CSB (C1Nr.spec d1Nr) := MB C1Nr (λ _ => A1Nr) [] [] DSD (λ _ => by kernel_rfl) (λ _ => AD DQJ AI) (λ (a : ENr) h => by
 show V1Nr a; rw [DSN]; try simp [wr, AJ]) (λ _ => OS rfl rfl) _
def d2Nr : List AVal -> Heap -> Option (MNr × List (Nat × Nat) × List Nat)
 | [y, .fn _ _ [.bptr id _]], H => match rT y H with
  | some (n, g, f) => match H id with
   | .live (.box [.fn _ _ [.bptr j _]]) => match YR H j with
    | some q => some (⟨q, AF n λ i => dNt (g i)⟩, [(100, id), (101, j)], f)
    | none => none
   | _ => none
  | none => none
 | _, _ => none
def A2Nr (a : MNr) : Ann := { ann 19 [(CSB, C1Nr.spec d1Nr)] with E := [100, 101], loops := λ id => if id = 2 then some [{ α := Nat, dflt := 0, T := λ k => ⟨[(0, .d (eNts a.l)), (1, .fn (.func CSB) [] [.bptr 100 0]), (7, .int a.l.length), (8, .int k)], (100, .live (BNr a.q)) :: KXNr a.q⟩, inv := λ k => k <= a.l.length /\ GK (λ i => !CF (gD a.l i) a.q.ms.length) a.l.length 0 = GK (λ i => !CF (gD a.l i) a.q.ms.length) (a.l.length - k) k, meas := λ k => a.l.length - k }] else none }
def PNr (a : MNr) : List Prop := [a.l.length < 4611686018427387904 /\ True]
def C2Nr : Ctr := { ro := [100, 101], α := MNr, xs := λ a => [.d (eNts a.l), .fn (.func CSB) [] [.bptr 100 0]], L := λ a => (100, BNr a.q) :: LXNr a.q, val := λ a => .int (GK (λ i => !CF (gD a.l i) a.q.ms.length) a.l.length 0), keep := λ a => (100, .live (BNr a.q)) :: KXNr a.q, pre := PNr }
def V2Nr (a : MNr) : Prop := BA Try.prog (A2Nr a) CSH (AL CSH) (C2Nr.xs a) (AG (C2Nr.L a)) (C2Nr.val a) (C2Nr.keep a) [] []
abbrev CVW (a : MNr) : Prop := a.l.length = a.l.length
abbrev CVT (a : MNr) (i : Nat) : Prop := (gD a.l i).mi = (gD a.l i).mi
abbrev CVZ (a : MNr) (i : Nat) : Prop := (gD a.l i).t.lo = (gD a.l i).t.lo
abbrev CSU (a : MNr) (i : Nat) : Prop := (gD a.l i).t.hi = (gD a.l i).t.hi
abbrev CVU (a : MNr) (i : Nat) : Prop := (gD a.l i).s.lo = (gD a.l i).s.lo
abbrev CVI (a : MNr) (i : Nat) : Prop := (gD a.l i).s.hi = (gD a.l i).s.hi
abbrev CWF (a : MNr) : Prop := ∀ (i : Nat), i < a.l.length -> CVT a i /\ CVZ a i /\ CSU a i /\ CVU a i /\ CVI a i
abbrev CUK (a : MNr) : Prop := (↑a.l.length : Int) = (↑a.l.length : Int)
abbrev CIF (a : MNr) : Prop := a.q.p.lo = a.q.p.lo
abbrev CIB (a : MNr) : Prop := a.q.p.hi = a.q.p.hi
abbrev Z2 (a : MNr) : Prop := CIF a /\ CIB a /\ a.q.base = a.q.base /\ a.q.scale = a.q.scale /\ a.q.off = a.q.off /\ a.q.ms.length = a.q.ms.length /\ (∀ (i : Nat), i < a.q.ms.length -> (gD a.q.ms i).pl = (gD a.q.ms
 i).pl /\ (gD a.q.ms i).ht = (gD a.q.ms i).ht) /\ a.q.ns.length = a.q.ns.length /\ ∀ (i : Nat), i < a.q.ns.length -> (gD a.q.ns i).mi = (gD a.q.ns i).mi /\ (gD a.q.ns i).t.lo = (gD a.q.ns i).t.lo /\ (gD a.q.ns i).t.hi = (gD
 a.q.ns i).t.hi /\ (gD a.q.ns i).s.lo = (gD a.q.ns i).s.lo /\ (gD a.q.ns i).s.hi = (gD a.q.ns i).s.hi
abbrev CJV (a : MNr) (i : Nat) : Bool := !CF (gD a.l i) (↑a.q.ms.length : Int)
abbrev BLL (a : MNr) : Int := GK (λ (i : Nat) => CJV a i) a.l.length 0
abbrev BJC (a : MNr) (a1 : Nat) : Nat := a.l.length - a1
abbrev BKR (a : Nat) (a1 : MNr) : Prop := a <= a1.l.length /\ BLL a1 = GK (λ (i : Nat) => CJV a1 i) (BJC a1 a) a
abbrev CGD (a : Nat) (a1 : MNr) : Prop := (↑a : Int) < (↑a1.l.length : Int)
abbrev CMW (a : MNr) : List Mk := AF a.q.ms.length λ (i : Nat) => gD a.q.ms i
abbrev AAN (a : MNr) : Nat := (CMW a).length
abbrev CKQ (a : MNr) (i : Nat) : Mk := gD (CMW a) i
abbrev CIC (a : MNr) (i : Nat) : Int := (CKQ a i).pl
abbrev COJ (a : MNr) (i : Nat) : Int := (CKQ a i).ht
abbrev CJF (a : MNr) : List Nt := AF a.q.ns.length λ (i : Nat) => gD a.q.ns i
abbrev BKF (a : MNr) : Nat := (CJF a).length
abbrev BJD (a : MNr) (i : Nat) : Nt := gD (CJF a) i
abbrev CMT (a : MNr) (i : Nat) : Int := (BJD a i).mi
abbrev CEX (a : MNr) (i : Nat) : Span := (BJD a i).t
abbrev COT (a : MNr) (i : Nat) : Int := (CEX a i).lo
abbrev CLU (a : MNr) (i : Nat) : Int := (CEX a i).hi
abbrev CIM (a : MNr) (i : Nat) : Span := (BJD a i).s
abbrev CNF (a : MNr) (i : Nat) : Int := (CIM a i).lo
abbrev CNJ (a : MNr) (i : Nat) : Int := (CIM a i).hi
theorem DTT (a : MNr) : (V2Nr a) = ((∃ (a_1 : Nat), (CVW a /\ CWF a /\ CUK a /\ (↑a_1 : Int) = 0 /\ Z2 a) /\ BKR a_1 a) /\ ∀ (a_1 : Nat), BKR a_1 a -> bif decide (CGD a_1 a) then ((0 <= (↑a_1 : Int) /\
 CGD a_1 a) /\ CVT a a_1 /\ CVZ a a_1 /\ CSU a a_1 /\ CVU a a_1 /\ CVI a a_1 /\ CIF a /\ CIB a /\ a.q.base = a.q.base /\ a.q.scale = a.q.scale /\ a.q.off = a.q.off /\ AAN a = a.q.ms.length /\ (∀ (i :
 Nat), i < AAN a -> CIC a i = (gD a.q.ms i).pl /\ COJ a i = (gD a.q.ms i).ht) /\ BKF a = a.q.ns.length /\ (∀ (i : Nat), i < BKF a -> CMT a i = (gD a.q.ns i).mi /\ COT a i = (gD a.q.ns i).t.lo /\
 CLU a i = (gD a.q.ns i).t.hi /\ CNF a i = (gD a.q.ns i).s.lo /\ CNJ a i = (gD a.q.ns i).s.hi) /\ CIF a /\ CIB a /\ a.q.base = a.q.base /\ a.q.scale = a.q.scale /\ a.q.off = a.q.off /\ a.q.ms.length = AAN a
 /\ (∀ (i : Nat), i < a.q.ms.length -> (gD a.q.ms i).pl = CIC a i /\ (gD a.q.ms i).ht = COJ a i) /\ a.q.ns.length = BKF a /\ ∀ (i : Nat), i < a.q.ns.length -> (gD a.q.ns i).mi = CMT a i /\ (gD a.q.ns i).t.lo =
 COT a i /\ (gD a.q.ns i).t.hi = CLU a i /\ (gD a.q.ns i).s.lo = CNF a i /\ (gD a.q.ns i).s.hi = CNJ a i) /\ bif !CF (Nt.mk (gD a.l a_1).mi (gD a.l a_1).t (gD a.l a_1).s) (↑(AAN a) : Int) then BLL
 a = (↑a_1 : Int) /\ Z2 a else ∃ (a_3 : Nat), (CVW a /\ CWF a /\ CUK a /\ (↑a_3 : Int) = IntKind.i64.wrap ((↑a_1 : Int) + 1) /\ Z2 a) /\ BKR a_3 a /\ BJC a a_3 < BJC a a_1 else BLL a = -1 /\
 Z2 a) := by kernel_rfl
theorem p2Nr (a : MNr) (h : BC (PNr a)) : V2Nr a := by
 obtain ⟨h, hp⟩ : a.l.length < 4611686018427387904 /\ True := h
 rw [DTT]; delta CVW CVT CVZ CSU CVU CVI CWF CUK CIF CIB Z2 CJV BLL BJC BKR CGD CMW AAN CKQ CIC COJ CJF BKF BJD CMT CEX COT CLU CIM CNF CNJ
 simp only [AU, eq_self, implies_true, and_self, true_and, and_true, true_implies, forall_const, decide_eq_true_eq, decide_eq_false_iff_not, Int.toNat_natCast, dSpan_eSpan, dInt_eInt, AY, AW, AX, Nat.zero_add, Int.zero_sub, Nat.le_eq, Nat.succ_eq_add_one, Nat.add_one_le_iff, Bool.not_eq_true', Bool.not_eq_false', rng_length, AK, AJ]
 refine ⟨⟨0, rfl, Nat.zero_le _, rfl⟩, λ k ⟨h1, h2⟩ => ⟨λ hlt => ?_, λ hge => ?_⟩⟩
 ·have hlt : k < a.l.length := by omega
  refine ⟨⟨by omega, by omega⟩, λ hp => ?_, λ hp => ⟨k + 1, (FM (by omega)).symm, ⟨by omega, ?_⟩, by omega⟩⟩
  ·rw [h2]; exact Ei hlt (by simpa using hp)
  ·rw [h2]; exact AYJ hlt (by simpa using hp)
 ·rw [h2]; exact gQ (by omega)
theorem DVK : AN Try.prog CSI (C2Nr.spec d2Nr) := MB C2Nr A2Nr [] [] DEN (λ _ => by kernel_rfl) (λ _ => AD DUB AI) p2Nr (λ _ => OS rfl rfl) _
def C3Nr : Ctr := { C2Nr with val := λ (a : MNr) => .bool (decide (GK (λ i => !CF (gD a.l i) a.q.ms.length) a.l.length 0 >= 0)) }
def d3Nr : List AVal -> Heap -> Option (C3Nr.α × List (Nat × Nat) × List Nat) := d2Nr
def A3Nr : Ann := { ann 9 [(CSI, C2Nr.spec d2Nr)] with E := [100, 101] }
def V3Nr (a : MNr) : Prop := BA Try.prog A3Nr CRF (AL CRF) (C3Nr.xs a) (AG (C3Nr.L a)) (C3Nr.val a) (C3Nr.keep a) [] []
theorem DUI (a : MNr) : (V3Nr a) = (((AF a.l.length λ (i : Nat) => gD a.l i).length = a.l.length /\ (∀ (i : Nat), i < (AF a.l.length λ (i : Nat) => gD a.l i).length -> (gD (AF a.l.length λ (i : Nat) => gD a.l i)
 i).mi = (gD a.l i).mi /\ (gD (AF a.l.length λ (i : Nat) => gD a.l i) i).t.lo = (gD a.l i).t.lo /\ (gD (AF a.l.length λ (i : Nat) => gD a.l i) i).t.hi = (gD a.l i).t.hi /\ (gD (AF a.l.length λ (i : Nat) => gD a.l i)
 i).s.lo = (gD a.l i).s.lo /\ (gD (AF a.l.length λ (i : Nat) => gD a.l i) i).s.hi = (gD a.l i).s.hi) /\ a.q.p.lo = a.q.p.lo /\ a.q.p.hi = a.q.p.hi /\ a.q.base = a.q.base /\ a.q.scale = a.q.scale /\ a.q.off = a.q.off /\ (AF
 a.q.ms.length λ (i : Nat) => gD a.q.ms i).length = a.q.ms.length /\ (∀ (i : Nat), i < (AF a.q.ms.length λ (i : Nat) => gD a.q.ms i).length -> (gD (AF a.q.ms.length λ (i : Nat) => gD a.q.ms i) i).pl = (gD a.q.ms
 i).pl /\ (gD (AF a.q.ms.length λ (i : Nat) => gD a.q.ms i) i).ht = (gD a.q.ms i).ht) /\ (AF a.q.ns.length λ (i : Nat) => gD a.q.ns i).length = a.q.ns.length /\ (∀ (i : Nat), i < (AF a.q.ns.length λ (i : Nat) => gD
 a.q.ns i).length -> (gD (AF a.q.ns.length λ (i : Nat) => gD a.q.ns i) i).mi = (gD a.q.ns i).mi /\ (gD (AF a.q.ns.length λ (i : Nat) => gD a.q.ns i) i).t.lo = (gD a.q.ns i).t.lo /\ (gD (AF a.q.ns.length λ (i : Nat)
 => gD a.q.ns i) i).t.hi = (gD a.q.ns i).t.hi /\ (gD (AF a.q.ns.length λ (i : Nat) => gD a.q.ns i) i).s.lo = (gD a.q.ns i).s.lo /\ (gD (AF a.q.ns.length λ (i : Nat) => gD a.q.ns i) i).s.hi = (gD a.q.ns i).s.hi) /\
 a.q.p.lo = a.q.p.lo /\ a.q.p.hi = a.q.p.hi /\ a.q.base = a.q.base /\ a.q.scale = a.q.scale /\ a.q.off = a.q.off /\ a.q.ms.length = (AF a.q.ms.length λ (i : Nat) => gD a.q.ms i).length /\ (∀ (i : Nat), i < a.q.ms.length ->
 (gD a.q.ms i).pl = (gD (AF a.q.ms.length λ (i : Nat) => gD a.q.ms i) i).pl /\ (gD a.q.ms i).ht = (gD (AF a.q.ms.length λ (i : Nat) => gD a.q.ms i) i).ht) /\ a.q.ns.length = (AF a.q.ns.length λ (i : Nat) => gD
 a.q.ns i).length /\ (∀ (i : Nat), i < a.q.ns.length -> (gD a.q.ns i).mi = (gD (AF a.q.ns.length λ (i : Nat) => gD a.q.ns i) i).mi /\ (gD a.q.ns i).t.lo = (gD (AF a.q.ns.length λ (i : Nat) => gD a.q.ns i) i).t.lo /\ (gD
 a.q.ns i).t.hi = (gD (AF a.q.ns.length λ (i : Nat) => gD a.q.ns i) i).t.hi /\ (gD a.q.ns i).s.lo = (gD (AF a.q.ns.length λ (i : Nat) => gD a.q.ns i) i).s.lo /\ (gD a.q.ns i).s.hi = (gD (AF a.q.ns.length λ (i :
 Nat) => gD a.q.ns i) i).s.hi) /\ (AF a.l.length λ (i : Nat) => gD a.l i).length < 4611686018427387904 /\ True) /\ decide (GK (λ (i : Nat) => !CF (gD a.l i) (↑a.q.ms.length : Int)) a.l.length 0 >= 0) = decide (GK
 (λ (i : Nat) => !CF (gD (AF a.l.length λ (i : Nat) => gD a.l i) i) (↑(AF a.q.ms.length λ (i : Nat) => gD a.q.ms i).length : Int)) (AF a.l.length λ (i : Nat) => gD a.l i).length 0 >= 0) /\ a.q.p.lo = a.q.p.lo
 /\ a.q.p.hi = a.q.p.hi /\ a.q.base = a.q.base /\ a.q.scale = a.q.scale /\ a.q.off = a.q.off /\ a.q.ms.length = a.q.ms.length /\ (∀ (i : Nat), i < a.q.ms.length -> (gD a.q.ms i).pl = (gD a.q.ms i).pl /\ (gD a.q.ms i).ht = (gD
 a.q.ms i).ht) /\ a.q.ns.length = a.q.ns.length /\ ∀ (i : Nat), i < a.q.ns.length -> (gD a.q.ns i).mi = (gD a.q.ns i).mi /\ (gD a.q.ns i).t.lo = (gD a.q.ns i).t.lo /\ (gD a.q.ns i).t.hi = (gD a.q.ns i).t.hi /\ (gD a.q.ns
 i).s.lo = (gD a.q.ns i).s.lo /\ (gD a.q.ns i).s.hi = (gD a.q.ns i).s.hi) := by kernel_rfl
theorem DUY : AN Try.prog CPX (C3Nr.spec d3Nr) := Ctr.spec_ok (C := C3Nr) (λ (a : MNr) h => PJ (A := A3Nr) (ren := []) (fz := []) DDK (by kernel_rfl) (AD DVK AI) (by
 obtain ⟨h, hp⟩ : a.l.length < 4611686018427387904 /\ True := h
 show V3Nr a; rw [DUI]; simp [h, AJ])) _
def d4Nr : List AVal -> Heap -> Option (MNr × List (Nat × Nat) × List Nat)
 | [y, .fn _ _ [.bptr j _]], H => match rT y H with
  | some (n, g, f) => match YR H j with
   | some q => some (⟨q, AF n λ i => dNt (g i)⟩, [(101, j)], f)
   | none => none
  | none => none
 | _, _ => none
def A4Nr : Ann := { ann 9 [(CPX, C3Nr.spec d3Nr)] with E := [101] }
def C4Nr : Ctr := { ro := [101], α := MNr, xs := λ a => [.d (eNts a.l), fvNr a.q], L := λ a => LXNr a.q, val := λ a => .bool (a.l.all λ x => CF x a.q.ms.length), keep := λ a => KXNr a.q, pre := PNr }
def V4Nr (a : MNr) : Prop := BA Try.prog A4Nr F_eN (AL F_eN) (C4Nr.xs a) (AG (C4Nr.L a)) (C4Nr.val a) (C4Nr.keep a) [] []
theorem DSM (a : MNr) : (V4Nr a) = (((AF a.l.length λ (i : Nat) => gD a.l i).length = a.l.length /\ (∀ (i : Nat), i < (AF a.l.length λ (i : Nat) => gD a.l i).length -> (gD (AF a.l.length λ (i : Nat) => gD a.l i)
 i).mi = (gD a.l i).mi /\ (gD (AF a.l.length λ (i : Nat) => gD a.l i) i).t.lo = (gD a.l i).t.lo /\ (gD (AF a.l.length λ (i : Nat) => gD a.l i) i).t.hi = (gD a.l i).t.hi /\ (gD (AF a.l.length λ (i : Nat) => gD a.l i)
 i).s.lo = (gD a.l i).s.lo /\ (gD (AF a.l.length λ (i : Nat) => gD a.l i) i).s.hi = (gD a.l i).s.hi) /\ a.q.p.lo = a.q.p.lo /\ a.q.p.hi = a.q.p.hi /\ a.q.base = a.q.base /\ a.q.scale = a.q.scale /\ a.q.off = a.q.off /\ (AF
 a.q.ms.length λ (i : Nat) => gD a.q.ms i).length = a.q.ms.length /\ (∀ (i : Nat), i < (AF a.q.ms.length λ (i : Nat) => gD a.q.ms i).length -> (gD (AF a.q.ms.length λ (i : Nat) => gD a.q.ms i) i).pl = (gD a.q.ms
 i).pl /\ (gD (AF a.q.ms.length λ (i : Nat) => gD a.q.ms i) i).ht = (gD a.q.ms i).ht) /\ (AF a.q.ns.length λ (i : Nat) => gD a.q.ns i).length = a.q.ns.length /\ (∀ (i : Nat), i < (AF a.q.ns.length λ (i : Nat) => gD
 a.q.ns i).length -> (gD (AF a.q.ns.length λ (i : Nat) => gD a.q.ns i) i).mi = (gD a.q.ns i).mi /\ (gD (AF a.q.ns.length λ (i : Nat) => gD a.q.ns i) i).t.lo = (gD a.q.ns i).t.lo /\ (gD (AF a.q.ns.length λ (i : Nat)
 => gD a.q.ns i) i).t.hi = (gD a.q.ns i).t.hi /\ (gD (AF a.q.ns.length λ (i : Nat) => gD a.q.ns i) i).s.lo = (gD a.q.ns i).s.lo /\ (gD (AF a.q.ns.length λ (i : Nat) => gD a.q.ns i) i).s.hi = (gD a.q.ns i).s.hi) /\
 a.q.p.lo = a.q.p.lo /\ a.q.p.hi = a.q.p.hi /\ a.q.base = a.q.base /\ a.q.scale = a.q.scale /\ a.q.off = a.q.off /\ a.q.ms.length = (AF a.q.ms.length λ (i : Nat) => gD a.q.ms i).length /\ (∀ (i : Nat), i < a.q.ms.length ->
 (gD a.q.ms i).pl = (gD (AF a.q.ms.length λ (i : Nat) => gD a.q.ms i) i).pl /\ (gD a.q.ms i).ht = (gD (AF a.q.ms.length λ (i : Nat) => gD a.q.ms i) i).ht) /\ a.q.ns.length = (AF a.q.ns.length λ (i : Nat) => gD
 a.q.ns i).length /\ (∀ (i : Nat), i < a.q.ns.length -> (gD a.q.ns i).mi = (gD (AF a.q.ns.length λ (i : Nat) => gD a.q.ns i) i).mi /\ (gD a.q.ns i).t.lo = (gD (AF a.q.ns.length λ (i : Nat) => gD a.q.ns i) i).t.lo /\ (gD
 a.q.ns i).t.hi = (gD (AF a.q.ns.length λ (i : Nat) => gD a.q.ns i) i).t.hi /\ (gD a.q.ns i).s.lo = (gD (AF a.q.ns.length λ (i : Nat) => gD a.q.ns i) i).s.lo /\ (gD a.q.ns i).s.hi = (gD (AF a.q.ns.length λ (i :
 Nat) => gD a.q.ns i) i).s.hi) /\ (AF a.l.length λ (i : Nat) => gD a.l i).length < 4611686018427387904 /\ True) /\ (a.l.all λ (x : Nt) => CF x (↑a.q.ms.length : Int)) = !decide (GK (λ (i : Nat) => !CF (gD
 (AF a.l.length λ (i : Nat) => gD a.l i) i) (↑(AF a.q.ms.length λ (i : Nat) => gD a.q.ms i).length : Int)) (AF a.l.length λ (i : Nat) => gD a.l i).length 0 >= 0) /\ a.q.p.lo = a.q.p.lo /\ a.q.p.hi = a.q.p.hi /\
 a.q.base = a.q.base /\ a.q.scale = a.q.scale /\ a.q.off = a.q.off /\ a.q.ms.length = a.q.ms.length /\ (∀ (i : Nat), i < a.q.ms.length -> (gD a.q.ms i).pl = (gD a.q.ms i).pl /\ (gD a.q.ms i).ht = (gD a.q.ms i).ht) /\
 a.q.ns.length = a.q.ns.length /\ ∀ (i : Nat), i < a.q.ns.length -> (gD a.q.ns i).mi = (gD a.q.ns i).mi /\ (gD a.q.ns i).t.lo = (gD a.q.ns i).t.lo /\ (gD a.q.ns i).t.hi = (gD a.q.ns i).t.hi /\ (gD a.q.ns i).s.lo = (gD a.q.ns
 i).s.lo /\ (gD a.q.ns i).s.hi = (gD a.q.ns i).s.hi) := by kernel_rfl
theorem DVI (a : MNr) (h : BC (PNr a)) : FnT Try.prog n_eN (C4Nr.xs a) (AG (C4Nr.L a)) (C4Nr.val a) (C4Nr.keep a) := PJ (A := A4Nr) (ren := []) (fz := []) DSR (by kernel_rfl) (AD DUY AI) (by
 have h' : a.l.length < 4611686018427387904 /\ True := h
 show V4Nr a; rw [DSM]; simp only [AU, eq_self, implies_true, and_self, true_and, and_true, true_implies, forall_const, decide_eq_true_eq, decide_eq_false_iff_not, Int.toNat_natCast, dSpan_eSpan, dInt_eInt, AY, AW, AX, Nat.zero_add, Int.zero_sub, Nat.le_eq, Nat.succ_eq_add_one, Nat.add_one_le_iff, Bool.not_eq_true', Bool.not_eq_false', rng_length, AK, AJ, ge_iff_le]
 rw [<- Es]
 exact ⟨h'.1, rfl⟩)
theorem DUG : AN Try.prog n_eN (C4Nr.spec d4Nr) := Ctr.spec_ok (C := C4Nr) DVI _
def fvSa (q : One) : AVal := .fn (.func CFN) [] []
def BSa (q : One) : AObj := .box [fvSa q]
structure ESa where
 q : One
 e : Span
structure MSa where
 q : One
 l : List Span
def C1Sa : Ctr := { ro := [100], α := ESa, xs := λ a => [.d (CH a.e), .bptr 100 0], L := λ a => (100, BSa a.q) :: [], val := λ a => .bool (!DZ a.e), keep := λ a => (100, .live (BSa a.q)) :: [] }
def d1Sa : List AVal -> Heap -> Option (ESa × List (Nat × Nat) × List Nat)
 | [.d d, .bptr id _], H => some (⟨default, RS d⟩, [(100, id)], [])
 | _, _ => none
def A1Sa : Ann := { ann 8 [(CFN, CJD)] with E := [100] }
def V1Sa (a : ESa) : Prop := BA Try.prog A1Sa CRI (AL CRI) (C1Sa.xs a) (AG (C1Sa.L a)) (C1Sa.val a) (C1Sa.keep a) [] []
theorem DUT (a : ESa) : (V1Sa a) = ((!DZ a.e) = !DZ a.e) := by kernel_rfl
theorem DSO : AN Try.prog AFS (C1Sa.spec d1Sa) := MB C1Sa (λ _ => A1Sa) [] [] DBL (λ _ => by kernel_rfl) (λ _ => AD DKD AI) (λ (a : ESa) h => by
 show V1Sa a; rw [DUT]; try simp [wr, AJ]) (λ _ => OS rfl rfl) _
def d2Sa : List AVal -> Heap -> Option (MSa × List (Nat × Nat) × List Nat)
 | [y, .fn _ _ [.bptr id _]], H => match rT y H with
  | some (n, g, f) => some (⟨default, AF n λ i => RS (g i)⟩, [(100, id)], f)
  | none => none
 | _, _ => none
def A2Sa (a : MSa) : Ann := { ann 19 [(AFS, C1Sa.spec d1Sa)] with E := [100], loops := λ id => if id = 2 then some [{ α := Nat, dflt := 0, T := λ k => ⟨[(0, .d (AT a.l)), (1, .fn (.func AFS) [] [.bptr 100 0]), (7, .int a.l.length), (8, .int k)], (100, .live (BSa a.q)) :: []⟩, inv := λ k => k <= a.l.length /\ GK (λ i => !DZ (gD a.l i)) a.l.length 0 = GK (λ i => !DZ (gD a.l i)) (a.l.length - k) k, meas := λ k => a.l.length - k }] else none }
def PSa (a : MSa) : List Prop := [a.l.length < 4611686018427387904 /\ True]
def C2Sa : Ctr := { ro := [100], α := MSa, xs := λ a => [.d (AT a.l), .fn (.func AFS) [] [.bptr 100 0]], L := λ a => (100, BSa a.q) :: [], val := λ a => .int (GK (λ i => !DZ (gD a.l i)) a.l.length 0), keep := λ a => (100, .live (BSa a.q)) :: [], pre := PSa }
def V2Sa (a : MSa) : Prop := BA Try.prog (A2Sa a) CQV (AL CQV) (C2Sa.xs a) (AG (C2Sa.L a)) (C2Sa.val a) (C2Sa.keep a) [] []
theorem DSV (a : MSa) : (V2Sa a) = ((∃ (a_1 : Nat), (a.l.length = a.l.length /\ (∀ (i : Nat), i < a.l.length -> (gD a.l i).lo = (gD a.l i).lo /\ (gD a.l i).hi = (gD a.l i).hi) /\ (↑a.l.length : Int) = (↑a.l.length : Int) /\
 (↑a_1 : Int) = 0) /\ a_1 <= a.l.length /\ GK (λ (i : Nat) => !DZ (gD a.l i)) a.l.length 0 = GK (λ (i : Nat) => !DZ (gD a.l i)) (a.l.length - a_1) a_1) /\ ∀ (a_1 : Nat), a_1 <= a.l.length /\ GK (λ (i : Nat) => !DZ
 (gD a.l i)) a.l.length 0 = GK (λ (i : Nat) => !DZ (gD a.l i)) (a.l.length - a_1) a_1 -> bif decide ((↑a_1 : Int) < (↑a.l.length : Int)) then ((0 <= (↑a_1 : Int) /\ (↑a_1 : Int) < (↑a.l.length : Int)) /\ (gD a.l a_1).lo =
 (gD a.l a_1).lo /\ (gD a.l a_1).hi = (gD a.l a_1).hi) /\ bif !DZ (gD a.l a_1) then GK (λ (i : Nat) => !DZ (gD a.l i)) a.l.length 0 = (↑a_1 : Int) else ∃ (a_3 : Nat), (a.l.length = a.l.length /\ (∀ (i : Nat), i <
 a.l.length -> (gD a.l i).lo = (gD a.l i).lo /\ (gD a.l i).hi = (gD a.l i).hi) /\ (↑a.l.length : Int) = (↑a.l.length : Int) /\ (↑a_3 : Int) = IntKind.i64.wrap ((↑a_1 : Int) + 1)) /\ (a_3 <= a.l.length /\ GK (λ (i : Nat) =>
 !DZ (gD a.l i)) a.l.length 0 = GK (λ (i : Nat) => !DZ (gD a.l i)) (a.l.length - a_3) a_3) /\ a.l.length - a_3 < a.l.length - a_1 else GK (λ (i : Nat) => !DZ (gD a.l i)) a.l.length 0 = -1) := by kernel_rfl
theorem p2Sa (a : MSa) (h : BC (PSa a)) : V2Sa a := by
 obtain ⟨h, hp⟩ : a.l.length < 4611686018427387904 /\ True := h
 rw [DSV]
 simp only [AU, eq_self, implies_true, and_self, true_and, and_true, true_implies, forall_const, decide_eq_true_eq, decide_eq_false_iff_not, Int.toNat_natCast, dSpan_eSpan, dInt_eInt, AY, AW, AX, Nat.zero_add, Int.zero_sub, Nat.le_eq, Nat.succ_eq_add_one, Nat.add_one_le_iff, Bool.not_eq_true', Bool.not_eq_false', rng_length, AK, AJ]
 refine ⟨⟨0, rfl, Nat.zero_le _, rfl⟩, λ k ⟨h1, h2⟩ => ⟨λ hlt => ?_, λ hge => ?_⟩⟩
 ·have hlt : k < a.l.length := by omega
  refine ⟨⟨by omega, by omega⟩, λ hp => ?_, λ hp => ⟨k + 1, (FM (by omega)).symm, ⟨by omega, ?_⟩, by omega⟩⟩
  ·rw [h2]; exact Ei hlt (by simpa using hp)
  ·rw [h2]; exact AYJ hlt (by simpa using hp)
 ·rw [h2]; exact gQ (by omega)
theorem DSS : AN Try.prog CPO (C2Sa.spec d2Sa) := MB C2Sa A2Sa [] [] DFU (λ _ => by kernel_rfl) (λ _ => AD DSO AI) p2Sa (λ _ => OS rfl rfl) _
def C3Sa : Ctr := { C2Sa with val := λ (a : MSa) => .bool (decide (GK (λ i => !DZ (gD a.l i)) a.l.length 0 >= 0)) }
def d3Sa : List AVal -> Heap -> Option (C3Sa.α × List (Nat × Nat) × List Nat) := d2Sa
def A3Sa : Ann := { ann 9 [(CPO, C2Sa.spec d2Sa)] with E := [100] }
def V3Sa (a : MSa) : Prop := BA Try.prog A3Sa CQI (AL CQI) (C3Sa.xs a) (AG (C3Sa.L a)) (C3Sa.val a) (C3Sa.keep a) [] []
theorem DVA (a : MSa) : (V3Sa a) = (((AF a.l.length λ (i : Nat) => gD a.l i).length = a.l.length /\ (∀ (i : Nat), i < (AF a.l.length λ (i : Nat) => gD a.l i).length -> (gD (AF a.l.length λ (i : Nat) => gD a.l i)
 i).lo = (gD a.l i).lo /\ (gD (AF a.l.length λ (i : Nat) => gD a.l i) i).hi = (gD a.l i).hi) /\ (AF a.l.length λ (i : Nat) => gD a.l i).length < 4611686018427387904 /\ True) /\ decide (GK (λ (i : Nat) => !DZ (gD a.l
 i)) a.l.length 0 >= 0) = decide (GK (λ (i : Nat) => !DZ (gD (AF a.l.length λ (i : Nat) => gD a.l i) i)) (AF a.l.length λ (i : Nat) => gD a.l i).length 0 >= 0)) := by kernel_rfl
theorem DUK : AN Try.prog CPU (C3Sa.spec d3Sa) := Ctr.spec_ok (C := C3Sa) (λ (a : MSa) h => PJ (A := A3Sa) (ren := []) (fz := []) DGH (by kernel_rfl) (AD DSS AI) (by
 obtain ⟨h, hp⟩ : a.l.length < 4611686018427387904 /\ True := h
 show V3Sa a; rw [DVA]; simp [h, AJ])) _
def d4Sa : List AVal -> Heap -> Option (MSa × List (Nat × Nat) × List Nat)
 | [y, .fn _ _ _], H => match rT y H with
  | some (n, g, f) => some (⟨default, AF n λ i => RS (g i)⟩, [], f)
  | none => none
 | _, _ => none
def A4Sa : Ann := { ann 9 [(CPU, C3Sa.spec d3Sa)] with E := [] }
def C4Sa : Ctr := { ro := [], α := MSa, xs := λ a => [.d (AT a.l), fvSa a.q], L := λ a => [], val := λ a => .bool (a.l.all λ x => DZ x), keep := λ a => [], pre := PSa }
def V4Sa (a : MSa) : Prop := BA Try.prog A4Sa F_eS (AL F_eS) (C4Sa.xs a) (AG (C4Sa.L a)) (C4Sa.val a) (C4Sa.keep a) [] []
theorem DTO (a : MSa) : (V4Sa a) = (((AF a.l.length λ (i : Nat) => gD a.l i).length = a.l.length /\ (∀ (i : Nat), i < (AF a.l.length λ (i : Nat) => gD a.l i).length -> (gD (AF a.l.length λ (i : Nat) => gD a.l i)
 i).lo = (gD a.l i).lo /\ (gD (AF a.l.length λ (i : Nat) => gD a.l i) i).hi = (gD a.l i).hi) /\ (AF a.l.length λ (i : Nat) => gD a.l i).length < 4611686018427387904 /\ True) /\ (a.l.all λ (x : Span) => DZ x) =
 !decide (GK (λ (i : Nat) => !DZ (gD (AF a.l.length λ (i : Nat) => gD a.l i) i)) (AF a.l.length λ (i : Nat) => gD a.l i).length 0 >= 0)) := by kernel_rfl
theorem DMF (a : MSa) (h : BC (PSa a)) : FnT Try.prog n_eS (C4Sa.xs a) (AG (C4Sa.L a)) (C4Sa.val a) (C4Sa.keep a) := PJ (A := A4Sa) (ren := []) (fz := []) DMX (by kernel_rfl) (AD DUK AI) (by
 have h' : a.l.length < 4611686018427387904 /\ True := h
 show V4Sa a; rw [DTO]; simp only [AU, eq_self, implies_true, and_self, true_and, and_true, true_implies, forall_const, decide_eq_true_eq, decide_eq_false_iff_not, Int.toNat_natCast, dSpan_eSpan, dInt_eInt, AY, AW, AX, Nat.zero_add, Int.zero_sub, Nat.le_eq, Nat.succ_eq_add_one, Nat.add_one_le_iff, Bool.not_eq_true', Bool.not_eq_false', rng_length, AK, AJ, ge_iff_le]
 rw [<- Es]
 exact ⟨h'.1, rfl⟩)
theorem DUS : AN Try.prog n_eS (C4Sa.spec d4Sa) := Ctr.spec_ok (C := C4Sa) DMF _
def fvSn (q : One) : AVal := .fn (.func CNK) [] []
def BSn (q : One) : AObj := .box [fvSn q]
structure ESn where
 q : One
 e : Span
structure MSn where
 q : One
 l : List Span
def C1Sn : Ctr := { ro := [100], α := ESn, xs := λ a => [.d (CH a.e), .bptr 100 0], L := λ a => (100, BSn a.q) :: [], val := λ a => .bool (!DZ a.e), keep := λ a => (100, .live (BSn a.q)) :: [] }
def d1Sn : List AVal -> Heap -> Option (ESn × List (Nat × Nat) × List Nat)
 | [.d d, .bptr id _], H => some (⟨default, RS d⟩, [(100, id)], [])
 | _, _ => none
def A1Sn : Ann := { ann 8 [(CNK, CJD)] with E := [100] }
def V1Sn (a : ESn) : Prop := BA Try.prog A1Sn CRI (AL CRI) (C1Sn.xs a) (AG (C1Sn.L a)) (C1Sn.val a) (C1Sn.keep a) [] []
theorem DUC (a : ESn) : (V1Sn a) = ((!DZ a.e) = !DZ a.e) := by kernel_rfl
theorem DUD : AN Try.prog AFS (C1Sn.spec d1Sn) := MB C1Sn (λ _ => A1Sn) [] [] DBL (λ _ => by kernel_rfl) (λ _ => AD DKO AI) (λ (a : ESn) h => by
 show V1Sn a; rw [DUC]; try simp [wr, AJ]) (λ _ => OS rfl rfl) _
def d2Sn : List AVal -> Heap -> Option (MSn × List (Nat × Nat) × List Nat)
 | [y, .fn _ _ [.bptr id _]], H => match rT y H with
  | some (n, g, f) => some (⟨default, AF n λ i => RS (g i)⟩, [(100, id)], f)
  | none => none
 | _, _ => none
def A2Sn (a : MSn) : Ann := { ann 19 [(AFS, C1Sn.spec d1Sn)] with E := [100], loops := λ id => if id = 2 then some [{ α := Nat, dflt := 0, T := λ k => ⟨[(0, .d (AT a.l)), (1, .fn (.func AFS) [] [.bptr 100 0]), (7, .int a.l.length), (8, .int k)], (100, .live (BSn a.q)) :: []⟩, inv := λ k => k <= a.l.length /\ GK (λ i => !DZ (gD a.l i)) a.l.length 0 = GK (λ i => !DZ (gD a.l i)) (a.l.length - k) k, meas := λ k => a.l.length - k }] else none }
def PSn (a : MSn) : List Prop := [a.l.length < 4611686018427387904 /\ True]
def C2Sn : Ctr := { ro := [100], α := MSn, xs := λ a => [.d (AT a.l), .fn (.func AFS) [] [.bptr 100 0]], L := λ a => (100, BSn a.q) :: [], val := λ a => .int (GK (λ i => !DZ (gD a.l i)) a.l.length 0), keep := λ a => (100, .live (BSn a.q)) :: [], pre := PSn }
def V2Sn (a : MSn) : Prop := BA Try.prog (A2Sn a) CQV (AL CQV) (C2Sn.xs a) (AG (C2Sn.L a)) (C2Sn.val a) (C2Sn.keep a) [] []
theorem DTQ (a : MSn) : (V2Sn a) = ((∃ (a_1 : Nat), (a.l.length = a.l.length /\ (∀ (i : Nat), i < a.l.length -> (gD a.l i).lo = (gD a.l i).lo /\ (gD a.l i).hi = (gD a.l i).hi) /\ (↑a.l.length : Int) = (↑a.l.length : Int) /\
 (↑a_1 : Int) = 0) /\ a_1 <= a.l.length /\ GK (λ (i : Nat) => !DZ (gD a.l i)) a.l.length 0 = GK (λ (i : Nat) => !DZ (gD a.l i)) (a.l.length - a_1) a_1) /\ ∀ (a_1 : Nat), a_1 <= a.l.length /\ GK (λ (i : Nat) => !DZ
 (gD a.l i)) a.l.length 0 = GK (λ (i : Nat) => !DZ (gD a.l i)) (a.l.length - a_1) a_1 -> bif decide ((↑a_1 : Int) < (↑a.l.length : Int)) then ((0 <= (↑a_1 : Int) /\ (↑a_1 : Int) < (↑a.l.length : Int)) /\ (gD a.l a_1).lo =
 (gD a.l a_1).lo /\ (gD a.l a_1).hi = (gD a.l a_1).hi) /\ bif !DZ (gD a.l a_1) then GK (λ (i : Nat) => !DZ (gD a.l i)) a.l.length 0 = (↑a_1 : Int) else ∃ (a_3 : Nat), (a.l.length = a.l.length /\ (∀ (i : Nat), i <
 a.l.length -> (gD a.l i).lo = (gD a.l i).lo /\ (gD a.l i).hi = (gD a.l i).hi) /\ (↑a.l.length : Int) = (↑a.l.length : Int) /\ (↑a_3 : Int) = IntKind.i64.wrap ((↑a_1 : Int) + 1)) /\ (a_3 <= a.l.length /\ GK (λ (i : Nat) =>
 !DZ (gD a.l i)) a.l.length 0 = GK (λ (i : Nat) => !DZ (gD a.l i)) (a.l.length - a_3) a_3) /\ a.l.length - a_3 < a.l.length - a_1 else GK (λ (i : Nat) => !DZ (gD a.l i)) a.l.length 0 = -1) := by kernel_rfl
theorem p2Sn (a : MSn) (h : BC (PSn a)) : V2Sn a := by
 obtain ⟨h, hp⟩ : a.l.length < 4611686018427387904 /\ True := h
 rw [DTQ]
 simp only [AU, eq_self, implies_true, and_self, true_and, and_true, true_implies, forall_const, decide_eq_true_eq, decide_eq_false_iff_not, Int.toNat_natCast, dSpan_eSpan, dInt_eInt, AY, AW, AX, Nat.zero_add, Int.zero_sub, Nat.le_eq, Nat.succ_eq_add_one, Nat.add_one_le_iff, Bool.not_eq_true', Bool.not_eq_false', rng_length, AK, AJ]
 refine ⟨⟨0, rfl, Nat.zero_le _, rfl⟩, λ k ⟨h1, h2⟩ => ⟨λ hlt => ?_, λ hge => ?_⟩⟩
 ·have hlt : k < a.l.length := by omega
  refine ⟨⟨by omega, by omega⟩, λ hp => ?_, λ hp => ⟨k + 1, (FM (by omega)).symm, ⟨by omega, ?_⟩, by omega⟩⟩
  ·rw [h2]; exact Ei hlt (by simpa using hp)
  ·rw [h2]; exact AYJ hlt (by simpa using hp)
 ·rw [h2]; exact gQ (by omega)
theorem DTE : AN Try.prog CPO (C2Sn.spec d2Sn) := MB C2Sn A2Sn [] [] DFU (λ _ => by kernel_rfl) (λ _ => AD DUD AI) p2Sn (λ _ => OS rfl rfl) _
def C3Sn : Ctr := { C2Sn with val := λ (a : MSn) => .bool (decide (GK (λ i => !DZ (gD a.l i)) a.l.length 0 >= 0)) }
def d3Sn : List AVal -> Heap -> Option (C3Sn.α × List (Nat × Nat) × List Nat) := d2Sn
def A3Sn : Ann := { ann 9 [(CPO, C2Sn.spec d2Sn)] with E := [100] }
def V3Sn (a : MSn) : Prop := BA Try.prog A3Sn CQI (AL CQI) (C3Sn.xs a) (AG (C3Sn.L a)) (C3Sn.val a) (C3Sn.keep a) [] []
theorem DUE (a : MSn) : (V3Sn a) = (((AF a.l.length λ (i : Nat) => gD a.l i).length = a.l.length /\ (∀ (i : Nat), i < (AF a.l.length λ (i : Nat) => gD a.l i).length -> (gD (AF a.l.length λ (i : Nat) => gD a.l i)
 i).lo = (gD a.l i).lo /\ (gD (AF a.l.length λ (i : Nat) => gD a.l i) i).hi = (gD a.l i).hi) /\ (AF a.l.length λ (i : Nat) => gD a.l i).length < 4611686018427387904 /\ True) /\ decide (GK (λ (i : Nat) => !DZ (gD a.l
 i)) a.l.length 0 >= 0) = decide (GK (λ (i : Nat) => !DZ (gD (AF a.l.length λ (i : Nat) => gD a.l i) i)) (AF a.l.length λ (i : Nat) => gD a.l i).length 0 >= 0)) := by kernel_rfl
theorem DST : AN Try.prog CPU (C3Sn.spec d3Sn) := Ctr.spec_ok (C := C3Sn) (λ (a : MSn) h => PJ (A := A3Sn) (ren := []) (fz := []) DGH (by kernel_rfl) (AD DTE AI) (by
 obtain ⟨h, hp⟩ : a.l.length < 4611686018427387904 /\ True := h
 show V3Sn a; rw [DUE]; simp [h, AJ])) _
def A4Sn : Ann := { ann 9 [(CPU, C3Sn.spec d3Sn)] with E := [] }
def C4Sn : Ctr := { ro := [], α := MSn, xs := λ a => [.d (AT a.l), fvSn a.q], L := λ a => [], val := λ a => .bool (a.l.all λ x => DZ x), keep := λ a => [], pre := PSn }
def V4Sn (a : MSn) : Prop := BA Try.prog A4Sn F_eS (AL F_eS) (C4Sn.xs a) (AG (C4Sn.L a)) (C4Sn.val a) (C4Sn.keep a) [] []
theorem DSZ (a : MSn) : (V4Sn a) = (((AF a.l.length λ (i : Nat) => gD a.l i).length = a.l.length /\ (∀ (i : Nat), i < (AF a.l.length λ (i : Nat) => gD a.l i).length -> (gD (AF a.l.length λ (i : Nat) => gD a.l i)
 i).lo = (gD a.l i).lo /\ (gD (AF a.l.length λ (i : Nat) => gD a.l i) i).hi = (gD a.l i).hi) /\ (AF a.l.length λ (i : Nat) => gD a.l i).length < 4611686018427387904 /\ True) /\ (a.l.all λ (x : Span) => DZ x) =
 !decide (GK (λ (i : Nat) => !DZ (gD (AF a.l.length λ (i : Nat) => gD a.l i) i)) (AF a.l.length λ (i : Nat) => gD a.l i).length 0 >= 0)) := by kernel_rfl
theorem DSP (a : MSn) (h : BC (PSn a)) : FnT Try.prog n_eS (C4Sn.xs a) (AG (C4Sn.L a)) (C4Sn.val a) (C4Sn.keep a) := PJ (A := A4Sn) (ren := []) (fz := []) DMX (by kernel_rfl) (AD DST AI) (by
 have h' : a.l.length < 4611686018427387904 /\ True := h
 show V4Sn a; rw [DSZ]; simp only [AU, eq_self, implies_true, and_self, true_and, and_true, true_implies, forall_const, decide_eq_true_eq, decide_eq_false_iff_not, Int.toNat_natCast, dSpan_eSpan, dInt_eInt, AY, AW, AX, Nat.zero_add, Int.zero_sub, Nat.le_eq, Nat.succ_eq_add_one, Nat.add_one_le_iff, Bool.not_eq_true', Bool.not_eq_false', rng_length, AK, AJ, ge_iff_le]
 rw [<- Es]
 exact ⟨h'.1, rfl⟩)
def fvIh (q : One) : AVal := .fn (.func ADD) [] []
def BIh (q : One) : AObj := .box [fvIh q]
structure EIh where
 q : One
 e : Int
structure MIh where
 q : One
 l : List Int
def C1Ih : Ctr := { ro := [100], α := EIh, xs := λ a => [.d (EU a.e), .bptr 100 0], L := λ a => (100, BIh a.q) :: [], val := λ a => .bool (!DT a.e (-100000000) 100000000), keep := λ a => (100, .live (BIh a.q)) :: [] }
def d1Ih : List AVal -> Heap -> Option (EIh × List (Nat × Nat) × List Nat)
 | [.d d, .bptr id _], H => some (⟨default, BV d⟩, [(100, id)], [])
 | _, _ => none
def A1Ih : Ann := { ann 8 [(ADD, DMK)] with E := [100] }
def V1Ih (a : EIh) : Prop := BA Try.prog A1Ih DEC (AL DEC) (C1Ih.xs a) (AG (C1Ih.L a)) (C1Ih.val a) (C1Ih.keep a) [] []
theorem DTU (a : EIh) : (V1Ih a) = ((!DT a.e (-100000000) 100000000) = !DT a.e (-100000000) 100000000) := by kernel_rfl
theorem DUL : AN Try.prog CQJ (C1Ih.spec d1Ih) := MB C1Ih (λ _ => A1Ih) [] [] DPJ (λ _ => by kernel_rfl) (λ _ => AD DQN AI) (λ (a : EIh) h => by
 show V1Ih a; rw [DTU]; try simp [wr, AJ]) (λ _ => OS rfl rfl) _
def d2Ih : List AVal -> Heap -> Option (MIh × List (Nat × Nat) × List Nat)
 | [y, .fn _ _ [.bptr id _]], H => match rT y H with
  | some (n, g, f) => some (⟨default, AF n λ i => BV (g i)⟩, [(100, id)], f)
  | none => none
 | _, _ => none
def A2Ih (a : MIh) : Ann := { ann 19 [(CQJ, C1Ih.spec d1Ih)] with E := [100], loops := λ id => if id = 2 then some [{ α := Nat, dflt := 0, T := λ k => ⟨[(0, .d (BB a.l)), (1, .fn (.func CQJ) [] [.bptr 100 0]), (7, .int a.l.length), (8, .int k)], (100, .live (BIh a.q)) :: []⟩, inv := λ k => k <= a.l.length /\ GK (λ i => !DT (gD a.l i) (-100000000) 100000000) a.l.length 0 = GK (λ i => !DT (gD a.l i) (-100000000) 100000000) (a.l.length - k) k, meas := λ k => a.l.length - k }] else none }
def PIh (a : MIh) : List Prop := [a.l.length < 4611686018427387904 /\ True]
def C2Ih : Ctr := { ro := [100], α := MIh, xs := λ a => [.d (BB a.l), .fn (.func CQJ) [] [.bptr 100 0]], L := λ a => (100, BIh a.q) :: [], val := λ a => .int (GK (λ i => !DT (gD a.l i) (-100000000) 100000000) a.l.length 0), keep := λ a => (100, .live (BIh a.q)) :: [], pre := PIh }
def V2Ih (a : MIh) : Prop := BA Try.prog (A2Ih a) DBS (AL DBS) (C2Ih.xs a) (AG (C2Ih.L a)) (C2Ih.val a) (C2Ih.keep a) [] []
theorem DSU (a : MIh) : (V2Ih a) = ((∃ (a_1 : Nat), (a.l.length = a.l.length /\ (∀ (i : Nat), i < a.l.length -> gD a.l i = gD a.l i) /\ (↑a.l.length : Int) = (↑a.l.length : Int) /\ (↑a_1 : Int) = 0) /\ a_1 <= a.l.length /\
 GK (λ (i : Nat) => !DT (gD a.l i) (-100000000) 100000000) a.l.length 0 = GK (λ (i : Nat) => !DT (gD a.l i) (-100000000) 100000000) (a.l.length - a_1) a_1) /\ ∀ (a_1 : Nat), a_1 <= a.l.length /\ GK (λ (i : Nat) =>
 !DT (gD a.l i) (-100000000) 100000000) a.l.length 0 = GK (λ (i : Nat) => !DT (gD a.l i) (-100000000) 100000000) (a.l.length - a_1) a_1 -> bif decide ((↑a_1 : Int) < (↑a.l.length : Int)) then ((0 <= (↑a_1 : Int) /\
 (↑a_1 : Int) < (↑a.l.length : Int)) /\ gD a.l a_1 = gD a.l a_1) /\ bif !DT (gD a.l a_1) (-100000000) 100000000 then GK (λ (i : Nat) => !DT (gD a.l i) (-100000000) 100000000) a.l.length 0 = (↑a_1 : Int) else ∃ (a_3 :
 Nat), (a.l.length = a.l.length /\ (∀ (i : Nat), i < a.l.length -> gD a.l i = gD a.l i) /\ (↑a.l.length : Int) = (↑a.l.length : Int) /\ (↑a_3 : Int) = IntKind.i64.wrap ((↑a_1 : Int) + 1)) /\ (a_3 <= a.l.length /\ GK (λ (i :
 Nat) => !DT (gD a.l i) (-100000000) 100000000) a.l.length 0 = GK (λ (i : Nat) => !DT (gD a.l i) (-100000000) 100000000) (a.l.length - a_3) a_3) /\ a.l.length - a_3 < a.l.length - a_1 else GK (λ (i : Nat) => !DT
 (gD a.l i) (-100000000) 100000000) a.l.length 0 = -1) := by kernel_rfl
theorem p2Ih (a : MIh) (h : BC (PIh a)) : V2Ih a := by
 obtain ⟨h, hp⟩ : a.l.length < 4611686018427387904 /\ True := h
 rw [DSU]
 simp only [AU, eq_self, implies_true, and_self, true_and, and_true, true_implies, forall_const, decide_eq_true_eq, decide_eq_false_iff_not, Int.toNat_natCast, dSpan_eSpan, dInt_eInt, AY, AW, AX, Nat.zero_add, Int.zero_sub, Nat.le_eq, Nat.succ_eq_add_one, Nat.add_one_le_iff, Bool.not_eq_true', Bool.not_eq_false', rng_length, AK, AJ]
 refine ⟨⟨0, rfl, Nat.zero_le _, rfl⟩, λ k ⟨h1, h2⟩ => ⟨λ hlt => ?_, λ hge => ?_⟩⟩
 ·have hlt : k < a.l.length := by omega
  refine ⟨⟨by omega, by omega⟩, λ hp => ?_, λ hp => ⟨k + 1, (FM (by omega)).symm, ⟨by omega, ?_⟩, by omega⟩⟩
  ·rw [h2]; exact Ei hlt (by simpa using hp)
  ·rw [h2]; exact AYJ hlt (by simpa using hp)
 ·rw [h2]; exact gQ (by omega)
theorem DUX : AN Try.prog DBR (C2Ih.spec d2Ih) := MB C2Ih A2Ih [] [] DPX (λ _ => by kernel_rfl) (λ _ => AD DUL AI) p2Ih (λ _ => OS rfl rfl) _
def C3Ih : Ctr := { C2Ih with val := λ (a : MIh) => .bool (decide (GK (λ i => !DT (gD a.l i) (-100000000) 100000000) a.l.length 0 >= 0)) }
def d3Ih : List AVal -> Heap -> Option (C3Ih.α × List (Nat × Nat) × List Nat) := d2Ih
def A3Ih : Ann := { ann 9 [(DBR, C2Ih.spec d2Ih)] with E := [100] }
def V3Ih (a : MIh) : Prop := BA Try.prog A3Ih DBZ (AL DBZ) (C3Ih.xs a) (AG (C3Ih.L a)) (C3Ih.val a) (C3Ih.keep a) [] []
theorem DVH (a : MIh) : (V3Ih a) = (((AF a.l.length λ (i : Nat) => gD a.l i).length = a.l.length /\ (∀ (i : Nat), i < (AF a.l.length λ (i : Nat) => gD a.l i).length -> gD (AF a.l.length λ (i : Nat) => gD a.l i)
 i = gD a.l i) /\ (AF a.l.length λ (i : Nat) => gD a.l i).length < 4611686018427387904 /\ True) /\ decide (GK (λ (i : Nat) => !DT (gD a.l i) (-100000000) 100000000) a.l.length 0 >= 0) = decide (GK (λ (i : Nat) =>
 !DT (gD (AF a.l.length λ (i : Nat) => gD a.l i) i) (-100000000) 100000000) (AF a.l.length λ (i : Nat) => gD a.l i).length 0 >= 0)) := by kernel_rfl
theorem DTR : AN Try.prog DGL (C3Ih.spec d3Ih) := Ctr.spec_ok (C := C3Ih) (λ (a : MIh) h => PJ (A := A3Ih) (ren := []) (fz := []) DPP (by kernel_rfl) (AD DUX AI) (by
 obtain ⟨h, hp⟩ : a.l.length < 4611686018427387904 /\ True := h
 show V3Ih a; rw [DVH]; simp [h, AJ])) _
def d4Ih : List AVal -> Heap -> Option (MIh × List (Nat × Nat) × List Nat)
 | [y, .fn _ _ _], H => match rT y H with
  | some (n, g, f) => some (⟨default, AF n λ i => BV (g i)⟩, [], f)
  | none => none
 | _, _ => none
def A4Ih : Ann := { ann 9 [(DGL, C3Ih.spec d3Ih)] with E := [] }
def C4Ih : Ctr := { ro := [], α := MIh, xs := λ a => [.d (BB a.l), fvIh a.q], L := λ a => [], val := λ a => .bool (a.l.all λ x => DT x (-100000000) 100000000), keep := λ a => [], pre := PIh }
def V4Ih (a : MIh) : Prop := BA Try.prog A4Ih F_eI (AL F_eI) (C4Ih.xs a) (AG (C4Ih.L a)) (C4Ih.val a) (C4Ih.keep a) [] []
theorem DTJ (a : MIh) : (V4Ih a) = (((AF a.l.length λ (i : Nat) => gD a.l i).length = a.l.length /\ (∀ (i : Nat), i < (AF a.l.length λ (i : Nat) => gD a.l i).length -> gD (AF a.l.length λ (i : Nat) => gD a.l i)
 i = gD a.l i) /\ (AF a.l.length λ (i : Nat) => gD a.l i).length < 4611686018427387904 /\ True) /\ (a.l.all λ (x : Int) => DT x (-100000000) 100000000) = !decide (GK (λ (i : Nat) => !DT (gD (AF a.l.length λ (i :
 Nat) => gD a.l i) i) (-100000000) 100000000) (AF a.l.length λ (i : Nat) => gD a.l i).length 0 >= 0)) := by kernel_rfl
theorem DTG (a : MIh) (h : BC (PIh a)) : FnT Try.prog n_eI (C4Ih.xs a) (AG (C4Ih.L a)) (C4Ih.val a) (C4Ih.keep a) := PJ (A := A4Ih) (ren := []) (fz := []) DUW (by kernel_rfl) (AD DTR AI) (by
 have h' : a.l.length < 4611686018427387904 /\ True := h
 show V4Ih a; rw [DTJ]; simp only [AU, eq_self, implies_true, and_self, true_and, and_true, true_implies, forall_const, decide_eq_true_eq, decide_eq_false_iff_not, Int.toNat_natCast, dSpan_eSpan, dInt_eInt, AY, AW, AX, Nat.zero_add, Int.zero_sub, Nat.le_eq, Nat.succ_eq_add_one, Nat.add_one_le_iff, Bool.not_eq_true', Bool.not_eq_false', rng_length, AK, AJ, ge_iff_le]
 rw [<- Es]
 exact ⟨h'.1, rfl⟩)
theorem DTS : AN Try.prog n_eI (C4Ih.spec d4Ih) := Ctr.spec_ok (C := C4Ih) DTG _
structure N2 where
 q : Nt
 e : Nt
def ntB (q : Nt) : AObj := .box [.int q.mi, .int q.t.lo, .int q.t.hi, .int q.s.lo, .int q.s.hi]
def DBW (H : Heap) (id : Nat) : Option Nt := match H id with
 | .live (.box [.d a, .d b, .d c, .d d, .d e]) => some ⟨BV a, ⟨BV b, BV c⟩, ⟨BV d, BV e⟩⟩
 | _ => none
def C_ck2 : Ctr := { ro := [100], α := N2, xs := λ a => [.d (eNt a.e), .bptr 100 0], L := λ a => [(100, ntB a.q)], val := λ a => .bool (a.e.mi == a.q.mi), keep := λ a => [(100, .live (ntB a.q))] }
def DNN : List AVal -> Heap -> Option (N2 × List (Nat × Nat) × List Nat)
 | [.d d, .bptr id _], H => match DBW H id with
  | some q => some (⟨q, dNt d⟩, [(100, id)], [])
  | none => none
 | _, _ => none
def DOV : Ann := { ann 9 [] with E := [100] }
def DNR (a : N2) : Prop := BA Try.prog DOV BMM (AL BMM) (C_ck2.xs a) (AG (C_ck2.L a)) (C_ck2.val a) (C_ck2.keep a) [] []
theorem DQM (a : N2) : (DNR a) = ((a.e.mi == a.q.mi) = (a.e.mi == a.q.mi) /\ a.q.mi = a.q.mi /\ a.q.t.lo = a.q.t.lo /\ a.q.t.hi = a.q.t.hi /\ a.q.s.lo = a.q.s.lo /\ a.q.s.hi = a.q.s.hi) := by kernel_rfl
theorem DRJ : AN Try.prog Vc (C_ck2.spec DNN) := MB C_ck2 (λ _ => DOV) [] [] DAW (λ _ => by kernel_rfl) (λ _ => AI) (λ (a : N2) _ => by
 show DNR a; rw [DQM]; try simp) (λ _ => OS rfl rfl) _
structure MNc where
 q : Nt
 l : List Nt
def d2Nc : List AVal -> Heap -> Option (MNc × List (Nat × Nat) × List Nat)
 | [y, .fn _ _ [.bptr id _]], H => match rT y H with
  | some (n, g, f) => match DBW H id with
   | some q => some (⟨q, AF n λ i => dNt (g i)⟩, [(100, id)], f)
   | none => none
  | none => none
 | _, _ => none
def A2Nc (a : MNc) : Ann := { ann 19 [(Vc, C_ck2.spec DNN)] with E := [100], loops := λ id => if id = 2 then some [{ α := Nat, dflt := 0, T := λ k => ⟨[(0, .d (eNts a.l)), (1, .fn (.func Vc) [] [.bptr 100 0]), (7, .int a.l.length), (8, .int k)], [(100, .live (ntB a.q))]⟩, inv := λ k => k <= a.l.length /\ GK (λ i => (gD a.l i).mi == a.q.mi) a.l.length 0 = GK (λ i => (gD a.l i).mi == a.q.mi) (a.l.length - k) k, meas := λ k => a.l.length - k }] else none }
def C2Nc : Ctr := { ro := [100], α := MNc, xs := λ a => [.d (eNts a.l), .fn (.func Vc) [] [.bptr 100 0]], L := λ a => [(100, ntB a.q)], val := λ a => .int (GK (λ i => (gD a.l i).mi == a.q.mi) a.l.length 0), keep := λ a => [(100, .live (ntB a.q))], pre := λ a => [a.l.length < 4611686018427387904 /\ True] }
def V2Nc (a : MNc) : Prop := BA Try.prog (A2Nc a) CSH (AL CSH) (C2Nc.xs a) (AG (C2Nc.L a)) (C2Nc.val a) (C2Nc.keep a) [] []
theorem DUM (a : MNc) : (V2Nc a) = ((∃ (a_1 : Nat), (a.l.length = a.l.length /\ (∀ (i : Nat), i < a.l.length -> (gD a.l i).mi = (gD a.l i).mi /\ (gD a.l i).t.lo = (gD a.l i).t.lo /\ (gD a.l i).t.hi = (gD a.l i).t.hi /\ (gD
 a.l i).s.lo = (gD a.l i).s.lo /\ (gD a.l i).s.hi = (gD a.l i).s.hi) /\ (↑a.l.length : Int) = (↑a.l.length : Int) /\ (↑a_1 : Int) = 0 /\ a.q.mi = a.q.mi /\ a.q.t.lo = a.q.t.lo /\ a.q.t.hi = a.q.t.hi /\ a.q.s.lo = a.q.s.lo /\
 a.q.s.hi = a.q.s.hi) /\ a_1 <= a.l.length /\ GK (λ (i : Nat) => (gD a.l i).mi == a.q.mi) a.l.length 0 = GK (λ (i : Nat) => (gD a.l i).mi == a.q.mi) (a.l.length - a_1) a_1) /\ ∀ (a_1 : Nat), a_1 <= a.l.length /\ GK (fun
 (i : Nat) => (gD a.l i).mi == a.q.mi) a.l.length 0 = GK (λ (i : Nat) => (gD a.l i).mi == a.q.mi) (a.l.length - a_1) a_1 -> bif decide ((↑a_1 : Int) < (↑a.l.length : Int)) then ((0 <= (↑a_1 : Int) /\ (↑a_1 : Int) <
 (↑a.l.length : Int)) /\ (gD a.l a_1).mi = (gD a.l a_1).mi /\ (gD a.l a_1).t.lo = (gD a.l a_1).t.lo /\ (gD a.l a_1).t.hi = (gD a.l a_1).t.hi /\ (gD a.l a_1).s.lo = (gD a.l a_1).s.lo /\ (gD a.l a_1).s.hi = (gD a.l a_1).s.hi /\
 a.q.mi = a.q.mi /\ a.q.t.lo = a.q.t.lo /\ a.q.t.hi = a.q.t.hi /\ a.q.s.lo = a.q.s.lo /\ a.q.s.hi = a.q.s.hi /\ a.q.mi = a.q.mi /\ a.q.t.lo = a.q.t.lo /\ a.q.t.hi = a.q.t.hi /\ a.q.s.lo = a.q.s.lo /\ a.q.s.hi = a.q.s.hi) /\ bif (gD
 a.l a_1).mi == a.q.mi then GK (λ (i : Nat) => (gD a.l i).mi == a.q.mi) a.l.length 0 = (↑a_1 : Int) /\ a.q.mi = a.q.mi /\ a.q.t.lo = a.q.t.lo /\ a.q.t.hi = a.q.t.hi /\ a.q.s.lo = a.q.s.lo /\ a.q.s.hi = a.q.s.hi else ∃ (a_3
 : Nat), (a.l.length = a.l.length /\ (∀ (i : Nat), i < a.l.length -> (gD a.l i).mi = (gD a.l i).mi /\ (gD a.l i).t.lo = (gD a.l i).t.lo /\ (gD a.l i).t.hi = (gD a.l i).t.hi /\ (gD a.l i).s.lo = (gD a.l i).s.lo /\ (gD a.l
 i).s.hi = (gD a.l i).s.hi) /\ (↑a.l.length : Int) = (↑a.l.length : Int) /\ (↑a_3 : Int) = IntKind.i64.wrap ((↑a_1 : Int) + 1) /\ a.q.mi = a.q.mi /\ a.q.t.lo = a.q.t.lo /\ a.q.t.hi = a.q.t.hi /\ a.q.s.lo = a.q.s.lo /\ a.q.s.hi =
 a.q.s.hi) /\ (a_3 <= a.l.length /\ GK (λ (i : Nat) => (gD a.l i).mi == a.q.mi) a.l.length 0 = GK (λ (i : Nat) => (gD a.l i).mi == a.q.mi) (a.l.length - a_3) a_3) /\ a.l.length - a_3 < a.l.length - a_1 else GK (λ (i
 : Nat) => (gD a.l i).mi == a.q.mi) a.l.length 0 = -1 /\ a.q.mi = a.q.mi /\ a.q.t.lo = a.q.t.lo /\ a.q.t.hi = a.q.t.hi /\ a.q.s.lo = a.q.s.lo /\ a.q.s.hi = a.q.s.hi) := by kernel_rfl
theorem p2Nc (a : MNc) (h : BC (C2Nc.pre a)) : V2Nc a := by
 obtain ⟨h, hp⟩ : a.l.length < 4611686018427387904 /\ True := h
 rw [DUM]
 simp only [AU, eq_self, implies_true, and_self, true_and, and_true, true_implies, forall_const, decide_eq_true_eq, decide_eq_false_iff_not, Int.toNat_natCast, dSpan_eSpan, dInt_eInt, AY, AW, AX, Nat.zero_add, Int.zero_sub, Nat.le_eq, Nat.succ_eq_add_one, Nat.add_one_le_iff, Bool.not_eq_true', Bool.not_eq_false', rng_length, AK, AJ]
 refine ⟨⟨0, rfl, Nat.zero_le _, rfl⟩, λ k ⟨h1, h2⟩ => ⟨λ hlt => ?_, λ hge => ?_⟩⟩
 ·have hlt : k < a.l.length := by omega
  refine ⟨⟨by omega, by omega⟩, λ hp => ?_, λ hp => ⟨k + 1, (FM (by omega)).symm, ⟨by omega, ?_⟩, by omega⟩⟩
  ·rw [h2]; exact Ei hlt (by simpa using hp)
  ·rw [h2]; exact AYJ hlt (by simpa using hp)
 ·rw [h2]; exact gQ (by omega)
theorem DTB : AN Try.prog CSI (C2Nc.spec d2Nc) := MB C2Nc A2Nc [] [] DEN (λ _ => by kernel_rfl) (λ _ => AD DRJ AI) p2Nc (λ _ => OS rfl rfl) _
def C3Nc : Ctr := { C2Nc with val := λ (a : MNc) => .bool (a.l.any λ x => x.mi == a.q.mi) }
def d3Nc : List AVal -> Heap -> Option (C3Nc.α × List (Nat × Nat) × List Nat) := d2Nc
def A3Nc : Ann := { ann 9 [(CSI, C2Nc.spec d2Nc)] with E := [100] }
def V3Nc (a : MNc) : Prop := BA Try.prog A3Nc CRF (AL CRF) (C3Nc.xs a) (AG (C3Nc.L a)) (C3Nc.val a) (C3Nc.keep a) [] []
theorem DTX (a : MNc) : (V3Nc a) = (((AF a.l.length λ (i : Nat) => gD a.l i).length = a.l.length /\ (∀ (i : Nat), i < (AF a.l.length λ (i : Nat) => gD a.l i).length -> (gD (AF a.l.length λ (i : Nat) => gD a.l i)
 i).mi = (gD a.l i).mi /\ (gD (AF a.l.length λ (i : Nat) => gD a.l i) i).t.lo = (gD a.l i).t.lo /\ (gD (AF a.l.length λ (i : Nat) => gD a.l i) i).t.hi = (gD a.l i).t.hi /\ (gD (AF a.l.length λ (i : Nat) => gD a.l i)
 i).s.lo = (gD a.l i).s.lo /\ (gD (AF a.l.length λ (i : Nat) => gD a.l i) i).s.hi = (gD a.l i).s.hi) /\ a.q.mi = a.q.mi /\ a.q.t.lo = a.q.t.lo /\ a.q.t.hi = a.q.t.hi /\ a.q.s.lo = a.q.s.lo /\ a.q.s.hi = a.q.s.hi /\ a.q.mi =
 a.q.mi /\ a.q.t.lo = a.q.t.lo /\ a.q.t.hi = a.q.t.hi /\ a.q.s.lo = a.q.s.lo /\ a.q.s.hi = a.q.s.hi /\ (AF a.l.length λ (i : Nat) => gD a.l i).length < 4611686018427387904 /\ True) /\ (a.l.any λ (x : Nt) => x.mi == a.q.mi)
 = decide (GK (λ (i : Nat) => (gD (AF a.l.length λ (i : Nat) => gD a.l i) i).mi == a.q.mi) (AF a.l.length λ (i : Nat) => gD a.l i).length 0 >= 0) /\ a.q.mi = a.q.mi /\ a.q.t.lo = a.q.t.lo /\ a.q.t.hi = a.q.t.hi /\
 a.q.s.lo = a.q.s.lo /\ a.q.s.hi = a.q.s.hi) := by kernel_rfl
theorem DDA {α : Type} [Inhabited α] {p : α -> Bool} {l : List α} : decide (0 <= GK (λ i => p (gD l i)) l.length 0) = l.any p := by
 rw [Bool.eq_iff_iff, decide_eq_true_eq, CTE, List.any_eq_true]
 exact ⟨λ ⟨i, _, h1, h2⟩ => ⟨gD l i, RK (by omega), h2⟩, λ ⟨x, hx, h2⟩ => by obtain ⟨i, hi, rfl⟩ := Oe hx; exact ⟨i, Nat.zero_le _, by omega, h2⟩⟩
theorem DTV : AN Try.prog CPX (C3Nc.spec d3Nc) := Ctr.spec_ok (C := C3Nc) (λ (a : MNc) h => PJ (A := A3Nc) (ren := []) (fz := []) DDK (by kernel_rfl) (AD DTB AI) (by
 obtain ⟨h, hp⟩ : a.l.length < 4611686018427387904 /\ True := h
 show V3Nc a; rw [DTX]; simp only [AU, eq_self, implies_true, and_self, true_and, and_true, true_implies, forall_const, decide_eq_true_eq, decide_eq_false_iff_not, Int.toNat_natCast, dSpan_eSpan, dInt_eInt, AY, AW, AX, Nat.zero_add, Int.zero_sub, Nat.le_eq, Nat.succ_eq_add_one, Nat.add_one_le_iff, Bool.not_eq_true', Bool.not_eq_false', rng_length, AK, AJ, ge_iff_le]
 rw [<- DDA]
 simp [h, AJ])) _
end Go.Bal
