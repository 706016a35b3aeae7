/- Package chart: every. Printed by gench.py. -/
import Derived.Test.YtdbjalgfomknhaaChA
set_option linter.unusedVariables false
set_option linter.unusedSimpArgs false
namespace Go.Bal
open Go Go.Sym Go.Proofs
def allB (p : Nat -> Bool) : Nat -> Bool
 | 0 => true
 | n + 1 => allB p n && p n
theorem Dy {p : Nat -> Bool} : ∀ {n : Nat}, allB p n = true ↔ ∀ i, i < n -> p i = true
 | 0 => by simp [allB]
 | n + 1 => by
  simp only [allB, Bool.and_eq_true, Dy (n := n)]
  constructor
  ·intro h i hi
   by_cases he : i = n
   ·subst he; exact h.2
   ·exact h.1 i (by omega)
  ·exact λ h => ⟨λ i hi => h i (by omega), h n (by omega)⟩
theorem CRK {p : Nat -> Bool} : ∀ {n k : Nat}, (0 <= IB p n k) ↔ ∃ i, k <= i /\ i < k + n /\ p i = true
 | 0, k => by simp [IB]; omega
 | n + 1, k => by
  simp only [IB]
  by_cases h : p k = true
  ·rw [if_pos h]
   constructor
   ·intro _; exact ⟨k, Nat.le_refl _, by omega, h⟩
   ·intro _; omega
  ·rw [if_neg h, CRK (n := n) (k := k + 1)]
   constructor
   ·rintro ⟨i, h1, h2, h3⟩; exact ⟨i, by omega, by omega, h3⟩
   ·rintro ⟨i, h1, h2, h3⟩
    refine ⟨i, ?_, by omega, h3⟩
    by_cases he : i = k
    ·subst he; exact absurd h3 h
    ·omega
theorem CZK {p : Nat -> Bool} {n : Nat} : (!decide (0 <= IB (λ i => !p i) n 0)) = allB p n := by
 rw [Bool.eq_iff_iff, Dy]
 simp only [Bool.not_eq_true', decide_eq_false_iff_not, CRK, Nat.zero_le, Nat.zero_add, true_and]
 constructor
 ·intro h i hi
  cases hp : p i with
  | true => rfl
  | false => exact (h ⟨i, hi, by simp [hp]⟩).elim
 ·rintro h ⟨i, hi, hp⟩
  rw [h i hi] at hp; cases hp
theorem oC {α : Type} [Inhabited α] {p : α -> Bool} {l : List α} : (!decide (0 <= IB (λ i => !p (gD l i)) l.length 0)) = l.all p := by
 rw [CZK, Bool.eq_iff_iff, Dy, List.all_eq_true]
 exact ⟨λ h x hx => by obtain ⟨i, hi, rfl⟩ := KQ hx; exact h i hi, λ h i hi => h _ (CT hi)⟩
def chB (c : Cht) : AObj := .box [.int c.p.lo, .int c.p.hi, .int c.base, .int c.scale, .int c.off, .d (eMks c.ms), .d (rL c.ns)]
def VK (H : Heap) (id : Nat) : Option Cht := match H id with
 | .live (.box [.d a, .d b, .d c, .d d, .d e, .d (.list _ n f _), .d (.list _ m g _)]) => some ⟨⟨CD a, CD b⟩, CD c, CD d, CD e, AE n λ i => dMk (f i), AE m λ i => dNt (g i)⟩
 | _ => none
structure ChN where
 q : Cht
 e : Nt
def C_ck1 : Ctr := { ro := [101], α := ChN, xs := λ a => [.d (eNt a.e), .bptr 101 0], L := λ a => [(101, chB a.q)], val := λ a => .bool (CG a.e a.q.ms.length), keep := λ a => [(101, .live (chB a.q))] }
def DKY : List AVal -> Heap -> Option (ChN × List (Nat × Nat) × List Nat)
 | [.d d, .bptr id _], H => match VK H id with
  | some q => some (⟨q, dNt d⟩, [(101, id)], [])
  | none => none
 | _, _ => none
def DKB : Ann := { ann 9 [(CDR, CUH)] with E := [101] }
def DJU (a : ChN) : Prop := AZ Try.prog DKB BVS (AN BVS) (C_ck1.xs a) (AF (C_ck1.L a)) (C_ck1.val a) (C_ck1.keep a) [] []
theorem DPD (a : ChN) : (DJU a) = (CG a.e (↑a.q.ms.length : Int) = CG (Nt.mk a.e.mi a.e.t a.e.s) (↑a.q.ms.length : Int) /\ a.q.p.lo = a.q.p.lo /\ a.q.p.hi = a.q.p.hi /\ a.q.base = a.q.base /\ a.q.scale =
 a.q.scale /\ a.q.off = a.q.off /\ a.q.ms.length = a.q.ms.length /\ (∀ (i : Nat), i < a.q.ms.length -> (gD a.q.ms i).pl = (gD a.q.ms i).pl /\ (gD a.q.ms i).ht = (gD a.q.ms i).ht) /\ a.q.ns.length = a.q.ns.length /\ ∀ (i : Nat),
 i < a.q.ns.length -> (gD a.q.ns i).mi = (gD a.q.ns i).mi /\ (gD a.q.ns i).t.lo = (gD a.q.ns i).t.lo /\ (gD a.q.ns i).t.hi = (gD a.q.ns i).t.hi /\ (gD a.q.ns i).s.lo = (gD a.q.ns i).s.lo /\ (gD a.q.ns i).s.hi = (gD a.q.ns
 i).s.hi) := by kernel_rfl
theorem DPG : AP Try.prog Y6 (C_ck1.spec DKY) := MC C_ck1 (λ _ => DKB) [] [] CWW (λ _ => by kernel_rfl) (λ _ => AD CYC AK) (λ (a : ChN) _ => by
 show DJU a; rw [DPD]; simp [wr, JI]) (λ _ => MO rfl rfl) _
def KC (s : Span) : Bool := decide (s.lo <= s.hi)
def CZW (x : Span) : Prop := AZ Try.prog (ann 8 []) CQP (AN CQP) (xS1 x) (AF []) (.bool (KC x)) [] [] []
theorem DFR (x : Span) : (CZW x) = (KC x = decide (x.lo <= x.hi)) := by kernel_rfl
def CGC := pD dS1 λ x => .bool (KC x)
theorem DGV : AP Try.prog CDY CGC := Ba xS1 hS1 λ x _ => TV (A := ann 8 []) (ren := []) (fz := []) DHE (by kernel_rfl) AK (by
 show CZW x; rw [DFR]; try simp [KC])
def DDA (x : Span) : Prop := AZ Try.prog (ann 8 []) CSH (AN CSH) (xS1 x) (AF []) (.bool (KC x)) [] [] []
theorem DJB (x : Span) : (DDA x) = (KC x = decide (x.lo <= x.hi)) := by kernel_rfl
theorem DIU : AP Try.prog CGL CGC := Ba xS1 hS1 λ x _ => TV (A := ann 8 []) (ren := []) (fz := []) DGC (by kernel_rfl) AK (by
 show DDA x; rw [DJB]; try simp [KC])
def LXNr (q : Cht) : List (Nat × AObj) := [(101, chB q)]
def KXNr (q : Cht) : List (Nat × HCell) := [(101, .live (chB q))]
def fvNr (q : Cht) : AVal := .fn (.func Y6) [] [.bptr 101 0]
def BNr (q : Cht) : AObj := .box [fvNr q]
structure ENr where
 q : Cht
 e : Nt
structure MNr where
 q : Cht
 l : List Nt
def C1Nr : Ctr := { ro := [100, 101], α := ENr, xs := λ a => [.d (eNt a.e), .bptr 100 0], L := λ a => (100, BNr a.q) :: LXNr a.q, val := λ a => .bool (!CG a.e a.q.ms.length), keep := λ a => (100, .live (BNr a.q)) :: KXNr a.q }
def d1Nr : List AVal -> Heap -> Option (ENr × List (Nat × Nat) × List Nat)
 | [.d d, .bptr id _], H => match H id with
  | .live (.box [.fn _ _ [.bptr j _]]) => match VK H j with
   | some q => some (⟨q, dNt d⟩, [(100, id), (101, j)], [])
   | none => none
  | _ => none
 | _, _ => none
def A1Nr : Ann := { ann 8 [(Y6, C_ck1.spec DKY)] with E := [100, 101] }
def V1Nr (a : ENr) : Prop := AZ Try.prog A1Nr CXY (AN CXY) (C1Nr.xs a) (AF (C1Nr.L a)) (C1Nr.val a) (C1Nr.keep a) [] []
theorem DQE (a : ENr) : (V1Nr a) = ((a.e.mi = a.e.mi /\ a.e.t.lo = a.e.t.lo /\ a.e.t.hi = a.e.t.hi /\ a.e.s.lo = a.e.s.lo /\ a.e.s.hi = a.e.s.hi /\ a.q.p.lo = a.q.p.lo /\ a.q.p.hi = a.q.p.hi /\ a.q.base = a.q.base /\ a.q.scale
 = a.q.scale /\ a.q.off = a.q.off /\ (AE a.q.ms.length λ (i : Nat) => gD a.q.ms i).length = a.q.ms.length /\ (∀ (i : Nat), i < (AE a.q.ms.length λ (i : Nat) => gD a.q.ms i).length -> (gD (AE a.q.ms.length λ (i : Nat)
 => gD a.q.ms i) i).pl = (gD a.q.ms i).pl /\ (gD (AE a.q.ms.length λ (i : Nat) => gD a.q.ms i) i).ht = (gD a.q.ms i).ht) /\ (AE a.q.ns.length λ (i : Nat) => gD a.q.ns i).length = a.q.ns.length /\ (∀ (i : Nat), i < (AE
 a.q.ns.length λ (i : Nat) => gD a.q.ns i).length -> (gD (AE a.q.ns.length λ (i : Nat) => gD a.q.ns i) i).mi = (gD a.q.ns i).mi /\ (gD (AE a.q.ns.length λ (i : Nat) => gD a.q.ns i) i).t.lo = (gD a.q.ns i).t.lo /\ (gD
 (AE a.q.ns.length λ (i : Nat) => gD a.q.ns i) i).t.hi = (gD a.q.ns i).t.hi /\ (gD (AE a.q.ns.length λ (i : Nat) => gD a.q.ns i) i).s.lo = (gD a.q.ns i).s.lo /\ (gD (AE a.q.ns.length λ (i : Nat) => gD a.q.ns i)
 i).s.hi = (gD a.q.ns i).s.hi) /\ a.q.p.lo = a.q.p.lo /\ a.q.p.hi = a.q.p.hi /\ a.q.base = a.q.base /\ a.q.scale = a.q.scale /\ a.q.off = a.q.off /\ a.q.ms.length = (AE a.q.ms.length λ (i : Nat) => gD a.q.ms i).length /\ (∀
 (i : Nat), i < a.q.ms.length -> (gD a.q.ms i).pl = (gD (AE a.q.ms.length λ (i : Nat) => gD a.q.ms i) i).pl /\ (gD a.q.ms i).ht = (gD (AE a.q.ms.length λ (i : Nat) => gD a.q.ms i) i).ht) /\ a.q.ns.length = (AE
 a.q.ns.length λ (i : Nat) => gD a.q.ns i).length /\ ∀ (i : Nat), i < a.q.ns.length -> (gD a.q.ns i).mi = (gD (AE a.q.ns.length λ (i : Nat) => gD a.q.ns i) i).mi /\ (gD a.q.ns i).t.lo = (gD (AE a.q.ns.length λ (i :
 Nat) => gD a.q.ns i) i).t.lo /\ (gD a.q.ns i).t.hi = (gD (AE a.q.ns.length λ (i : Nat) => gD a.q.ns i) i).t.hi /\ (gD a.q.ns i).s.lo = (gD (AE a.q.ns.length λ (i : Nat) => gD a.q.ns i) i).s.lo /\ (gD a.q.ns i).s.hi =
 (gD (AE a.q.ns.length λ (i : Nat) => gD a.q.ns i) i).s.hi) /\ (!CG a.e (↑a.q.ms.length : Int)) = !CG (Nt.mk a.e.mi a.e.t a.e.s) (↑(AE a.q.ms.length λ (i : Nat) => gD a.q.ms i).length : Int) /\ a.q.p.lo =
 a.q.p.lo /\ a.q.p.hi = a.q.p.hi /\ a.q.base = a.q.base /\ a.q.scale = a.q.scale /\ a.q.off = a.q.off /\ a.q.ms.length = a.q.ms.length /\ (∀ (i : Nat), i < a.q.ms.length -> (gD a.q.ms i).pl = (gD a.q.ms i).pl /\ (gD a.q.ms i).ht
 = (gD a.q.ms i).ht) /\ a.q.ns.length = a.q.ns.length /\ ∀ (i : Nat), i < a.q.ns.length -> (gD a.q.ns i).mi = (gD a.q.ns i).mi /\ (gD a.q.ns i).t.lo = (gD a.q.ns i).t.lo /\ (gD a.q.ns i).t.hi = (gD a.q.ns i).t.hi /\ (gD a.q.ns
 i).s.lo = (gD a.q.ns i).s.lo /\ (gD a.q.ns i).s.hi = (gD a.q.ns i).s.hi) := by kernel_rfl
theorem DSR : AP Try.prog COY (C1Nr.spec d1Nr) := MC C1Nr (λ _ => A1Nr) [] [] DMY (λ _ => by kernel_rfl) (λ _ => AD DPG AK) (λ (a : ENr) h => by
 show V1Nr a; rw [DQE]; try simp [wr, JI]) (λ _ => MO rfl rfl) _
def d2Nr : List AVal -> Heap -> Option (MNr × List (Nat × Nat) × List Nat)
 | [y, .fn _ _ [.bptr id _]], H => match T5 y H with
  | some (n, g, f) => match H id with
   | .live (.box [.fn _ _ [.bptr j _]]) => match VK H j with
    | some q => some (⟨q, AE n λ i => dNt (g i)⟩, [(100, id), (101, j)], f)
    | none => none
   | _ => none
  | none => none
 | _, _ => none
def A2Nr (a : MNr) : Ann := { ann 19 [(COY, C1Nr.spec d1Nr)] with E := [100, 101], loops := λ id => if id = 2 then some [{ α := Nat, dflt := 0, T := λ k => ⟨[(0, .d (rL a.l)), (1, .fn (.func COY) [] [.bptr 100 0]), (7, .int a.l.length), (8, .int k)], (100, .live (BNr a.q)) :: KXNr a.q⟩, inv := λ k => k <= a.l.length /\ IB (λ i => !CG (gD a.l i) a.q.ms.length) a.l.length 0 = IB (λ i => !CG (gD a.l i) a.q.ms.length) (a.l.length - k) k, meas := λ k => a.l.length - k }] else none }
def PNr (a : MNr) : List Prop := [a.l.length < 4611686018427387904 /\ True]
def C2Nr : Ctr := { ro := [100, 101], α := MNr, xs := λ a => [.d (rL a.l), .fn (.func COY) [] [.bptr 100 0]], L := λ a => (100, BNr a.q) :: LXNr a.q, val := λ a => .int (IB (λ i => !CG (gD a.l i) a.q.ms.length) a.l.length 0), keep := λ a => (100, .live (BNr a.q)) :: KXNr a.q, pre := PNr }
def V2Nr (a : MNr) : Prop := AZ Try.prog (A2Nr a) COE (AN COE) (C2Nr.xs a) (AF (C2Nr.L a)) (C2Nr.val a) (C2Nr.keep a) [] []
abbrev CSR (a : MNr) : Prop := a.l.length = a.l.length
abbrev CRQ (a : MNr) (i : Nat) : Prop := (gD a.l i).mi = (gD a.l i).mi
abbrev CSY (a : MNr) (i : Nat) : Prop := (gD a.l i).t.lo = (gD a.l i).t.lo
abbrev CRB (a : MNr) (i : Nat) : Prop := (gD a.l i).t.hi = (gD a.l i).t.hi
abbrev CPZ (a : MNr) (i : Nat) : Prop := (gD a.l i).s.lo = (gD a.l i).s.lo
abbrev CQN (a : MNr) (i : Nat) : Prop := (gD a.l i).s.hi = (gD a.l i).s.hi
abbrev CSZ (a : MNr) : Prop := ∀ (i : Nat), i < a.l.length -> CRQ a i /\ CSY a i /\ CRB a i /\ CPZ a i /\ CQN a i
abbrev CQD (a : MNr) : Prop := (↑a.l.length : Int) = (↑a.l.length : Int)
abbrev CCW (a : MNr) : Prop := a.q.p.lo = a.q.p.lo
abbrev CGK (a : MNr) : Prop := a.q.p.hi = a.q.p.hi
abbrev AEO (a : MNr) : Prop := CCW a /\ CGK a /\ a.q.base = a.q.base /\ a.q.scale = a.q.scale /\ a.q.off = a.q.off /\ a.q.ms.length = a.q.ms.length /\ (∀ (i : Nat), i < a.q.ms.length -> (gD a.q.ms i).pl = (gD a.q.ms
 i).pl /\ (gD a.q.ms i).ht = (gD a.q.ms i).ht) /\ a.q.ns.length = a.q.ns.length /\ ∀ (i : Nat), i < a.q.ns.length -> (gD a.q.ns i).mi = (gD a.q.ns i).mi /\ (gD a.q.ns i).t.lo = (gD a.q.ns i).t.lo /\ (gD a.q.ns i).t.hi = (gD
 a.q.ns i).t.hi /\ (gD a.q.ns i).s.lo = (gD a.q.ns i).s.lo /\ (gD a.q.ns i).s.hi = (gD a.q.ns i).s.hi
abbrev CKI (a : MNr) (i : Nat) : Bool := !CG (gD a.l i) (↑a.q.ms.length : Int)
abbrev BIC (a : MNr) : Int := IB (λ (i : Nat) => CKI a i) a.l.length 0
abbrev BGX (a : MNr) (a1 : Nat) : Nat := a.l.length - a1
abbrev BIH (a : Nat) (a1 : MNr) : Prop := a <= a1.l.length /\ BIC a1 = IB (λ (i : Nat) => CKI a1 i) (BGX a1 a) a
abbrev CJC (a : Nat) (a1 : MNr) : Prop := (↑a : Int) < (↑a1.l.length : Int)
abbrev CLB (a : MNr) : List Mk := AE a.q.ms.length λ (i : Nat) => gD a.q.ms i
abbrev ACM (a : MNr) : Nat := (CLB a).length
abbrev CGN (a : MNr) (i : Nat) : Mk := gD (CLB a) i
abbrev CKK (a : MNr) (i : Nat) : Int := (CGN a i).pl
abbrev CJX (a : MNr) (i : Nat) : Int := (CGN a i).ht
abbrev CLW (a : MNr) : List Nt := AE a.q.ns.length λ (i : Nat) => gD a.q.ns i
abbrev BHE (a : MNr) : Nat := (CLW a).length
abbrev BGT (a : MNr) (i : Nat) : Nt := gD (CLW a) i
abbrev CHG (a : MNr) (i : Nat) : Int := (BGT a i).mi
abbrev CHN (a : MNr) (i : Nat) : Span := (BGT a i).t
abbrev CFF (a : MNr) (i : Nat) : Int := (CHN a i).lo
abbrev CIY (a : MNr) (i : Nat) : Int := (CHN a i).hi
abbrev CIB (a : MNr) (i : Nat) : Span := (BGT a i).s
abbrev CIK (a : MNr) (i : Nat) : Int := (CIB a i).lo
abbrev CGO (a : MNr) (i : Nat) : Int := (CIB a i).hi
theorem DSA (a : MNr) : (V2Nr a) = ((∃ (a_1 : Nat), (CSR a /\ CSZ a /\ CQD a /\ (↑a_1 : Int) = 0 /\ AEO a) /\ BIH a_1 a) /\ ∀ (a_1 : Nat), BIH a_1 a -> bif decide (CJC a_1 a) then ((0 <= (↑a_1 : Int) /\
 CJC a_1 a) /\ CRQ a a_1 /\ CSY a a_1 /\ CRB a a_1 /\ CPZ a a_1 /\ CQN a a_1 /\ CCW a /\ CGK a /\ a.q.base = a.q.base /\ a.q.scale = a.q.scale /\ a.q.off = a.q.off /\ ACM a = a.q.ms.length /\ (∀ (i :
 Nat), i < ACM a -> CKK a i = (gD a.q.ms i).pl /\ CJX a i = (gD a.q.ms i).ht) /\ BHE a = a.q.ns.length /\ (∀ (i : Nat), i < BHE a -> CHG a i = (gD a.q.ns i).mi /\ CFF a i = (gD a.q.ns i).t.lo /\
 CIY a i = (gD a.q.ns i).t.hi /\ CIK a i = (gD a.q.ns i).s.lo /\ CGO a i = (gD a.q.ns i).s.hi) /\ CCW a /\ CGK a /\ a.q.base = a.q.base /\ a.q.scale = a.q.scale /\ a.q.off = a.q.off /\ a.q.ms.length = ACM a
 /\ (∀ (i : Nat), i < a.q.ms.length -> (gD a.q.ms i).pl = CKK a i /\ (gD a.q.ms i).ht = CJX a i) /\ a.q.ns.length = BHE a /\ ∀ (i : Nat), i < a.q.ns.length -> (gD a.q.ns i).mi = CHG a i /\ (gD a.q.ns i).t.lo =
 CFF a i /\ (gD a.q.ns i).t.hi = CIY a i /\ (gD a.q.ns i).s.lo = CIK a i /\ (gD a.q.ns i).s.hi = CGO a i) /\ bif !CG (Nt.mk (gD a.l a_1).mi (gD a.l a_1).t (gD a.l a_1).s) (↑(ACM a) : Int) then BIC
 a = (↑a_1 : Int) /\ AEO a else ∃ (a_3 : Nat), (CSR a /\ CSZ a /\ CQD a /\ (↑a_3 : Int) = IntKind.i64.wrap ((↑a_1 : Int) + 1) /\ AEO a) /\ BIH a_3 a /\ BGX a a_3 < BGX a a_1 else BIC a = -1 /\
 AEO a) := by kernel_rfl
theorem p2Nr (a : MNr) (h : BB (PNr a)) : V2Nr a := by
 obtain ⟨h, hp⟩ : a.l.length < 4611686018427387904 /\ True := h
 rw [DSA]; delta CSR CRQ CSY CRB CPZ CQN CSZ CQD CCW CGK AEO CKI BIC BGX BIH CJC CLB ACM CGN CKK CJX CLW BHE BGT CHG CHN CFF CIY CIB CIK CGO
 simp only [CC, eq_self, implies_true, forall_const]
 refine ⟨⟨0, rfl, Nat.zero_le _, rfl⟩, λ k ⟨h1, h2⟩ => ⟨λ hlt => ?_, λ hge => ?_⟩⟩
 ·have hlt : k < a.l.length := by omega
  refine ⟨⟨by omega, by omega⟩, λ hp => ?_, λ hp => ⟨k + 1, (GC (by omega)).symm, ⟨by omega, ?_⟩, by omega⟩⟩
  ·rw [h2]; exact Ox hlt (by simpa using hp)
  ·rw [h2]; exact BWB hlt (by simpa using hp)
 ·rw [h2]; exact Y8 (by omega)
theorem DTD : AP Try.prog CNW (C2Nr.spec d2Nr) := MC C2Nr A2Nr [] [] DDW (λ _ => by kernel_rfl) (λ _ => AD DSR AK) p2Nr (λ _ => MO rfl rfl) _
def C3Nr : Ctr := { C2Nr with val := λ (a : MNr) => .bool (decide (IB (λ i => !CG (gD a.l i) a.q.ms.length) a.l.length 0 >= 0)) }
def d3Nr : List AVal -> Heap -> Option (C3Nr.α × List (Nat × Nat) × List Nat) := d2Nr
def A3Nr : Ann := { ann 9 [(CNW, C2Nr.spec d2Nr)] with E := [100, 101] }
def V3Nr (a : MNr) : Prop := AZ Try.prog A3Nr COO (AN COO) (C3Nr.xs a) (AF (C3Nr.L a)) (C3Nr.val a) (C3Nr.keep a) [] []
theorem DRP (a : MNr) : (V3Nr a) = (((AE a.l.length λ (i : Nat) => gD a.l i).length = a.l.length /\ (∀ (i : Nat), i < (AE a.l.length λ (i : Nat) => gD a.l i).length -> (gD (AE a.l.length λ (i : Nat) => gD a.l i)
 i).mi = (gD a.l i).mi /\ (gD (AE a.l.length λ (i : Nat) => gD a.l i) i).t.lo = (gD a.l i).t.lo /\ (gD (AE a.l.length λ (i : Nat) => gD a.l i) i).t.hi = (gD a.l i).t.hi /\ (gD (AE a.l.length λ (i : Nat) => gD a.l i)
 i).s.lo = (gD a.l i).s.lo /\ (gD (AE a.l.length λ (i : Nat) => gD a.l i) i).s.hi = (gD a.l i).s.hi) /\ a.q.p.lo = a.q.p.lo /\ a.q.p.hi = a.q.p.hi /\ a.q.base = a.q.base /\ a.q.scale = a.q.scale /\ a.q.off = a.q.off /\ (AE
 a.q.ms.length λ (i : Nat) => gD a.q.ms i).length = a.q.ms.length /\ (∀ (i : Nat), i < (AE a.q.ms.length λ (i : Nat) => gD a.q.ms i).length -> (gD (AE a.q.ms.length λ (i : Nat) => gD a.q.ms i) i).pl = (gD a.q.ms
 i).pl /\ (gD (AE a.q.ms.length λ (i : Nat) => gD a.q.ms i) i).ht = (gD a.q.ms i).ht) /\ (AE a.q.ns.length λ (i : Nat) => gD a.q.ns i).length = a.q.ns.length /\ (∀ (i : Nat), i < (AE a.q.ns.length λ (i : Nat) => gD
 a.q.ns i).length -> (gD (AE a.q.ns.length λ (i : Nat) => gD a.q.ns i) i).mi = (gD a.q.ns i).mi /\ (gD (AE a.q.ns.length λ (i : Nat) => gD a.q.ns i) i).t.lo = (gD a.q.ns i).t.lo /\ (gD (AE a.q.ns.length λ (i : Nat)
 => gD a.q.ns i) i).t.hi = (gD a.q.ns i).t.hi /\ (gD (AE a.q.ns.length λ (i : Nat) => gD a.q.ns i) i).s.lo = (gD a.q.ns i).s.lo /\ (gD (AE a.q.ns.length λ (i : Nat) => gD a.q.ns i) i).s.hi = (gD a.q.ns i).s.hi) /\
 a.q.p.lo = a.q.p.lo /\ a.q.p.hi = a.q.p.hi /\ a.q.base = a.q.base /\ a.q.scale = a.q.scale /\ a.q.off = a.q.off /\ a.q.ms.length = (AE a.q.ms.length λ (i : Nat) => gD a.q.ms i).length /\ (∀ (i : Nat), i < a.q.ms.length ->
 (gD a.q.ms i).pl = (gD (AE a.q.ms.length λ (i : Nat) => gD a.q.ms i) i).pl /\ (gD a.q.ms i).ht = (gD (AE a.q.ms.length λ (i : Nat) => gD a.q.ms i) i).ht) /\ a.q.ns.length = (AE a.q.ns.length λ (i : Nat) => gD
 a.q.ns i).length /\ (∀ (i : Nat), i < a.q.ns.length -> (gD a.q.ns i).mi = (gD (AE a.q.ns.length λ (i : Nat) => gD a.q.ns i) i).mi /\ (gD a.q.ns i).t.lo = (gD (AE a.q.ns.length λ (i : Nat) => gD a.q.ns i) i).t.lo /\ (gD
 a.q.ns i).t.hi = (gD (AE a.q.ns.length λ (i : Nat) => gD a.q.ns i) i).t.hi /\ (gD a.q.ns i).s.lo = (gD (AE a.q.ns.length λ (i : Nat) => gD a.q.ns i) i).s.lo /\ (gD a.q.ns i).s.hi = (gD (AE a.q.ns.length λ (i :
 Nat) => gD a.q.ns i) i).s.hi) /\ (AE a.l.length λ (i : Nat) => gD a.l i).length < 4611686018427387904 /\ True) /\ decide (IB (λ (i : Nat) => !CG (gD a.l i) (↑a.q.ms.length : Int)) a.l.length 0 >= 0) = decide (IB
 (λ (i : Nat) => !CG (gD (AE a.l.length λ (i : Nat) => gD a.l i) i) (↑(AE a.q.ms.length λ (i : Nat) => gD a.q.ms i).length : Int)) (AE a.l.length λ (i : Nat) => gD a.l i).length 0 >= 0) /\ a.q.p.lo = a.q.p.lo
 /\ a.q.p.hi = a.q.p.hi /\ a.q.base = a.q.base /\ a.q.scale = a.q.scale /\ a.q.off = a.q.off /\ a.q.ms.length = a.q.ms.length /\ (∀ (i : Nat), i < a.q.ms.length -> (gD a.q.ms i).pl = (gD a.q.ms i).pl /\ (gD a.q.ms i).ht = (gD
 a.q.ms i).ht) /\ a.q.ns.length = a.q.ns.length /\ ∀ (i : Nat), i < a.q.ns.length -> (gD a.q.ns i).mi = (gD a.q.ns i).mi /\ (gD a.q.ns i).t.lo = (gD a.q.ns i).t.lo /\ (gD a.q.ns i).t.hi = (gD a.q.ns i).t.hi /\ (gD a.q.ns
 i).s.lo = (gD a.q.ns i).s.lo /\ (gD a.q.ns i).s.hi = (gD a.q.ns i).s.hi) := by kernel_rfl
theorem DSS : AP Try.prog CPC (C3Nr.spec d3Nr) := Ctr.spec_ok (C := C3Nr) (λ (a : MNr) h => TV (A := A3Nr) (ren := []) (fz := []) CYJ (by kernel_rfl) (AD DTD AK) (by
 obtain ⟨h, hp⟩ : a.l.length < 4611686018427387904 /\ True := h
 show V3Nr a; rw [DRP]; simp [h, JI])) _
def d4Nr : List AVal -> Heap -> Option (MNr × List (Nat × Nat) × List Nat)
 | [y, .fn _ _ [.bptr j _]], H => match T5 y H with
  | some (n, g, f) => match VK H j with
   | some q => some (⟨q, AE n λ i => dNt (g i)⟩, [(101, j)], f)
   | none => none
  | none => none
 | _, _ => none
def A4Nr : Ann := { ann 9 [(CPC, C3Nr.spec d3Nr)] with E := [101] }
def C4Nr : Ctr := { ro := [101], α := MNr, xs := λ a => [.d (rL a.l), fvNr a.q], L := λ a => LXNr a.q, val := λ a => .bool (a.l.all λ x => CG x a.q.ms.length), keep := λ a => KXNr a.q, pre := PNr }
def V4Nr (a : MNr) : Prop := AZ Try.prog A4Nr F_eN (AN F_eN) (C4Nr.xs a) (AF (C4Nr.L a)) (C4Nr.val a) (C4Nr.keep a) [] []
theorem DPY (a : MNr) : (V4Nr a) = (((AE a.l.length λ (i : Nat) => gD a.l i).length = a.l.length /\ (∀ (i : Nat), i < (AE a.l.length λ (i : Nat) => gD a.l i).length -> (gD (AE a.l.length λ (i : Nat) => gD a.l i)
 i).mi = (gD a.l i).mi /\ (gD (AE a.l.length λ (i : Nat) => gD a.l i) i).t.lo = (gD a.l i).t.lo /\ (gD (AE a.l.length λ (i : Nat) => gD a.l i) i).t.hi = (gD a.l i).t.hi /\ (gD (AE a.l.length λ (i : Nat) => gD a.l i)
 i).s.lo = (gD a.l i).s.lo /\ (gD (AE a.l.length λ (i : Nat) => gD a.l i) i).s.hi = (gD a.l i).s.hi) /\ a.q.p.lo = a.q.p.lo /\ a.q.p.hi = a.q.p.hi /\ a.q.base = a.q.base /\ a.q.scale = a.q.scale /\ a.q.off = a.q.off /\ (AE
 a.q.ms.length λ (i : Nat) => gD a.q.ms i).length = a.q.ms.length /\ (∀ (i : Nat), i < (AE a.q.ms.length λ (i : Nat) => gD a.q.ms i).length -> (gD (AE a.q.ms.length λ (i : Nat) => gD a.q.ms i) i).pl = (gD a.q.ms
 i).pl /\ (gD (AE a.q.ms.length λ (i : Nat) => gD a.q.ms i) i).ht = (gD a.q.ms i).ht) /\ (AE a.q.ns.length λ (i : Nat) => gD a.q.ns i).length = a.q.ns.length /\ (∀ (i : Nat), i < (AE a.q.ns.length λ (i : Nat) => gD
 a.q.ns i).length -> (gD (AE a.q.ns.length λ (i : Nat) => gD a.q.ns i) i).mi = (gD a.q.ns i).mi /\ (gD (AE a.q.ns.length λ (i : Nat) => gD a.q.ns i) i).t.lo = (gD a.q.ns i).t.lo /\ (gD (AE a.q.ns.length λ (i : Nat)
 => gD a.q.ns i) i).t.hi = (gD a.q.ns i).t.hi /\ (gD (AE a.q.ns.length λ (i : Nat) => gD a.q.ns i) i).s.lo = (gD a.q.ns i).s.lo /\ (gD (AE a.q.ns.length λ (i : Nat) => gD a.q.ns i) i).s.hi = (gD a.q.ns i).s.hi) /\
 a.q.p.lo = a.q.p.lo /\ a.q.p.hi = a.q.p.hi /\ a.q.base = a.q.base /\ a.q.scale = a.q.scale /\ a.q.off = a.q.off /\ a.q.ms.length = (AE a.q.ms.length λ (i : Nat) => gD a.q.ms i).length /\ (∀ (i : Nat), i < a.q.ms.length ->
 (gD a.q.ms i).pl = (gD (AE a.q.ms.length λ (i : Nat) => gD a.q.ms i) i).pl /\ (gD a.q.ms i).ht = (gD (AE a.q.ms.length λ (i : Nat) => gD a.q.ms i) i).ht) /\ a.q.ns.length = (AE a.q.ns.length λ (i : Nat) => gD
 a.q.ns i).length /\ (∀ (i : Nat), i < a.q.ns.length -> (gD a.q.ns i).mi = (gD (AE a.q.ns.length λ (i : Nat) => gD a.q.ns i) i).mi /\ (gD a.q.ns i).t.lo = (gD (AE a.q.ns.length λ (i : Nat) => gD a.q.ns i) i).t.lo /\ (gD
 a.q.ns i).t.hi = (gD (AE a.q.ns.length λ (i : Nat) => gD a.q.ns i) i).t.hi /\ (gD a.q.ns i).s.lo = (gD (AE a.q.ns.length λ (i : Nat) => gD a.q.ns i) i).s.lo /\ (gD a.q.ns i).s.hi = (gD (AE a.q.ns.length λ (i :
 Nat) => gD a.q.ns i) i).s.hi) /\ (AE a.l.length λ (i : Nat) => gD a.l i).length < 4611686018427387904 /\ True) /\ (a.l.all λ (x : Nt) => CG x (↑a.q.ms.length : Int)) = !decide (IB (λ (i : Nat) => !CG (gD
 (AE a.l.length λ (i : Nat) => gD a.l i) i) (↑(AE a.q.ms.length λ (i : Nat) => gD a.q.ms i).length : Int)) (AE a.l.length λ (i : Nat) => gD a.l i).length 0 >= 0) /\ a.q.p.lo = a.q.p.lo /\ a.q.p.hi = a.q.p.hi /\
 a.q.base = a.q.base /\ a.q.scale = a.q.scale /\ a.q.off = a.q.off /\ a.q.ms.length = a.q.ms.length /\ (∀ (i : Nat), i < a.q.ms.length -> (gD a.q.ms i).pl = (gD a.q.ms i).pl /\ (gD a.q.ms i).ht = (gD a.q.ms i).ht) /\
 a.q.ns.length = a.q.ns.length /\ ∀ (i : Nat), i < a.q.ns.length -> (gD a.q.ns i).mi = (gD a.q.ns i).mi /\ (gD a.q.ns i).t.lo = (gD a.q.ns i).t.lo /\ (gD a.q.ns i).t.hi = (gD a.q.ns i).t.hi /\ (gD a.q.ns i).s.lo = (gD a.q.ns
 i).s.lo /\ (gD a.q.ns i).s.hi = (gD a.q.ns i).s.hi) := by kernel_rfl
theorem DRY (a : MNr) (h : BB (PNr a)) : FnT Try.prog n_eN (C4Nr.xs a) (AF (C4Nr.L a)) (C4Nr.val a) (C4Nr.keep a) := TV (A := A4Nr) (ren := []) (fz := []) DRB (by kernel_rfl) (AD DSS AK) (by
 have h' : a.l.length < 4611686018427387904 /\ True := h
 show V4Nr a; rw [DPY]; simp only [CC, eq_self, implies_true, forall_const, ge_iff_le]
 rw [<- oC]
 exact ⟨h'.1, rfl⟩)
theorem DRI : AP Try.prog n_eN (C4Nr.spec d4Nr) := Ctr.spec_ok (C := C4Nr) DRY _
def fvSa (q : One) : AVal := .fn (.func CDY) [] []
def BSa (q : One) : AObj := .box [fvSa q]
structure ESa where
 q : One
 e : Span
structure MSa where
 q : One
 l : List Span
def C1Sa : Ctr := { ro := [100], α := ESa, xs := λ a => [.d (CE a.e), .bptr 100 0], L := λ a => (100, BSa a.q) :: [], val := λ a => .bool (!KC a.e), keep := λ a => (100, .live (BSa a.q)) :: [] }
def d1Sa : List AVal -> Heap -> Option (ESa × List (Nat × Nat) × List Nat)
 | [.d d, .bptr id _], H => some (⟨default, MR d⟩, [(100, id)], [])
 | _, _ => none
def A1Sa : Ann := { ann 8 [(CDY, CGC)] with E := [100] }
def V1Sa (a : ESa) : Prop := AZ Try.prog A1Sa COL (AN COL) (C1Sa.xs a) (AF (C1Sa.L a)) (C1Sa.val a) (C1Sa.keep a) [] []
theorem DRE (a : ESa) : (V1Sa a) = ((!KC a.e) = !KC a.e) := by kernel_rfl
theorem DRM : AP Try.prog V3 (C1Sa.spec d1Sa) := MC C1Sa (λ _ => A1Sa) [] [] DCM (λ _ => by kernel_rfl) (λ _ => AD DGV AK) (λ (a : ESa) h => by
 show V1Sa a; rw [DRE]; try simp [wr, JI]) (λ _ => MO rfl rfl) _
def d2Sa : List AVal -> Heap -> Option (MSa × List (Nat × Nat) × List Nat)
 | [y, .fn _ _ [.bptr id _]], H => match T5 y H with
  | some (n, g, f) => some (⟨default, AE n λ i => MR (g i)⟩, [(100, id)], f)
  | none => none
 | _, _ => none
def A2Sa (a : MSa) : Ann := { ann 19 [(V3, C1Sa.spec d1Sa)] with E := [100], loops := λ id => if id = 2 then some [{ α := Nat, dflt := 0, T := λ k => ⟨[(0, .d (AV a.l)), (1, .fn (.func V3) [] [.bptr 100 0]), (7, .int a.l.length), (8, .int k)], (100, .live (BSa a.q)) :: []⟩, inv := λ k => k <= a.l.length /\ IB (λ i => !KC (gD a.l i)) a.l.length 0 = IB (λ i => !KC (gD a.l i)) (a.l.length - k) k, meas := λ k => a.l.length - k }] else none }
def PSa (a : MSa) : List Prop := [a.l.length < 4611686018427387904 /\ True]
def C2Sa : Ctr := { ro := [100], α := MSa, xs := λ a => [.d (AV a.l), .fn (.func V3) [] [.bptr 100 0]], L := λ a => (100, BSa a.q) :: [], val := λ a => .int (IB (λ i => !KC (gD a.l i)) a.l.length 0), keep := λ a => (100, .live (BSa a.q)) :: [], pre := PSa }
def V2Sa (a : MSa) : Prop := AZ Try.prog (A2Sa a) CNP (AN CNP) (C2Sa.xs a) (AF (C2Sa.L a)) (C2Sa.val a) (C2Sa.keep a) [] []
theorem DRF (a : MSa) : (V2Sa a) = ((∃ (a_1 : Nat), (a.l.length = a.l.length /\ (∀ (i : Nat), i < a.l.length -> (gD a.l i).lo = (gD a.l i).lo /\ (gD a.l i).hi = (gD a.l i).hi) /\ (↑a.l.length : Int) = (↑a.l.length : Int) /\
 (↑a_1 : Int) = 0) /\ a_1 <= a.l.length /\ IB (λ (i : Nat) => !KC (gD a.l i)) a.l.length 0 = IB (λ (i : Nat) => !KC (gD a.l i)) (a.l.length - a_1) a_1) /\ ∀ (a_1 : Nat), a_1 <= a.l.length /\ IB (λ (i : Nat) => !KC
 (gD a.l i)) a.l.length 0 = IB (λ (i : Nat) => !KC (gD a.l i)) (a.l.length - a_1) a_1 -> bif decide ((↑a_1 : Int) < (↑a.l.length : Int)) then ((0 <= (↑a_1 : Int) /\ (↑a_1 : Int) < (↑a.l.length : Int)) /\ (gD a.l a_1).lo =
 (gD a.l a_1).lo /\ (gD a.l a_1).hi = (gD a.l a_1).hi) /\ bif !KC (gD a.l a_1) then IB (λ (i : Nat) => !KC (gD a.l i)) a.l.length 0 = (↑a_1 : Int) else ∃ (a_3 : Nat), (a.l.length = a.l.length /\ (∀ (i : Nat), i <
 a.l.length -> (gD a.l i).lo = (gD a.l i).lo /\ (gD a.l i).hi = (gD a.l i).hi) /\ (↑a.l.length : Int) = (↑a.l.length : Int) /\ (↑a_3 : Int) = IntKind.i64.wrap ((↑a_1 : Int) + 1)) /\ (a_3 <= a.l.length /\ IB (λ (i : Nat) =>
 !KC (gD a.l i)) a.l.length 0 = IB (λ (i : Nat) => !KC (gD a.l i)) (a.l.length - a_3) a_3) /\ a.l.length - a_3 < a.l.length - a_1 else IB (λ (i : Nat) => !KC (gD a.l i)) a.l.length 0 = -1) := by kernel_rfl
theorem p2Sa (a : MSa) (h : BB (PSa a)) : V2Sa a := by
 obtain ⟨h, hp⟩ : a.l.length < 4611686018427387904 /\ True := h
 rw [DRF]
 simp only [CC, eq_self, implies_true, forall_const]
 refine ⟨⟨0, rfl, Nat.zero_le _, rfl⟩, λ k ⟨h1, h2⟩ => ⟨λ hlt => ?_, λ hge => ?_⟩⟩
 ·have hlt : k < a.l.length := by omega
  refine ⟨⟨by omega, by omega⟩, λ hp => ?_, λ hp => ⟨k + 1, (GC (by omega)).symm, ⟨by omega, ?_⟩, by omega⟩⟩
  ·rw [h2]; exact Ox hlt (by simpa using hp)
  ·rw [h2]; exact BWB hlt (by simpa using hp)
 ·rw [h2]; exact Y8 (by omega)
theorem DSF : AP Try.prog CNG (C2Sa.spec d2Sa) := MC C2Sa A2Sa [] [] CYK (λ _ => by kernel_rfl) (λ _ => AD DRM AK) p2Sa (λ _ => MO rfl rfl) _
def C3Sa : Ctr := { C2Sa with val := λ (a : MSa) => .bool (decide (IB (λ i => !KC (gD a.l i)) a.l.length 0 >= 0)) }
def d3Sa : List AVal -> Heap -> Option (C3Sa.α × List (Nat × Nat) × List Nat) := d2Sa
def A3Sa : Ann := { ann 9 [(CNG, C2Sa.spec d2Sa)] with E := [100] }
def V3Sa (a : MSa) : Prop := AZ Try.prog A3Sa CNB (AN CNB) (C3Sa.xs a) (AF (C3Sa.L a)) (C3Sa.val a) (C3Sa.keep a) [] []
theorem DTA (a : MSa) : (V3Sa a) = (((AE a.l.length λ (i : Nat) => gD a.l i).length = a.l.length /\ (∀ (i : Nat), i < (AE a.l.length λ (i : Nat) => gD a.l i).length -> (gD (AE a.l.length λ (i : Nat) => gD a.l i)
 i).lo = (gD a.l i).lo /\ (gD (AE a.l.length λ (i : Nat) => gD a.l i) i).hi = (gD a.l i).hi) /\ (AE a.l.length λ (i : Nat) => gD a.l i).length < 4611686018427387904 /\ True) /\ decide (IB (λ (i : Nat) => !KC (gD a.l
 i)) a.l.length 0 >= 0) = decide (IB (λ (i : Nat) => !KC (gD (AE a.l.length λ (i : Nat) => gD a.l i) i)) (AE a.l.length λ (i : Nat) => gD a.l i).length 0 >= 0)) := by kernel_rfl
theorem DQU : AP Try.prog CPV (C3Sa.spec d3Sa) := Ctr.spec_ok (C := C3Sa) (λ (a : MSa) h => TV (A := A3Sa) (ren := []) (fz := []) CYH (by kernel_rfl) (AD DSF AK) (by
 obtain ⟨h, hp⟩ : a.l.length < 4611686018427387904 /\ True := h
 show V3Sa a; rw [DTA]; simp [h, JI])) _
def d4Sa : List AVal -> Heap -> Option (MSa × List (Nat × Nat) × List Nat)
 | [y, .fn _ _ _], H => match T5 y H with
  | some (n, g, f) => some (⟨default, AE n λ i => MR (g i)⟩, [], f)
  | none => none
 | _, _ => none
def A4Sa : Ann := { ann 9 [(CPV, C3Sa.spec d3Sa)] with E := [] }
def C4Sa : Ctr := { ro := [], α := MSa, xs := λ a => [.d (AV a.l), fvSa a.q], L := λ a => [], val := λ a => .bool (a.l.all λ x => KC x), keep := λ a => [], pre := PSa }
def V4Sa (a : MSa) : Prop := AZ Try.prog A4Sa F_eS (AN F_eS) (C4Sa.xs a) (AF (C4Sa.L a)) (C4Sa.val a) (C4Sa.keep a) [] []
theorem DRT (a : MSa) : (V4Sa a) = (((AE a.l.length λ (i : Nat) => gD a.l i).length = a.l.length /\ (∀ (i : Nat), i < (AE a.l.length λ (i : Nat) => gD a.l i).length -> (gD (AE a.l.length λ (i : Nat) => gD a.l i)
 i).lo = (gD a.l i).lo /\ (gD (AE a.l.length λ (i : Nat) => gD a.l i) i).hi = (gD a.l i).hi) /\ (AE a.l.length λ (i : Nat) => gD a.l i).length < 4611686018427387904 /\ True) /\ (a.l.all λ (x : Span) => KC x) =
 !decide (IB (λ (i : Nat) => !KC (gD (AE a.l.length λ (i : Nat) => gD a.l i) i)) (AE a.l.length λ (i : Nat) => gD a.l i).length 0 >= 0)) := by kernel_rfl
theorem DLO (a : MSa) (h : BB (PSa a)) : FnT Try.prog n_eS (C4Sa.xs a) (AF (C4Sa.L a)) (C4Sa.val a) (C4Sa.keep a) := TV (A := A4Sa) (ren := []) (fz := []) DLT (by kernel_rfl) (AD DQU AK) (by
 have h' : a.l.length < 4611686018427387904 /\ True := h
 show V4Sa a; rw [DRT]; simp only [CC, eq_self, implies_true, forall_const, ge_iff_le]
 rw [<- oC]
 exact ⟨h'.1, rfl⟩)
theorem DSJ : AP Try.prog n_eS (C4Sa.spec d4Sa) := Ctr.spec_ok (C := C4Sa) DLO _
def fvSn (q : One) : AVal := .fn (.func CGL) [] []
def BSn (q : One) : AObj := .box [fvSn q]
structure ESn where
 q : One
 e : Span
structure MSn where
 q : One
 l : List Span
def C1Sn : Ctr := { ro := [100], α := ESn, xs := λ a => [.d (CE a.e), .bptr 100 0], L := λ a => (100, BSn a.q) :: [], val := λ a => .bool (!KC a.e), keep := λ a => (100, .live (BSn a.q)) :: [] }
def d1Sn : List AVal -> Heap -> Option (ESn × List (Nat × Nat) × List Nat)
 | [.d d, .bptr id _], H => some (⟨default, MR d⟩, [(100, id)], [])
 | _, _ => none
def A1Sn : Ann := { ann 8 [(CGL, CGC)] with E := [100] }
def V1Sn (a : ESn) : Prop := AZ Try.prog A1Sn COL (AN COL) (C1Sn.xs a) (AF (C1Sn.L a)) (C1Sn.val a) (C1Sn.keep a) [] []
theorem DTC (a : ESn) : (V1Sn a) = ((!KC a.e) = !KC a.e) := by kernel_rfl
theorem DSO : AP Try.prog V3 (C1Sn.spec d1Sn) := MC C1Sn (λ _ => A1Sn) [] [] DCM (λ _ => by kernel_rfl) (λ _ => AD DIU AK) (λ (a : ESn) h => by
 show V1Sn a; rw [DTC]; try simp [wr, JI]) (λ _ => MO rfl rfl) _
def d2Sn : List AVal -> Heap -> Option (MSn × List (Nat × Nat) × List Nat)
 | [y, .fn _ _ [.bptr id _]], H => match T5 y H with
  | some (n, g, f) => some (⟨default, AE n λ i => MR (g i)⟩, [(100, id)], f)
  | none => none
 | _, _ => none
def A2Sn (a : MSn) : Ann := { ann 19 [(V3, C1Sn.spec d1Sn)] with E := [100], loops := λ id => if id = 2 then some [{ α := Nat, dflt := 0, T := λ k => ⟨[(0, .d (AV a.l)), (1, .fn (.func V3) [] [.bptr 100 0]), (7, .int a.l.length), (8, .int k)], (100, .live (BSn a.q)) :: []⟩, inv := λ k => k <= a.l.length /\ IB (λ i => !KC (gD a.l i)) a.l.length 0 = IB (λ i => !KC (gD a.l i)) (a.l.length - k) k, meas := λ k => a.l.length - k }] else none }
def PSn (a : MSn) : List Prop := [a.l.length < 4611686018427387904 /\ True]
def C2Sn : Ctr := { ro := [100], α := MSn, xs := λ a => [.d (AV a.l), .fn (.func V3) [] [.bptr 100 0]], L := λ a => (100, BSn a.q) :: [], val := λ a => .int (IB (λ i => !KC (gD a.l i)) a.l.length 0), keep := λ a => (100, .live (BSn a.q)) :: [], pre := PSn }
def V2Sn (a : MSn) : Prop := AZ Try.prog (A2Sn a) CNP (AN CNP) (C2Sn.xs a) (AF (C2Sn.L a)) (C2Sn.val a) (C2Sn.keep a) [] []
theorem DSV (a : MSn) : (V2Sn a) = ((∃ (a_1 : Nat), (a.l.length = a.l.length /\ (∀ (i : Nat), i < a.l.length -> (gD a.l i).lo = (gD a.l i).lo /\ (gD a.l i).hi = (gD a.l i).hi) /\ (↑a.l.length : Int) = (↑a.l.length : Int) /\
 (↑a_1 : Int) = 0) /\ a_1 <= a.l.length /\ IB (λ (i : Nat) => !KC (gD a.l i)) a.l.length 0 = IB (λ (i : Nat) => !KC (gD a.l i)) (a.l.length - a_1) a_1) /\ ∀ (a_1 : Nat), a_1 <= a.l.length /\ IB (λ (i : Nat) => !KC
 (gD a.l i)) a.l.length 0 = IB (λ (i : Nat) => !KC (gD a.l i)) (a.l.length - a_1) a_1 -> bif decide ((↑a_1 : Int) < (↑a.l.length : Int)) then ((0 <= (↑a_1 : Int) /\ (↑a_1 : Int) < (↑a.l.length : Int)) /\ (gD a.l a_1).lo =
 (gD a.l a_1).lo /\ (gD a.l a_1).hi = (gD a.l a_1).hi) /\ bif !KC (gD a.l a_1) then IB (λ (i : Nat) => !KC (gD a.l i)) a.l.length 0 = (↑a_1 : Int) else ∃ (a_3 : Nat), (a.l.length = a.l.length /\ (∀ (i : Nat), i <
 a.l.length -> (gD a.l i).lo = (gD a.l i).lo /\ (gD a.l i).hi = (gD a.l i).hi) /\ (↑a.l.length : Int) = (↑a.l.length : Int) /\ (↑a_3 : Int) = IntKind.i64.wrap ((↑a_1 : Int) + 1)) /\ (a_3 <= a.l.length /\ IB (λ (i : Nat) =>
 !KC (gD a.l i)) a.l.length 0 = IB (λ (i : Nat) => !KC (gD a.l i)) (a.l.length - a_3) a_3) /\ a.l.length - a_3 < a.l.length - a_1 else IB (λ (i : Nat) => !KC (gD a.l i)) a.l.length 0 = -1) := by kernel_rfl
theorem p2Sn (a : MSn) (h : BB (PSn a)) : V2Sn a := by
 obtain ⟨h, hp⟩ : a.l.length < 4611686018427387904 /\ True := h
 rw [DSV]
 simp only [CC, eq_self, implies_true, forall_const]
 refine ⟨⟨0, rfl, Nat.zero_le _, rfl⟩, λ k ⟨h1, h2⟩ => ⟨λ hlt => ?_, λ hge => ?_⟩⟩
 ·have hlt : k < a.l.length := by omega
  refine ⟨⟨by omega, by omega⟩, λ hp => ?_, λ hp => ⟨k + 1, (GC (by omega)).symm, ⟨by omega, ?_⟩, by omega⟩⟩
  ·rw [h2]; exact Ox hlt (by simpa using hp)
  ·rw [h2]; exact BWB hlt (by simpa using hp)
 ·rw [h2]; exact Y8 (by omega)
theorem DQZ : AP Try.prog CNG (C2Sn.spec d2Sn) := MC C2Sn A2Sn [] [] CYK (λ _ => by kernel_rfl) (λ _ => AD DSO AK) p2Sn (λ _ => MO rfl rfl) _
def C3Sn : Ctr := { C2Sn with val := λ (a : MSn) => .bool (decide (IB (λ i => !KC (gD a.l i)) a.l.length 0 >= 0)) }
def d3Sn : List AVal -> Heap -> Option (C3Sn.α × List (Nat × Nat) × List Nat) := d2Sn
def A3Sn : Ann := { ann 9 [(CNG, C2Sn.spec d2Sn)] with E := [100] }
def V3Sn (a : MSn) : Prop := AZ Try.prog A3Sn CNB (AN CNB) (C3Sn.xs a) (AF (C3Sn.L a)) (C3Sn.val a) (C3Sn.keep a) [] []
theorem DQH (a : MSn) : (V3Sn a) = (((AE a.l.length λ (i : Nat) => gD a.l i).length = a.l.length /\ (∀ (i : Nat), i < (AE a.l.length λ (i : Nat) => gD a.l i).length -> (gD (AE a.l.length λ (i : Nat) => gD a.l i)
 i).lo = (gD a.l i).lo /\ (gD (AE a.l.length λ (i : Nat) => gD a.l i) i).hi = (gD a.l i).hi) /\ (AE a.l.length λ (i : Nat) => gD a.l i).length < 4611686018427387904 /\ True) /\ decide (IB (λ (i : Nat) => !KC (gD a.l
 i)) a.l.length 0 >= 0) = decide (IB (λ (i : Nat) => !KC (gD (AE a.l.length λ (i : Nat) => gD a.l i) i)) (AE a.l.length λ (i : Nat) => gD a.l i).length 0 >= 0)) := by kernel_rfl
theorem DRJ : AP Try.prog CPV (C3Sn.spec d3Sn) := Ctr.spec_ok (C := C3Sn) (λ (a : MSn) h => TV (A := A3Sn) (ren := []) (fz := []) CYH (by kernel_rfl) (AD DQZ AK) (by
 obtain ⟨h, hp⟩ : a.l.length < 4611686018427387904 /\ True := h
 show V3Sn a; rw [DQH]; simp [h, JI])) _
def A4Sn : Ann := { ann 9 [(CPV, C3Sn.spec d3Sn)] with E := [] }
def C4Sn : Ctr := { ro := [], α := MSn, xs := λ a => [.d (AV a.l), fvSn a.q], L := λ a => [], val := λ a => .bool (a.l.all λ x => KC x), keep := λ a => [], pre := PSn }
def V4Sn (a : MSn) : Prop := AZ Try.prog A4Sn F_eS (AN F_eS) (C4Sn.xs a) (AF (C4Sn.L a)) (C4Sn.val a) (C4Sn.keep a) [] []
theorem DSH (a : MSn) : (V4Sn a) = (((AE a.l.length λ (i : Nat) => gD a.l i).length = a.l.length /\ (∀ (i : Nat), i < (AE a.l.length λ (i : Nat) => gD a.l i).length -> (gD (AE a.l.length λ (i : Nat) => gD a.l i)
 i).lo = (gD a.l i).lo /\ (gD (AE a.l.length λ (i : Nat) => gD a.l i) i).hi = (gD a.l i).hi) /\ (AE a.l.length λ (i : Nat) => gD a.l i).length < 4611686018427387904 /\ True) /\ (a.l.all λ (x : Span) => KC x) =
 !decide (IB (λ (i : Nat) => !KC (gD (AE a.l.length λ (i : Nat) => gD a.l i) i)) (AE a.l.length λ (i : Nat) => gD a.l i).length 0 >= 0)) := by kernel_rfl
theorem DSI (a : MSn) (h : BB (PSn a)) : FnT Try.prog n_eS (C4Sn.xs a) (AF (C4Sn.L a)) (C4Sn.val a) (C4Sn.keep a) := TV (A := A4Sn) (ren := []) (fz := []) DLT (by kernel_rfl) (AD DRJ AK) (by
 have h' : a.l.length < 4611686018427387904 /\ True := h
 show V4Sn a; rw [DSH]; simp only [CC, eq_self, implies_true, forall_const, ge_iff_le]
 rw [<- oC]
 exact ⟨h'.1, rfl⟩)
structure N2 where
 q : Nt
 e : Nt
def ntB (q : Nt) : AObj := .box [.int q.mi, .int q.t.lo, .int q.t.hi, .int q.s.lo, .int q.s.hi]
def DBW (H : Heap) (id : Nat) : Option Nt := match H id with
 | .live (.box [.d a, .d b, .d c, .d d, .d e]) => some ⟨CD a, ⟨CD b, CD c⟩, ⟨CD d, CD e⟩⟩
 | _ => none
def C_ck2 : Ctr := { ro := [100], α := N2, xs := λ a => [.d (eNt a.e), .bptr 100 0], L := λ a => [(100, ntB a.q)], val := λ a => .bool (a.e.mi == a.q.mi), keep := λ a => [(100, .live (ntB a.q))] }
def DLH : List AVal -> Heap -> Option (N2 × List (Nat × Nat) × List Nat)
 | [.d d, .bptr id _], H => match DBW H id with
  | some q => some (⟨q, dNt d⟩, [(100, id)], [])
  | none => none
 | _, _ => none
def DLW : Ann := { ann 9 [] with E := [100] }
def DLD (a : N2) : Prop := AZ Try.prog DLW BNO (AN BNO) (C_ck2.xs a) (AF (C_ck2.L a)) (C_ck2.val a) (C_ck2.keep a) [] []
theorem DOZ (a : N2) : (DLD a) = ((a.e.mi == a.q.mi) = (a.e.mi == a.q.mi) /\ a.q.mi = a.q.mi /\ a.q.t.lo = a.q.t.lo /\ a.q.t.hi = a.q.t.hi /\ a.q.s.lo = a.q.s.lo /\ a.q.s.hi = a.q.s.hi) := by kernel_rfl
theorem DNZ : AP Try.prog bO (C_ck2.spec DLH) := MC C_ck2 (λ _ => DLW) [] [] CXD (λ _ => by kernel_rfl) (λ _ => AK) (λ (a : N2) _ => by
 show DLD a; rw [DOZ]; try simp) (λ _ => MO rfl rfl) _
structure MNc where
 q : Nt
 l : List Nt
def d2Nc : List AVal -> Heap -> Option (MNc × List (Nat × Nat) × List Nat)
 | [y, .fn _ _ [.bptr id _]], H => match T5 y H with
  | some (n, g, f) => match DBW H id with
   | some q => some (⟨q, AE n λ i => dNt (g i)⟩, [(100, id)], f)
   | none => none
  | none => none
 | _, _ => none
def A2Nc (a : MNc) : Ann := { ann 19 [(bO, C_ck2.spec DLH)] with E := [100], loops := λ id => if id = 2 then some [{ α := Nat, dflt := 0, T := λ k => ⟨[(0, .d (rL a.l)), (1, .fn (.func bO) [] [.bptr 100 0]), (7, .int a.l.length), (8, .int k)], [(100, .live (ntB a.q))]⟩, inv := λ k => k <= a.l.length /\ IB (λ i => (gD a.l i).mi == a.q.mi) a.l.length 0 = IB (λ i => (gD a.l i).mi == a.q.mi) (a.l.length - k) k, meas := λ k => a.l.length - k }] else none }
def C2Nc : Ctr := { ro := [100], α := MNc, xs := λ a => [.d (rL a.l), .fn (.func bO) [] [.bptr 100 0]], L := λ a => [(100, ntB a.q)], val := λ a => .int (IB (λ i => (gD a.l i).mi == a.q.mi) a.l.length 0), keep := λ a => [(100, .live (ntB a.q))], pre := λ a => [a.l.length < 4611686018427387904 /\ True] }
def V2Nc (a : MNc) : Prop := AZ Try.prog (A2Nc a) COE (AN COE) (C2Nc.xs a) (AF (C2Nc.L a)) (C2Nc.val a) (C2Nc.keep a) [] []
theorem DQI (a : MNc) : (V2Nc a) = ((∃ (a_1 : Nat), (a.l.length = a.l.length /\ (∀ (i : Nat), i < a.l.length -> (gD a.l i).mi = (gD a.l i).mi /\ (gD a.l i).t.lo = (gD a.l i).t.lo /\ (gD a.l i).t.hi = (gD a.l i).t.hi /\ (gD
 a.l i).s.lo = (gD a.l i).s.lo /\ (gD a.l i).s.hi = (gD a.l i).s.hi) /\ (↑a.l.length : Int) = (↑a.l.length : Int) /\ (↑a_1 : Int) = 0 /\ a.q.mi = a.q.mi /\ a.q.t.lo = a.q.t.lo /\ a.q.t.hi = a.q.t.hi /\ a.q.s.lo = a.q.s.lo /\
 a.q.s.hi = a.q.s.hi) /\ a_1 <= a.l.length /\ IB (λ (i : Nat) => (gD a.l i).mi == a.q.mi) a.l.length 0 = IB (λ (i : Nat) => (gD a.l i).mi == a.q.mi) (a.l.length - a_1) a_1) /\ ∀ (a_1 : Nat), a_1 <= a.l.length /\ IB (fun
 (i : Nat) => (gD a.l i).mi == a.q.mi) a.l.length 0 = IB (λ (i : Nat) => (gD a.l i).mi == a.q.mi) (a.l.length - a_1) a_1 -> bif decide ((↑a_1 : Int) < (↑a.l.length : Int)) then ((0 <= (↑a_1 : Int) /\ (↑a_1 : Int) <
 (↑a.l.length : Int)) /\ (gD a.l a_1).mi = (gD a.l a_1).mi /\ (gD a.l a_1).t.lo = (gD a.l a_1).t.lo /\ (gD a.l a_1).t.hi = (gD a.l a_1).t.hi /\ (gD a.l a_1).s.lo = (gD a.l a_1).s.lo /\ (gD a.l a_1).s.hi = (gD a.l a_1).s.hi /\
 a.q.mi = a.q.mi /\ a.q.t.lo = a.q.t.lo /\ a.q.t.hi = a.q.t.hi /\ a.q.s.lo = a.q.s.lo /\ a.q.s.hi = a.q.s.hi /\ a.q.mi = a.q.mi /\ a.q.t.lo = a.q.t.lo /\ a.q.t.hi = a.q.t.hi /\ a.q.s.lo = a.q.s.lo /\ a.q.s.hi = a.q.s.hi) /\ bif (gD
 a.l a_1).mi == a.q.mi then IB (λ (i : Nat) => (gD a.l i).mi == a.q.mi) a.l.length 0 = (↑a_1 : Int) /\ a.q.mi = a.q.mi /\ a.q.t.lo = a.q.t.lo /\ a.q.t.hi = a.q.t.hi /\ a.q.s.lo = a.q.s.lo /\ a.q.s.hi = a.q.s.hi else ∃ (a_3
 : Nat), (a.l.length = a.l.length /\ (∀ (i : Nat), i < a.l.length -> (gD a.l i).mi = (gD a.l i).mi /\ (gD a.l i).t.lo = (gD a.l i).t.lo /\ (gD a.l i).t.hi = (gD a.l i).t.hi /\ (gD a.l i).s.lo = (gD a.l i).s.lo /\ (gD a.l
 i).s.hi = (gD a.l i).s.hi) /\ (↑a.l.length : Int) = (↑a.l.length : Int) /\ (↑a_3 : Int) = IntKind.i64.wrap ((↑a_1 : Int) + 1) /\ a.q.mi = a.q.mi /\ a.q.t.lo = a.q.t.lo /\ a.q.t.hi = a.q.t.hi /\ a.q.s.lo = a.q.s.lo /\ a.q.s.hi =
 a.q.s.hi) /\ (a_3 <= a.l.length /\ IB (λ (i : Nat) => (gD a.l i).mi == a.q.mi) a.l.length 0 = IB (λ (i : Nat) => (gD a.l i).mi == a.q.mi) (a.l.length - a_3) a_3) /\ a.l.length - a_3 < a.l.length - a_1 else IB (λ (i
 : Nat) => (gD a.l i).mi == a.q.mi) a.l.length 0 = -1 /\ a.q.mi = a.q.mi /\ a.q.t.lo = a.q.t.lo /\ a.q.t.hi = a.q.t.hi /\ a.q.s.lo = a.q.s.lo /\ a.q.s.hi = a.q.s.hi) := by kernel_rfl
theorem p2Nc (a : MNc) (h : BB (C2Nc.pre a)) : V2Nc a := by
 obtain ⟨h, hp⟩ : a.l.length < 4611686018427387904 /\ True := h
 rw [DQI]
 simp only [CC, eq_self, implies_true, forall_const]
 refine ⟨⟨0, rfl, Nat.zero_le _, rfl⟩, λ k ⟨h1, h2⟩ => ⟨λ hlt => ?_, λ hge => ?_⟩⟩
 ·have hlt : k < a.l.length := by omega
  refine ⟨⟨by omega, by omega⟩, λ hp => ?_, λ hp => ⟨k + 1, (GC (by omega)).symm, ⟨by omega, ?_⟩, by omega⟩⟩
  ·rw [h2]; exact Ox hlt (by simpa using hp)
  ·rw [h2]; exact BWB hlt (by simpa using hp)
 ·rw [h2]; exact Y8 (by omega)
theorem DRH : AP Try.prog CNW (C2Nc.spec d2Nc) := MC C2Nc A2Nc [] [] DDW (λ _ => by kernel_rfl) (λ _ => AD DNZ AK) p2Nc (λ _ => MO rfl rfl) _
def C3Nc : Ctr := { C2Nc with val := λ (a : MNc) => .bool (a.l.any λ x => x.mi == a.q.mi) }
def d3Nc : List AVal -> Heap -> Option (C3Nc.α × List (Nat × Nat) × List Nat) := d2Nc
def A3Nc : Ann := { ann 9 [(CNW, C2Nc.spec d2Nc)] with E := [100] }
def V3Nc (a : MNc) : Prop := AZ Try.prog A3Nc COO (AN COO) (C3Nc.xs a) (AF (C3Nc.L a)) (C3Nc.val a) (C3Nc.keep a) [] []
theorem DRN (a : MNc) : (V3Nc a) = (((AE a.l.length λ (i : Nat) => gD a.l i).length = a.l.length /\ (∀ (i : Nat), i < (AE a.l.length λ (i : Nat) => gD a.l i).length -> (gD (AE a.l.length λ (i : Nat) => gD a.l i)
 i).mi = (gD a.l i).mi /\ (gD (AE a.l.length λ (i : Nat) => gD a.l i) i).t.lo = (gD a.l i).t.lo /\ (gD (AE a.l.length λ (i : Nat) => gD a.l i) i).t.hi = (gD a.l i).t.hi /\ (gD (AE a.l.length λ (i : Nat) => gD a.l i)
 i).s.lo = (gD a.l i).s.lo /\ (gD (AE a.l.length λ (i : Nat) => gD a.l i) i).s.hi = (gD a.l i).s.hi) /\ a.q.mi = a.q.mi /\ a.q.t.lo = a.q.t.lo /\ a.q.t.hi = a.q.t.hi /\ a.q.s.lo = a.q.s.lo /\ a.q.s.hi = a.q.s.hi /\ a.q.mi =
 a.q.mi /\ a.q.t.lo = a.q.t.lo /\ a.q.t.hi = a.q.t.hi /\ a.q.s.lo = a.q.s.lo /\ a.q.s.hi = a.q.s.hi /\ (AE a.l.length λ (i : Nat) => gD a.l i).length < 4611686018427387904 /\ True) /\ (a.l.any λ (x : Nt) => x.mi == a.q.mi)
 = decide (IB (λ (i : Nat) => (gD (AE a.l.length λ (i : Nat) => gD a.l i) i).mi == a.q.mi) (AE a.l.length λ (i : Nat) => gD a.l i).length 0 >= 0) /\ a.q.mi = a.q.mi /\ a.q.t.lo = a.q.t.lo /\ a.q.t.hi = a.q.t.hi /\
 a.q.s.lo = a.q.s.lo /\ a.q.s.hi = a.q.s.hi) := by kernel_rfl
theorem CZC {α : Type} [Inhabited α] {p : α -> Bool} {l : List α} : decide (0 <= IB (λ i => p (gD l i)) l.length 0) = l.any p := by
 rw [Bool.eq_iff_iff, decide_eq_true_eq, CRK, List.any_eq_true]
 exact ⟨λ ⟨i, _, h1, h2⟩ => ⟨gD l i, CT (by omega), h2⟩, λ ⟨x, hx, h2⟩ => by obtain ⟨i, hi, rfl⟩ := KQ hx; exact ⟨i, Nat.zero_le _, by omega, h2⟩⟩
theorem DQP : AP Try.prog CPC (C3Nc.spec d3Nc) := Ctr.spec_ok (C := C3Nc) (λ (a : MNc) h => TV (A := A3Nc) (ren := []) (fz := []) CYJ (by kernel_rfl) (AD DRH AK) (by
 obtain ⟨h, hp⟩ : a.l.length < 4611686018427387904 /\ True := h
 show V3Nc a; rw [DRN]; simp only [CC, eq_self, implies_true, forall_const, ge_iff_le]
 rw [<- CZC]
 simp [h, JI])) _
end Go.Bal
