/- Package chart: every. Printed by gench.py. -/
import Derived.Test.YtdbjalgfomknhaaChA0
set_option linter.unusedVariables false
set_option linter.unusedSimpArgs false
namespace Go.Bal
open Go Go.Sym Go.Proofs
def xR (p : Nat -> Bool) : Nat -> Bool
 | 0 => true
 | n + 1 => xR p n && p n
theorem Bw {p : Nat -> Bool} : ∀ {n : Nat}, xR p n = true ↔ ∀ i, i < n -> p i = true
 | 0 => by simp [xR]
 | n + 1 => by
  simp only [xR, Bool.and_eq_true, Bw (n := n)]
  constructor
  ·intro h i hi
   by_cases he : i = n
   ·subst he; exact h.2
   ·exact h.1 i (by omega)
  ·exact λ h => ⟨λ i hi => h i (by omega), h n (by omega)⟩
theorem BYS {p : Nat -> Bool} : ∀ {n k : Nat}, (0 <= GU p n k) ↔ ∃ i, k <= i /\ i < k + n /\ p i = true
 | 0, k => by simp [GU]; omega
 | n + 1, k => by
  simp only [GU]
  by_cases h : p k = true
  ·rw [if_pos h]
   constructor
   ·intro _; exact ⟨k, Nat.le_refl _, by omega, h⟩
   ·intro _; omega
  ·rw [if_neg h, BYS (n := n) (k := k + 1)]
   constructor
   ·rintro ⟨i, h1, h2, h3⟩; exact ⟨i, by omega, by omega, h3⟩
   ·rintro ⟨i, h1, h2, h3⟩
    refine ⟨i, ?_, by omega, h3⟩
    by_cases he : i = k
    ·subst he; exact absurd h3 h
    ·omega
theorem CID {p : Nat -> Bool} {n : Nat} : (!decide (0 <= GU (λ i => !p i) n 0)) = xR p n := by
 rw [Bool.eq_iff_iff, Bw]
 simp only [Bool.not_eq_true', decide_eq_false_iff_not, BYS, Nat.zero_le, Nat.zero_add, true_and]
 constructor
 ·intro h i hi
  cases hp : p i with
  | true => rfl
  | false => exact (h ⟨i, hi, by simp [hp]⟩).elim
 ·rintro h ⟨i, hi, hp⟩
  rw [h i hi] at hp; cases hp
theorem dK {α : Type} [Inhabited α] {p : α -> Bool} {l : List α} : (!decide (0 <= GU (λ i => !p (gD l i)) l.length 0)) = l.all p := by
 rw [CID, Bool.eq_iff_iff, Bw, List.all_eq_true]
 exact ⟨λ h x hx => by obtain ⟨i, hi, rfl⟩ := IQ hx; exact h i hi, λ h i hi => h _ (CS hi)⟩
def chB (c : Cht) : AObj := .box [.int c.p.lo, .int c.p.hi, .int c.base, .int c.scale, .int c.off, .d (eMks c.ms), .d (yY c.ns)]
def TQ (H : Heap) (id : Nat) : Option Cht := match H id with
 | .live (.box [.d a, .d b, .d c, .d d, .d e, .d (.list _ n f _), .d (.list _ m g _)]) => some ⟨⟨BU a, BU b⟩, BU c, BU d, BU e, AE n λ i => dMk (f i), AE m λ i => dNt (g i)⟩
 | _ => none
structure ChN where
 q : Cht
 e : Nt
def C_ck1 : Ctr := { ro := [101], α := ChN, xs := λ a => [.d (eNt a.e), .bptr 101 0], L := λ a => [(101, chB a.q)], val := λ a => .bool (BW a.e a.q.ms.length), keep := λ a => [(101, .live (chB a.q))] }
def CST : List AVal -> Heap -> Option (ChN × List (Nat × Nat) × List Nat)
 | [.d d, .bptr id _], H => match TQ H id with
  | some q => some (⟨q, dNt d⟩, [(101, id)], [])
  | none => none
 | _, _ => none
def CSS : Ann := { ann 9 [(BSV, CDH)] with E := [101] }
def CQP (a : ChN) : Prop := AW Try.prog CSS BFK (AK BFK) (C_ck1.xs a) (AF (C_ck1.L a)) (C_ck1.val a) (C_ck1.keep a) [] []
theorem CVV (a : ChN) : (CQP a) = (BW a.e (↑a.q.ms.length : Int) = BW (Nt.mk a.e.mi a.e.t a.e.s) (↑a.q.ms.length : Int) /\ a.q.p.lo = a.q.p.lo /\ a.q.p.hi = a.q.p.hi /\ a.q.base = a.q.base /\ a.q.scale =
 a.q.scale /\ a.q.off = a.q.off /\ a.q.ms.length = a.q.ms.length /\ (∀ (i : Nat), i < a.q.ms.length -> (gD a.q.ms i).pl = (gD a.q.ms i).pl /\ (gD a.q.ms i).ht = (gD a.q.ms i).ht) /\ a.q.ns.length = a.q.ns.length /\ ∀ (i : Nat),
 i < a.q.ns.length -> (gD a.q.ns i).mi = (gD a.q.ns i).mi /\ (gD a.q.ns i).t.lo = (gD a.q.ns i).t.lo /\ (gD a.q.ns i).t.hi = (gD a.q.ns i).t.hi /\ (gD a.q.ns i).s.lo = (gD a.q.ns i).s.lo /\ (gD a.q.ns i).s.hi = (gD a.q.ns
 i).s.hi) := by kernel_rfl
theorem CTM : AL Try.prog uE (C_ck1.spec CST) := KV C_ck1 (λ _ => CSS) [] [] CEH (λ _ => by kernel_rfl) (λ _ => AD CHA AI) (λ (a : ChN) _ => by
 show CQP a; rw [CVV]; simp [wr, HC]) (λ _ => MD rfl rfl) _
def IL (s : Span) : Bool := decide (s.lo <= s.hi)
def CGH (x : Span) : Prop := AW Try.prog (ann 8 []) BXN (AK BXN) (xS1 x) (AF []) (.bool (IL x)) [] [] []
theorem COA (x : Span) : (CGH x) = (IL x = decide (x.lo <= x.hi)) := by kernel_rfl
def BSU := pD dS1 λ x => .bool (IL x)
theorem COB : AL Try.prog BMK BSU := XE xS1 hS1 λ x _ => QX (A := ann 8 []) (ren := []) (fz := []) COS (by kernel_rfl) AI (by
 show CGH x; rw [COA]; try simp [IL])
def CLE (x : Span) : Prop := AW Try.prog (ann 8 []) BYP (AK BYP) (xS1 x) (AF []) (.bool (IL x)) [] [] []
theorem CNV (x : Span) : (CLE x) = (IL x = decide (x.lo <= x.hi)) := by kernel_rfl
theorem CPL : AL Try.prog BUC BSU := XE xS1 hS1 λ x _ => QX (A := ann 8 []) (ren := []) (fz := []) COC (by kernel_rfl) AI (by
 show CLE x; rw [CNV]; try simp [IL])
def LXNr (q : Cht) : List (Nat × AObj) := [(101, chB q)]
def KXNr (q : Cht) : List (Nat × HCell) := [(101, .live (chB q))]
def fvNr (q : Cht) : AVal := .fn (.func uE) [] [.bptr 101 0]
def BNr (q : Cht) : AObj := .box [fvNr q]
structure ENr where
 q : Cht
 e : Nt
structure MNr where
 q : Cht
 l : List Nt
def C1Nr : Ctr := { ro := [100, 101], α := ENr, xs := λ a => [.d (eNt a.e), .bptr 100 0], L := λ a => (100, BNr a.q) :: LXNr a.q, val := λ a => .bool (!BW a.e a.q.ms.length), keep := λ a => (100, .live (BNr a.q)) :: KXNr a.q }
def d1Nr : List AVal -> Heap -> Option (ENr × List (Nat × Nat) × List Nat)
 | [.d d, .bptr id _], H => match H id with
  | .live (.box [.fn _ _ [.bptr j _]]) => match TQ H j with
   | some q => some (⟨q, dNt d⟩, [(100, id), (101, j)], [])
   | none => none
  | _ => none
 | _, _ => none
def A1Nr : Ann := { ann 8 [(uE, C_ck1.spec CST)] with E := [100, 101] }
def V1Nr (a : ENr) : Prop := AW Try.prog A1Nr CFJ (AK CFJ) (C1Nr.xs a) (AF (C1Nr.L a)) (C1Nr.val a) (C1Nr.keep a) [] []
theorem CYZ (a : ENr) : (V1Nr a) = ((a.e.mi = a.e.mi /\ a.e.t.lo = a.e.t.lo /\ a.e.t.hi = a.e.t.hi /\ a.e.s.lo = a.e.s.lo /\ a.e.s.hi = a.e.s.hi /\ a.q.p.lo = a.q.p.lo /\ a.q.p.hi = a.q.p.hi /\ a.q.base = a.q.base /\ a.q.scale
 = a.q.scale /\ a.q.off = a.q.off /\ (AE a.q.ms.length λ (i : Nat) => gD a.q.ms i).length = a.q.ms.length /\ (∀ (i : Nat), i < (AE a.q.ms.length λ (i : Nat) => gD a.q.ms i).length -> (gD (AE a.q.ms.length λ (i : Nat)
 => gD a.q.ms i) i).pl = (gD a.q.ms i).pl /\ (gD (AE a.q.ms.length λ (i : Nat) => gD a.q.ms i) i).ht = (gD a.q.ms i).ht) /\ (AE a.q.ns.length λ (i : Nat) => gD a.q.ns i).length = a.q.ns.length /\ (∀ (i : Nat), i < (AE
 a.q.ns.length λ (i : Nat) => gD a.q.ns i).length -> (gD (AE a.q.ns.length λ (i : Nat) => gD a.q.ns i) i).mi = (gD a.q.ns i).mi /\ (gD (AE a.q.ns.length λ (i : Nat) => gD a.q.ns i) i).t.lo = (gD a.q.ns i).t.lo /\ (gD
 (AE a.q.ns.length λ (i : Nat) => gD a.q.ns i) i).t.hi = (gD a.q.ns i).t.hi /\ (gD (AE a.q.ns.length λ (i : Nat) => gD a.q.ns i) i).s.lo = (gD a.q.ns i).s.lo /\ (gD (AE a.q.ns.length λ (i : Nat) => gD a.q.ns i)
 i).s.hi = (gD a.q.ns i).s.hi) /\ a.q.p.lo = a.q.p.lo /\ a.q.p.hi = a.q.p.hi /\ a.q.base = a.q.base /\ a.q.scale = a.q.scale /\ a.q.off = a.q.off /\ a.q.ms.length = (AE a.q.ms.length λ (i : Nat) => gD a.q.ms i).length /\ (∀
 (i : Nat), i < a.q.ms.length -> (gD a.q.ms i).pl = (gD (AE a.q.ms.length λ (i : Nat) => gD a.q.ms i) i).pl /\ (gD a.q.ms i).ht = (gD (AE a.q.ms.length λ (i : Nat) => gD a.q.ms i) i).ht) /\ a.q.ns.length = (AE
 a.q.ns.length λ (i : Nat) => gD a.q.ns i).length /\ ∀ (i : Nat), i < a.q.ns.length -> (gD a.q.ns i).mi = (gD (AE a.q.ns.length λ (i : Nat) => gD a.q.ns i) i).mi /\ (gD a.q.ns i).t.lo = (gD (AE a.q.ns.length λ (i :
 Nat) => gD a.q.ns i) i).t.lo /\ (gD a.q.ns i).t.hi = (gD (AE a.q.ns.length λ (i : Nat) => gD a.q.ns i) i).t.hi /\ (gD a.q.ns i).s.lo = (gD (AE a.q.ns.length λ (i : Nat) => gD a.q.ns i) i).s.lo /\ (gD a.q.ns i).s.hi =
 (gD (AE a.q.ns.length λ (i : Nat) => gD a.q.ns i) i).s.hi) /\ (!BW a.e (↑a.q.ms.length : Int)) = !BW (Nt.mk a.e.mi a.e.t a.e.s) (↑(AE a.q.ms.length λ (i : Nat) => gD a.q.ms i).length : Int) /\ a.q.p.lo =
 a.q.p.lo /\ a.q.p.hi = a.q.p.hi /\ a.q.base = a.q.base /\ a.q.scale = a.q.scale /\ a.q.off = a.q.off /\ a.q.ms.length = a.q.ms.length /\ (∀ (i : Nat), i < a.q.ms.length -> (gD a.q.ms i).pl = (gD a.q.ms i).pl /\ (gD a.q.ms i).ht
 = (gD a.q.ms i).ht) /\ a.q.ns.length = a.q.ns.length /\ ∀ (i : Nat), i < a.q.ns.length -> (gD a.q.ns i).mi = (gD a.q.ns i).mi /\ (gD a.q.ns i).t.lo = (gD a.q.ns i).t.lo /\ (gD a.q.ns i).t.hi = (gD a.q.ns i).t.hi /\ (gD a.q.ns
 i).s.lo = (gD a.q.ns i).s.lo /\ (gD a.q.ns i).s.hi = (gD a.q.ns i).s.hi) := by kernel_rfl
theorem CWK : AL Try.prog BUM (C1Nr.spec d1Nr) := KV C1Nr (λ _ => A1Nr) [] [] CUO (λ _ => by kernel_rfl) (λ _ => AD CTM AI) (λ (a : ENr) h => by
 show V1Nr a; rw [CYZ]; try simp [wr, HC]) (λ _ => MD rfl rfl) _
def d2Nr : List AVal -> Heap -> Option (MNr × List (Nat × Nat) × List Nat)
 | [y, .fn _ _ [.bptr id _]], H => match G9 y H with
  | some (n, g, f) => match H id with
   | .live (.box [.fn _ _ [.bptr j _]]) => match TQ H j with
    | some q => some (⟨q, AE n λ i => dNt (g i)⟩, [(100, id), (101, j)], f)
    | none => none
   | _ => none
  | none => none
 | _, _ => none
def A2Nr (a : MNr) : Ann := { ann 19 [(BUM, C1Nr.spec d1Nr)] with E := [100, 101], loops := λ id => if id = 2 then some [{ α := Nat, dflt := 0, T := λ k => ⟨[(0, .d (yY a.l)), (1, .fn (.func BUM) [] [.bptr 100 0]), (7, .int a.l.length), (8, .int k)], (100, .live (BNr a.q)) :: KXNr a.q⟩, inv := λ k => k <= a.l.length /\ GU (λ i => !BW (gD a.l i) a.q.ms.length) a.l.length 0 = GU (λ i => !BW (gD a.l i) a.q.ms.length) (a.l.length - k) k, meas := λ k => a.l.length - k }] else none }
def PNr (a : MNr) : List Prop := [a.l.length < 4611686018427387904 /\ True]
def C2Nr : Ctr := { ro := [100, 101], α := MNr, xs := λ a => [.d (yY a.l), .fn (.func BUM) [] [.bptr 100 0]], L := λ a => (100, BNr a.q) :: LXNr a.q, val := λ a => .int (GU (λ i => !BW (gD a.l i) a.q.ms.length) a.l.length 0), keep := λ a => (100, .live (BNr a.q)) :: KXNr a.q, pre := PNr }
def V2Nr (a : MNr) : Prop := AW Try.prog (A2Nr a) BWR (AK BWR) (C2Nr.xs a) (AF (C2Nr.L a)) (C2Nr.val a) (C2Nr.keep a) [] []
abbrev BXS (a : MNr) : Prop := a.l.length = a.l.length
abbrev BXO (a : MNr) (i : Nat) : Prop := (gD a.l i).mi = (gD a.l i).mi
abbrev BYW (a : MNr) (i : Nat) : Prop := (gD a.l i).t.lo = (gD a.l i).t.lo
abbrev BYV (a : MNr) (i : Nat) : Prop := (gD a.l i).t.hi = (gD a.l i).t.hi
abbrev BZV (a : MNr) (i : Nat) : Prop := (gD a.l i).s.lo = (gD a.l i).s.lo
abbrev BYD (a : MNr) (i : Nat) : Prop := (gD a.l i).s.hi = (gD a.l i).s.hi
abbrev BZU (a : MNr) : Prop := ∀ (i : Nat), i < a.l.length -> BXO a i /\ BYW a i /\ BYV a i /\ BZV a i /\ BYD a i
abbrev BZD (a : MNr) : Prop := (↑a.l.length : Int) = (↑a.l.length : Int)
abbrev BQE (a : MNr) : Prop := a.q.p.lo = a.q.p.lo
abbrev BNA (a : MNr) : Prop := a.q.p.hi = a.q.p.hi
abbrev zT (a : MNr) : Prop := BQE a /\ BNA a /\ a.q.base = a.q.base /\ a.q.scale = a.q.scale /\ a.q.off = a.q.off /\ a.q.ms.length = a.q.ms.length /\ (∀ (i : Nat), i < a.q.ms.length -> (gD a.q.ms i).pl = (gD a.q.ms
 i).pl /\ (gD a.q.ms i).ht = (gD a.q.ms i).ht) /\ a.q.ns.length = a.q.ns.length /\ ∀ (i : Nat), i < a.q.ns.length -> (gD a.q.ns i).mi = (gD a.q.ns i).mi /\ (gD a.q.ns i).t.lo = (gD a.q.ns i).t.lo /\ (gD a.q.ns i).t.hi = (gD
 a.q.ns i).t.hi /\ (gD a.q.ns i).s.lo = (gD a.q.ns i).s.lo /\ (gD a.q.ns i).s.hi = (gD a.q.ns i).s.hi
abbrev BOX (a : MNr) (i : Nat) : Bool := !BW (gD a.l i) (↑a.q.ms.length : Int)
abbrev AOV (a : MNr) : Int := GU (λ (i : Nat) => BOX a i) a.l.length 0
abbrev APV (a : MNr) (a1 : Nat) : Nat := a.l.length - a1
abbrev AOH (a : Nat) (a1 : MNr) : Prop := a <= a1.l.length /\ AOV a1 = GU (λ (i : Nat) => BOX a1 i) (APV a1 a) a
abbrev BMP (a : Nat) (a1 : MNr) : Prop := (↑a : Int) < (↑a1.l.length : Int)
abbrev BLG (a : MNr) : List Mk := AE a.q.ms.length λ (i : Nat) => gD a.q.ms i
abbrev zH (a : MNr) : Nat := (BLG a).length
abbrev BOU (a : MNr) (i : Nat) : Mk := gD (BLG a) i
abbrev BRP (a : MNr) (i : Nat) : Int := (BOU a i).pl
abbrev BLS (a : MNr) (i : Nat) : Int := (BOU a i).ht
abbrev BOC (a : MNr) : List Nt := AE a.q.ns.length λ (i : Nat) => gD a.q.ns i
abbrev ANU (a : MNr) : Nat := (BOC a).length
abbrev APE (a : MNr) (i : Nat) : Nt := gD (BOC a) i
abbrev BLY (a : MNr) (i : Nat) : Int := (APE a i).mi
abbrev BQG (a : MNr) (i : Nat) : Span := (APE a i).t
abbrev BLE (a : MNr) (i : Nat) : Int := (BQG a i).lo
abbrev BPS (a : MNr) (i : Nat) : Int := (BQG a i).hi
abbrev BSW (a : MNr) (i : Nat) : Span := (APE a i).s
abbrev BTR (a : MNr) (i : Nat) : Int := (BSW a i).lo
abbrev BPA (a : MNr) (i : Nat) : Int := (BSW a i).hi
theorem CXW (a : MNr) : (V2Nr a) = ((∃ (a_1 : Nat), (BXS a /\ BZU a /\ BZD a /\ (↑a_1 : Int) = 0 /\ zT a) /\ AOH a_1 a) /\ ∀ (a_1 : Nat), AOH a_1 a -> bif decide (BMP a_1 a) then ((0 <= (↑a_1 : Int) /\
 BMP a_1 a) /\ BXO a a_1 /\ BYW a a_1 /\ BYV a a_1 /\ BZV a a_1 /\ BYD a a_1 /\ BQE a /\ BNA a /\ a.q.base = a.q.base /\ a.q.scale = a.q.scale /\ a.q.off = a.q.off /\ zH a = a.q.ms.length /\ (∀ (i :
 Nat), i < zH a -> BRP a i = (gD a.q.ms i).pl /\ BLS a i = (gD a.q.ms i).ht) /\ ANU a = a.q.ns.length /\ (∀ (i : Nat), i < ANU a -> BLY a i = (gD a.q.ns i).mi /\ BLE a i = (gD a.q.ns i).t.lo /\
 BPS a i = (gD a.q.ns i).t.hi /\ BTR a i = (gD a.q.ns i).s.lo /\ BPA a i = (gD a.q.ns i).s.hi) /\ BQE a /\ BNA a /\ a.q.base = a.q.base /\ a.q.scale = a.q.scale /\ a.q.off = a.q.off /\ a.q.ms.length = zH a
 /\ (∀ (i : Nat), i < a.q.ms.length -> (gD a.q.ms i).pl = BRP a i /\ (gD a.q.ms i).ht = BLS a i) /\ a.q.ns.length = ANU a /\ ∀ (i : Nat), i < a.q.ns.length -> (gD a.q.ns i).mi = BLY a i /\ (gD a.q.ns i).t.lo =
 BLE a i /\ (gD a.q.ns i).t.hi = BPS a i /\ (gD a.q.ns i).s.lo = BTR a i /\ (gD a.q.ns i).s.hi = BPA a i) /\ bif !BW (Nt.mk (gD a.l a_1).mi (gD a.l a_1).t (gD a.l a_1).s) (↑(zH a) : Int) then AOV
 a = (↑a_1 : Int) /\ zT a else ∃ (a_3 : Nat), (BXS a /\ BZU a /\ BZD a /\ (↑a_3 : Int) = IntKind.i64.wrap ((↑a_1 : Int) + 1) /\ zT a) /\ AOH a_3 a /\ APV a a_3 < APV a a_1 else AOV a = -1 /\
 zT a) := by kernel_rfl
theorem p2Nr (a : MNr) (h : AX (PNr a)) : V2Nr a := by
 obtain ⟨h, hp⟩ : a.l.length < 4611686018427387904 /\ True := h
 rw [CXW]; delta BXS BXO BYW BYV BZV BYD BZU BZD BQE BNA zT BOX AOV APV AOH BMP BLG zH BOU BRP BLS BOC ANU APE BLY BQG BLE BPS BSW BTR BPA
 simp only [CC, eq_self, implies_true, forall_const]
 refine ⟨⟨0, rfl, Nat.zero_le _, rfl⟩, λ k ⟨h1, h2⟩ => ⟨λ hlt => ?_, λ hge => ?_⟩⟩
 ·have hlt : k < a.l.length := by omega
  refine ⟨⟨by omega, by omega⟩, λ hp => ?_, λ hp => ⟨k + 1, (FE (by omega)).symm, ⟨by omega, ?_⟩, by omega⟩⟩
  ·rw [h2]; exact Qf hlt (by simpa using hp)
  ·rw [h2]; exact ATN hlt (by simpa using hp)
 ·rw [h2]; exact vP (by omega)
theorem CXQ : AL Try.prog BVU (C2Nr.spec d2Nr) := KV C2Nr A2Nr [] [] CMB (λ _ => by kernel_rfl) (λ _ => AD CWK AI) p2Nr (λ _ => MD rfl rfl) _
def C3Nr : Ctr := { C2Nr with val := λ (a : MNr) => .bool (decide (GU (λ i => !BW (gD a.l i) a.q.ms.length) a.l.length 0 >= 0)) }
def d3Nr : List AVal -> Heap -> Option (C3Nr.α × List (Nat × Nat) × List Nat) := d2Nr
def A3Nr : Ann := { ann 9 [(BVU, C2Nr.spec d2Nr)] with E := [100, 101] }
def V3Nr (a : MNr) : Prop := AW Try.prog A3Nr BVE (AK BVE) (C3Nr.xs a) (AF (C3Nr.L a)) (C3Nr.val a) (C3Nr.keep a) [] []
theorem CZK (a : MNr) : (V3Nr a) = (((AE a.l.length λ (i : Nat) => gD a.l i).length = a.l.length /\ (∀ (i : Nat), i < (AE a.l.length λ (i : Nat) => gD a.l i).length -> (gD (AE a.l.length λ (i : Nat) => gD a.l i)
 i).mi = (gD a.l i).mi /\ (gD (AE a.l.length λ (i : Nat) => gD a.l i) i).t.lo = (gD a.l i).t.lo /\ (gD (AE a.l.length λ (i : Nat) => gD a.l i) i).t.hi = (gD a.l i).t.hi /\ (gD (AE a.l.length λ (i : Nat) => gD a.l i)
 i).s.lo = (gD a.l i).s.lo /\ (gD (AE a.l.length λ (i : Nat) => gD a.l i) i).s.hi = (gD a.l i).s.hi) /\ a.q.p.lo = a.q.p.lo /\ a.q.p.hi = a.q.p.hi /\ a.q.base = a.q.base /\ a.q.scale = a.q.scale /\ a.q.off = a.q.off /\ (AE
 a.q.ms.length λ (i : Nat) => gD a.q.ms i).length = a.q.ms.length /\ (∀ (i : Nat), i < (AE a.q.ms.length λ (i : Nat) => gD a.q.ms i).length -> (gD (AE a.q.ms.length λ (i : Nat) => gD a.q.ms i) i).pl = (gD a.q.ms
 i).pl /\ (gD (AE a.q.ms.length λ (i : Nat) => gD a.q.ms i) i).ht = (gD a.q.ms i).ht) /\ (AE a.q.ns.length λ (i : Nat) => gD a.q.ns i).length = a.q.ns.length /\ (∀ (i : Nat), i < (AE a.q.ns.length λ (i : Nat) => gD
 a.q.ns i).length -> (gD (AE a.q.ns.length λ (i : Nat) => gD a.q.ns i) i).mi = (gD a.q.ns i).mi /\ (gD (AE a.q.ns.length λ (i : Nat) => gD a.q.ns i) i).t.lo = (gD a.q.ns i).t.lo /\ (gD (AE a.q.ns.length λ (i : Nat)
 => gD a.q.ns i) i).t.hi = (gD a.q.ns i).t.hi /\ (gD (AE a.q.ns.length λ (i : Nat) => gD a.q.ns i) i).s.lo = (gD a.q.ns i).s.lo /\ (gD (AE a.q.ns.length λ (i : Nat) => gD a.q.ns i) i).s.hi = (gD a.q.ns i).s.hi) /\
 a.q.p.lo = a.q.p.lo /\ a.q.p.hi = a.q.p.hi /\ a.q.base = a.q.base /\ a.q.scale = a.q.scale /\ a.q.off = a.q.off /\ a.q.ms.length = (AE a.q.ms.length λ (i : Nat) => gD a.q.ms i).length /\ (∀ (i : Nat), i < a.q.ms.length ->
 (gD a.q.ms i).pl = (gD (AE a.q.ms.length λ (i : Nat) => gD a.q.ms i) i).pl /\ (gD a.q.ms i).ht = (gD (AE a.q.ms.length λ (i : Nat) => gD a.q.ms i) i).ht) /\ a.q.ns.length = (AE a.q.ns.length λ (i : Nat) => gD
 a.q.ns i).length /\ (∀ (i : Nat), i < a.q.ns.length -> (gD a.q.ns i).mi = (gD (AE a.q.ns.length λ (i : Nat) => gD a.q.ns i) i).mi /\ (gD a.q.ns i).t.lo = (gD (AE a.q.ns.length λ (i : Nat) => gD a.q.ns i) i).t.lo /\ (gD
 a.q.ns i).t.hi = (gD (AE a.q.ns.length λ (i : Nat) => gD a.q.ns i) i).t.hi /\ (gD a.q.ns i).s.lo = (gD (AE a.q.ns.length λ (i : Nat) => gD a.q.ns i) i).s.lo /\ (gD a.q.ns i).s.hi = (gD (AE a.q.ns.length λ (i :
 Nat) => gD a.q.ns i) i).s.hi) /\ (AE a.l.length λ (i : Nat) => gD a.l i).length < 4611686018427387904 /\ True) /\ decide (GU (λ (i : Nat) => !BW (gD a.l i) (↑a.q.ms.length : Int)) a.l.length 0 >= 0) = decide (GU
 (λ (i : Nat) => !BW (gD (AE a.l.length λ (i : Nat) => gD a.l i) i) (↑(AE a.q.ms.length λ (i : Nat) => gD a.q.ms i).length : Int)) (AE a.l.length λ (i : Nat) => gD a.l i).length 0 >= 0) /\ a.q.p.lo = a.q.p.lo
 /\ a.q.p.hi = a.q.p.hi /\ a.q.base = a.q.base /\ a.q.scale = a.q.scale /\ a.q.off = a.q.off /\ a.q.ms.length = a.q.ms.length /\ (∀ (i : Nat), i < a.q.ms.length -> (gD a.q.ms i).pl = (gD a.q.ms i).pl /\ (gD a.q.ms i).ht = (gD
 a.q.ms i).ht) /\ a.q.ns.length = a.q.ns.length /\ ∀ (i : Nat), i < a.q.ns.length -> (gD a.q.ns i).mi = (gD a.q.ns i).mi /\ (gD a.q.ns i).t.lo = (gD a.q.ns i).t.lo /\ (gD a.q.ns i).t.hi = (gD a.q.ns i).t.hi /\ (gD a.q.ns
 i).s.lo = (gD a.q.ns i).s.lo /\ (gD a.q.ns i).s.hi = (gD a.q.ns i).s.hi) := by kernel_rfl
theorem CYF : AL Try.prog BVN (C3Nr.spec d3Nr) := Ctr.spec_ok (C := C3Nr) (λ (a : MNr) h => QX (A := A3Nr) (ren := []) (fz := []) CHU (by kernel_rfl) (AD CXQ AI) (by
 obtain ⟨h, hp⟩ : a.l.length < 4611686018427387904 /\ True := h
 show V3Nr a; rw [CZK]; simp [h, HC])) _
def d4Nr : List AVal -> Heap -> Option (MNr × List (Nat × Nat) × List Nat)
 | [y, .fn _ _ [.bptr j _]], H => match G9 y H with
  | some (n, g, f) => match TQ H j with
   | some q => some (⟨q, AE n λ i => dNt (g i)⟩, [(101, j)], f)
   | none => none
  | none => none
 | _, _ => none
def A4Nr : Ann := { ann 9 [(BVN, C3Nr.spec d3Nr)] with E := [101] }
def C4Nr : Ctr := { ro := [101], α := MNr, xs := λ a => [.d (yY a.l), fvNr a.q], L := λ a => LXNr a.q, val := λ a => .bool (a.l.all λ x => BW x a.q.ms.length), keep := λ a => KXNr a.q, pre := PNr }
def V4Nr (a : MNr) : Prop := AW Try.prog A4Nr F_eN (AK F_eN) (C4Nr.xs a) (AF (C4Nr.L a)) (C4Nr.val a) (C4Nr.keep a) [] []
theorem CYB (a : MNr) : (V4Nr a) = (((AE a.l.length λ (i : Nat) => gD a.l i).length = a.l.length /\ (∀ (i : Nat), i < (AE a.l.length λ (i : Nat) => gD a.l i).length -> (gD (AE a.l.length λ (i : Nat) => gD a.l i)
 i).mi = (gD a.l i).mi /\ (gD (AE a.l.length λ (i : Nat) => gD a.l i) i).t.lo = (gD a.l i).t.lo /\ (gD (AE a.l.length λ (i : Nat) => gD a.l i) i).t.hi = (gD a.l i).t.hi /\ (gD (AE a.l.length λ (i : Nat) => gD a.l i)
 i).s.lo = (gD a.l i).s.lo /\ (gD (AE a.l.length λ (i : Nat) => gD a.l i) i).s.hi = (gD a.l i).s.hi) /\ a.q.p.lo = a.q.p.lo /\ a.q.p.hi = a.q.p.hi /\ a.q.base = a.q.base /\ a.q.scale = a.q.scale /\ a.q.off = a.q.off /\ (AE
 a.q.ms.length λ (i : Nat) => gD a.q.ms i).length = a.q.ms.length /\ (∀ (i : Nat), i < (AE a.q.ms.length λ (i : Nat) => gD a.q.ms i).length -> (gD (AE a.q.ms.length λ (i : Nat) => gD a.q.ms i) i).pl = (gD a.q.ms
 i).pl /\ (gD (AE a.q.ms.length λ (i : Nat) => gD a.q.ms i) i).ht = (gD a.q.ms i).ht) /\ (AE a.q.ns.length λ (i : Nat) => gD a.q.ns i).length = a.q.ns.length /\ (∀ (i : Nat), i < (AE a.q.ns.length λ (i : Nat) => gD
 a.q.ns i).length -> (gD (AE a.q.ns.length λ (i : Nat) => gD a.q.ns i) i).mi = (gD a.q.ns i).mi /\ (gD (AE a.q.ns.length λ (i : Nat) => gD a.q.ns i) i).t.lo = (gD a.q.ns i).t.lo /\ (gD (AE a.q.ns.length λ (i : Nat)
 => gD a.q.ns i) i).t.hi = (gD a.q.ns i).t.hi /\ (gD (AE a.q.ns.length λ (i : Nat) => gD a.q.ns i) i).s.lo = (gD a.q.ns i).s.lo /\ (gD (AE a.q.ns.length λ (i : Nat) => gD a.q.ns i) i).s.hi = (gD a.q.ns i).s.hi) /\
 a.q.p.lo = a.q.p.lo /\ a.q.p.hi = a.q.p.hi /\ a.q.base = a.q.base /\ a.q.scale = a.q.scale /\ a.q.off = a.q.off /\ a.q.ms.length = (AE a.q.ms.length λ (i : Nat) => gD a.q.ms i).length /\ (∀ (i : Nat), i < a.q.ms.length ->
 (gD a.q.ms i).pl = (gD (AE a.q.ms.length λ (i : Nat) => gD a.q.ms i) i).pl /\ (gD a.q.ms i).ht = (gD (AE a.q.ms.length λ (i : Nat) => gD a.q.ms i) i).ht) /\ a.q.ns.length = (AE a.q.ns.length λ (i : Nat) => gD
 a.q.ns i).length /\ (∀ (i : Nat), i < a.q.ns.length -> (gD a.q.ns i).mi = (gD (AE a.q.ns.length λ (i : Nat) => gD a.q.ns i) i).mi /\ (gD a.q.ns i).t.lo = (gD (AE a.q.ns.length λ (i : Nat) => gD a.q.ns i) i).t.lo /\ (gD
 a.q.ns i).t.hi = (gD (AE a.q.ns.length λ (i : Nat) => gD a.q.ns i) i).t.hi /\ (gD a.q.ns i).s.lo = (gD (AE a.q.ns.length λ (i : Nat) => gD a.q.ns i) i).s.lo /\ (gD a.q.ns i).s.hi = (gD (AE a.q.ns.length λ (i :
 Nat) => gD a.q.ns i) i).s.hi) /\ (AE a.l.length λ (i : Nat) => gD a.l i).length < 4611686018427387904 /\ True) /\ (a.l.all λ (x : Nt) => BW x (↑a.q.ms.length : Int)) = !decide (GU (λ (i : Nat) => !BW (gD
 (AE a.l.length λ (i : Nat) => gD a.l i) i) (↑(AE a.q.ms.length λ (i : Nat) => gD a.q.ms i).length : Int)) (AE a.l.length λ (i : Nat) => gD a.l i).length 0 >= 0) /\ a.q.p.lo = a.q.p.lo /\ a.q.p.hi = a.q.p.hi /\
 a.q.base = a.q.base /\ a.q.scale = a.q.scale /\ a.q.off = a.q.off /\ a.q.ms.length = a.q.ms.length /\ (∀ (i : Nat), i < a.q.ms.length -> (gD a.q.ms i).pl = (gD a.q.ms i).pl /\ (gD a.q.ms i).ht = (gD a.q.ms i).ht) /\
 a.q.ns.length = a.q.ns.length /\ ∀ (i : Nat), i < a.q.ns.length -> (gD a.q.ns i).mi = (gD a.q.ns i).mi /\ (gD a.q.ns i).t.lo = (gD a.q.ns i).t.lo /\ (gD a.q.ns i).t.hi = (gD a.q.ns i).t.hi /\ (gD a.q.ns i).s.lo = (gD a.q.ns
 i).s.lo /\ (gD a.q.ns i).s.hi = (gD a.q.ns i).s.hi) := by kernel_rfl
theorem CXJ (a : MNr) (h : AX (PNr a)) : FnT Try.prog n_eN (C4Nr.xs a) (AF (C4Nr.L a)) (C4Nr.val a) (C4Nr.keep a) := QX (A := A4Nr) (ren := []) (fz := []) CWP (by kernel_rfl) (AD CYF AI) (by
 have h' : a.l.length < 4611686018427387904 /\ True := h
 show V4Nr a; rw [CYB]; simp only [CC, eq_self, implies_true, forall_const, ge_iff_le]
 rw [<- dK]
 exact ⟨h'.1, rfl⟩)
theorem CYT : AL Try.prog n_eN (C4Nr.spec d4Nr) := Ctr.spec_ok (C := C4Nr) CXJ _
def fvSa (q : One) : AVal := .fn (.func BMK) [] []
def BSa (q : One) : AObj := .box [fvSa q]
structure ESa where
 q : One
 e : Span
structure MSa where
 q : One
 l : List Span
def C1Sa : Ctr := { ro := [100], α := ESa, xs := λ a => [.d (BT a.e), .bptr 100 0], L := λ a => (100, BSa a.q) :: [], val := λ a => .bool (!IL a.e), keep := λ a => (100, .live (BSa a.q)) :: [] }
def d1Sa : List AVal -> Heap -> Option (ESa × List (Nat × Nat) × List Nat)
 | [.d d, .bptr id _], H => some (⟨default, KY d⟩, [(100, id)], [])
 | _, _ => none
def A1Sa : Ann := { ann 8 [(BMK, BSU)] with E := [100] }
def V1Sa (a : ESa) : Prop := AW Try.prog A1Sa BVL (AK BVL) (C1Sa.xs a) (AF (C1Sa.L a)) (C1Sa.val a) (C1Sa.keep a) [] []
theorem CWS (a : ESa) : (V1Sa a) = ((!IL a.e) = !IL a.e) := by kernel_rfl
theorem CXG : AL Try.prog B7 (C1Sa.spec d1Sa) := KV C1Sa (λ _ => A1Sa) [] [] CJD (λ _ => by kernel_rfl) (λ _ => AD COB AI) (λ (a : ESa) h => by
 show V1Sa a; rw [CWS]; try simp [wr, HC]) (λ _ => MD rfl rfl) _
def d2Sa : List AVal -> Heap -> Option (MSa × List (Nat × Nat) × List Nat)
 | [y, .fn _ _ [.bptr id _]], H => match G9 y H with
  | some (n, g, f) => some (⟨default, AE n λ i => KY (g i)⟩, [(100, id)], f)
  | none => none
 | _, _ => none
def A2Sa (a : MSa) : Ann := { ann 19 [(B7, C1Sa.spec d1Sa)] with E := [100], loops := λ id => if id = 2 then some [{ α := Nat, dflt := 0, T := λ k => ⟨[(0, .d (AV a.l)), (1, .fn (.func B7) [] [.bptr 100 0]), (7, .int a.l.length), (8, .int k)], (100, .live (BSa a.q)) :: []⟩, inv := λ k => k <= a.l.length /\ GU (λ i => !IL (gD a.l i)) a.l.length 0 = GU (λ i => !IL (gD a.l i)) (a.l.length - k) k, meas := λ k => a.l.length - k }] else none }
def PSa (a : MSa) : List Prop := [a.l.length < 4611686018427387904 /\ True]
def C2Sa : Ctr := { ro := [100], α := MSa, xs := λ a => [.d (AV a.l), .fn (.func B7) [] [.bptr 100 0]], L := λ a => (100, BSa a.q) :: [], val := λ a => .int (GU (λ i => !IL (gD a.l i)) a.l.length 0), keep := λ a => (100, .live (BSa a.q)) :: [], pre := PSa }
def V2Sa (a : MSa) : Prop := AW Try.prog (A2Sa a) BVR (AK BVR) (C2Sa.xs a) (AF (C2Sa.L a)) (C2Sa.val a) (C2Sa.keep a) [] []
theorem CXB (a : MSa) : (V2Sa a) = ((∃ (a_1 : Nat), (a.l.length = a.l.length /\ (∀ (i : Nat), i < a.l.length -> (gD a.l i).lo = (gD a.l i).lo /\ (gD a.l i).hi = (gD a.l i).hi) /\ (↑a.l.length : Int) = (↑a.l.length : Int) /\
 (↑a_1 : Int) = 0) /\ a_1 <= a.l.length /\ GU (λ (i : Nat) => !IL (gD a.l i)) a.l.length 0 = GU (λ (i : Nat) => !IL (gD a.l i)) (a.l.length - a_1) a_1) /\ ∀ (a_1 : Nat), a_1 <= a.l.length /\ GU (λ (i : Nat) => !IL
 (gD a.l i)) a.l.length 0 = GU (λ (i : Nat) => !IL (gD a.l i)) (a.l.length - a_1) a_1 -> bif decide ((↑a_1 : Int) < (↑a.l.length : Int)) then ((0 <= (↑a_1 : Int) /\ (↑a_1 : Int) < (↑a.l.length : Int)) /\ (gD a.l a_1).lo =
 (gD a.l a_1).lo /\ (gD a.l a_1).hi = (gD a.l a_1).hi) /\ bif !IL (gD a.l a_1) then GU (λ (i : Nat) => !IL (gD a.l i)) a.l.length 0 = (↑a_1 : Int) else ∃ (a_3 : Nat), (a.l.length = a.l.length /\ (∀ (i : Nat), i <
 a.l.length -> (gD a.l i).lo = (gD a.l i).lo /\ (gD a.l i).hi = (gD a.l i).hi) /\ (↑a.l.length : Int) = (↑a.l.length : Int) /\ (↑a_3 : Int) = IntKind.i64.wrap ((↑a_1 : Int) + 1)) /\ (a_3 <= a.l.length /\ GU (λ (i : Nat) =>
 !IL (gD a.l i)) a.l.length 0 = GU (λ (i : Nat) => !IL (gD a.l i)) (a.l.length - a_3) a_3) /\ a.l.length - a_3 < a.l.length - a_1 else GU (λ (i : Nat) => !IL (gD a.l i)) a.l.length 0 = -1) := by kernel_rfl
theorem p2Sa (a : MSa) (h : AX (PSa a)) : V2Sa a := by
 obtain ⟨h, hp⟩ : a.l.length < 4611686018427387904 /\ True := h
 rw [CXB]
 simp only [CC, eq_self, implies_true, forall_const]
 refine ⟨⟨0, rfl, Nat.zero_le _, rfl⟩, λ k ⟨h1, h2⟩ => ⟨λ hlt => ?_, λ hge => ?_⟩⟩
 ·have hlt : k < a.l.length := by omega
  refine ⟨⟨by omega, by omega⟩, λ hp => ?_, λ hp => ⟨k + 1, (FE (by omega)).symm, ⟨by omega, ?_⟩, by omega⟩⟩
  ·rw [h2]; exact Qf hlt (by simpa using hp)
  ·rw [h2]; exact ATN hlt (by simpa using hp)
 ·rw [h2]; exact vP (by omega)
theorem CXZ : AL Try.prog BWE (C2Sa.spec d2Sa) := KV C2Sa A2Sa [] [] CLO (λ _ => by kernel_rfl) (λ _ => AD CXG AI) p2Sa (λ _ => MD rfl rfl) _
def C3Sa : Ctr := { C2Sa with val := λ (a : MSa) => .bool (decide (GU (λ i => !IL (gD a.l i)) a.l.length 0 >= 0)) }
def d3Sa : List AVal -> Heap -> Option (C3Sa.α × List (Nat × Nat) × List Nat) := d2Sa
def A3Sa : Ann := { ann 9 [(BWE, C2Sa.spec d2Sa)] with E := [100] }
def V3Sa (a : MSa) : Prop := AW Try.prog A3Sa BVK (AK BVK) (C3Sa.xs a) (AF (C3Sa.L a)) (C3Sa.val a) (C3Sa.keep a) [] []
theorem CXF (a : MSa) : (V3Sa a) = (((AE a.l.length λ (i : Nat) => gD a.l i).length = a.l.length /\ (∀ (i : Nat), i < (AE a.l.length λ (i : Nat) => gD a.l i).length -> (gD (AE a.l.length λ (i : Nat) => gD a.l i)
 i).lo = (gD a.l i).lo /\ (gD (AE a.l.length λ (i : Nat) => gD a.l i) i).hi = (gD a.l i).hi) /\ (AE a.l.length λ (i : Nat) => gD a.l i).length < 4611686018427387904 /\ True) /\ decide (GU (λ (i : Nat) => !IL (gD a.l
 i)) a.l.length 0 >= 0) = decide (GU (λ (i : Nat) => !IL (gD (AE a.l.length λ (i : Nat) => gD a.l i) i)) (AE a.l.length λ (i : Nat) => gD a.l i).length 0 >= 0)) := by kernel_rfl
theorem CXR : AL Try.prog BVJ (C3Sa.spec d3Sa) := Ctr.spec_ok (C := C3Sa) (λ (a : MSa) h => QX (A := A3Sa) (ren := []) (fz := []) CJQ (by kernel_rfl) (AD CXZ AI) (by
 obtain ⟨h, hp⟩ : a.l.length < 4611686018427387904 /\ True := h
 show V3Sa a; rw [CXF]; simp [h, HC])) _
def d4Sa : List AVal -> Heap -> Option (MSa × List (Nat × Nat) × List Nat)
 | [y, .fn _ _ _], H => match G9 y H with
  | some (n, g, f) => some (⟨default, AE n λ i => KY (g i)⟩, [], f)
  | none => none
 | _, _ => none
def A4Sa : Ann := { ann 9 [(BVJ, C3Sa.spec d3Sa)] with E := [] }
def C4Sa : Ctr := { ro := [], α := MSa, xs := λ a => [.d (AV a.l), fvSa a.q], L := λ a => [], val := λ a => .bool (a.l.all λ x => IL x), keep := λ a => [], pre := PSa }
def V4Sa (a : MSa) : Prop := AW Try.prog A4Sa F_eS (AK F_eS) (C4Sa.xs a) (AF (C4Sa.L a)) (C4Sa.val a) (C4Sa.keep a) [] []
theorem CYJ (a : MSa) : (V4Sa a) = (((AE a.l.length λ (i : Nat) => gD a.l i).length = a.l.length /\ (∀ (i : Nat), i < (AE a.l.length λ (i : Nat) => gD a.l i).length -> (gD (AE a.l.length λ (i : Nat) => gD a.l i)
 i).lo = (gD a.l i).lo /\ (gD (AE a.l.length λ (i : Nat) => gD a.l i) i).hi = (gD a.l i).hi) /\ (AE a.l.length λ (i : Nat) => gD a.l i).length < 4611686018427387904 /\ True) /\ (a.l.all λ (x : Span) => IL x) =
 !decide (GU (λ (i : Nat) => !IL (gD (AE a.l.length λ (i : Nat) => gD a.l i) i)) (AE a.l.length λ (i : Nat) => gD a.l i).length 0 >= 0)) := by kernel_rfl
theorem CRR (a : MSa) (h : AX (PSa a)) : FnT Try.prog n_eS (C4Sa.xs a) (AF (C4Sa.L a)) (C4Sa.val a) (C4Sa.keep a) := QX (A := A4Sa) (ren := []) (fz := []) CSJ (by kernel_rfl) (AD CXR AI) (by
 have h' : a.l.length < 4611686018427387904 /\ True := h
 show V4Sa a; rw [CYJ]; simp only [CC, eq_self, implies_true, forall_const, ge_iff_le]
 rw [<- dK]
 exact ⟨h'.1, rfl⟩)
theorem CWZ : AL Try.prog n_eS (C4Sa.spec d4Sa) := Ctr.spec_ok (C := C4Sa) CRR _
def fvSn (q : One) : AVal := .fn (.func BUC) [] []
def BSn (q : One) : AObj := .box [fvSn q]
structure ESn where
 q : One
 e : Span
structure MSn where
 q : One
 l : List Span
def C1Sn : Ctr := { ro := [100], α := ESn, xs := λ a => [.d (BT a.e), .bptr 100 0], L := λ a => (100, BSn a.q) :: [], val := λ a => .bool (!IL a.e), keep := λ a => (100, .live (BSn a.q)) :: [] }
def d1Sn : List AVal -> Heap -> Option (ESn × List (Nat × Nat) × List Nat)
 | [.d d, .bptr id _], H => some (⟨default, KY d⟩, [(100, id)], [])
 | _, _ => none
def A1Sn : Ann := { ann 8 [(BUC, BSU)] with E := [100] }
def V1Sn (a : ESn) : Prop := AW Try.prog A1Sn BVL (AK BVL) (C1Sn.xs a) (AF (C1Sn.L a)) (C1Sn.val a) (C1Sn.keep a) [] []
theorem CXM (a : ESn) : (V1Sn a) = ((!IL a.e) = !IL a.e) := by kernel_rfl
theorem CZJ : AL Try.prog B7 (C1Sn.spec d1Sn) := KV C1Sn (λ _ => A1Sn) [] [] CJD (λ _ => by kernel_rfl) (λ _ => AD CPL AI) (λ (a : ESn) h => by
 show V1Sn a; rw [CXM]; try simp [wr, HC]) (λ _ => MD rfl rfl) _
def d2Sn : List AVal -> Heap -> Option (MSn × List (Nat × Nat) × List Nat)
 | [y, .fn _ _ [.bptr id _]], H => match G9 y H with
  | some (n, g, f) => some (⟨default, AE n λ i => KY (g i)⟩, [(100, id)], f)
  | none => none
 | _, _ => none
def A2Sn (a : MSn) : Ann := { ann 19 [(B7, C1Sn.spec d1Sn)] with E := [100], loops := λ id => if id = 2 then some [{ α := Nat, dflt := 0, T := λ k => ⟨[(0, .d (AV a.l)), (1, .fn (.func B7) [] [.bptr 100 0]), (7, .int a.l.length), (8, .int k)], (100, .live (BSn a.q)) :: []⟩, inv := λ k => k <= a.l.length /\ GU (λ i => !IL (gD a.l i)) a.l.length 0 = GU (λ i => !IL (gD a.l i)) (a.l.length - k) k, meas := λ k => a.l.length - k }] else none }
def PSn (a : MSn) : List Prop := [a.l.length < 4611686018427387904 /\ True]
def C2Sn : Ctr := { ro := [100], α := MSn, xs := λ a => [.d (AV a.l), .fn (.func B7) [] [.bptr 100 0]], L := λ a => (100, BSn a.q) :: [], val := λ a => .int (GU (λ i => !IL (gD a.l i)) a.l.length 0), keep := λ a => (100, .live (BSn a.q)) :: [], pre := PSn }
def V2Sn (a : MSn) : Prop := AW Try.prog (A2Sn a) BVR (AK BVR) (C2Sn.xs a) (AF (C2Sn.L a)) (C2Sn.val a) (C2Sn.keep a) [] []
theorem CWT (a : MSn) : (V2Sn a) = ((∃ (a_1 : Nat), (a.l.length = a.l.length /\ (∀ (i : Nat), i < a.l.length -> (gD a.l i).lo = (gD a.l i).lo /\ (gD a.l i).hi = (gD a.l i).hi) /\ (↑a.l.length : Int) = (↑a.l.length : Int) /\
 (↑a_1 : Int) = 0) /\ a_1 <= a.l.length /\ GU (λ (i : Nat) => !IL (gD a.l i)) a.l.length 0 = GU (λ (i : Nat) => !IL (gD a.l i)) (a.l.length - a_1) a_1) /\ ∀ (a_1 : Nat), a_1 <= a.l.length /\ GU (λ (i : Nat) => !IL
 (gD a.l i)) a.l.length 0 = GU (λ (i : Nat) => !IL (gD a.l i)) (a.l.length - a_1) a_1 -> bif decide ((↑a_1 : Int) < (↑a.l.length : Int)) then ((0 <= (↑a_1 : Int) /\ (↑a_1 : Int) < (↑a.l.length : Int)) /\ (gD a.l a_1).lo =
 (gD a.l a_1).lo /\ (gD a.l a_1).hi = (gD a.l a_1).hi) /\ bif !IL (gD a.l a_1) then GU (λ (i : Nat) => !IL (gD a.l i)) a.l.length 0 = (↑a_1 : Int) else ∃ (a_3 : Nat), (a.l.length = a.l.length /\ (∀ (i : Nat), i <
 a.l.length -> (gD a.l i).lo = (gD a.l i).lo /\ (gD a.l i).hi = (gD a.l i).hi) /\ (↑a.l.length : Int) = (↑a.l.length : Int) /\ (↑a_3 : Int) = IntKind.i64.wrap ((↑a_1 : Int) + 1)) /\ (a_3 <= a.l.length /\ GU (λ (i : Nat) =>
 !IL (gD a.l i)) a.l.length 0 = GU (λ (i : Nat) => !IL (gD a.l i)) (a.l.length - a_3) a_3) /\ a.l.length - a_3 < a.l.length - a_1 else GU (λ (i : Nat) => !IL (gD a.l i)) a.l.length 0 = -1) := by kernel_rfl
theorem p2Sn (a : MSn) (h : AX (PSn a)) : V2Sn a := by
 obtain ⟨h, hp⟩ : a.l.length < 4611686018427387904 /\ True := h
 rw [CWT]
 simp only [CC, eq_self, implies_true, forall_const]
 refine ⟨⟨0, rfl, Nat.zero_le _, rfl⟩, λ k ⟨h1, h2⟩ => ⟨λ hlt => ?_, λ hge => ?_⟩⟩
 ·have hlt : k < a.l.length := by omega
  refine ⟨⟨by omega, by omega⟩, λ hp => ?_, λ hp => ⟨k + 1, (FE (by omega)).symm, ⟨by omega, ?_⟩, by omega⟩⟩
  ·rw [h2]; exact Qf hlt (by simpa using hp)
  ·rw [h2]; exact ATN hlt (by simpa using hp)
 ·rw [h2]; exact vP (by omega)
theorem CXE : AL Try.prog BWE (C2Sn.spec d2Sn) := KV C2Sn A2Sn [] [] CLO (λ _ => by kernel_rfl) (λ _ => AD CZJ AI) p2Sn (λ _ => MD rfl rfl) _
def C3Sn : Ctr := { C2Sn with val := λ (a : MSn) => .bool (decide (GU (λ i => !IL (gD a.l i)) a.l.length 0 >= 0)) }
def d3Sn : List AVal -> Heap -> Option (C3Sn.α × List (Nat × Nat) × List Nat) := d2Sn
def A3Sn : Ann := { ann 9 [(BWE, C2Sn.spec d2Sn)] with E := [100] }
def V3Sn (a : MSn) : Prop := AW Try.prog A3Sn BVK (AK BVK) (C3Sn.xs a) (AF (C3Sn.L a)) (C3Sn.val a) (C3Sn.keep a) [] []
theorem CZM (a : MSn) : (V3Sn a) = (((AE a.l.length λ (i : Nat) => gD a.l i).length = a.l.length /\ (∀ (i : Nat), i < (AE a.l.length λ (i : Nat) => gD a.l i).length -> (gD (AE a.l.length λ (i : Nat) => gD a.l i)
 i).lo = (gD a.l i).lo /\ (gD (AE a.l.length λ (i : Nat) => gD a.l i) i).hi = (gD a.l i).hi) /\ (AE a.l.length λ (i : Nat) => gD a.l i).length < 4611686018427387904 /\ True) /\ decide (GU (λ (i : Nat) => !IL (gD a.l
 i)) a.l.length 0 >= 0) = decide (GU (λ (i : Nat) => !IL (gD (AE a.l.length λ (i : Nat) => gD a.l i) i)) (AE a.l.length λ (i : Nat) => gD a.l i).length 0 >= 0)) := by kernel_rfl
theorem CWQ : AL Try.prog BVJ (C3Sn.spec d3Sn) := Ctr.spec_ok (C := C3Sn) (λ (a : MSn) h => QX (A := A3Sn) (ren := []) (fz := []) CJQ (by kernel_rfl) (AD CXE AI) (by
 obtain ⟨h, hp⟩ : a.l.length < 4611686018427387904 /\ True := h
 show V3Sn a; rw [CZM]; simp [h, HC])) _
def A4Sn : Ann := { ann 9 [(BVJ, C3Sn.spec d3Sn)] with E := [] }
def C4Sn : Ctr := { ro := [], α := MSn, xs := λ a => [.d (AV a.l), fvSn a.q], L := λ a => [], val := λ a => .bool (a.l.all λ x => IL x), keep := λ a => [], pre := PSn }
def V4Sn (a : MSn) : Prop := AW Try.prog A4Sn F_eS (AK F_eS) (C4Sn.xs a) (AF (C4Sn.L a)) (C4Sn.val a) (C4Sn.keep a) [] []
theorem CWW (a : MSn) : (V4Sn a) = (((AE a.l.length λ (i : Nat) => gD a.l i).length = a.l.length /\ (∀ (i : Nat), i < (AE a.l.length λ (i : Nat) => gD a.l i).length -> (gD (AE a.l.length λ (i : Nat) => gD a.l i)
 i).lo = (gD a.l i).lo /\ (gD (AE a.l.length λ (i : Nat) => gD a.l i) i).hi = (gD a.l i).hi) /\ (AE a.l.length λ (i : Nat) => gD a.l i).length < 4611686018427387904 /\ True) /\ (a.l.all λ (x : Span) => IL x) =
 !decide (GU (λ (i : Nat) => !IL (gD (AE a.l.length λ (i : Nat) => gD a.l i) i)) (AE a.l.length λ (i : Nat) => gD a.l i).length 0 >= 0)) := by kernel_rfl
theorem CZA (a : MSn) (h : AX (PSn a)) : FnT Try.prog n_eS (C4Sn.xs a) (AF (C4Sn.L a)) (C4Sn.val a) (C4Sn.keep a) := QX (A := A4Sn) (ren := []) (fz := []) CSJ (by kernel_rfl) (AD CWQ AI) (by
 have h' : a.l.length < 4611686018427387904 /\ True := h
 show V4Sn a; rw [CWW]; simp only [CC, eq_self, implies_true, forall_const, ge_iff_le]
 rw [<- dK]
 exact ⟨h'.1, rfl⟩)
structure N2 where
 q : Nt
 e : Nt
def ntB (q : Nt) : AObj := .box [.int q.mi, .int q.t.lo, .int q.t.hi, .int q.s.lo, .int q.s.hi]
def CKI (H : Heap) (id : Nat) : Option Nt := match H id with
 | .live (.box [.d a, .d b, .d c, .d d, .d e]) => some ⟨BU a, ⟨BU b, BU c⟩, ⟨BU d, BU e⟩⟩
 | _ => none
def C_ck2 : Ctr := { ro := [100], α := N2, xs := λ a => [.d (eNt a.e), .bptr 100 0], L := λ a => [(100, ntB a.q)], val := λ a => .bool (a.e.mi == a.q.mi), keep := λ a => [(100, .live (ntB a.q))] }
def CTB : List AVal -> Heap -> Option (N2 × List (Nat × Nat) × List Nat)
 | [.d d, .bptr id _], H => match CKI H id with
  | some q => some (⟨q, dNt d⟩, [(100, id)], [])
  | none => none
 | _, _ => none
def CQI : Ann := { ann 9 [] with E := [100] }
def CRX (a : N2) : Prop := AW Try.prog CQI ARF (AK ARF) (C_ck2.xs a) (AF (C_ck2.L a)) (C_ck2.val a) (C_ck2.keep a) [] []
theorem CUZ (a : N2) : (CRX a) = ((a.e.mi == a.q.mi) = (a.e.mi == a.q.mi) /\ a.q.mi = a.q.mi /\ a.q.t.lo = a.q.t.lo /\ a.q.t.hi = a.q.t.hi /\ a.q.s.lo = a.q.s.lo /\ a.q.s.hi = a.q.s.hi) := by kernel_rfl
theorem CUR : AL Try.prog Xh (C_ck2.spec CTB) := KV C_ck2 (λ _ => CQI) [] [] CFE (λ _ => by kernel_rfl) (λ _ => AI) (λ (a : N2) _ => by
 show CRX a; rw [CUZ]; try simp) (λ _ => MD rfl rfl) _
structure MNc where
 q : Nt
 l : List Nt
def d2Nc : List AVal -> Heap -> Option (MNc × List (Nat × Nat) × List Nat)
 | [y, .fn _ _ [.bptr id _]], H => match G9 y H with
  | some (n, g, f) => match CKI H id with
   | some q => some (⟨q, AE n λ i => dNt (g i)⟩, [(100, id)], f)
   | none => none
  | none => none
 | _, _ => none
def A2Nc (a : MNc) : Ann := { ann 19 [(Xh, C_ck2.spec CTB)] with E := [100], loops := λ id => if id = 2 then some [{ α := Nat, dflt := 0, T := λ k => ⟨[(0, .d (yY a.l)), (1, .fn (.func Xh) [] [.bptr 100 0]), (7, .int a.l.length), (8, .int k)], [(100, .live (ntB a.q))]⟩, inv := λ k => k <= a.l.length /\ GU (λ i => (gD a.l i).mi == a.q.mi) a.l.length 0 = GU (λ i => (gD a.l i).mi == a.q.mi) (a.l.length - k) k, meas := λ k => a.l.length - k }] else none }
def C2Nc : Ctr := { ro := [100], α := MNc, xs := λ a => [.d (yY a.l), .fn (.func Xh) [] [.bptr 100 0]], L := λ a => [(100, ntB a.q)], val := λ a => .int (GU (λ i => (gD a.l i).mi == a.q.mi) a.l.length 0), keep := λ a => [(100, .live (ntB a.q))], pre := λ a => [a.l.length < 4611686018427387904 /\ True] }
def V2Nc (a : MNc) : Prop := AW Try.prog (A2Nc a) BWR (AK BWR) (C2Nc.xs a) (AF (C2Nc.L a)) (C2Nc.val a) (C2Nc.keep a) [] []
theorem CYK (a : MNc) : (V2Nc a) = ((∃ (a_1 : Nat), (a.l.length = a.l.length /\ (∀ (i : Nat), i < a.l.length -> (gD a.l i).mi = (gD a.l i).mi /\ (gD a.l i).t.lo = (gD a.l i).t.lo /\ (gD a.l i).t.hi = (gD a.l i).t.hi /\ (gD
 a.l i).s.lo = (gD a.l i).s.lo /\ (gD a.l i).s.hi = (gD a.l i).s.hi) /\ (↑a.l.length : Int) = (↑a.l.length : Int) /\ (↑a_1 : Int) = 0 /\ a.q.mi = a.q.mi /\ a.q.t.lo = a.q.t.lo /\ a.q.t.hi = a.q.t.hi /\ a.q.s.lo = a.q.s.lo /\
 a.q.s.hi = a.q.s.hi) /\ a_1 <= a.l.length /\ GU (λ (i : Nat) => (gD a.l i).mi == a.q.mi) a.l.length 0 = GU (λ (i : Nat) => (gD a.l i).mi == a.q.mi) (a.l.length - a_1) a_1) /\ ∀ (a_1 : Nat), a_1 <= a.l.length /\ GU (fun
 (i : Nat) => (gD a.l i).mi == a.q.mi) a.l.length 0 = GU (λ (i : Nat) => (gD a.l i).mi == a.q.mi) (a.l.length - a_1) a_1 -> bif decide ((↑a_1 : Int) < (↑a.l.length : Int)) then ((0 <= (↑a_1 : Int) /\ (↑a_1 : Int) <
 (↑a.l.length : Int)) /\ (gD a.l a_1).mi = (gD a.l a_1).mi /\ (gD a.l a_1).t.lo = (gD a.l a_1).t.lo /\ (gD a.l a_1).t.hi = (gD a.l a_1).t.hi /\ (gD a.l a_1).s.lo = (gD a.l a_1).s.lo /\ (gD a.l a_1).s.hi = (gD a.l a_1).s.hi /\
 a.q.mi = a.q.mi /\ a.q.t.lo = a.q.t.lo /\ a.q.t.hi = a.q.t.hi /\ a.q.s.lo = a.q.s.lo /\ a.q.s.hi = a.q.s.hi /\ a.q.mi = a.q.mi /\ a.q.t.lo = a.q.t.lo /\ a.q.t.hi = a.q.t.hi /\ a.q.s.lo = a.q.s.lo /\ a.q.s.hi = a.q.s.hi) /\ bif (gD
 a.l a_1).mi == a.q.mi then GU (λ (i : Nat) => (gD a.l i).mi == a.q.mi) a.l.length 0 = (↑a_1 : Int) /\ a.q.mi = a.q.mi /\ a.q.t.lo = a.q.t.lo /\ a.q.t.hi = a.q.t.hi /\ a.q.s.lo = a.q.s.lo /\ a.q.s.hi = a.q.s.hi else ∃ (a_3
 : Nat), (a.l.length = a.l.length /\ (∀ (i : Nat), i < a.l.length -> (gD a.l i).mi = (gD a.l i).mi /\ (gD a.l i).t.lo = (gD a.l i).t.lo /\ (gD a.l i).t.hi = (gD a.l i).t.hi /\ (gD a.l i).s.lo = (gD a.l i).s.lo /\ (gD a.l
 i).s.hi = (gD a.l i).s.hi) /\ (↑a.l.length : Int) = (↑a.l.length : Int) /\ (↑a_3 : Int) = IntKind.i64.wrap ((↑a_1 : Int) + 1) /\ a.q.mi = a.q.mi /\ a.q.t.lo = a.q.t.lo /\ a.q.t.hi = a.q.t.hi /\ a.q.s.lo = a.q.s.lo /\ a.q.s.hi =
 a.q.s.hi) /\ (a_3 <= a.l.length /\ GU (λ (i : Nat) => (gD a.l i).mi == a.q.mi) a.l.length 0 = GU (λ (i : Nat) => (gD a.l i).mi == a.q.mi) (a.l.length - a_3) a_3) /\ a.l.length - a_3 < a.l.length - a_1 else GU (λ (i
 : Nat) => (gD a.l i).mi == a.q.mi) a.l.length 0 = -1 /\ a.q.mi = a.q.mi /\ a.q.t.lo = a.q.t.lo /\ a.q.t.hi = a.q.t.hi /\ a.q.s.lo = a.q.s.lo /\ a.q.s.hi = a.q.s.hi) := by kernel_rfl
theorem p2Nc (a : MNc) (h : AX (C2Nc.pre a)) : V2Nc a := by
 obtain ⟨h, hp⟩ : a.l.length < 4611686018427387904 /\ True := h
 rw [CYK]
 simp only [CC, eq_self, implies_true, forall_const]
 refine ⟨⟨0, rfl, Nat.zero_le _, rfl⟩, λ k ⟨h1, h2⟩ => ⟨λ hlt => ?_, λ hge => ?_⟩⟩
 ·have hlt : k < a.l.length := by omega
  refine ⟨⟨by omega, by omega⟩, λ hp => ?_, λ hp => ⟨k + 1, (FE (by omega)).symm, ⟨by omega, ?_⟩, by omega⟩⟩
  ·rw [h2]; exact Qf hlt (by simpa using hp)
  ·rw [h2]; exact ATN hlt (by simpa using hp)
 ·rw [h2]; exact vP (by omega)
theorem CWR : AL Try.prog BVU (C2Nc.spec d2Nc) := KV C2Nc A2Nc [] [] CMB (λ _ => by kernel_rfl) (λ _ => AD CUR AI) p2Nc (λ _ => MD rfl rfl) _
def C3Nc : Ctr := { C2Nc with val := λ (a : MNc) => .bool (a.l.any λ x => x.mi == a.q.mi) }
def d3Nc : List AVal -> Heap -> Option (C3Nc.α × List (Nat × Nat) × List Nat) := d2Nc
def A3Nc : Ann := { ann 9 [(BVU, C2Nc.spec d2Nc)] with E := [100] }
def V3Nc (a : MNc) : Prop := AW Try.prog A3Nc BVE (AK BVE) (C3Nc.xs a) (AF (C3Nc.L a)) (C3Nc.val a) (C3Nc.keep a) [] []
theorem CWX (a : MNc) : (V3Nc a) = (((AE a.l.length λ (i : Nat) => gD a.l i).length = a.l.length /\ (∀ (i : Nat), i < (AE a.l.length λ (i : Nat) => gD a.l i).length -> (gD (AE a.l.length λ (i : Nat) => gD a.l i)
 i).mi = (gD a.l i).mi /\ (gD (AE a.l.length λ (i : Nat) => gD a.l i) i).t.lo = (gD a.l i).t.lo /\ (gD (AE a.l.length λ (i : Nat) => gD a.l i) i).t.hi = (gD a.l i).t.hi /\ (gD (AE a.l.length λ (i : Nat) => gD a.l i)
 i).s.lo = (gD a.l i).s.lo /\ (gD (AE a.l.length λ (i : Nat) => gD a.l i) i).s.hi = (gD a.l i).s.hi) /\ a.q.mi = a.q.mi /\ a.q.t.lo = a.q.t.lo /\ a.q.t.hi = a.q.t.hi /\ a.q.s.lo = a.q.s.lo /\ a.q.s.hi = a.q.s.hi /\ a.q.mi =
 a.q.mi /\ a.q.t.lo = a.q.t.lo /\ a.q.t.hi = a.q.t.hi /\ a.q.s.lo = a.q.s.lo /\ a.q.s.hi = a.q.s.hi /\ (AE a.l.length λ (i : Nat) => gD a.l i).length < 4611686018427387904 /\ True) /\ (a.l.any λ (x : Nt) => x.mi == a.q.mi)
 = decide (GU (λ (i : Nat) => (gD (AE a.l.length λ (i : Nat) => gD a.l i) i).mi == a.q.mi) (AE a.l.length λ (i : Nat) => gD a.l i).length 0 >= 0) /\ a.q.mi = a.q.mi /\ a.q.t.lo = a.q.t.lo /\ a.q.t.hi = a.q.t.hi /\
 a.q.s.lo = a.q.s.lo /\ a.q.s.hi = a.q.s.hi) := by kernel_rfl
theorem CKX {α : Type} [Inhabited α] {p : α -> Bool} {l : List α} : decide (0 <= GU (λ i => p (gD l i)) l.length 0) = l.any p := by
 rw [Bool.eq_iff_iff, decide_eq_true_eq, BYS, List.any_eq_true]
 exact ⟨λ ⟨i, _, h1, h2⟩ => ⟨gD l i, CS (by omega), h2⟩, λ ⟨x, hx, h2⟩ => by obtain ⟨i, hi, rfl⟩ := IQ hx; exact ⟨i, Nat.zero_le _, by omega, h2⟩⟩
theorem CYC : AL Try.prog BVN (C3Nc.spec d3Nc) := Ctr.spec_ok (C := C3Nc) (λ (a : MNc) h => QX (A := A3Nc) (ren := []) (fz := []) CHU (by kernel_rfl) (AD CWR AI) (by
 obtain ⟨h, hp⟩ : a.l.length < 4611686018427387904 /\ True := h
 show V3Nc a; rw [CWX]; simp only [CC, eq_self, implies_true, forall_const, ge_iff_le]
 rw [<- CKX]
 simp [h, HC])) _
end Go.Bal
