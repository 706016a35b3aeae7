/- Package chart: every. Printed by gench.py. -/
import Derived.Test.YtdbjalgfomknhaaChA
set_option linter.unusedVariables false
set_option linter.unusedSimpArgs false
namespace Go.Bal
open Go Go.Sym Go.Proofs
def vB (p : Nat -> Bool) : Nat -> Bool
 | 0 => true
 | n + 1 => vB p n && p n
theorem Cq {p : Nat -> Bool} : ∀ {n : Nat}, vB p n = true ↔ ∀ i, i < n -> p i = true
 | 0 => by simp [vB]
 | n + 1 => by
  simp only [vB, Bool.and_eq_true, Cq (n := n)]
  constructor
  ·intro h i hi
   by_cases he : i = n
   ·subst he; exact h.2
   ·exact h.1 i (by omega)
  ·exact λ h => ⟨λ i hi => h i (by omega), h n (by omega)⟩
theorem CAW {p : Nat -> Bool} : ∀ {n k : Nat}, (0 <= HI p n k) ↔ ∃ i, k <= i /\ i < k + n /\ p i = true
 | 0, k => by simp [HI]; omega
 | n + 1, k => by
  simp only [HI]
  by_cases h : p k = true
  ·rw [if_pos h]
   constructor
   ·intro _; exact ⟨k, Nat.le_refl _, by omega, h⟩
   ·intro _; omega
  ·rw [if_neg h, CAW (n := n) (k := k + 1)]
   constructor
   ·rintro ⟨i, h1, h2, h3⟩; exact ⟨i, by omega, by omega, h3⟩
   ·rintro ⟨i, h1, h2, h3⟩
    refine ⟨i, ?_, by omega, h3⟩
    by_cases he : i = k
    ·subst he; exact absurd h3 h
    ·omega
theorem COG {p : Nat -> Bool} {n : Nat} : (!decide (0 <= HI (λ i => !p i) n 0)) = vB p n := by
 rw [Bool.eq_iff_iff, Cq]
 simp only [Bool.not_eq_true', decide_eq_false_iff_not, CAW, Nat.zero_le, Nat.zero_add, true_and]
 constructor
 ·intro h i hi
  cases hp : p i with
  | true => rfl
  | false => exact (h ⟨i, hi, by simp [hp]⟩).elim
 ·rintro h ⟨i, hi, hp⟩
  rw [h i hi] at hp; cases hp
theorem dA {α : Type} [Inhabited α] {p : α -> Bool} {l : List α} : (!decide (0 <= HI (λ i => !p (gD l i)) l.length 0)) = l.all p := by
 rw [COG, Bool.eq_iff_iff, Cq, List.all_eq_true]
 exact ⟨λ h x hx => by obtain ⟨i, hi, rfl⟩ := PE hx; exact h i hi, λ h i hi => h _ (NB hi)⟩
def chB (c : Cht) : AObj := .box [.int c.p.lo, .int c.p.hi, .int c.base, .int c.scale, .int c.off, .d (eMks c.ms), .d (W0 c.ns)]
def TJ (H : Heap) (id : Nat) : Option Cht := match H id with
 | .live (.box [.d a, .d b, .d c, .d d, .d e, .d (.list _ n f _), .d (.list _ m g _)]) => some ⟨⟨CK a, CK b⟩, CK c, CK d, CK e, AE n λ i => dMk (f i), AE m λ i => dNt (g i)⟩
 | _ => none
structure ChN where
 q : Cht
 e : Nt
def C_ck1 : Ctr := { ro := [101], α := ChN, xs := λ a => [.d (eNt a.e), .bptr 101 0], L := λ a => [(101, chB a.q)], val := λ a => .bool (CM a.e a.q.ms.length), keep := λ a => [(101, .live (chB a.q))] }
def CRP : List AVal -> Heap -> Option (ChN × List (Nat × Nat) × List Nat)
 | [.d d, .bptr id _], H => match TJ H id with
  | some q => some (⟨q, dNt d⟩, [(101, id)], [])
  | none => none
 | _, _ => none
def CSF : Ann := { ann 9 [(BOB, CCR)] with E := [101] }
def CSL (a : ChN) : Prop := AZ Try.prog CSF ATE (AL ATE) (C_ck1.xs a) (AG (C_ck1.L a)) (C_ck1.val a) (C_ck1.keep a) [] []
theorem CVC (a : ChN) : (CSL a) = (CM a.e (↑a.q.ms.length : Int) = CM (Nt.mk a.e.mi a.e.t a.e.s) (↑a.q.ms.length : Int) /\ a.q.p.lo = a.q.p.lo /\ a.q.p.hi = a.q.p.hi /\ a.q.base = a.q.base /\ a.q.scale =
 a.q.scale /\ a.q.off = a.q.off /\ a.q.ms.length = a.q.ms.length /\ (∀ (i : Nat), i < a.q.ms.length -> (gD a.q.ms i).pl = (gD a.q.ms i).pl /\ (gD a.q.ms i).ht = (gD a.q.ms i).ht) /\ a.q.ns.length = a.q.ns.length /\ ∀ (i : Nat),
 i < a.q.ns.length -> (gD a.q.ns i).mi = (gD a.q.ns i).mi /\ (gD a.q.ns i).t.lo = (gD a.q.ns i).t.lo /\ (gD a.q.ns i).t.hi = (gD a.q.ns i).t.hi /\ (gD a.q.ns i).s.lo = (gD a.q.ns i).s.lo /\ (gD a.q.ns i).s.hi = (gD a.q.ns
 i).s.hi) := by kernel_rfl
theorem CVY : AM Try.prog yZ (C_ck1.spec CRP) := LF C_ck1 (λ _ => CSF) [] [] CGM (λ _ => by kernel_rfl) (λ _ => AC CID AJ) (λ (a : ChN) _ => by
 show CSL a; rw [CVC]; simp [wr, HW]) (λ _ => NP rfl rfl) _
def IW (s : Span) : Bool := decide (s.lo <= s.hi)
def CNH (x : Span) : Prop := AZ Try.prog (ann 8 []) CAC (AL CAC) (xS1 x) (AG []) (.bool (IW x)) [] [] []
theorem COX (x : Span) : (CNH x) = (IW x = decide (x.lo <= x.hi)) := by kernel_rfl
def BRX := pD dS1 λ x => .bool (IW x)
theorem CQF : AM Try.prog BRU BRX := XN xS1 hS1 λ x _ => UO (A := ann 8 []) (ren := []) (fz := []) CQA (by kernel_rfl) AJ (by
 show CNH x; rw [COX]; try simp [IW])
def CIW (x : Span) : Prop := AZ Try.prog (ann 8 []) BYV (AL BYV) (xS1 x) (AG []) (.bool (IW x)) [] [] []
theorem CPF (x : Span) : (CIW x) = (IW x = decide (x.lo <= x.hi)) := by kernel_rfl
theorem CQC : AM Try.prog BMC BRX := XN xS1 hS1 λ x _ => UO (A := ann 8 []) (ren := []) (fz := []) CPI (by kernel_rfl) AJ (by
 show CIW x; rw [CPF]; try simp [IW])
def LXNr (q : Cht) : List (Nat × AObj) := [(101, chB q)]
def KXNr (q : Cht) : List (Nat × HCell) := [(101, .live (chB q))]
def fvNr (q : Cht) : AVal := .fn (.func yZ) [] [.bptr 101 0]
def BNr (q : Cht) : AObj := .box [fvNr q]
structure ENr where
 q : Cht
 e : Nt
structure MNr where
 q : Cht
 l : List Nt
def C1Nr : Ctr := { ro := [100, 101], α := ENr, xs := λ a => [.d (eNt a.e), .bptr 100 0], L := λ a => (100, BNr a.q) :: LXNr a.q, val := λ a => .bool (!CM a.e a.q.ms.length), keep := λ a => (100, .live (BNr a.q)) :: KXNr a.q }
def d1Nr : List AVal -> Heap -> Option (ENr × List (Nat × Nat) × List Nat)
 | [.d d, .bptr id _], H => match H id with
  | .live (.box [.fn _ _ [.bptr j _]]) => match TJ H j with
   | some q => some (⟨q, dNt d⟩, [(100, id), (101, j)], [])
   | none => none
  | _ => none
 | _, _ => none
def A1Nr : Ann := { ann 8 [(yZ, C_ck1.spec CRP)] with E := [100, 101] }
def V1Nr (a : ENr) : Prop := AZ Try.prog A1Nr CIV (AL CIV) (C1Nr.xs a) (AG (C1Nr.L a)) (C1Nr.val a) (C1Nr.keep a) [] []
theorem DAM (a : ENr) : (V1Nr a) = ((a.e.mi = a.e.mi /\ a.e.t.lo = a.e.t.lo /\ a.e.t.hi = a.e.t.hi /\ a.e.s.lo = a.e.s.lo /\ a.e.s.hi = a.e.s.hi /\ a.q.p.lo = a.q.p.lo /\ a.q.p.hi = a.q.p.hi /\ a.q.base = a.q.base /\ a.q.scale
 = a.q.scale /\ a.q.off = a.q.off /\ (AE a.q.ms.length λ (i : Nat) => gD a.q.ms i).length = a.q.ms.length /\ (∀ (i : Nat), i < (AE a.q.ms.length λ (i : Nat) => gD a.q.ms i).length -> (gD (AE a.q.ms.length λ (i : Nat)
 => gD a.q.ms i) i).pl = (gD a.q.ms i).pl /\ (gD (AE a.q.ms.length λ (i : Nat) => gD a.q.ms i) i).ht = (gD a.q.ms i).ht) /\ (AE a.q.ns.length λ (i : Nat) => gD a.q.ns i).length = a.q.ns.length /\ (∀ (i : Nat), i < (AE
 a.q.ns.length λ (i : Nat) => gD a.q.ns i).length -> (gD (AE a.q.ns.length λ (i : Nat) => gD a.q.ns i) i).mi = (gD a.q.ns i).mi /\ (gD (AE a.q.ns.length λ (i : Nat) => gD a.q.ns i) i).t.lo = (gD a.q.ns i).t.lo /\ (gD
 (AE a.q.ns.length λ (i : Nat) => gD a.q.ns i) i).t.hi = (gD a.q.ns i).t.hi /\ (gD (AE a.q.ns.length λ (i : Nat) => gD a.q.ns i) i).s.lo = (gD a.q.ns i).s.lo /\ (gD (AE a.q.ns.length λ (i : Nat) => gD a.q.ns i)
 i).s.hi = (gD a.q.ns i).s.hi) /\ a.q.p.lo = a.q.p.lo /\ a.q.p.hi = a.q.p.hi /\ a.q.base = a.q.base /\ a.q.scale = a.q.scale /\ a.q.off = a.q.off /\ a.q.ms.length = (AE a.q.ms.length λ (i : Nat) => gD a.q.ms i).length /\ (∀
 (i : Nat), i < a.q.ms.length -> (gD a.q.ms i).pl = (gD (AE a.q.ms.length λ (i : Nat) => gD a.q.ms i) i).pl /\ (gD a.q.ms i).ht = (gD (AE a.q.ms.length λ (i : Nat) => gD a.q.ms i) i).ht) /\ a.q.ns.length = (AE
 a.q.ns.length λ (i : Nat) => gD a.q.ns i).length /\ ∀ (i : Nat), i < a.q.ns.length -> (gD a.q.ns i).mi = (gD (AE a.q.ns.length λ (i : Nat) => gD a.q.ns i) i).mi /\ (gD a.q.ns i).t.lo = (gD (AE a.q.ns.length λ (i :
 Nat) => gD a.q.ns i) i).t.lo /\ (gD a.q.ns i).t.hi = (gD (AE a.q.ns.length λ (i : Nat) => gD a.q.ns i) i).t.hi /\ (gD a.q.ns i).s.lo = (gD (AE a.q.ns.length λ (i : Nat) => gD a.q.ns i) i).s.lo /\ (gD a.q.ns i).s.hi =
 (gD (AE a.q.ns.length λ (i : Nat) => gD a.q.ns i) i).s.hi) /\ (!CM a.e (↑a.q.ms.length : Int)) = !CM (Nt.mk a.e.mi a.e.t a.e.s) (↑(AE a.q.ms.length λ (i : Nat) => gD a.q.ms i).length : Int) /\ a.q.p.lo =
 a.q.p.lo /\ a.q.p.hi = a.q.p.hi /\ a.q.base = a.q.base /\ a.q.scale = a.q.scale /\ a.q.off = a.q.off /\ a.q.ms.length = a.q.ms.length /\ (∀ (i : Nat), i < a.q.ms.length -> (gD a.q.ms i).pl = (gD a.q.ms i).pl /\ (gD a.q.ms i).ht
 = (gD a.q.ms i).ht) /\ a.q.ns.length = a.q.ns.length /\ ∀ (i : Nat), i < a.q.ns.length -> (gD a.q.ns i).mi = (gD a.q.ns i).mi /\ (gD a.q.ns i).t.lo = (gD a.q.ns i).t.lo /\ (gD a.q.ns i).t.hi = (gD a.q.ns i).t.hi /\ (gD a.q.ns
 i).s.lo = (gD a.q.ns i).s.lo /\ (gD a.q.ns i).s.hi = (gD a.q.ns i).s.hi) := by kernel_rfl
theorem CYA : AM Try.prog BXX (C1Nr.spec d1Nr) := LF C1Nr (λ _ => A1Nr) [] [] CWZ (λ _ => by kernel_rfl) (λ _ => AC CVY AJ) (λ (a : ENr) h => by
 show V1Nr a; rw [DAM]; try simp [wr, HW]) (λ _ => NP rfl rfl) _
def d2Nr : List AVal -> Heap -> Option (MNr × List (Nat × Nat) × List Nat)
 | [y, .fn _ _ [.bptr id _]], H => match wI y H with
  | some (n, g, f) => match H id with
   | .live (.box [.fn _ _ [.bptr j _]]) => match TJ H j with
    | some q => some (⟨q, AE n λ i => dNt (g i)⟩, [(100, id), (101, j)], f)
    | none => none
   | _ => none
  | none => none
 | _, _ => none
def A2Nr (a : MNr) : Ann := { ann 19 [(BXX, C1Nr.spec d1Nr)] with E := [100, 101], loops := λ id => if id = 2 then some [{ α := Nat, dflt := 0, T := λ k => ⟨[(0, .d (W0 a.l)), (1, .fn (.func BXX) [] [.bptr 100 0]), (7, .int a.l.length), (8, .int k)], (100, .live (BNr a.q)) :: KXNr a.q⟩, inv := λ k => k <= a.l.length /\ HI (λ i => !CM (gD a.l i) a.q.ms.length) a.l.length 0 = HI (λ i => !CM (gD a.l i) a.q.ms.length) (a.l.length - k) k, meas := λ k => a.l.length - k }] else none }
def PNr (a : MNr) : List Prop := [a.l.length < 4611686018427387904 /\ True]
def C2Nr : Ctr := { ro := [100, 101], α := MNr, xs := λ a => [.d (W0 a.l), .fn (.func BXX) [] [.bptr 100 0]], L := λ a => (100, BNr a.q) :: LXNr a.q, val := λ a => .int (HI (λ i => !CM (gD a.l i) a.q.ms.length) a.l.length 0), keep := λ a => (100, .live (BNr a.q)) :: KXNr a.q, pre := PNr }
def V2Nr (a : MNr) : Prop := AZ Try.prog (A2Nr a) BXW (AL BXW) (C2Nr.xs a) (AG (C2Nr.L a)) (C2Nr.val a) (C2Nr.keep a) [] []
abbrev CAH (a : MNr) : Prop := a.l.length = a.l.length
abbrev CBU (a : MNr) (i : Nat) : Prop := (gD a.l i).mi = (gD a.l i).mi
abbrev BZR (a : MNr) (i : Nat) : Prop := (gD a.l i).t.lo = (gD a.l i).t.lo
abbrev CAJ (a : MNr) (i : Nat) : Prop := (gD a.l i).t.hi = (gD a.l i).t.hi
abbrev CBG (a : MNr) (i : Nat) : Prop := (gD a.l i).s.lo = (gD a.l i).s.lo
abbrev BYX (a : MNr) (i : Nat) : Prop := (gD a.l i).s.hi = (gD a.l i).s.hi
abbrev CBI (a : MNr) : Prop := ∀ (i : Nat), i < a.l.length -> CBU a i /\ BZR a i /\ CAJ a i /\ CBG a i /\ BYX a i
abbrev BYU (a : MNr) : Prop := (↑a.l.length : Int) = (↑a.l.length : Int)
abbrev BOD (a : MNr) : Prop := a.q.p.lo = a.q.p.lo
abbrev BOA (a : MNr) : Prop := a.q.p.hi = a.q.p.hi
abbrev tQ (a : MNr) : Prop := BOD a /\ BOA a /\ a.q.base = a.q.base /\ a.q.scale = a.q.scale /\ a.q.off = a.q.off /\ a.q.ms.length = a.q.ms.length /\ (∀ (i : Nat), i < a.q.ms.length -> (gD a.q.ms i).pl = (gD a.q.ms
 i).pl /\ (gD a.q.ms i).ht = (gD a.q.ms i).ht) /\ a.q.ns.length = a.q.ns.length /\ ∀ (i : Nat), i < a.q.ns.length -> (gD a.q.ns i).mi = (gD a.q.ns i).mi /\ (gD a.q.ns i).t.lo = (gD a.q.ns i).t.lo /\ (gD a.q.ns i).t.hi = (gD
 a.q.ns i).t.hi /\ (gD a.q.ns i).s.lo = (gD a.q.ns i).s.lo /\ (gD a.q.ns i).s.hi = (gD a.q.ns i).s.hi
abbrev BMD (a : MNr) (i : Nat) : Bool := !CM (gD a.l i) (↑a.q.ms.length : Int)
abbrev ANC (a : MNr) : Int := HI (λ (i : Nat) => BMD a i) a.l.length 0
abbrev AMP (a : MNr) (a1 : Nat) : Nat := a.l.length - a1
abbrev ANZ (a : Nat) (a1 : MNr) : Prop := a <= a1.l.length /\ ANC a1 = HI (λ (i : Nat) => BMD a1 i) (AMP a1 a) a
abbrev BMS (a : Nat) (a1 : MNr) : Prop := (↑a : Int) < (↑a1.l.length : Int)
abbrev BOF (a : MNr) : List Mk := AE a.q.ms.length λ (i : Nat) => gD a.q.ms i
abbrev E3 (a : MNr) : Nat := (BOF a).length
abbrev BNY (a : MNr) (i : Nat) : Mk := gD (BOF a) i
abbrev BRE (a : MNr) (i : Nat) : Int := (BNY a i).pl
abbrev BMK (a : MNr) (i : Nat) : Int := (BNY a i).ht
abbrev BLH (a : MNr) : List Nt := AE a.q.ns.length λ (i : Nat) => gD a.q.ns i
abbrev API (a : MNr) : Nat := (BLH a).length
abbrev ANI (a : MNr) (i : Nat) : Nt := gD (BLH a) i
abbrev BPI (a : MNr) (i : Nat) : Int := (ANI a i).mi
abbrev BPF (a : MNr) (i : Nat) : Span := (ANI a i).t
abbrev BTC (a : MNr) (i : Nat) : Int := (BPF a i).lo
abbrev BMP (a : MNr) (i : Nat) : Int := (BPF a i).hi
abbrev BKT (a : MNr) (i : Nat) : Span := (ANI a i).s
abbrev BLP (a : MNr) (i : Nat) : Int := (BKT a i).lo
abbrev BTX (a : MNr) (i : Nat) : Int := (BKT a i).hi
theorem CYV (a : MNr) : (V2Nr a) = ((∃ (a_1 : Nat), (CAH a /\ CBI a /\ BYU a /\ (↑a_1 : Int) = 0 /\ tQ a) /\ ANZ a_1 a) /\ ∀ (a_1 : Nat), ANZ a_1 a -> bif decide (BMS a_1 a) then ((0 <= (↑a_1 : Int) /\
 BMS a_1 a) /\ CBU a a_1 /\ BZR a a_1 /\ CAJ a a_1 /\ CBG a a_1 /\ BYX a a_1 /\ BOD a /\ BOA a /\ a.q.base = a.q.base /\ a.q.scale = a.q.scale /\ a.q.off = a.q.off /\ E3 a = a.q.ms.length /\ (∀ (i :
 Nat), i < E3 a -> BRE a i = (gD a.q.ms i).pl /\ BMK a i = (gD a.q.ms i).ht) /\ API a = a.q.ns.length /\ (∀ (i : Nat), i < API a -> BPI a i = (gD a.q.ns i).mi /\ BTC a i = (gD a.q.ns i).t.lo /\
 BMP a i = (gD a.q.ns i).t.hi /\ BLP a i = (gD a.q.ns i).s.lo /\ BTX a i = (gD a.q.ns i).s.hi) /\ BOD a /\ BOA a /\ a.q.base = a.q.base /\ a.q.scale = a.q.scale /\ a.q.off = a.q.off /\ a.q.ms.length = E3 a
 /\ (∀ (i : Nat), i < a.q.ms.length -> (gD a.q.ms i).pl = BRE a i /\ (gD a.q.ms i).ht = BMK a i) /\ a.q.ns.length = API a /\ ∀ (i : Nat), i < a.q.ns.length -> (gD a.q.ns i).mi = BPI a i /\ (gD a.q.ns i).t.lo =
 BTC a i /\ (gD a.q.ns i).t.hi = BMP a i /\ (gD a.q.ns i).s.lo = BLP a i /\ (gD a.q.ns i).s.hi = BTX a i) /\ bif !CM (Nt.mk (gD a.l a_1).mi (gD a.l a_1).t (gD a.l a_1).s) (↑(E3 a) : Int) then ANC
 a = (↑a_1 : Int) /\ tQ a else ∃ (a_3 : Nat), (CAH a /\ CBI a /\ BYU a /\ (↑a_3 : Int) = IntKind.i64.wrap ((↑a_1 : Int) + 1) /\ tQ a) /\ ANZ a_3 a /\ AMP a a_3 < AMP a a_1 else ANC a = -1 /\
 tQ a) := by kernel_rfl
theorem p2Nr (a : MNr) (h : BC (PNr a)) : V2Nr a := by
 obtain ⟨h, hp⟩ : a.l.length < 4611686018427387904 /\ True := h
 rw [CYV]; delta CAH CBU BZR CAJ CBG BYX CBI BYU BOD BOA tQ BMD ANC AMP ANZ BMS BOF E3 BNY BRE BMK BLH API ANI BPI BPF BTC BMP BKT BLP BTX
 simp only [CC, eq_self, implies_true, forall_const]
 refine ⟨⟨0, rfl, Nat.zero_le _, rfl⟩, λ k ⟨h1, h2⟩ => ⟨λ hlt => ?_, λ hge => ?_⟩⟩
 ·have hlt : k < a.l.length := by omega
  refine ⟨⟨by omega, by omega⟩, λ hp => ?_, λ hp => ⟨k + 1, (GE (by omega)).symm, ⟨by omega, ?_⟩, by omega⟩⟩
  ·rw [h2]; exact Jf hlt (by simpa using hp)
  ·rw [h2]; exact AWD hlt (by simpa using hp)
 ·rw [h2]; exact zL (by omega)
theorem CYR : AM Try.prog BWN (C2Nr.spec d2Nr) := LF C2Nr A2Nr [] [] CNW (λ _ => by kernel_rfl) (λ _ => AC CYA AJ) p2Nr (λ _ => NP rfl rfl) _
def C3Nr : Ctr := { C2Nr with val := λ (a : MNr) => .bool (decide (HI (λ i => !CM (gD a.l i) a.q.ms.length) a.l.length 0 >= 0)) }
def d3Nr : List AVal -> Heap -> Option (C3Nr.α × List (Nat × Nat) × List Nat) := d2Nr
def A3Nr : Ann := { ann 9 [(BWN, C2Nr.spec d2Nr)] with E := [100, 101] }
def V3Nr (a : MNr) : Prop := AZ Try.prog A3Nr BWR (AL BWR) (C3Nr.xs a) (AG (C3Nr.L a)) (C3Nr.val a) (C3Nr.keep a) [] []
theorem CYT (a : MNr) : (V3Nr a) = (((AE a.l.length λ (i : Nat) => gD a.l i).length = a.l.length /\ (∀ (i : Nat), i < (AE a.l.length λ (i : Nat) => gD a.l i).length -> (gD (AE a.l.length λ (i : Nat) => gD a.l i)
 i).mi = (gD a.l i).mi /\ (gD (AE a.l.length λ (i : Nat) => gD a.l i) i).t.lo = (gD a.l i).t.lo /\ (gD (AE a.l.length λ (i : Nat) => gD a.l i) i).t.hi = (gD a.l i).t.hi /\ (gD (AE a.l.length λ (i : Nat) => gD a.l i)
 i).s.lo = (gD a.l i).s.lo /\ (gD (AE a.l.length λ (i : Nat) => gD a.l i) i).s.hi = (gD a.l i).s.hi) /\ a.q.p.lo = a.q.p.lo /\ a.q.p.hi = a.q.p.hi /\ a.q.base = a.q.base /\ a.q.scale = a.q.scale /\ a.q.off = a.q.off /\ (AE
 a.q.ms.length λ (i : Nat) => gD a.q.ms i).length = a.q.ms.length /\ (∀ (i : Nat), i < (AE a.q.ms.length λ (i : Nat) => gD a.q.ms i).length -> (gD (AE a.q.ms.length λ (i : Nat) => gD a.q.ms i) i).pl = (gD a.q.ms
 i).pl /\ (gD (AE a.q.ms.length λ (i : Nat) => gD a.q.ms i) i).ht = (gD a.q.ms i).ht) /\ (AE a.q.ns.length λ (i : Nat) => gD a.q.ns i).length = a.q.ns.length /\ (∀ (i : Nat), i < (AE a.q.ns.length λ (i : Nat) => gD
 a.q.ns i).length -> (gD (AE a.q.ns.length λ (i : Nat) => gD a.q.ns i) i).mi = (gD a.q.ns i).mi /\ (gD (AE a.q.ns.length λ (i : Nat) => gD a.q.ns i) i).t.lo = (gD a.q.ns i).t.lo /\ (gD (AE a.q.ns.length λ (i : Nat)
 => gD a.q.ns i) i).t.hi = (gD a.q.ns i).t.hi /\ (gD (AE a.q.ns.length λ (i : Nat) => gD a.q.ns i) i).s.lo = (gD a.q.ns i).s.lo /\ (gD (AE a.q.ns.length λ (i : Nat) => gD a.q.ns i) i).s.hi = (gD a.q.ns i).s.hi) /\
 a.q.p.lo = a.q.p.lo /\ a.q.p.hi = a.q.p.hi /\ a.q.base = a.q.base /\ a.q.scale = a.q.scale /\ a.q.off = a.q.off /\ a.q.ms.length = (AE a.q.ms.length λ (i : Nat) => gD a.q.ms i).length /\ (∀ (i : Nat), i < a.q.ms.length ->
 (gD a.q.ms i).pl = (gD (AE a.q.ms.length λ (i : Nat) => gD a.q.ms i) i).pl /\ (gD a.q.ms i).ht = (gD (AE a.q.ms.length λ (i : Nat) => gD a.q.ms i) i).ht) /\ a.q.ns.length = (AE a.q.ns.length λ (i : Nat) => gD
 a.q.ns i).length /\ (∀ (i : Nat), i < a.q.ns.length -> (gD a.q.ns i).mi = (gD (AE a.q.ns.length λ (i : Nat) => gD a.q.ns i) i).mi /\ (gD a.q.ns i).t.lo = (gD (AE a.q.ns.length λ (i : Nat) => gD a.q.ns i) i).t.lo /\ (gD
 a.q.ns i).t.hi = (gD (AE a.q.ns.length λ (i : Nat) => gD a.q.ns i) i).t.hi /\ (gD a.q.ns i).s.lo = (gD (AE a.q.ns.length λ (i : Nat) => gD a.q.ns i) i).s.lo /\ (gD a.q.ns i).s.hi = (gD (AE a.q.ns.length λ (i :
 Nat) => gD a.q.ns i) i).s.hi) /\ (AE a.l.length λ (i : Nat) => gD a.l i).length < 4611686018427387904 /\ True) /\ decide (HI (λ (i : Nat) => !CM (gD a.l i) (↑a.q.ms.length : Int)) a.l.length 0 >= 0) = decide (HI
 (λ (i : Nat) => !CM (gD (AE a.l.length λ (i : Nat) => gD a.l i) i) (↑(AE a.q.ms.length λ (i : Nat) => gD a.q.ms i).length : Int)) (AE a.l.length λ (i : Nat) => gD a.l i).length 0 >= 0) /\ a.q.p.lo = a.q.p.lo
 /\ a.q.p.hi = a.q.p.hi /\ a.q.base = a.q.base /\ a.q.scale = a.q.scale /\ a.q.off = a.q.off /\ a.q.ms.length = a.q.ms.length /\ (∀ (i : Nat), i < a.q.ms.length -> (gD a.q.ms i).pl = (gD a.q.ms i).pl /\ (gD a.q.ms i).ht = (gD
 a.q.ms i).ht) /\ a.q.ns.length = a.q.ns.length /\ ∀ (i : Nat), i < a.q.ns.length -> (gD a.q.ns i).mi = (gD a.q.ns i).mi /\ (gD a.q.ns i).t.lo = (gD a.q.ns i).t.lo /\ (gD a.q.ns i).t.hi = (gD a.q.ns i).t.hi /\ (gD a.q.ns
 i).s.lo = (gD a.q.ns i).s.lo /\ (gD a.q.ns i).s.hi = (gD a.q.ns i).s.hi) := by kernel_rfl
theorem CYI : AM Try.prog BWU (C3Nr.spec d3Nr) := Ctr.spec_ok (C := C3Nr) (λ (a : MNr) h => UO (A := A3Nr) (ren := []) (fz := []) CJZ (by kernel_rfl) (AC CYR AJ) (by
 obtain ⟨h, hp⟩ : a.l.length < 4611686018427387904 /\ True := h
 show V3Nr a; rw [CYT]; simp [h, HW])) _
def d4Nr : List AVal -> Heap -> Option (MNr × List (Nat × Nat) × List Nat)
 | [y, .fn _ _ [.bptr j _]], H => match wI y H with
  | some (n, g, f) => match TJ H j with
   | some q => some (⟨q, AE n λ i => dNt (g i)⟩, [(101, j)], f)
   | none => none
  | none => none
 | _, _ => none
def A4Nr : Ann := { ann 9 [(BWU, C3Nr.spec d3Nr)] with E := [101] }
def C4Nr : Ctr := { ro := [101], α := MNr, xs := λ a => [.d (W0 a.l), fvNr a.q], L := λ a => LXNr a.q, val := λ a => .bool (a.l.all λ x => CM x a.q.ms.length), keep := λ a => KXNr a.q, pre := PNr }
def V4Nr (a : MNr) : Prop := AZ Try.prog A4Nr F_eN (AL F_eN) (C4Nr.xs a) (AG (C4Nr.L a)) (C4Nr.val a) (C4Nr.keep a) [] []
theorem CZU (a : MNr) : (V4Nr a) = (((AE a.l.length λ (i : Nat) => gD a.l i).length = a.l.length /\ (∀ (i : Nat), i < (AE a.l.length λ (i : Nat) => gD a.l i).length -> (gD (AE a.l.length λ (i : Nat) => gD a.l i)
 i).mi = (gD a.l i).mi /\ (gD (AE a.l.length λ (i : Nat) => gD a.l i) i).t.lo = (gD a.l i).t.lo /\ (gD (AE a.l.length λ (i : Nat) => gD a.l i) i).t.hi = (gD a.l i).t.hi /\ (gD (AE a.l.length λ (i : Nat) => gD a.l i)
 i).s.lo = (gD a.l i).s.lo /\ (gD (AE a.l.length λ (i : Nat) => gD a.l i) i).s.hi = (gD a.l i).s.hi) /\ a.q.p.lo = a.q.p.lo /\ a.q.p.hi = a.q.p.hi /\ a.q.base = a.q.base /\ a.q.scale = a.q.scale /\ a.q.off = a.q.off /\ (AE
 a.q.ms.length λ (i : Nat) => gD a.q.ms i).length = a.q.ms.length /\ (∀ (i : Nat), i < (AE a.q.ms.length λ (i : Nat) => gD a.q.ms i).length -> (gD (AE a.q.ms.length λ (i : Nat) => gD a.q.ms i) i).pl = (gD a.q.ms
 i).pl /\ (gD (AE a.q.ms.length λ (i : Nat) => gD a.q.ms i) i).ht = (gD a.q.ms i).ht) /\ (AE a.q.ns.length λ (i : Nat) => gD a.q.ns i).length = a.q.ns.length /\ (∀ (i : Nat), i < (AE a.q.ns.length λ (i : Nat) => gD
 a.q.ns i).length -> (gD (AE a.q.ns.length λ (i : Nat) => gD a.q.ns i) i).mi = (gD a.q.ns i).mi /\ (gD (AE a.q.ns.length λ (i : Nat) => gD a.q.ns i) i).t.lo = (gD a.q.ns i).t.lo /\ (gD (AE a.q.ns.length λ (i : Nat)
 => gD a.q.ns i) i).t.hi = (gD a.q.ns i).t.hi /\ (gD (AE a.q.ns.length λ (i : Nat) => gD a.q.ns i) i).s.lo = (gD a.q.ns i).s.lo /\ (gD (AE a.q.ns.length λ (i : Nat) => gD a.q.ns i) i).s.hi = (gD a.q.ns i).s.hi) /\
 a.q.p.lo = a.q.p.lo /\ a.q.p.hi = a.q.p.hi /\ a.q.base = a.q.base /\ a.q.scale = a.q.scale /\ a.q.off = a.q.off /\ a.q.ms.length = (AE a.q.ms.length λ (i : Nat) => gD a.q.ms i).length /\ (∀ (i : Nat), i < a.q.ms.length ->
 (gD a.q.ms i).pl = (gD (AE a.q.ms.length λ (i : Nat) => gD a.q.ms i) i).pl /\ (gD a.q.ms i).ht = (gD (AE a.q.ms.length λ (i : Nat) => gD a.q.ms i) i).ht) /\ a.q.ns.length = (AE a.q.ns.length λ (i : Nat) => gD
 a.q.ns i).length /\ (∀ (i : Nat), i < a.q.ns.length -> (gD a.q.ns i).mi = (gD (AE a.q.ns.length λ (i : Nat) => gD a.q.ns i) i).mi /\ (gD a.q.ns i).t.lo = (gD (AE a.q.ns.length λ (i : Nat) => gD a.q.ns i) i).t.lo /\ (gD
 a.q.ns i).t.hi = (gD (AE a.q.ns.length λ (i : Nat) => gD a.q.ns i) i).t.hi /\ (gD a.q.ns i).s.lo = (gD (AE a.q.ns.length λ (i : Nat) => gD a.q.ns i) i).s.lo /\ (gD a.q.ns i).s.hi = (gD (AE a.q.ns.length λ (i :
 Nat) => gD a.q.ns i) i).s.hi) /\ (AE a.l.length λ (i : Nat) => gD a.l i).length < 4611686018427387904 /\ True) /\ (a.l.all λ (x : Nt) => CM x (↑a.q.ms.length : Int)) = !decide (HI (λ (i : Nat) => !CM (gD
 (AE a.l.length λ (i : Nat) => gD a.l i) i) (↑(AE a.q.ms.length λ (i : Nat) => gD a.q.ms i).length : Int)) (AE a.l.length λ (i : Nat) => gD a.l i).length 0 >= 0) /\ a.q.p.lo = a.q.p.lo /\ a.q.p.hi = a.q.p.hi /\
 a.q.base = a.q.base /\ a.q.scale = a.q.scale /\ a.q.off = a.q.off /\ a.q.ms.length = a.q.ms.length /\ (∀ (i : Nat), i < a.q.ms.length -> (gD a.q.ms i).pl = (gD a.q.ms i).pl /\ (gD a.q.ms i).ht = (gD a.q.ms i).ht) /\
 a.q.ns.length = a.q.ns.length /\ ∀ (i : Nat), i < a.q.ns.length -> (gD a.q.ns i).mi = (gD a.q.ns i).mi /\ (gD a.q.ns i).t.lo = (gD a.q.ns i).t.lo /\ (gD a.q.ns i).t.hi = (gD a.q.ns i).t.hi /\ (gD a.q.ns i).s.lo = (gD a.q.ns
 i).s.lo /\ (gD a.q.ns i).s.hi = (gD a.q.ns i).s.hi) := by kernel_rfl
theorem CZH (a : MNr) (h : BC (PNr a)) : FnT Try.prog n_eN (C4Nr.xs a) (AG (C4Nr.L a)) (C4Nr.val a) (C4Nr.keep a) := UO (A := A4Nr) (ren := []) (fz := []) CYN (by kernel_rfl) (AC CYI AJ) (by
 have h' : a.l.length < 4611686018427387904 /\ True := h
 show V4Nr a; rw [CZU]; simp only [CC, eq_self, implies_true, forall_const, ge_iff_le]
 rw [<- dA]
 exact ⟨h'.1, rfl⟩)
theorem CZQ : AM Try.prog n_eN (C4Nr.spec d4Nr) := Ctr.spec_ok (C := C4Nr) CZH _
def fvSa (q : One) : AVal := .fn (.func BRU) [] []
def BSa (q : One) : AObj := .box [fvSa q]
structure ESa where
 q : One
 e : Span
structure MSa where
 q : One
 l : List Span
def C1Sa : Ctr := { ro := [100], α := ESa, xs := λ a => [.d (CL a.e), .bptr 100 0], L := λ a => (100, BSa a.q) :: [], val := λ a => .bool (!IW a.e), keep := λ a => (100, .live (BSa a.q)) :: [] }
def d1Sa : List AVal -> Heap -> Option (ESa × List (Nat × Nat) × List Nat)
 | [.d d, .bptr id _], H => some (⟨default, LI d⟩, [(100, id)], [])
 | _, _ => none
def A1Sa : Ann := { ann 8 [(BRU, BRX)] with E := [100] }
def V1Sa (a : ESa) : Prop := AZ Try.prog A1Sa BYD (AL BYD) (C1Sa.xs a) (AG (C1Sa.L a)) (C1Sa.val a) (C1Sa.keep a) [] []
theorem DAZ (a : ESa) : (V1Sa a) = ((!IW a.e) = !IW a.e) := by kernel_rfl
theorem DAU : AM Try.prog tO (C1Sa.spec d1Sa) := LF C1Sa (λ _ => A1Sa) [] [] CKH (λ _ => by kernel_rfl) (λ _ => AC CQF AJ) (λ (a : ESa) h => by
 show V1Sa a; rw [DAZ]; try simp [wr, HW]) (λ _ => NP rfl rfl) _
def d2Sa : List AVal -> Heap -> Option (MSa × List (Nat × Nat) × List Nat)
 | [y, .fn _ _ [.bptr id _]], H => match wI y H with
  | some (n, g, f) => some (⟨default, AE n λ i => LI (g i)⟩, [(100, id)], f)
  | none => none
 | _, _ => none
def A2Sa (a : MSa) : Ann := { ann 19 [(tO, C1Sa.spec d1Sa)] with E := [100], loops := λ id => if id = 2 then some [{ α := Nat, dflt := 0, T := λ k => ⟨[(0, .d (AX a.l)), (1, .fn (.func tO) [] [.bptr 100 0]), (7, .int a.l.length), (8, .int k)], (100, .live (BSa a.q)) :: []⟩, inv := λ k => k <= a.l.length /\ HI (λ i => !IW (gD a.l i)) a.l.length 0 = HI (λ i => !IW (gD a.l i)) (a.l.length - k) k, meas := λ k => a.l.length - k }] else none }
def PSa (a : MSa) : List Prop := [a.l.length < 4611686018427387904 /\ True]
def C2Sa : Ctr := { ro := [100], α := MSa, xs := λ a => [.d (AX a.l), .fn (.func tO) [] [.bptr 100 0]], L := λ a => (100, BSa a.q) :: [], val := λ a => .int (HI (λ i => !IW (gD a.l i)) a.l.length 0), keep := λ a => (100, .live (BSa a.q)) :: [], pre := PSa }
def V2Sa (a : MSa) : Prop := AZ Try.prog (A2Sa a) BXS (AL BXS) (C2Sa.xs a) (AG (C2Sa.L a)) (C2Sa.val a) (C2Sa.keep a) [] []
theorem DAO (a : MSa) : (V2Sa a) = ((∃ (a_1 : Nat), (a.l.length = a.l.length /\ (∀ (i : Nat), i < a.l.length -> (gD a.l i).lo = (gD a.l i).lo /\ (gD a.l i).hi = (gD a.l i).hi) /\ (↑a.l.length : Int) = (↑a.l.length : Int) /\
 (↑a_1 : Int) = 0) /\ a_1 <= a.l.length /\ HI (λ (i : Nat) => !IW (gD a.l i)) a.l.length 0 = HI (λ (i : Nat) => !IW (gD a.l i)) (a.l.length - a_1) a_1) /\ ∀ (a_1 : Nat), a_1 <= a.l.length /\ HI (λ (i : Nat) => !IW
 (gD a.l i)) a.l.length 0 = HI (λ (i : Nat) => !IW (gD a.l i)) (a.l.length - a_1) a_1 -> bif decide ((↑a_1 : Int) < (↑a.l.length : Int)) then ((0 <= (↑a_1 : Int) /\ (↑a_1 : Int) < (↑a.l.length : Int)) /\ (gD a.l a_1).lo =
 (gD a.l a_1).lo /\ (gD a.l a_1).hi = (gD a.l a_1).hi) /\ bif !IW (gD a.l a_1) then HI (λ (i : Nat) => !IW (gD a.l i)) a.l.length 0 = (↑a_1 : Int) else ∃ (a_3 : Nat), (a.l.length = a.l.length /\ (∀ (i : Nat), i <
 a.l.length -> (gD a.l i).lo = (gD a.l i).lo /\ (gD a.l i).hi = (gD a.l i).hi) /\ (↑a.l.length : Int) = (↑a.l.length : Int) /\ (↑a_3 : Int) = IntKind.i64.wrap ((↑a_1 : Int) + 1)) /\ (a_3 <= a.l.length /\ HI (λ (i : Nat) =>
 !IW (gD a.l i)) a.l.length 0 = HI (λ (i : Nat) => !IW (gD a.l i)) (a.l.length - a_3) a_3) /\ a.l.length - a_3 < a.l.length - a_1 else HI (λ (i : Nat) => !IW (gD a.l i)) a.l.length 0 = -1) := by kernel_rfl
theorem p2Sa (a : MSa) (h : BC (PSa a)) : V2Sa a := by
 obtain ⟨h, hp⟩ : a.l.length < 4611686018427387904 /\ True := h
 rw [DAO]
 simp only [CC, eq_self, implies_true, forall_const]
 refine ⟨⟨0, rfl, Nat.zero_le _, rfl⟩, λ k ⟨h1, h2⟩ => ⟨λ hlt => ?_, λ hge => ?_⟩⟩
 ·have hlt : k < a.l.length := by omega
  refine ⟨⟨by omega, by omega⟩, λ hp => ?_, λ hp => ⟨k + 1, (GE (by omega)).symm, ⟨by omega, ?_⟩, by omega⟩⟩
  ·rw [h2]; exact Jf hlt (by simpa using hp)
  ·rw [h2]; exact AWD hlt (by simpa using hp)
 ·rw [h2]; exact zL (by omega)
theorem DAP : AM Try.prog BWI (C2Sa.spec d2Sa) := LF C2Sa A2Sa [] [] CKB (λ _ => by kernel_rfl) (λ _ => AC DAU AJ) p2Sa (λ _ => NP rfl rfl) _
def C3Sa : Ctr := { C2Sa with val := λ (a : MSa) => .bool (decide (HI (λ i => !IW (gD a.l i)) a.l.length 0 >= 0)) }
def d3Sa : List AVal -> Heap -> Option (C3Sa.α × List (Nat × Nat) × List Nat) := d2Sa
def A3Sa : Ann := { ann 9 [(BWI, C2Sa.spec d2Sa)] with E := [100] }
def V3Sa (a : MSa) : Prop := AZ Try.prog A3Sa BXU (AL BXU) (C3Sa.xs a) (AG (C3Sa.L a)) (C3Sa.val a) (C3Sa.keep a) [] []
theorem CYH (a : MSa) : (V3Sa a) = (((AE a.l.length λ (i : Nat) => gD a.l i).length = a.l.length /\ (∀ (i : Nat), i < (AE a.l.length λ (i : Nat) => gD a.l i).length -> (gD (AE a.l.length λ (i : Nat) => gD a.l i)
 i).lo = (gD a.l i).lo /\ (gD (AE a.l.length λ (i : Nat) => gD a.l i) i).hi = (gD a.l i).hi) /\ (AE a.l.length λ (i : Nat) => gD a.l i).length < 4611686018427387904 /\ True) /\ decide (HI (λ (i : Nat) => !IW (gD a.l
 i)) a.l.length 0 >= 0) = decide (HI (λ (i : Nat) => !IW (gD (AE a.l.length λ (i : Nat) => gD a.l i) i)) (AE a.l.length λ (i : Nat) => gD a.l i).length 0 >= 0)) := by kernel_rfl
theorem CZN : AM Try.prog BWJ (C3Sa.spec d3Sa) := Ctr.spec_ok (C := C3Sa) (λ (a : MSa) h => UO (A := A3Sa) (ren := []) (fz := []) CNA (by kernel_rfl) (AC DAP AJ) (by
 obtain ⟨h, hp⟩ : a.l.length < 4611686018427387904 /\ True := h
 show V3Sa a; rw [CYH]; simp [h, HW])) _
def d4Sa : List AVal -> Heap -> Option (MSa × List (Nat × Nat) × List Nat)
 | [y, .fn _ _ _], H => match wI y H with
  | some (n, g, f) => some (⟨default, AE n λ i => LI (g i)⟩, [], f)
  | none => none
 | _, _ => none
def A4Sa : Ann := { ann 9 [(BWJ, C3Sa.spec d3Sa)] with E := [] }
def C4Sa : Ctr := { ro := [], α := MSa, xs := λ a => [.d (AX a.l), fvSa a.q], L := λ a => [], val := λ a => .bool (a.l.all λ x => IW x), keep := λ a => [], pre := PSa }
def V4Sa (a : MSa) : Prop := AZ Try.prog A4Sa F_eS (AL F_eS) (C4Sa.xs a) (AG (C4Sa.L a)) (C4Sa.val a) (C4Sa.keep a) [] []
theorem CYK (a : MSa) : (V4Sa a) = (((AE a.l.length λ (i : Nat) => gD a.l i).length = a.l.length /\ (∀ (i : Nat), i < (AE a.l.length λ (i : Nat) => gD a.l i).length -> (gD (AE a.l.length λ (i : Nat) => gD a.l i)
 i).lo = (gD a.l i).lo /\ (gD (AE a.l.length λ (i : Nat) => gD a.l i) i).hi = (gD a.l i).hi) /\ (AE a.l.length λ (i : Nat) => gD a.l i).length < 4611686018427387904 /\ True) /\ (a.l.all λ (x : Span) => IW x) =
 !decide (HI (λ (i : Nat) => !IW (gD (AE a.l.length λ (i : Nat) => gD a.l i) i)) (AE a.l.length λ (i : Nat) => gD a.l i).length 0 >= 0)) := by kernel_rfl
theorem CTF (a : MSa) (h : BC (PSa a)) : FnT Try.prog n_eS (C4Sa.xs a) (AG (C4Sa.L a)) (C4Sa.val a) (C4Sa.keep a) := UO (A := A4Sa) (ren := []) (fz := []) CTD (by kernel_rfl) (AC CZN AJ) (by
 have h' : a.l.length < 4611686018427387904 /\ True := h
 show V4Sa a; rw [CYK]; simp only [CC, eq_self, implies_true, forall_const, ge_iff_le]
 rw [<- dA]
 exact ⟨h'.1, rfl⟩)
theorem CYD : AM Try.prog n_eS (C4Sa.spec d4Sa) := Ctr.spec_ok (C := C4Sa) CTF _
def fvSn (q : One) : AVal := .fn (.func BMC) [] []
def BSn (q : One) : AObj := .box [fvSn q]
structure ESn where
 q : One
 e : Span
structure MSn where
 q : One
 l : List Span
def C1Sn : Ctr := { ro := [100], α := ESn, xs := λ a => [.d (CL a.e), .bptr 100 0], L := λ a => (100, BSn a.q) :: [], val := λ a => .bool (!IW a.e), keep := λ a => (100, .live (BSn a.q)) :: [] }
def d1Sn : List AVal -> Heap -> Option (ESn × List (Nat × Nat) × List Nat)
 | [.d d, .bptr id _], H => some (⟨default, LI d⟩, [(100, id)], [])
 | _, _ => none
def A1Sn : Ann := { ann 8 [(BMC, BRX)] with E := [100] }
def V1Sn (a : ESn) : Prop := AZ Try.prog A1Sn BYD (AL BYD) (C1Sn.xs a) (AG (C1Sn.L a)) (C1Sn.val a) (C1Sn.keep a) [] []
theorem CXW (a : ESn) : (V1Sn a) = ((!IW a.e) = !IW a.e) := by kernel_rfl
theorem CZW : AM Try.prog tO (C1Sn.spec d1Sn) := LF C1Sn (λ _ => A1Sn) [] [] CKH (λ _ => by kernel_rfl) (λ _ => AC CQC AJ) (λ (a : ESn) h => by
 show V1Sn a; rw [CXW]; try simp [wr, HW]) (λ _ => NP rfl rfl) _
def d2Sn : List AVal -> Heap -> Option (MSn × List (Nat × Nat) × List Nat)
 | [y, .fn _ _ [.bptr id _]], H => match wI y H with
  | some (n, g, f) => some (⟨default, AE n λ i => LI (g i)⟩, [(100, id)], f)
  | none => none
 | _, _ => none
def A2Sn (a : MSn) : Ann := { ann 19 [(tO, C1Sn.spec d1Sn)] with E := [100], loops := λ id => if id = 2 then some [{ α := Nat, dflt := 0, T := λ k => ⟨[(0, .d (AX a.l)), (1, .fn (.func tO) [] [.bptr 100 0]), (7, .int a.l.length), (8, .int k)], (100, .live (BSn a.q)) :: []⟩, inv := λ k => k <= a.l.length /\ HI (λ i => !IW (gD a.l i)) a.l.length 0 = HI (λ i => !IW (gD a.l i)) (a.l.length - k) k, meas := λ k => a.l.length - k }] else none }
def PSn (a : MSn) : List Prop := [a.l.length < 4611686018427387904 /\ True]
def C2Sn : Ctr := { ro := [100], α := MSn, xs := λ a => [.d (AX a.l), .fn (.func tO) [] [.bptr 100 0]], L := λ a => (100, BSn a.q) :: [], val := λ a => .int (HI (λ i => !IW (gD a.l i)) a.l.length 0), keep := λ a => (100, .live (BSn a.q)) :: [], pre := PSn }
def V2Sn (a : MSn) : Prop := AZ Try.prog (A2Sn a) BXS (AL BXS) (C2Sn.xs a) (AG (C2Sn.L a)) (C2Sn.val a) (C2Sn.keep a) [] []
theorem DAF (a : MSn) : (V2Sn a) = ((∃ (a_1 : Nat), (a.l.length = a.l.length /\ (∀ (i : Nat), i < a.l.length -> (gD a.l i).lo = (gD a.l i).lo /\ (gD a.l i).hi = (gD a.l i).hi) /\ (↑a.l.length : Int) = (↑a.l.length : Int) /\
 (↑a_1 : Int) = 0) /\ a_1 <= a.l.length /\ HI (λ (i : Nat) => !IW (gD a.l i)) a.l.length 0 = HI (λ (i : Nat) => !IW (gD a.l i)) (a.l.length - a_1) a_1) /\ ∀ (a_1 : Nat), a_1 <= a.l.length /\ HI (λ (i : Nat) => !IW
 (gD a.l i)) a.l.length 0 = HI (λ (i : Nat) => !IW (gD a.l i)) (a.l.length - a_1) a_1 -> bif decide ((↑a_1 : Int) < (↑a.l.length : Int)) then ((0 <= (↑a_1 : Int) /\ (↑a_1 : Int) < (↑a.l.length : Int)) /\ (gD a.l a_1).lo =
 (gD a.l a_1).lo /\ (gD a.l a_1).hi = (gD a.l a_1).hi) /\ bif !IW (gD a.l a_1) then HI (λ (i : Nat) => !IW (gD a.l i)) a.l.length 0 = (↑a_1 : Int) else ∃ (a_3 : Nat), (a.l.length = a.l.length /\ (∀ (i : Nat), i <
 a.l.length -> (gD a.l i).lo = (gD a.l i).lo /\ (gD a.l i).hi = (gD a.l i).hi) /\ (↑a.l.length : Int) = (↑a.l.length : Int) /\ (↑a_3 : Int) = IntKind.i64.wrap ((↑a_1 : Int) + 1)) /\ (a_3 <= a.l.length /\ HI (λ (i : Nat) =>
 !IW (gD a.l i)) a.l.length 0 = HI (λ (i : Nat) => !IW (gD a.l i)) (a.l.length - a_3) a_3) /\ a.l.length - a_3 < a.l.length - a_1 else HI (λ (i : Nat) => !IW (gD a.l i)) a.l.length 0 = -1) := by kernel_rfl
theorem p2Sn (a : MSn) (h : BC (PSn a)) : V2Sn a := by
 obtain ⟨h, hp⟩ : a.l.length < 4611686018427387904 /\ True := h
 rw [DAF]
 simp only [CC, eq_self, implies_true, forall_const]
 refine ⟨⟨0, rfl, Nat.zero_le _, rfl⟩, λ k ⟨h1, h2⟩ => ⟨λ hlt => ?_, λ hge => ?_⟩⟩
 ·have hlt : k < a.l.length := by omega
  refine ⟨⟨by omega, by omega⟩, λ hp => ?_, λ hp => ⟨k + 1, (GE (by omega)).symm, ⟨by omega, ?_⟩, by omega⟩⟩
  ·rw [h2]; exact Jf hlt (by simpa using hp)
  ·rw [h2]; exact AWD hlt (by simpa using hp)
 ·rw [h2]; exact zL (by omega)
theorem CZJ : AM Try.prog BWI (C2Sn.spec d2Sn) := LF C2Sn A2Sn [] [] CKB (λ _ => by kernel_rfl) (λ _ => AC CZW AJ) p2Sn (λ _ => NP rfl rfl) _
def C3Sn : Ctr := { C2Sn with val := λ (a : MSn) => .bool (decide (HI (λ i => !IW (gD a.l i)) a.l.length 0 >= 0)) }
def d3Sn : List AVal -> Heap -> Option (C3Sn.α × List (Nat × Nat) × List Nat) := d2Sn
def A3Sn : Ann := { ann 9 [(BWI, C2Sn.spec d2Sn)] with E := [100] }
def V3Sn (a : MSn) : Prop := AZ Try.prog A3Sn BXU (AL BXU) (C3Sn.xs a) (AG (C3Sn.L a)) (C3Sn.val a) (C3Sn.keep a) [] []
theorem DAW (a : MSn) : (V3Sn a) = (((AE a.l.length λ (i : Nat) => gD a.l i).length = a.l.length /\ (∀ (i : Nat), i < (AE a.l.length λ (i : Nat) => gD a.l i).length -> (gD (AE a.l.length λ (i : Nat) => gD a.l i)
 i).lo = (gD a.l i).lo /\ (gD (AE a.l.length λ (i : Nat) => gD a.l i) i).hi = (gD a.l i).hi) /\ (AE a.l.length λ (i : Nat) => gD a.l i).length < 4611686018427387904 /\ True) /\ decide (HI (λ (i : Nat) => !IW (gD a.l
 i)) a.l.length 0 >= 0) = decide (HI (λ (i : Nat) => !IW (gD (AE a.l.length λ (i : Nat) => gD a.l i) i)) (AE a.l.length λ (i : Nat) => gD a.l i).length 0 >= 0)) := by kernel_rfl
theorem CXY : AM Try.prog BWJ (C3Sn.spec d3Sn) := Ctr.spec_ok (C := C3Sn) (λ (a : MSn) h => UO (A := A3Sn) (ren := []) (fz := []) CNA (by kernel_rfl) (AC CZJ AJ) (by
 obtain ⟨h, hp⟩ : a.l.length < 4611686018427387904 /\ True := h
 show V3Sn a; rw [DAW]; simp [h, HW])) _
def A4Sn : Ann := { ann 9 [(BWJ, C3Sn.spec d3Sn)] with E := [] }
def C4Sn : Ctr := { ro := [], α := MSn, xs := λ a => [.d (AX a.l), fvSn a.q], L := λ a => [], val := λ a => .bool (a.l.all λ x => IW x), keep := λ a => [], pre := PSn }
def V4Sn (a : MSn) : Prop := AZ Try.prog A4Sn F_eS (AL F_eS) (C4Sn.xs a) (AG (C4Sn.L a)) (C4Sn.val a) (C4Sn.keep a) [] []
theorem DAS (a : MSn) : (V4Sn a) = (((AE a.l.length λ (i : Nat) => gD a.l i).length = a.l.length /\ (∀ (i : Nat), i < (AE a.l.length λ (i : Nat) => gD a.l i).length -> (gD (AE a.l.length λ (i : Nat) => gD a.l i)
 i).lo = (gD a.l i).lo /\ (gD (AE a.l.length λ (i : Nat) => gD a.l i) i).hi = (gD a.l i).hi) /\ (AE a.l.length λ (i : Nat) => gD a.l i).length < 4611686018427387904 /\ True) /\ (a.l.all λ (x : Span) => IW x) =
 !decide (HI (λ (i : Nat) => !IW (gD (AE a.l.length λ (i : Nat) => gD a.l i) i)) (AE a.l.length λ (i : Nat) => gD a.l i).length 0 >= 0)) := by kernel_rfl
theorem CYO (a : MSn) (h : BC (PSn a)) : FnT Try.prog n_eS (C4Sn.xs a) (AG (C4Sn.L a)) (C4Sn.val a) (C4Sn.keep a) := UO (A := A4Sn) (ren := []) (fz := []) CTD (by kernel_rfl) (AC CXY AJ) (by
 have h' : a.l.length < 4611686018427387904 /\ True := h
 show V4Sn a; rw [DAS]; simp only [CC, eq_self, implies_true, forall_const, ge_iff_le]
 rw [<- dA]
 exact ⟨h'.1, rfl⟩)
structure N2 where
 q : Nt
 e : Nt
def ntB (q : Nt) : AObj := .box [.int q.mi, .int q.t.lo, .int q.t.hi, .int q.s.lo, .int q.s.hi]
def CHJ (H : Heap) (id : Nat) : Option Nt := match H id with
 | .live (.box [.d a, .d b, .d c, .d d, .d e]) => some ⟨CK a, ⟨CK b, CK c⟩, ⟨CK d, CK e⟩⟩
 | _ => none
def C_ck2 : Ctr := { ro := [100], α := N2, xs := λ a => [.d (eNt a.e), .bptr 100 0], L := λ a => [(100, ntB a.q)], val := λ a => .bool (a.e.mi == a.q.mi), keep := λ a => [(100, .live (ntB a.q))] }
def CUQ : List AVal -> Heap -> Option (N2 × List (Nat × Nat) × List Nat)
 | [.d d, .bptr id _], H => match CHJ H id with
  | some q => some (⟨q, dNt d⟩, [(100, id)], [])
  | none => none
 | _, _ => none
def CTK : Ann := { ann 9 [] with E := [100] }
def CUI (a : N2) : Prop := AZ Try.prog CTK AVM (AL AVM) (C_ck2.xs a) (AG (C_ck2.L a)) (C_ck2.val a) (C_ck2.keep a) [] []
theorem CWP (a : N2) : (CUI a) = ((a.e.mi == a.q.mi) = (a.e.mi == a.q.mi) /\ a.q.mi = a.q.mi /\ a.q.t.lo = a.q.t.lo /\ a.q.t.hi = a.q.t.hi /\ a.q.s.lo = a.q.s.lo /\ a.q.s.hi = a.q.s.hi) := by kernel_rfl
theorem CXS : AM Try.prog Ub (C_ck2.spec CUQ) := LF C_ck2 (λ _ => CTK) [] [] CFV (λ _ => by kernel_rfl) (λ _ => AJ) (λ (a : N2) _ => by
 show CUI a; rw [CWP]; try simp) (λ _ => NP rfl rfl) _
structure MNc where
 q : Nt
 l : List Nt
def d2Nc : List AVal -> Heap -> Option (MNc × List (Nat × Nat) × List Nat)
 | [y, .fn _ _ [.bptr id _]], H => match wI y H with
  | some (n, g, f) => match CHJ H id with
   | some q => some (⟨q, AE n λ i => dNt (g i)⟩, [(100, id)], f)
   | none => none
  | none => none
 | _, _ => none
def A2Nc (a : MNc) : Ann := { ann 19 [(Ub, C_ck2.spec CUQ)] with E := [100], loops := λ id => if id = 2 then some [{ α := Nat, dflt := 0, T := λ k => ⟨[(0, .d (W0 a.l)), (1, .fn (.func Ub) [] [.bptr 100 0]), (7, .int a.l.length), (8, .int k)], [(100, .live (ntB a.q))]⟩, inv := λ k => k <= a.l.length /\ HI (λ i => (gD a.l i).mi == a.q.mi) a.l.length 0 = HI (λ i => (gD a.l i).mi == a.q.mi) (a.l.length - k) k, meas := λ k => a.l.length - k }] else none }
def C2Nc : Ctr := { ro := [100], α := MNc, xs := λ a => [.d (W0 a.l), .fn (.func Ub) [] [.bptr 100 0]], L := λ a => [(100, ntB a.q)], val := λ a => .int (HI (λ i => (gD a.l i).mi == a.q.mi) a.l.length 0), keep := λ a => [(100, .live (ntB a.q))], pre := λ a => [a.l.length < 4611686018427387904 /\ True] }
def V2Nc (a : MNc) : Prop := AZ Try.prog (A2Nc a) BXW (AL BXW) (C2Nc.xs a) (AG (C2Nc.L a)) (C2Nc.val a) (C2Nc.keep a) [] []
theorem CZL (a : MNc) : (V2Nc a) = ((∃ (a_1 : Nat), (a.l.length = a.l.length /\ (∀ (i : Nat), i < a.l.length -> (gD a.l i).mi = (gD a.l i).mi /\ (gD a.l i).t.lo = (gD a.l i).t.lo /\ (gD a.l i).t.hi = (gD a.l i).t.hi /\ (gD
 a.l i).s.lo = (gD a.l i).s.lo /\ (gD a.l i).s.hi = (gD a.l i).s.hi) /\ (↑a.l.length : Int) = (↑a.l.length : Int) /\ (↑a_1 : Int) = 0 /\ a.q.mi = a.q.mi /\ a.q.t.lo = a.q.t.lo /\ a.q.t.hi = a.q.t.hi /\ a.q.s.lo = a.q.s.lo /\
 a.q.s.hi = a.q.s.hi) /\ a_1 <= a.l.length /\ HI (λ (i : Nat) => (gD a.l i).mi == a.q.mi) a.l.length 0 = HI (λ (i : Nat) => (gD a.l i).mi == a.q.mi) (a.l.length - a_1) a_1) /\ ∀ (a_1 : Nat), a_1 <= a.l.length /\ HI (fun
 (i : Nat) => (gD a.l i).mi == a.q.mi) a.l.length 0 = HI (λ (i : Nat) => (gD a.l i).mi == a.q.mi) (a.l.length - a_1) a_1 -> bif decide ((↑a_1 : Int) < (↑a.l.length : Int)) then ((0 <= (↑a_1 : Int) /\ (↑a_1 : Int) <
 (↑a.l.length : Int)) /\ (gD a.l a_1).mi = (gD a.l a_1).mi /\ (gD a.l a_1).t.lo = (gD a.l a_1).t.lo /\ (gD a.l a_1).t.hi = (gD a.l a_1).t.hi /\ (gD a.l a_1).s.lo = (gD a.l a_1).s.lo /\ (gD a.l a_1).s.hi = (gD a.l a_1).s.hi /\
 a.q.mi = a.q.mi /\ a.q.t.lo = a.q.t.lo /\ a.q.t.hi = a.q.t.hi /\ a.q.s.lo = a.q.s.lo /\ a.q.s.hi = a.q.s.hi /\ a.q.mi = a.q.mi /\ a.q.t.lo = a.q.t.lo /\ a.q.t.hi = a.q.t.hi /\ a.q.s.lo = a.q.s.lo /\ a.q.s.hi = a.q.s.hi) /\ bif (gD
 a.l a_1).mi == a.q.mi then HI (λ (i : Nat) => (gD a.l i).mi == a.q.mi) a.l.length 0 = (↑a_1 : Int) /\ a.q.mi = a.q.mi /\ a.q.t.lo = a.q.t.lo /\ a.q.t.hi = a.q.t.hi /\ a.q.s.lo = a.q.s.lo /\ a.q.s.hi = a.q.s.hi else ∃ (a_3
 : Nat), (a.l.length = a.l.length /\ (∀ (i : Nat), i < a.l.length -> (gD a.l i).mi = (gD a.l i).mi /\ (gD a.l i).t.lo = (gD a.l i).t.lo /\ (gD a.l i).t.hi = (gD a.l i).t.hi /\ (gD a.l i).s.lo = (gD a.l i).s.lo /\ (gD a.l
 i).s.hi = (gD a.l i).s.hi) /\ (↑a.l.length : Int) = (↑a.l.length : Int) /\ (↑a_3 : Int) = IntKind.i64.wrap ((↑a_1 : Int) + 1) /\ a.q.mi = a.q.mi /\ a.q.t.lo = a.q.t.lo /\ a.q.t.hi = a.q.t.hi /\ a.q.s.lo = a.q.s.lo /\ a.q.s.hi =
 a.q.s.hi) /\ (a_3 <= a.l.length /\ HI (λ (i : Nat) => (gD a.l i).mi == a.q.mi) a.l.length 0 = HI (λ (i : Nat) => (gD a.l i).mi == a.q.mi) (a.l.length - a_3) a_3) /\ a.l.length - a_3 < a.l.length - a_1 else HI (λ (i
 : Nat) => (gD a.l i).mi == a.q.mi) a.l.length 0 = -1 /\ a.q.mi = a.q.mi /\ a.q.t.lo = a.q.t.lo /\ a.q.t.hi = a.q.t.hi /\ a.q.s.lo = a.q.s.lo /\ a.q.s.hi = a.q.s.hi) := by kernel_rfl
theorem p2Nc (a : MNc) (h : BC (C2Nc.pre a)) : V2Nc a := by
 obtain ⟨h, hp⟩ : a.l.length < 4611686018427387904 /\ True := h
 rw [CZL]
 simp only [CC, eq_self, implies_true, forall_const]
 refine ⟨⟨0, rfl, Nat.zero_le _, rfl⟩, λ k ⟨h1, h2⟩ => ⟨λ hlt => ?_, λ hge => ?_⟩⟩
 ·have hlt : k < a.l.length := by omega
  refine ⟨⟨by omega, by omega⟩, λ hp => ?_, λ hp => ⟨k + 1, (GE (by omega)).symm, ⟨by omega, ?_⟩, by omega⟩⟩
  ·rw [h2]; exact Jf hlt (by simpa using hp)
  ·rw [h2]; exact AWD hlt (by simpa using hp)
 ·rw [h2]; exact zL (by omega)
theorem CZY : AM Try.prog BWN (C2Nc.spec d2Nc) := LF C2Nc A2Nc [] [] CNW (λ _ => by kernel_rfl) (λ _ => AC CXS AJ) p2Nc (λ _ => NP rfl rfl) _
def C3Nc : Ctr := { C2Nc with val := λ (a : MNc) => .bool (a.l.any λ x => x.mi == a.q.mi) }
def d3Nc : List AVal -> Heap -> Option (C3Nc.α × List (Nat × Nat) × List Nat) := d2Nc
def A3Nc : Ann := { ann 9 [(BWN, C2Nc.spec d2Nc)] with E := [100] }
def V3Nc (a : MNc) : Prop := AZ Try.prog A3Nc BWR (AL BWR) (C3Nc.xs a) (AG (C3Nc.L a)) (C3Nc.val a) (C3Nc.keep a) [] []
theorem CZX (a : MNc) : (V3Nc a) = (((AE a.l.length λ (i : Nat) => gD a.l i).length = a.l.length /\ (∀ (i : Nat), i < (AE a.l.length λ (i : Nat) => gD a.l i).length -> (gD (AE a.l.length λ (i : Nat) => gD a.l i)
 i).mi = (gD a.l i).mi /\ (gD (AE a.l.length λ (i : Nat) => gD a.l i) i).t.lo = (gD a.l i).t.lo /\ (gD (AE a.l.length λ (i : Nat) => gD a.l i) i).t.hi = (gD a.l i).t.hi /\ (gD (AE a.l.length λ (i : Nat) => gD a.l i)
 i).s.lo = (gD a.l i).s.lo /\ (gD (AE a.l.length λ (i : Nat) => gD a.l i) i).s.hi = (gD a.l i).s.hi) /\ a.q.mi = a.q.mi /\ a.q.t.lo = a.q.t.lo /\ a.q.t.hi = a.q.t.hi /\ a.q.s.lo = a.q.s.lo /\ a.q.s.hi = a.q.s.hi /\ a.q.mi =
 a.q.mi /\ a.q.t.lo = a.q.t.lo /\ a.q.t.hi = a.q.t.hi /\ a.q.s.lo = a.q.s.lo /\ a.q.s.hi = a.q.s.hi /\ (AE a.l.length λ (i : Nat) => gD a.l i).length < 4611686018427387904 /\ True) /\ (a.l.any λ (x : Nt) => x.mi == a.q.mi)
 = decide (HI (λ (i : Nat) => (gD (AE a.l.length λ (i : Nat) => gD a.l i) i).mi == a.q.mi) (AE a.l.length λ (i : Nat) => gD a.l i).length 0 >= 0) /\ a.q.mi = a.q.mi /\ a.q.t.lo = a.q.t.lo /\ a.q.t.hi = a.q.t.hi /\
 a.q.s.lo = a.q.s.lo /\ a.q.s.hi = a.q.s.hi) := by kernel_rfl
theorem CHC {α : Type} [Inhabited α] {p : α -> Bool} {l : List α} : decide (0 <= HI (λ i => p (gD l i)) l.length 0) = l.any p := by
 rw [Bool.eq_iff_iff, decide_eq_true_eq, CAW, List.any_eq_true]
 exact ⟨λ ⟨i, _, h1, h2⟩ => ⟨gD l i, NB (by omega), h2⟩, λ ⟨x, hx, h2⟩ => by obtain ⟨i, hi, rfl⟩ := PE hx; exact ⟨i, Nat.zero_le _, by omega, h2⟩⟩
theorem CZE : AM Try.prog BWU (C3Nc.spec d3Nc) := Ctr.spec_ok (C := C3Nc) (λ (a : MNc) h => UO (A := A3Nc) (ren := []) (fz := []) CJZ (by kernel_rfl) (AC CZY AJ) (by
 obtain ⟨h, hp⟩ : a.l.length < 4611686018427387904 /\ True := h
 show V3Nc a; rw [CZX]; simp only [CC, eq_self, implies_true, forall_const, ge_iff_le]
 rw [<- CHC]
 simp [h, HW])) _
end Go.Bal
