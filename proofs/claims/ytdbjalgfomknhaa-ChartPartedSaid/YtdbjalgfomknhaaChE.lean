/- Package chart: every. Printed by gench.py. -/
import Derived.Test.YtdbjalgfomknhaaChA
set_option linter.unusedVariables false
set_option linter.unusedSimpArgs false
namespace Go.Bal
open Go Go.Sym Go.Proofs
def tS (p : Nat -> Bool) : Nat -> Bool
 | 0 => true
 | n + 1 => tS p n && p n
theorem Bv {p : Nat -> Bool} : ∀ {n : Nat}, tS p n = true ↔ ∀ i, i < n -> p i = true
 | 0 => by simp [tS]
 | n + 1 => by
  simp only [tS, Bool.and_eq_true, Bv (n := n)]
  constructor
  ·intro h i hi
   by_cases he : i = n
   ·subst he; exact h.2
   ·exact h.1 i (by omega)
  ·exact λ h => ⟨λ i hi => h i (by omega), h n (by omega)⟩
theorem CBN {p : Nat -> Bool} : ∀ {n k : Nat}, (0 <= HH p n k) ↔ ∃ i, k <= i /\ i < k + n /\ p i = true
 | 0, k => by simp [HH]; omega
 | n + 1, k => by
  simp only [HH]
  by_cases h : p k = true
  ·rw [if_pos h]
   constructor
   ·intro _; exact ⟨k, Nat.le_refl _, by omega, h⟩
   ·intro _; omega
  ·rw [if_neg h, CBN (n := n) (k := k + 1)]
   constructor
   ·rintro ⟨i, h1, h2, h3⟩; exact ⟨i, by omega, by omega, h3⟩
   ·rintro ⟨i, h1, h2, h3⟩
    refine ⟨i, ?_, by omega, h3⟩
    by_cases he : i = k
    ·subst he; exact absurd h3 h
    ·omega
theorem CIV {p : Nat -> Bool} {n : Nat} : (!decide (0 <= HH (λ i => !p i) n 0)) = tS p n := by
 rw [Bool.eq_iff_iff, Bv]
 simp only [Bool.not_eq_true', decide_eq_false_iff_not, CBN, Nat.zero_le, Nat.zero_add, true_and]
 constructor
 ·intro h i hi
  cases hp : p i with
  | true => rfl
  | false => exact (h ⟨i, hi, by simp [hp]⟩).elim
 ·rintro h ⟨i, hi, hp⟩
  rw [h i hi] at hp; cases hp
theorem Zu {α : Type} [Inhabited α] {p : α -> Bool} {l : List α} : (!decide (0 <= HH (λ i => !p (gD l i)) l.length 0)) = l.all p := by
 rw [CIV, Bool.eq_iff_iff, Bv, List.all_eq_true]
 exact ⟨λ h x hx => by obtain ⟨i, hi, rfl⟩ := PN hx; exact h i hi, λ h i hi => h _ (LZ hi)⟩
def chB (c : Cht) : AObj := .box [.int c.p.lo, .int c.p.hi, .int c.base, .int c.scale, .int c.off, .d (eMks c.ms), .d (eNts c.ns)]
def SM (H : Heap) (id : Nat) : Option Cht := match H id with
 | .live (.box [.d a, .d b, .d c, .d d, .d e, .d (.list _ n f _), .d (.list _ m g _)]) => some ⟨⟨CL a, CL b⟩, CL c, CL d, CL e, AE n λ i => dMk (f i), AE m λ i => dNt (g i)⟩
 | _ => none
structure ChN where
 q : Cht
 e : Nt
def C_ck1 : Ctr := { ro := [101], α := ChN, xs := λ a => [.d (eNt a.e), .bptr 101 0], L := λ a => [(101, chB a.q)], val := λ a => .bool (CO a.e a.q.ms.length), keep := λ a => [(101, .live (chB a.q))] }
def CUY : List AVal -> Heap -> Option (ChN × List (Nat × Nat) × List Nat)
 | [.d d, .bptr id _], H => match SM H id with
  | some q => some (⟨q, dNt d⟩, [(101, id)], [])
  | none => none
 | _, _ => none
def CSI : Ann := { ann 9 [(BRS, CFM)] with E := [101] }
def CSP (a : ChN) : Prop := BB Try.prog CSI ASW (AL ASW) (C_ck1.xs a) (AG (C_ck1.L a)) (C_ck1.val a) (C_ck1.keep a) [] []
theorem CWT (a : ChN) : (CSP a) = (CO a.e (↑a.q.ms.length : Int) = CO (Nt.mk a.e.mi a.e.t a.e.s) (↑a.q.ms.length : Int) /\ a.q.p.lo = a.q.p.lo /\ a.q.p.hi = a.q.p.hi /\ a.q.base = a.q.base /\ a.q.scale =
 a.q.scale /\ a.q.off = a.q.off /\ a.q.ms.length = a.q.ms.length /\ (∀ (i : Nat), i < a.q.ms.length -> (gD a.q.ms i).pl = (gD a.q.ms i).pl /\ (gD a.q.ms i).ht = (gD a.q.ms i).ht) /\ a.q.ns.length = a.q.ns.length /\ ∀ (i : Nat),
 i < a.q.ns.length -> (gD a.q.ns i).mi = (gD a.q.ns i).mi /\ (gD a.q.ns i).t.lo = (gD a.q.ns i).t.lo /\ (gD a.q.ns i).t.hi = (gD a.q.ns i).t.hi /\ (gD a.q.ns i).s.lo = (gD a.q.ns i).s.lo /\ (gD a.q.ns i).s.hi = (gD a.q.ns
 i).s.hi) := by kernel_rfl
theorem CVX : AM Try.prog G1 (C_ck1.spec CUY) := LM C_ck1 (λ _ => CSI) [] [] CGC (λ _ => by kernel_rfl) (λ _ => AC CMV AJ) (λ (a : ChN) _ => by
 show CSP a; rw [CWT]; simp [wr, HN]) (λ _ => OA rfl rfl) _
def JB (s : Span) : Bool := decide (s.lo <= s.hi)
def CJI (x : Span) : Prop := BB Try.prog (ann 8 []) CCM (AL CCM) (xS1 x) (AG []) (.bool (JB x)) [] [] []
theorem CPY (x : Span) : (CJI x) = (JB x = decide (x.lo <= x.hi)) := by kernel_rfl
def BLL := pD dS1 λ x => .bool (JB x)
theorem CPN : AM Try.prog BPT BLL := WW xS1 hS1 λ x _ => UV (A := ann 8 []) (ren := []) (fz := []) CQW (by kernel_rfl) AJ (by
 show CJI x; rw [CPY]; try simp [JB])
def COF (x : Span) : Prop := BB Try.prog (ann 8 []) BZB (AL BZB) (xS1 x) (AG []) (.bool (JB x)) [] [] []
theorem COW (x : Span) : (COF x) = (JB x = decide (x.lo <= x.hi)) := by kernel_rfl
theorem COV : AM Try.prog BMP BLL := WW xS1 hS1 λ x _ => UV (A := ann 8 []) (ren := []) (fz := []) CPZ (by kernel_rfl) AJ (by
 show COF x; rw [COW]; try simp [JB])
def LXNr (q : Cht) : List (Nat × AObj) := [(101, chB q)]
def KXNr (q : Cht) : List (Nat × HCell) := [(101, .live (chB q))]
def fvNr (q : Cht) : AVal := .fn (.func G1) [] [.bptr 101 0]
def BNr (q : Cht) : AObj := .box [fvNr q]
structure ENr where
 q : Cht
 e : Nt
structure MNr where
 q : Cht
 l : List Nt
def C1Nr : Ctr := { ro := [100, 101], α := ENr, xs := λ a => [.d (eNt a.e), .bptr 100 0], L := λ a => (100, BNr a.q) :: LXNr a.q, val := λ a => .bool (!CO a.e a.q.ms.length), keep := λ a => (100, .live (BNr a.q)) :: KXNr a.q }
def d1Nr : List AVal -> Heap -> Option (ENr × List (Nat × Nat) × List Nat)
 | [.d d, .bptr id _], H => match H id with
  | .live (.box [.fn _ _ [.bptr j _]]) => match SM H j with
   | some q => some (⟨q, dNt d⟩, [(100, id), (101, j)], [])
   | none => none
  | _ => none
 | _, _ => none
def A1Nr : Ann := { ann 8 [(G1, C_ck1.spec CUY)] with E := [100, 101] }
def V1Nr (a : ENr) : Prop := BB Try.prog A1Nr CIZ (AL CIZ) (C1Nr.xs a) (AG (C1Nr.L a)) (C1Nr.val a) (C1Nr.keep a) [] []
theorem DAE (a : ENr) : (V1Nr a) = ((a.e.mi = a.e.mi /\ a.e.t.lo = a.e.t.lo /\ a.e.t.hi = a.e.t.hi /\ a.e.s.lo = a.e.s.lo /\ a.e.s.hi = a.e.s.hi /\ a.q.p.lo = a.q.p.lo /\ a.q.p.hi = a.q.p.hi /\ a.q.base = a.q.base /\ a.q.scale
 = a.q.scale /\ a.q.off = a.q.off /\ (AE a.q.ms.length λ (i : Nat) => gD a.q.ms i).length = a.q.ms.length /\ (∀ (i : Nat), i < (AE a.q.ms.length λ (i : Nat) => gD a.q.ms i).length -> (gD (AE a.q.ms.length λ (i : Nat)
 => gD a.q.ms i) i).pl = (gD a.q.ms i).pl /\ (gD (AE a.q.ms.length λ (i : Nat) => gD a.q.ms i) i).ht = (gD a.q.ms i).ht) /\ (AE a.q.ns.length λ (i : Nat) => gD a.q.ns i).length = a.q.ns.length /\ (∀ (i : Nat), i < (AE
 a.q.ns.length λ (i : Nat) => gD a.q.ns i).length -> (gD (AE a.q.ns.length λ (i : Nat) => gD a.q.ns i) i).mi = (gD a.q.ns i).mi /\ (gD (AE a.q.ns.length λ (i : Nat) => gD a.q.ns i) i).t.lo = (gD a.q.ns i).t.lo /\ (gD
 (AE a.q.ns.length λ (i : Nat) => gD a.q.ns i) i).t.hi = (gD a.q.ns i).t.hi /\ (gD (AE a.q.ns.length λ (i : Nat) => gD a.q.ns i) i).s.lo = (gD a.q.ns i).s.lo /\ (gD (AE a.q.ns.length λ (i : Nat) => gD a.q.ns i)
 i).s.hi = (gD a.q.ns i).s.hi) /\ a.q.p.lo = a.q.p.lo /\ a.q.p.hi = a.q.p.hi /\ a.q.base = a.q.base /\ a.q.scale = a.q.scale /\ a.q.off = a.q.off /\ a.q.ms.length = (AE a.q.ms.length λ (i : Nat) => gD a.q.ms i).length /\ (∀
 (i : Nat), i < a.q.ms.length -> (gD a.q.ms i).pl = (gD (AE a.q.ms.length λ (i : Nat) => gD a.q.ms i) i).pl /\ (gD a.q.ms i).ht = (gD (AE a.q.ms.length λ (i : Nat) => gD a.q.ms i) i).ht) /\ a.q.ns.length = (AE
 a.q.ns.length λ (i : Nat) => gD a.q.ns i).length /\ ∀ (i : Nat), i < a.q.ns.length -> (gD a.q.ns i).mi = (gD (AE a.q.ns.length λ (i : Nat) => gD a.q.ns i) i).mi /\ (gD a.q.ns i).t.lo = (gD (AE a.q.ns.length λ (i :
 Nat) => gD a.q.ns i) i).t.lo /\ (gD a.q.ns i).t.hi = (gD (AE a.q.ns.length λ (i : Nat) => gD a.q.ns i) i).t.hi /\ (gD a.q.ns i).s.lo = (gD (AE a.q.ns.length λ (i : Nat) => gD a.q.ns i) i).s.lo /\ (gD a.q.ns i).s.hi =
 (gD (AE a.q.ns.length λ (i : Nat) => gD a.q.ns i) i).s.hi) /\ (!CO a.e (↑a.q.ms.length : Int)) = !CO (Nt.mk a.e.mi a.e.t a.e.s) (↑(AE a.q.ms.length λ (i : Nat) => gD a.q.ms i).length : Int) /\ a.q.p.lo =
 a.q.p.lo /\ a.q.p.hi = a.q.p.hi /\ a.q.base = a.q.base /\ a.q.scale = a.q.scale /\ a.q.off = a.q.off /\ a.q.ms.length = a.q.ms.length /\ (∀ (i : Nat), i < a.q.ms.length -> (gD a.q.ms i).pl = (gD a.q.ms i).pl /\ (gD a.q.ms i).ht
 = (gD a.q.ms i).ht) /\ a.q.ns.length = a.q.ns.length /\ ∀ (i : Nat), i < a.q.ns.length -> (gD a.q.ns i).mi = (gD a.q.ns i).mi /\ (gD a.q.ns i).t.lo = (gD a.q.ns i).t.lo /\ (gD a.q.ns i).t.hi = (gD a.q.ns i).t.hi /\ (gD a.q.ns
 i).s.lo = (gD a.q.ns i).s.lo /\ (gD a.q.ns i).s.hi = (gD a.q.ns i).s.hi) := by kernel_rfl
theorem DAR : AM Try.prog BWT (C1Nr.spec d1Nr) := LM C1Nr (λ _ => A1Nr) [] [] CWK (λ _ => by kernel_rfl) (λ _ => AC CVX AJ) (λ (a : ENr) h => by
 show V1Nr a; rw [DAE]; try simp [wr, HN]) (λ _ => OA rfl rfl) _
def d2Nr : List AVal -> Heap -> Option (MNr × List (Nat × Nat) × List Nat)
 | [y, .fn _ _ [.bptr id _]], H => match yW y H with
  | some (n, g, f) => match H id with
   | .live (.box [.fn _ _ [.bptr j _]]) => match SM H j with
    | some q => some (⟨q, AE n λ i => dNt (g i)⟩, [(100, id), (101, j)], f)
    | none => none
   | _ => none
  | none => none
 | _, _ => none
def A2Nr (a : MNr) : Ann := { ann 19 [(BWT, C1Nr.spec d1Nr)] with E := [100, 101], loops := λ id => if id = 2 then some [{ α := Nat, dflt := 0, T := λ k => ⟨[(0, .d (eNts a.l)), (1, .fn (.func BWT) [] [.bptr 100 0]), (7, .int a.l.length), (8, .int k)], (100, .live (BNr a.q)) :: KXNr a.q⟩, inv := λ k => k <= a.l.length /\ HH (λ i => !CO (gD a.l i) a.q.ms.length) a.l.length 0 = HH (λ i => !CO (gD a.l i) a.q.ms.length) (a.l.length - k) k, meas := λ k => a.l.length - k }] else none }
def PNr (a : MNr) : List Prop := [a.l.length < 4611686018427387904 /\ True]
def C2Nr : Ctr := { ro := [100, 101], α := MNr, xs := λ a => [.d (eNts a.l), .fn (.func BWT) [] [.bptr 100 0]], L := λ a => (100, BNr a.q) :: LXNr a.q, val := λ a => .int (HH (λ i => !CO (gD a.l i) a.q.ms.length) a.l.length 0), keep := λ a => (100, .live (BNr a.q)) :: KXNr a.q, pre := PNr }
def V2Nr (a : MNr) : Prop := BB Try.prog (A2Nr a) BWU (AL BWU) (C2Nr.xs a) (AG (C2Nr.L a)) (C2Nr.val a) (C2Nr.keep a) [] []
abbrev CBO (a : MNr) : Prop := a.l.length = a.l.length
abbrev CBH (a : MNr) (i : Nat) : Prop := (gD a.l i).mi = (gD a.l i).mi
abbrev CCF (a : MNr) (i : Nat) : Prop := (gD a.l i).t.lo = (gD a.l i).t.lo
abbrev CBD (a : MNr) (i : Nat) : Prop := (gD a.l i).t.hi = (gD a.l i).t.hi
abbrev CBS (a : MNr) (i : Nat) : Prop := (gD a.l i).s.lo = (gD a.l i).s.lo
abbrev BZY (a : MNr) (i : Nat) : Prop := (gD a.l i).s.hi = (gD a.l i).s.hi
abbrev CCQ (a : MNr) : Prop := ∀ (i : Nat), i < a.l.length -> CBH a i /\ CCF a i /\ CBD a i /\ CBS a i /\ BZY a i
abbrev BZO (a : MNr) : Prop := (↑a.l.length : Int) = (↑a.l.length : Int)
abbrev BOL (a : MNr) : Prop := a.q.p.lo = a.q.p.lo
abbrev BSS (a : MNr) : Prop := a.q.p.hi = a.q.p.hi
abbrev A6 (a : MNr) : Prop := BOL a /\ BSS a /\ a.q.base = a.q.base /\ a.q.scale = a.q.scale /\ a.q.off = a.q.off /\ a.q.ms.length = a.q.ms.length /\ (∀ (i : Nat), i < a.q.ms.length -> (gD a.q.ms i).pl = (gD a.q.ms
 i).pl /\ (gD a.q.ms i).ht = (gD a.q.ms i).ht) /\ a.q.ns.length = a.q.ns.length /\ ∀ (i : Nat), i < a.q.ns.length -> (gD a.q.ns i).mi = (gD a.q.ns i).mi /\ (gD a.q.ns i).t.lo = (gD a.q.ns i).t.lo /\ (gD a.q.ns i).t.hi = (gD
 a.q.ns i).t.hi /\ (gD a.q.ns i).s.lo = (gD a.q.ns i).s.lo /\ (gD a.q.ns i).s.hi = (gD a.q.ns i).s.hi
abbrev BUY (a : MNr) (i : Nat) : Bool := !CO (gD a.l i) (↑a.q.ms.length : Int)
abbrev ANM (a : MNr) : Int := HH (λ (i : Nat) => BUY a i) a.l.length 0
abbrev AMX (a : MNr) (a1 : Nat) : Nat := a.l.length - a1
abbrev AOX (a : Nat) (a1 : MNr) : Prop := a <= a1.l.length /\ ANM a1 = HH (λ (i : Nat) => BUY a1 i) (AMX a1 a) a
abbrev BMV (a : Nat) (a1 : MNr) : Prop := (↑a : Int) < (↑a1.l.length : Int)
abbrev BRV (a : MNr) : List Mk := AE a.q.ms.length λ (i : Nat) => gD a.q.ms i
abbrev xC (a : MNr) : Nat := (BRV a).length
abbrev BMO (a : MNr) (i : Nat) : Mk := gD (BRV a) i
abbrev BSR (a : MNr) (i : Nat) : Int := (BMO a i).pl
abbrev BVH (a : MNr) (i : Nat) : Int := (BMO a i).ht
abbrev BNI (a : MNr) : List Nt := AE a.q.ns.length λ (i : Nat) => gD a.q.ns i
abbrev AMY (a : MNr) : Nat := (BNI a).length
abbrev ANQ (a : MNr) (i : Nat) : Nt := gD (BNI a) i
abbrev BMT (a : MNr) (i : Nat) : Int := (ANQ a i).mi
abbrev BVX (a : MNr) (i : Nat) : Span := (ANQ a i).t
abbrev BQQ (a : MNr) (i : Nat) : Int := (BVX a i).lo
abbrev BUZ (a : MNr) (i : Nat) : Int := (BVX a i).hi
abbrev BTC (a : MNr) (i : Nat) : Span := (ANQ a i).s
abbrev BLM (a : MNr) (i : Nat) : Int := (BTC a i).lo
abbrev BQO (a : MNr) (i : Nat) : Int := (BTC a i).hi
theorem CZS (a : MNr) : (V2Nr a) = ((∃ (a_1 : Nat), (CBO a /\ CCQ a /\ BZO a /\ (↑a_1 : Int) = 0 /\ A6 a) /\ AOX a_1 a) /\ ∀ (a_1 : Nat), AOX a_1 a -> bif decide (BMV a_1 a) then ((0 <= (↑a_1 : Int) /\
 BMV a_1 a) /\ CBH a a_1 /\ CCF a a_1 /\ CBD a a_1 /\ CBS a a_1 /\ BZY a a_1 /\ BOL a /\ BSS a /\ a.q.base = a.q.base /\ a.q.scale = a.q.scale /\ a.q.off = a.q.off /\ xC a = a.q.ms.length /\ (∀ (i :
 Nat), i < xC a -> BSR a i = (gD a.q.ms i).pl /\ BVH a i = (gD a.q.ms i).ht) /\ AMY a = a.q.ns.length /\ (∀ (i : Nat), i < AMY a -> BMT a i = (gD a.q.ns i).mi /\ BQQ a i = (gD a.q.ns i).t.lo /\
 BUZ a i = (gD a.q.ns i).t.hi /\ BLM a i = (gD a.q.ns i).s.lo /\ BQO a i = (gD a.q.ns i).s.hi) /\ BOL a /\ BSS a /\ a.q.base = a.q.base /\ a.q.scale = a.q.scale /\ a.q.off = a.q.off /\ a.q.ms.length = xC a
 /\ (∀ (i : Nat), i < a.q.ms.length -> (gD a.q.ms i).pl = BSR a i /\ (gD a.q.ms i).ht = BVH a i) /\ a.q.ns.length = AMY a /\ ∀ (i : Nat), i < a.q.ns.length -> (gD a.q.ns i).mi = BMT a i /\ (gD a.q.ns i).t.lo =
 BQQ a i /\ (gD a.q.ns i).t.hi = BUZ a i /\ (gD a.q.ns i).s.lo = BLM a i /\ (gD a.q.ns i).s.hi = BQO a i) /\ bif !CO (Nt.mk (gD a.l a_1).mi (gD a.l a_1).t (gD a.l a_1).s) (↑(xC a) : Int) then ANM
 a = (↑a_1 : Int) /\ A6 a else ∃ (a_3 : Nat), (CBO a /\ CCQ a /\ BZO a /\ (↑a_3 : Int) = IntKind.i64.wrap ((↑a_1 : Int) + 1) /\ A6 a) /\ AOX a_3 a /\ AMX a a_3 < AMX a a_1 else ANM a = -1 /\
 A6 a) := by kernel_rfl
theorem p2Nr (a : MNr) (h : BA (PNr a)) : V2Nr a := by
 obtain ⟨h, hp⟩ : a.l.length < 4611686018427387904 /\ True := h
 rw [CZS]; delta CBO CBH CCF CBD CBS BZY CCQ BZO BOL BSS A6 BUY ANM AMX AOX BMV BRV xC BMO BSR BVH BNI AMY ANQ BMT BVX BQQ BUZ BTC BLM BQO
 simp only [CC, eq_self, implies_true, forall_const]
 refine ⟨⟨0, rfl, Nat.zero_le _, rfl⟩, λ k ⟨h1, h2⟩ => ⟨λ hlt => ?_, λ hge => ?_⟩⟩
 ·have hlt : k < a.l.length := by omega
  refine ⟨⟨by omega, by omega⟩, λ hp => ?_, λ hp => ⟨k + 1, (GK (by omega)).symm, ⟨by omega, ?_⟩, by omega⟩⟩
  ·rw [h2]; exact Pb hlt (by simpa using hp)
  ·rw [h2]; exact AZS hlt (by simpa using hp)
 ·rw [h2]; exact vE (by omega)
theorem DAD : AM Try.prog BXJ (C2Nr.spec d2Nr) := LM C2Nr A2Nr [] [] CIQ (λ _ => by kernel_rfl) (λ _ => AC DAR AJ) p2Nr (λ _ => OA rfl rfl) _
def C3Nr : Ctr := { C2Nr with val := λ (a : MNr) => .bool (decide (HH (λ i => !CO (gD a.l i) a.q.ms.length) a.l.length 0 >= 0)) }
def d3Nr : List AVal -> Heap -> Option (C3Nr.α × List (Nat × Nat) × List Nat) := d2Nr
def A3Nr : Ann := { ann 9 [(BXJ, C2Nr.spec d2Nr)] with E := [100, 101] }
def V3Nr (a : MNr) : Prop := BB Try.prog A3Nr BXA (AL BXA) (C3Nr.xs a) (AG (C3Nr.L a)) (C3Nr.val a) (C3Nr.keep a) [] []
theorem CYU (a : MNr) : (V3Nr a) = (((AE a.l.length λ (i : Nat) => gD a.l i).length = a.l.length /\ (∀ (i : Nat), i < (AE a.l.length λ (i : Nat) => gD a.l i).length -> (gD (AE a.l.length λ (i : Nat) => gD a.l i)
 i).mi = (gD a.l i).mi /\ (gD (AE a.l.length λ (i : Nat) => gD a.l i) i).t.lo = (gD a.l i).t.lo /\ (gD (AE a.l.length λ (i : Nat) => gD a.l i) i).t.hi = (gD a.l i).t.hi /\ (gD (AE a.l.length λ (i : Nat) => gD a.l i)
 i).s.lo = (gD a.l i).s.lo /\ (gD (AE a.l.length λ (i : Nat) => gD a.l i) i).s.hi = (gD a.l i).s.hi) /\ a.q.p.lo = a.q.p.lo /\ a.q.p.hi = a.q.p.hi /\ a.q.base = a.q.base /\ a.q.scale = a.q.scale /\ a.q.off = a.q.off /\ (AE
 a.q.ms.length λ (i : Nat) => gD a.q.ms i).length = a.q.ms.length /\ (∀ (i : Nat), i < (AE a.q.ms.length λ (i : Nat) => gD a.q.ms i).length -> (gD (AE a.q.ms.length λ (i : Nat) => gD a.q.ms i) i).pl = (gD a.q.ms
 i).pl /\ (gD (AE a.q.ms.length λ (i : Nat) => gD a.q.ms i) i).ht = (gD a.q.ms i).ht) /\ (AE a.q.ns.length λ (i : Nat) => gD a.q.ns i).length = a.q.ns.length /\ (∀ (i : Nat), i < (AE a.q.ns.length λ (i : Nat) => gD
 a.q.ns i).length -> (gD (AE a.q.ns.length λ (i : Nat) => gD a.q.ns i) i).mi = (gD a.q.ns i).mi /\ (gD (AE a.q.ns.length λ (i : Nat) => gD a.q.ns i) i).t.lo = (gD a.q.ns i).t.lo /\ (gD (AE a.q.ns.length λ (i : Nat)
 => gD a.q.ns i) i).t.hi = (gD a.q.ns i).t.hi /\ (gD (AE a.q.ns.length λ (i : Nat) => gD a.q.ns i) i).s.lo = (gD a.q.ns i).s.lo /\ (gD (AE a.q.ns.length λ (i : Nat) => gD a.q.ns i) i).s.hi = (gD a.q.ns i).s.hi) /\
 a.q.p.lo = a.q.p.lo /\ a.q.p.hi = a.q.p.hi /\ a.q.base = a.q.base /\ a.q.scale = a.q.scale /\ a.q.off = a.q.off /\ a.q.ms.length = (AE a.q.ms.length λ (i : Nat) => gD a.q.ms i).length /\ (∀ (i : Nat), i < a.q.ms.length ->
 (gD a.q.ms i).pl = (gD (AE a.q.ms.length λ (i : Nat) => gD a.q.ms i) i).pl /\ (gD a.q.ms i).ht = (gD (AE a.q.ms.length λ (i : Nat) => gD a.q.ms i) i).ht) /\ a.q.ns.length = (AE a.q.ns.length λ (i : Nat) => gD
 a.q.ns i).length /\ (∀ (i : Nat), i < a.q.ns.length -> (gD a.q.ns i).mi = (gD (AE a.q.ns.length λ (i : Nat) => gD a.q.ns i) i).mi /\ (gD a.q.ns i).t.lo = (gD (AE a.q.ns.length λ (i : Nat) => gD a.q.ns i) i).t.lo /\ (gD
 a.q.ns i).t.hi = (gD (AE a.q.ns.length λ (i : Nat) => gD a.q.ns i) i).t.hi /\ (gD a.q.ns i).s.lo = (gD (AE a.q.ns.length λ (i : Nat) => gD a.q.ns i) i).s.lo /\ (gD a.q.ns i).s.hi = (gD (AE a.q.ns.length λ (i :
 Nat) => gD a.q.ns i) i).s.hi) /\ (AE a.l.length λ (i : Nat) => gD a.l i).length < 4611686018427387904 /\ True) /\ decide (HH (λ (i : Nat) => !CO (gD a.l i) (↑a.q.ms.length : Int)) a.l.length 0 >= 0) = decide (HH
 (λ (i : Nat) => !CO (gD (AE a.l.length λ (i : Nat) => gD a.l i) i) (↑(AE a.q.ms.length λ (i : Nat) => gD a.q.ms i).length : Int)) (AE a.l.length λ (i : Nat) => gD a.l i).length 0 >= 0) /\ a.q.p.lo = a.q.p.lo
 /\ a.q.p.hi = a.q.p.hi /\ a.q.base = a.q.base /\ a.q.scale = a.q.scale /\ a.q.off = a.q.off /\ a.q.ms.length = a.q.ms.length /\ (∀ (i : Nat), i < a.q.ms.length -> (gD a.q.ms i).pl = (gD a.q.ms i).pl /\ (gD a.q.ms i).ht = (gD
 a.q.ms i).ht) /\ a.q.ns.length = a.q.ns.length /\ ∀ (i : Nat), i < a.q.ns.length -> (gD a.q.ns i).mi = (gD a.q.ns i).mi /\ (gD a.q.ns i).t.lo = (gD a.q.ns i).t.lo /\ (gD a.q.ns i).t.hi = (gD a.q.ns i).t.hi /\ (gD a.q.ns
 i).s.lo = (gD a.q.ns i).s.lo /\ (gD a.q.ns i).s.hi = (gD a.q.ns i).s.hi) := by kernel_rfl
theorem CZH : AM Try.prog BXZ (C3Nr.spec d3Nr) := Ctr.spec_ok (C := C3Nr) (λ (a : MNr) h => UV (A := A3Nr) (ren := []) (fz := []) CLX (by kernel_rfl) (AC DAD AJ) (by
 obtain ⟨h, hp⟩ : a.l.length < 4611686018427387904 /\ True := h
 show V3Nr a; rw [CYU]; simp [h, HN])) _
def d4Nr : List AVal -> Heap -> Option (MNr × List (Nat × Nat) × List Nat)
 | [y, .fn _ _ [.bptr j _]], H => match yW y H with
  | some (n, g, f) => match SM H j with
   | some q => some (⟨q, AE n λ i => dNt (g i)⟩, [(101, j)], f)
   | none => none
  | none => none
 | _, _ => none
def A4Nr : Ann := { ann 9 [(BXZ, C3Nr.spec d3Nr)] with E := [101] }
def C4Nr : Ctr := { ro := [101], α := MNr, xs := λ a => [.d (eNts a.l), fvNr a.q], L := λ a => LXNr a.q, val := λ a => .bool (a.l.all λ x => CO x a.q.ms.length), keep := λ a => KXNr a.q, pre := PNr }
def V4Nr (a : MNr) : Prop := BB Try.prog A4Nr F_eN (AL F_eN) (C4Nr.xs a) (AG (C4Nr.L a)) (C4Nr.val a) (C4Nr.keep a) [] []
theorem CYX (a : MNr) : (V4Nr a) = (((AE a.l.length λ (i : Nat) => gD a.l i).length = a.l.length /\ (∀ (i : Nat), i < (AE a.l.length λ (i : Nat) => gD a.l i).length -> (gD (AE a.l.length λ (i : Nat) => gD a.l i)
 i).mi = (gD a.l i).mi /\ (gD (AE a.l.length λ (i : Nat) => gD a.l i) i).t.lo = (gD a.l i).t.lo /\ (gD (AE a.l.length λ (i : Nat) => gD a.l i) i).t.hi = (gD a.l i).t.hi /\ (gD (AE a.l.length λ (i : Nat) => gD a.l i)
 i).s.lo = (gD a.l i).s.lo /\ (gD (AE a.l.length λ (i : Nat) => gD a.l i) i).s.hi = (gD a.l i).s.hi) /\ a.q.p.lo = a.q.p.lo /\ a.q.p.hi = a.q.p.hi /\ a.q.base = a.q.base /\ a.q.scale = a.q.scale /\ a.q.off = a.q.off /\ (AE
 a.q.ms.length λ (i : Nat) => gD a.q.ms i).length = a.q.ms.length /\ (∀ (i : Nat), i < (AE a.q.ms.length λ (i : Nat) => gD a.q.ms i).length -> (gD (AE a.q.ms.length λ (i : Nat) => gD a.q.ms i) i).pl = (gD a.q.ms
 i).pl /\ (gD (AE a.q.ms.length λ (i : Nat) => gD a.q.ms i) i).ht = (gD a.q.ms i).ht) /\ (AE a.q.ns.length λ (i : Nat) => gD a.q.ns i).length = a.q.ns.length /\ (∀ (i : Nat), i < (AE a.q.ns.length λ (i : Nat) => gD
 a.q.ns i).length -> (gD (AE a.q.ns.length λ (i : Nat) => gD a.q.ns i) i).mi = (gD a.q.ns i).mi /\ (gD (AE a.q.ns.length λ (i : Nat) => gD a.q.ns i) i).t.lo = (gD a.q.ns i).t.lo /\ (gD (AE a.q.ns.length λ (i : Nat)
 => gD a.q.ns i) i).t.hi = (gD a.q.ns i).t.hi /\ (gD (AE a.q.ns.length λ (i : Nat) => gD a.q.ns i) i).s.lo = (gD a.q.ns i).s.lo /\ (gD (AE a.q.ns.length λ (i : Nat) => gD a.q.ns i) i).s.hi = (gD a.q.ns i).s.hi) /\
 a.q.p.lo = a.q.p.lo /\ a.q.p.hi = a.q.p.hi /\ a.q.base = a.q.base /\ a.q.scale = a.q.scale /\ a.q.off = a.q.off /\ a.q.ms.length = (AE a.q.ms.length λ (i : Nat) => gD a.q.ms i).length /\ (∀ (i : Nat), i < a.q.ms.length ->
 (gD a.q.ms i).pl = (gD (AE a.q.ms.length λ (i : Nat) => gD a.q.ms i) i).pl /\ (gD a.q.ms i).ht = (gD (AE a.q.ms.length λ (i : Nat) => gD a.q.ms i) i).ht) /\ a.q.ns.length = (AE a.q.ns.length λ (i : Nat) => gD
 a.q.ns i).length /\ (∀ (i : Nat), i < a.q.ns.length -> (gD a.q.ns i).mi = (gD (AE a.q.ns.length λ (i : Nat) => gD a.q.ns i) i).mi /\ (gD a.q.ns i).t.lo = (gD (AE a.q.ns.length λ (i : Nat) => gD a.q.ns i) i).t.lo /\ (gD
 a.q.ns i).t.hi = (gD (AE a.q.ns.length λ (i : Nat) => gD a.q.ns i) i).t.hi /\ (gD a.q.ns i).s.lo = (gD (AE a.q.ns.length λ (i : Nat) => gD a.q.ns i) i).s.lo /\ (gD a.q.ns i).s.hi = (gD (AE a.q.ns.length λ (i :
 Nat) => gD a.q.ns i) i).s.hi) /\ (AE a.l.length λ (i : Nat) => gD a.l i).length < 4611686018427387904 /\ True) /\ (a.l.all λ (x : Nt) => CO x (↑a.q.ms.length : Int)) = !decide (HH (λ (i : Nat) => !CO (gD
 (AE a.l.length λ (i : Nat) => gD a.l i) i) (↑(AE a.q.ms.length λ (i : Nat) => gD a.q.ms i).length : Int)) (AE a.l.length λ (i : Nat) => gD a.l i).length 0 >= 0) /\ a.q.p.lo = a.q.p.lo /\ a.q.p.hi = a.q.p.hi /\
 a.q.base = a.q.base /\ a.q.scale = a.q.scale /\ a.q.off = a.q.off /\ a.q.ms.length = a.q.ms.length /\ (∀ (i : Nat), i < a.q.ms.length -> (gD a.q.ms i).pl = (gD a.q.ms i).pl /\ (gD a.q.ms i).ht = (gD a.q.ms i).ht) /\
 a.q.ns.length = a.q.ns.length /\ ∀ (i : Nat), i < a.q.ns.length -> (gD a.q.ns i).mi = (gD a.q.ns i).mi /\ (gD a.q.ns i).t.lo = (gD a.q.ns i).t.lo /\ (gD a.q.ns i).t.hi = (gD a.q.ns i).t.hi /\ (gD a.q.ns i).s.lo = (gD a.q.ns
 i).s.lo /\ (gD a.q.ns i).s.hi = (gD a.q.ns i).s.hi) := by kernel_rfl
theorem DAO (a : MNr) (h : BA (PNr a)) : FnT Try.prog n_eN (C4Nr.xs a) (AG (C4Nr.L a)) (C4Nr.val a) (C4Nr.keep a) := UV (A := A4Nr) (ren := []) (fz := []) DBA (by kernel_rfl) (AC CZH AJ) (by
 have h' : a.l.length < 4611686018427387904 /\ True := h
 show V4Nr a; rw [CYX]; simp only [CC, eq_self, implies_true, forall_const, ge_iff_le]
 rw [<- Zu]
 exact ⟨h'.1, rfl⟩)
theorem CYZ : AM Try.prog n_eN (C4Nr.spec d4Nr) := Ctr.spec_ok (C := C4Nr) DAO _
def fvSa (q : One) : AVal := .fn (.func BPT) [] []
def BSa (q : One) : AObj := .box [fvSa q]
structure ESa where
 q : One
 e : Span
structure MSa where
 q : One
 l : List Span
def C1Sa : Ctr := { ro := [100], α := ESa, xs := λ a => [.d (CN a.e), .bptr 100 0], L := λ a => (100, BSa a.q) :: [], val := λ a => .bool (!JB a.e), keep := λ a => (100, .live (BSa a.q)) :: [] }
def d1Sa : List AVal -> Heap -> Option (ESa × List (Nat × Nat) × List Nat)
 | [.d d, .bptr id _], H => some (⟨default, LP d⟩, [(100, id)], [])
 | _, _ => none
def A1Sa : Ann := { ann 8 [(BPT, BLL)] with E := [100] }
def V1Sa (a : ESa) : Prop := BB Try.prog A1Sa BWM (AL BWM) (C1Sa.xs a) (AG (C1Sa.L a)) (C1Sa.val a) (C1Sa.keep a) [] []
theorem DBB (a : ESa) : (V1Sa a) = ((!JB a.e) = !JB a.e) := by kernel_rfl
theorem CYP : AM Try.prog C9 (C1Sa.spec d1Sa) := LM C1Sa (λ _ => A1Sa) [] [] COA (λ _ => by kernel_rfl) (λ _ => AC CPN AJ) (λ (a : ESa) h => by
 show V1Sa a; rw [DBB]; try simp [wr, HN]) (λ _ => OA rfl rfl) _
def d2Sa : List AVal -> Heap -> Option (MSa × List (Nat × Nat) × List Nat)
 | [y, .fn _ _ [.bptr id _]], H => match yW y H with
  | some (n, g, f) => some (⟨default, AE n λ i => LP (g i)⟩, [(100, id)], f)
  | none => none
 | _, _ => none
def A2Sa (a : MSa) : Ann := { ann 19 [(C9, C1Sa.spec d1Sa)] with E := [100], loops := λ id => if id = 2 then some [{ α := Nat, dflt := 0, T := λ k => ⟨[(0, .d (AX a.l)), (1, .fn (.func C9) [] [.bptr 100 0]), (7, .int a.l.length), (8, .int k)], (100, .live (BSa a.q)) :: []⟩, inv := λ k => k <= a.l.length /\ HH (λ i => !JB (gD a.l i)) a.l.length 0 = HH (λ i => !JB (gD a.l i)) (a.l.length - k) k, meas := λ k => a.l.length - k }] else none }
def PSa (a : MSa) : List Prop := [a.l.length < 4611686018427387904 /\ True]
def C2Sa : Ctr := { ro := [100], α := MSa, xs := λ a => [.d (AX a.l), .fn (.func C9) [] [.bptr 100 0]], L := λ a => (100, BSa a.q) :: [], val := λ a => .int (HH (λ i => !JB (gD a.l i)) a.l.length 0), keep := λ a => (100, .live (BSa a.q)) :: [], pre := PSa }
def V2Sa (a : MSa) : Prop := BB Try.prog (A2Sa a) BXO (AL BXO) (C2Sa.xs a) (AG (C2Sa.L a)) (C2Sa.val a) (C2Sa.keep a) [] []
theorem CYA (a : MSa) : (V2Sa a) = ((∃ (a_1 : Nat), (a.l.length = a.l.length /\ (∀ (i : Nat), i < a.l.length -> (gD a.l i).lo = (gD a.l i).lo /\ (gD a.l i).hi = (gD a.l i).hi) /\ (↑a.l.length : Int) = (↑a.l.length : Int) /\
 (↑a_1 : Int) = 0) /\ a_1 <= a.l.length /\ HH (λ (i : Nat) => !JB (gD a.l i)) a.l.length 0 = HH (λ (i : Nat) => !JB (gD a.l i)) (a.l.length - a_1) a_1) /\ ∀ (a_1 : Nat), a_1 <= a.l.length /\ HH (λ (i : Nat) => !JB
 (gD a.l i)) a.l.length 0 = HH (λ (i : Nat) => !JB (gD a.l i)) (a.l.length - a_1) a_1 -> bif decide ((↑a_1 : Int) < (↑a.l.length : Int)) then ((0 <= (↑a_1 : Int) /\ (↑a_1 : Int) < (↑a.l.length : Int)) /\ (gD a.l a_1).lo =
 (gD a.l a_1).lo /\ (gD a.l a_1).hi = (gD a.l a_1).hi) /\ bif !JB (gD a.l a_1) then HH (λ (i : Nat) => !JB (gD a.l i)) a.l.length 0 = (↑a_1 : Int) else ∃ (a_3 : Nat), (a.l.length = a.l.length /\ (∀ (i : Nat), i <
 a.l.length -> (gD a.l i).lo = (gD a.l i).lo /\ (gD a.l i).hi = (gD a.l i).hi) /\ (↑a.l.length : Int) = (↑a.l.length : Int) /\ (↑a_3 : Int) = IntKind.i64.wrap ((↑a_1 : Int) + 1)) /\ (a_3 <= a.l.length /\ HH (λ (i : Nat) =>
 !JB (gD a.l i)) a.l.length 0 = HH (λ (i : Nat) => !JB (gD a.l i)) (a.l.length - a_3) a_3) /\ a.l.length - a_3 < a.l.length - a_1 else HH (λ (i : Nat) => !JB (gD a.l i)) a.l.length 0 = -1) := by kernel_rfl
theorem p2Sa (a : MSa) (h : BA (PSa a)) : V2Sa a := by
 obtain ⟨h, hp⟩ : a.l.length < 4611686018427387904 /\ True := h
 rw [CYA]
 simp only [CC, eq_self, implies_true, forall_const]
 refine ⟨⟨0, rfl, Nat.zero_le _, rfl⟩, λ k ⟨h1, h2⟩ => ⟨λ hlt => ?_, λ hge => ?_⟩⟩
 ·have hlt : k < a.l.length := by omega
  refine ⟨⟨by omega, by omega⟩, λ hp => ?_, λ hp => ⟨k + 1, (GK (by omega)).symm, ⟨by omega, ?_⟩, by omega⟩⟩
  ·rw [h2]; exact Pb hlt (by simpa using hp)
  ·rw [h2]; exact AZS hlt (by simpa using hp)
 ·rw [h2]; exact vE (by omega)
theorem CZX : AM Try.prog BYA (C2Sa.spec d2Sa) := LM C2Sa A2Sa [] [] CLI (λ _ => by kernel_rfl) (λ _ => AC CYP AJ) p2Sa (λ _ => OA rfl rfl) _
def C3Sa : Ctr := { C2Sa with val := λ (a : MSa) => .bool (decide (HH (λ i => !JB (gD a.l i)) a.l.length 0 >= 0)) }
def d3Sa : List AVal -> Heap -> Option (C3Sa.α × List (Nat × Nat) × List Nat) := d2Sa
def A3Sa : Ann := { ann 9 [(BYA, C2Sa.spec d2Sa)] with E := [100] }
def V3Sa (a : MSa) : Prop := BB Try.prog A3Sa BXL (AL BXL) (C3Sa.xs a) (AG (C3Sa.L a)) (C3Sa.val a) (C3Sa.keep a) [] []
theorem DAU (a : MSa) : (V3Sa a) = (((AE a.l.length λ (i : Nat) => gD a.l i).length = a.l.length /\ (∀ (i : Nat), i < (AE a.l.length λ (i : Nat) => gD a.l i).length -> (gD (AE a.l.length λ (i : Nat) => gD a.l i)
 i).lo = (gD a.l i).lo /\ (gD (AE a.l.length λ (i : Nat) => gD a.l i) i).hi = (gD a.l i).hi) /\ (AE a.l.length λ (i : Nat) => gD a.l i).length < 4611686018427387904 /\ True) /\ decide (HH (λ (i : Nat) => !JB (gD a.l
 i)) a.l.length 0 >= 0) = decide (HH (λ (i : Nat) => !JB (gD (AE a.l.length λ (i : Nat) => gD a.l i) i)) (AE a.l.length λ (i : Nat) => gD a.l i).length 0 >= 0)) := by kernel_rfl
theorem DBF : AM Try.prog BXB (C3Sa.spec d3Sa) := Ctr.spec_ok (C := C3Sa) (λ (a : MSa) h => UV (A := A3Sa) (ren := []) (fz := []) CMU (by kernel_rfl) (AC CZX AJ) (by
 obtain ⟨h, hp⟩ : a.l.length < 4611686018427387904 /\ True := h
 show V3Sa a; rw [DAU]; simp [h, HN])) _
def d4Sa : List AVal -> Heap -> Option (MSa × List (Nat × Nat) × List Nat)
 | [y, .fn _ _ _], H => match yW y H with
  | some (n, g, f) => some (⟨default, AE n λ i => LP (g i)⟩, [], f)
  | none => none
 | _, _ => none
def A4Sa : Ann := { ann 9 [(BXB, C3Sa.spec d3Sa)] with E := [] }
def C4Sa : Ctr := { ro := [], α := MSa, xs := λ a => [.d (AX a.l), fvSa a.q], L := λ a => [], val := λ a => .bool (a.l.all λ x => JB x), keep := λ a => [], pre := PSa }
def V4Sa (a : MSa) : Prop := BB Try.prog A4Sa F_eS (AL F_eS) (C4Sa.xs a) (AG (C4Sa.L a)) (C4Sa.val a) (C4Sa.keep a) [] []
theorem DAS (a : MSa) : (V4Sa a) = (((AE a.l.length λ (i : Nat) => gD a.l i).length = a.l.length /\ (∀ (i : Nat), i < (AE a.l.length λ (i : Nat) => gD a.l i).length -> (gD (AE a.l.length λ (i : Nat) => gD a.l i)
 i).lo = (gD a.l i).lo /\ (gD (AE a.l.length λ (i : Nat) => gD a.l i) i).hi = (gD a.l i).hi) /\ (AE a.l.length λ (i : Nat) => gD a.l i).length < 4611686018427387904 /\ True) /\ (a.l.all λ (x : Span) => JB x) =
 !decide (HH (λ (i : Nat) => !JB (gD (AE a.l.length λ (i : Nat) => gD a.l i) i)) (AE a.l.length λ (i : Nat) => gD a.l i).length 0 >= 0)) := by kernel_rfl
theorem CTJ (a : MSa) (h : BA (PSa a)) : FnT Try.prog n_eS (C4Sa.xs a) (AG (C4Sa.L a)) (C4Sa.val a) (C4Sa.keep a) := UV (A := A4Sa) (ren := []) (fz := []) CSX (by kernel_rfl) (AC DBF AJ) (by
 have h' : a.l.length < 4611686018427387904 /\ True := h
 show V4Sa a; rw [DAS]; simp only [CC, eq_self, implies_true, forall_const, ge_iff_le]
 rw [<- Zu]
 exact ⟨h'.1, rfl⟩)
theorem DAY : AM Try.prog n_eS (C4Sa.spec d4Sa) := Ctr.spec_ok (C := C4Sa) CTJ _
def fvSn (q : One) : AVal := .fn (.func BMP) [] []
def BSn (q : One) : AObj := .box [fvSn q]
structure ESn where
 q : One
 e : Span
structure MSn where
 q : One
 l : List Span
def C1Sn : Ctr := { ro := [100], α := ESn, xs := λ a => [.d (CN a.e), .bptr 100 0], L := λ a => (100, BSn a.q) :: [], val := λ a => .bool (!JB a.e), keep := λ a => (100, .live (BSn a.q)) :: [] }
def d1Sn : List AVal -> Heap -> Option (ESn × List (Nat × Nat) × List Nat)
 | [.d d, .bptr id _], H => some (⟨default, LP d⟩, [(100, id)], [])
 | _, _ => none
def A1Sn : Ann := { ann 8 [(BMP, BLL)] with E := [100] }
def V1Sn (a : ESn) : Prop := BB Try.prog A1Sn BWM (AL BWM) (C1Sn.xs a) (AG (C1Sn.L a)) (C1Sn.val a) (C1Sn.keep a) [] []
theorem CZL (a : ESn) : (V1Sn a) = ((!JB a.e) = !JB a.e) := by kernel_rfl
theorem DAL : AM Try.prog C9 (C1Sn.spec d1Sn) := LM C1Sn (λ _ => A1Sn) [] [] COA (λ _ => by kernel_rfl) (λ _ => AC COV AJ) (λ (a : ESn) h => by
 show V1Sn a; rw [CZL]; try simp [wr, HN]) (λ _ => OA rfl rfl) _
def d2Sn : List AVal -> Heap -> Option (MSn × List (Nat × Nat) × List Nat)
 | [y, .fn _ _ [.bptr id _]], H => match yW y H with
  | some (n, g, f) => some (⟨default, AE n λ i => LP (g i)⟩, [(100, id)], f)
  | none => none
 | _, _ => none
def A2Sn (a : MSn) : Ann := { ann 19 [(C9, C1Sn.spec d1Sn)] with E := [100], loops := λ id => if id = 2 then some [{ α := Nat, dflt := 0, T := λ k => ⟨[(0, .d (AX a.l)), (1, .fn (.func C9) [] [.bptr 100 0]), (7, .int a.l.length), (8, .int k)], (100, .live (BSn a.q)) :: []⟩, inv := λ k => k <= a.l.length /\ HH (λ i => !JB (gD a.l i)) a.l.length 0 = HH (λ i => !JB (gD a.l i)) (a.l.length - k) k, meas := λ k => a.l.length - k }] else none }
def PSn (a : MSn) : List Prop := [a.l.length < 4611686018427387904 /\ True]
def C2Sn : Ctr := { ro := [100], α := MSn, xs := λ a => [.d (AX a.l), .fn (.func C9) [] [.bptr 100 0]], L := λ a => (100, BSn a.q) :: [], val := λ a => .int (HH (λ i => !JB (gD a.l i)) a.l.length 0), keep := λ a => (100, .live (BSn a.q)) :: [], pre := PSn }
def V2Sn (a : MSn) : Prop := BB Try.prog (A2Sn a) BXO (AL BXO) (C2Sn.xs a) (AG (C2Sn.L a)) (C2Sn.val a) (C2Sn.keep a) [] []
theorem DAA (a : MSn) : (V2Sn a) = ((∃ (a_1 : Nat), (a.l.length = a.l.length /\ (∀ (i : Nat), i < a.l.length -> (gD a.l i).lo = (gD a.l i).lo /\ (gD a.l i).hi = (gD a.l i).hi) /\ (↑a.l.length : Int) = (↑a.l.length : Int) /\
 (↑a_1 : Int) = 0) /\ a_1 <= a.l.length /\ HH (λ (i : Nat) => !JB (gD a.l i)) a.l.length 0 = HH (λ (i : Nat) => !JB (gD a.l i)) (a.l.length - a_1) a_1) /\ ∀ (a_1 : Nat), a_1 <= a.l.length /\ HH (λ (i : Nat) => !JB
 (gD a.l i)) a.l.length 0 = HH (λ (i : Nat) => !JB (gD a.l i)) (a.l.length - a_1) a_1 -> bif decide ((↑a_1 : Int) < (↑a.l.length : Int)) then ((0 <= (↑a_1 : Int) /\ (↑a_1 : Int) < (↑a.l.length : Int)) /\ (gD a.l a_1).lo =
 (gD a.l a_1).lo /\ (gD a.l a_1).hi = (gD a.l a_1).hi) /\ bif !JB (gD a.l a_1) then HH (λ (i : Nat) => !JB (gD a.l i)) a.l.length 0 = (↑a_1 : Int) else ∃ (a_3 : Nat), (a.l.length = a.l.length /\ (∀ (i : Nat), i <
 a.l.length -> (gD a.l i).lo = (gD a.l i).lo /\ (gD a.l i).hi = (gD a.l i).hi) /\ (↑a.l.length : Int) = (↑a.l.length : Int) /\ (↑a_3 : Int) = IntKind.i64.wrap ((↑a_1 : Int) + 1)) /\ (a_3 <= a.l.length /\ HH (λ (i : Nat) =>
 !JB (gD a.l i)) a.l.length 0 = HH (λ (i : Nat) => !JB (gD a.l i)) (a.l.length - a_3) a_3) /\ a.l.length - a_3 < a.l.length - a_1 else HH (λ (i : Nat) => !JB (gD a.l i)) a.l.length 0 = -1) := by kernel_rfl
theorem p2Sn (a : MSn) (h : BA (PSn a)) : V2Sn a := by
 obtain ⟨h, hp⟩ : a.l.length < 4611686018427387904 /\ True := h
 rw [DAA]
 simp only [CC, eq_self, implies_true, forall_const]
 refine ⟨⟨0, rfl, Nat.zero_le _, rfl⟩, λ k ⟨h1, h2⟩ => ⟨λ hlt => ?_, λ hge => ?_⟩⟩
 ·have hlt : k < a.l.length := by omega
  refine ⟨⟨by omega, by omega⟩, λ hp => ?_, λ hp => ⟨k + 1, (GK (by omega)).symm, ⟨by omega, ?_⟩, by omega⟩⟩
  ·rw [h2]; exact Pb hlt (by simpa using hp)
  ·rw [h2]; exact AZS hlt (by simpa using hp)
 ·rw [h2]; exact vE (by omega)
theorem CYJ : AM Try.prog BYA (C2Sn.spec d2Sn) := LM C2Sn A2Sn [] [] CLI (λ _ => by kernel_rfl) (λ _ => AC DAL AJ) p2Sn (λ _ => OA rfl rfl) _
def C3Sn : Ctr := { C2Sn with val := λ (a : MSn) => .bool (decide (HH (λ i => !JB (gD a.l i)) a.l.length 0 >= 0)) }
def d3Sn : List AVal -> Heap -> Option (C3Sn.α × List (Nat × Nat) × List Nat) := d2Sn
def A3Sn : Ann := { ann 9 [(BYA, C2Sn.spec d2Sn)] with E := [100] }
def V3Sn (a : MSn) : Prop := BB Try.prog A3Sn BXL (AL BXL) (C3Sn.xs a) (AG (C3Sn.L a)) (C3Sn.val a) (C3Sn.keep a) [] []
theorem CZZ (a : MSn) : (V3Sn a) = (((AE a.l.length λ (i : Nat) => gD a.l i).length = a.l.length /\ (∀ (i : Nat), i < (AE a.l.length λ (i : Nat) => gD a.l i).length -> (gD (AE a.l.length λ (i : Nat) => gD a.l i)
 i).lo = (gD a.l i).lo /\ (gD (AE a.l.length λ (i : Nat) => gD a.l i) i).hi = (gD a.l i).hi) /\ (AE a.l.length λ (i : Nat) => gD a.l i).length < 4611686018427387904 /\ True) /\ decide (HH (λ (i : Nat) => !JB (gD a.l
 i)) a.l.length 0 >= 0) = decide (HH (λ (i : Nat) => !JB (gD (AE a.l.length λ (i : Nat) => gD a.l i) i)) (AE a.l.length λ (i : Nat) => gD a.l i).length 0 >= 0)) := by kernel_rfl
theorem CYG : AM Try.prog BXB (C3Sn.spec d3Sn) := Ctr.spec_ok (C := C3Sn) (λ (a : MSn) h => UV (A := A3Sn) (ren := []) (fz := []) CMU (by kernel_rfl) (AC CYJ AJ) (by
 obtain ⟨h, hp⟩ : a.l.length < 4611686018427387904 /\ True := h
 show V3Sn a; rw [CZZ]; simp [h, HN])) _
def A4Sn : Ann := { ann 9 [(BXB, C3Sn.spec d3Sn)] with E := [] }
def C4Sn : Ctr := { ro := [], α := MSn, xs := λ a => [.d (AX a.l), fvSn a.q], L := λ a => [], val := λ a => .bool (a.l.all λ x => JB x), keep := λ a => [], pre := PSn }
def V4Sn (a : MSn) : Prop := BB Try.prog A4Sn F_eS (AL F_eS) (C4Sn.xs a) (AG (C4Sn.L a)) (C4Sn.val a) (C4Sn.keep a) [] []
theorem CZP (a : MSn) : (V4Sn a) = (((AE a.l.length λ (i : Nat) => gD a.l i).length = a.l.length /\ (∀ (i : Nat), i < (AE a.l.length λ (i : Nat) => gD a.l i).length -> (gD (AE a.l.length λ (i : Nat) => gD a.l i)
 i).lo = (gD a.l i).lo /\ (gD (AE a.l.length λ (i : Nat) => gD a.l i) i).hi = (gD a.l i).hi) /\ (AE a.l.length λ (i : Nat) => gD a.l i).length < 4611686018427387904 /\ True) /\ (a.l.all λ (x : Span) => JB x) =
 !decide (HH (λ (i : Nat) => !JB (gD (AE a.l.length λ (i : Nat) => gD a.l i) i)) (AE a.l.length λ (i : Nat) => gD a.l i).length 0 >= 0)) := by kernel_rfl
theorem CYS (a : MSn) (h : BA (PSn a)) : FnT Try.prog n_eS (C4Sn.xs a) (AG (C4Sn.L a)) (C4Sn.val a) (C4Sn.keep a) := UV (A := A4Sn) (ren := []) (fz := []) CSX (by kernel_rfl) (AC CYG AJ) (by
 have h' : a.l.length < 4611686018427387904 /\ True := h
 show V4Sn a; rw [CZP]; simp only [CC, eq_self, implies_true, forall_const, ge_iff_le]
 rw [<- Zu]
 exact ⟨h'.1, rfl⟩)
structure N2 where
 q : Nt
 e : Nt
def ntB (q : Nt) : AObj := .box [.int q.mi, .int q.t.lo, .int q.t.hi, .int q.s.lo, .int q.s.hi]
def CLB (H : Heap) (id : Nat) : Option Nt := match H id with
 | .live (.box [.d a, .d b, .d c, .d d, .d e]) => some ⟨CL a, ⟨CL b, CL c⟩, ⟨CL d, CL e⟩⟩
 | _ => none
def C_ck2 : Ctr := { ro := [100], α := N2, xs := λ a => [.d (eNt a.e), .bptr 100 0], L := λ a => [(100, ntB a.q)], val := λ a => .bool (a.e.mi == a.q.mi), keep := λ a => [(100, .live (ntB a.q))] }
def CTR : List AVal -> Heap -> Option (N2 × List (Nat × Nat) × List Nat)
 | [.d d, .bptr id _], H => match CLB H id with
  | some q => some (⟨q, dNt d⟩, [(100, id)], [])
  | none => none
 | _, _ => none
def CSN : Ann := { ann 9 [] with E := [100] }
def CSQ (a : N2) : Prop := BB Try.prog CSN AWI (AL AWI) (C_ck2.xs a) (AG (C_ck2.L a)) (C_ck2.val a) (C_ck2.keep a) [] []
theorem CWY (a : N2) : (CSQ a) = ((a.e.mi == a.q.mi) = (a.e.mi == a.q.mi) /\ a.q.mi = a.q.mi /\ a.q.t.lo = a.q.t.lo /\ a.q.t.hi = a.q.t.hi /\ a.q.s.lo = a.q.s.lo /\ a.q.s.hi = a.q.s.hi) := by kernel_rfl
theorem CVJ : AM Try.prog Mb (C_ck2.spec CTR) := LM C_ck2 (λ _ => CSN) [] [] CGK (λ _ => by kernel_rfl) (λ _ => AJ) (λ (a : N2) _ => by
 show CSQ a; rw [CWY]; try simp) (λ _ => OA rfl rfl) _
structure MNc where
 q : Nt
 l : List Nt
def d2Nc : List AVal -> Heap -> Option (MNc × List (Nat × Nat) × List Nat)
 | [y, .fn _ _ [.bptr id _]], H => match yW y H with
  | some (n, g, f) => match CLB H id with
   | some q => some (⟨q, AE n λ i => dNt (g i)⟩, [(100, id)], f)
   | none => none
  | none => none
 | _, _ => none
def A2Nc (a : MNc) : Ann := { ann 19 [(Mb, C_ck2.spec CTR)] with E := [100], loops := λ id => if id = 2 then some [{ α := Nat, dflt := 0, T := λ k => ⟨[(0, .d (eNts a.l)), (1, .fn (.func Mb) [] [.bptr 100 0]), (7, .int a.l.length), (8, .int k)], [(100, .live (ntB a.q))]⟩, inv := λ k => k <= a.l.length /\ HH (λ i => (gD a.l i).mi == a.q.mi) a.l.length 0 = HH (λ i => (gD a.l i).mi == a.q.mi) (a.l.length - k) k, meas := λ k => a.l.length - k }] else none }
def C2Nc : Ctr := { ro := [100], α := MNc, xs := λ a => [.d (eNts a.l), .fn (.func Mb) [] [.bptr 100 0]], L := λ a => [(100, ntB a.q)], val := λ a => .int (HH (λ i => (gD a.l i).mi == a.q.mi) a.l.length 0), keep := λ a => [(100, .live (ntB a.q))], pre := λ a => [a.l.length < 4611686018427387904 /\ True] }
def V2Nc (a : MNc) : Prop := BB Try.prog (A2Nc a) BWU (AL BWU) (C2Nc.xs a) (AG (C2Nc.L a)) (C2Nc.val a) (C2Nc.keep a) [] []
theorem CYB (a : MNc) : (V2Nc a) = ((∃ (a_1 : Nat), (a.l.length = a.l.length /\ (∀ (i : Nat), i < a.l.length -> (gD a.l i).mi = (gD a.l i).mi /\ (gD a.l i).t.lo = (gD a.l i).t.lo /\ (gD a.l i).t.hi = (gD a.l i).t.hi /\ (gD
 a.l i).s.lo = (gD a.l i).s.lo /\ (gD a.l i).s.hi = (gD a.l i).s.hi) /\ (↑a.l.length : Int) = (↑a.l.length : Int) /\ (↑a_1 : Int) = 0 /\ a.q.mi = a.q.mi /\ a.q.t.lo = a.q.t.lo /\ a.q.t.hi = a.q.t.hi /\ a.q.s.lo = a.q.s.lo /\
 a.q.s.hi = a.q.s.hi) /\ a_1 <= a.l.length /\ HH (λ (i : Nat) => (gD a.l i).mi == a.q.mi) a.l.length 0 = HH (λ (i : Nat) => (gD a.l i).mi == a.q.mi) (a.l.length - a_1) a_1) /\ ∀ (a_1 : Nat), a_1 <= a.l.length /\ HH (fun
 (i : Nat) => (gD a.l i).mi == a.q.mi) a.l.length 0 = HH (λ (i : Nat) => (gD a.l i).mi == a.q.mi) (a.l.length - a_1) a_1 -> bif decide ((↑a_1 : Int) < (↑a.l.length : Int)) then ((0 <= (↑a_1 : Int) /\ (↑a_1 : Int) <
 (↑a.l.length : Int)) /\ (gD a.l a_1).mi = (gD a.l a_1).mi /\ (gD a.l a_1).t.lo = (gD a.l a_1).t.lo /\ (gD a.l a_1).t.hi = (gD a.l a_1).t.hi /\ (gD a.l a_1).s.lo = (gD a.l a_1).s.lo /\ (gD a.l a_1).s.hi = (gD a.l a_1).s.hi /\
 a.q.mi = a.q.mi /\ a.q.t.lo = a.q.t.lo /\ a.q.t.hi = a.q.t.hi /\ a.q.s.lo = a.q.s.lo /\ a.q.s.hi = a.q.s.hi /\ a.q.mi = a.q.mi /\ a.q.t.lo = a.q.t.lo /\ a.q.t.hi = a.q.t.hi /\ a.q.s.lo = a.q.s.lo /\ a.q.s.hi = a.q.s.hi) /\ bif (gD
 a.l a_1).mi == a.q.mi then HH (λ (i : Nat) => (gD a.l i).mi == a.q.mi) a.l.length 0 = (↑a_1 : Int) /\ a.q.mi = a.q.mi /\ a.q.t.lo = a.q.t.lo /\ a.q.t.hi = a.q.t.hi /\ a.q.s.lo = a.q.s.lo /\ a.q.s.hi = a.q.s.hi else ∃ (a_3
 : Nat), (a.l.length = a.l.length /\ (∀ (i : Nat), i < a.l.length -> (gD a.l i).mi = (gD a.l i).mi /\ (gD a.l i).t.lo = (gD a.l i).t.lo /\ (gD a.l i).t.hi = (gD a.l i).t.hi /\ (gD a.l i).s.lo = (gD a.l i).s.lo /\ (gD a.l
 i).s.hi = (gD a.l i).s.hi) /\ (↑a.l.length : Int) = (↑a.l.length : Int) /\ (↑a_3 : Int) = IntKind.i64.wrap ((↑a_1 : Int) + 1) /\ a.q.mi = a.q.mi /\ a.q.t.lo = a.q.t.lo /\ a.q.t.hi = a.q.t.hi /\ a.q.s.lo = a.q.s.lo /\ a.q.s.hi =
 a.q.s.hi) /\ (a_3 <= a.l.length /\ HH (λ (i : Nat) => (gD a.l i).mi == a.q.mi) a.l.length 0 = HH (λ (i : Nat) => (gD a.l i).mi == a.q.mi) (a.l.length - a_3) a_3) /\ a.l.length - a_3 < a.l.length - a_1 else HH (λ (i
 : Nat) => (gD a.l i).mi == a.q.mi) a.l.length 0 = -1 /\ a.q.mi = a.q.mi /\ a.q.t.lo = a.q.t.lo /\ a.q.t.hi = a.q.t.hi /\ a.q.s.lo = a.q.s.lo /\ a.q.s.hi = a.q.s.hi) := by kernel_rfl
theorem p2Nc (a : MNc) (h : BA (C2Nc.pre a)) : V2Nc a := by
 obtain ⟨h, hp⟩ : a.l.length < 4611686018427387904 /\ True := h
 rw [CYB]
 simp only [CC, eq_self, implies_true, forall_const]
 refine ⟨⟨0, rfl, Nat.zero_le _, rfl⟩, λ k ⟨h1, h2⟩ => ⟨λ hlt => ?_, λ hge => ?_⟩⟩
 ·have hlt : k < a.l.length := by omega
  refine ⟨⟨by omega, by omega⟩, λ hp => ?_, λ hp => ⟨k + 1, (GK (by omega)).symm, ⟨by omega, ?_⟩, by omega⟩⟩
  ·rw [h2]; exact Pb hlt (by simpa using hp)
  ·rw [h2]; exact AZS hlt (by simpa using hp)
 ·rw [h2]; exact vE (by omega)
theorem CYN : AM Try.prog BXJ (C2Nc.spec d2Nc) := LM C2Nc A2Nc [] [] CIQ (λ _ => by kernel_rfl) (λ _ => AC CVJ AJ) p2Nc (λ _ => OA rfl rfl) _
def C3Nc : Ctr := { C2Nc with val := λ (a : MNc) => .bool (a.l.any λ x => x.mi == a.q.mi) }
def d3Nc : List AVal -> Heap -> Option (C3Nc.α × List (Nat × Nat) × List Nat) := d2Nc
def A3Nc : Ann := { ann 9 [(BXJ, C2Nc.spec d2Nc)] with E := [100] }
def V3Nc (a : MNc) : Prop := BB Try.prog A3Nc BXA (AL BXA) (C3Nc.xs a) (AG (C3Nc.L a)) (C3Nc.val a) (C3Nc.keep a) [] []
theorem CYI (a : MNc) : (V3Nc a) = (((AE a.l.length λ (i : Nat) => gD a.l i).length = a.l.length /\ (∀ (i : Nat), i < (AE a.l.length λ (i : Nat) => gD a.l i).length -> (gD (AE a.l.length λ (i : Nat) => gD a.l i)
 i).mi = (gD a.l i).mi /\ (gD (AE a.l.length λ (i : Nat) => gD a.l i) i).t.lo = (gD a.l i).t.lo /\ (gD (AE a.l.length λ (i : Nat) => gD a.l i) i).t.hi = (gD a.l i).t.hi /\ (gD (AE a.l.length λ (i : Nat) => gD a.l i)
 i).s.lo = (gD a.l i).s.lo /\ (gD (AE a.l.length λ (i : Nat) => gD a.l i) i).s.hi = (gD a.l i).s.hi) /\ a.q.mi = a.q.mi /\ a.q.t.lo = a.q.t.lo /\ a.q.t.hi = a.q.t.hi /\ a.q.s.lo = a.q.s.lo /\ a.q.s.hi = a.q.s.hi /\ a.q.mi =
 a.q.mi /\ a.q.t.lo = a.q.t.lo /\ a.q.t.hi = a.q.t.hi /\ a.q.s.lo = a.q.s.lo /\ a.q.s.hi = a.q.s.hi /\ (AE a.l.length λ (i : Nat) => gD a.l i).length < 4611686018427387904 /\ True) /\ (a.l.any λ (x : Nt) => x.mi == a.q.mi)
 = decide (HH (λ (i : Nat) => (gD (AE a.l.length λ (i : Nat) => gD a.l i) i).mi == a.q.mi) (AE a.l.length λ (i : Nat) => gD a.l i).length 0 >= 0) /\ a.q.mi = a.q.mi /\ a.q.t.lo = a.q.t.lo /\ a.q.t.hi = a.q.t.hi /\
 a.q.s.lo = a.q.s.lo /\ a.q.s.hi = a.q.s.hi) := by kernel_rfl
theorem CJS {α : Type} [Inhabited α] {p : α -> Bool} {l : List α} : decide (0 <= HH (λ i => p (gD l i)) l.length 0) = l.any p := by
 rw [Bool.eq_iff_iff, decide_eq_true_eq, CBN, List.any_eq_true]
 exact ⟨λ ⟨i, _, h1, h2⟩ => ⟨gD l i, LZ (by omega), h2⟩, λ ⟨x, hx, h2⟩ => by obtain ⟨i, hi, rfl⟩ := PN hx; exact ⟨i, Nat.zero_le _, by omega, h2⟩⟩
theorem CZM : AM Try.prog BXZ (C3Nc.spec d3Nc) := Ctr.spec_ok (C := C3Nc) (λ (a : MNc) h => UV (A := A3Nc) (ren := []) (fz := []) CLX (by kernel_rfl) (AC CYN AJ) (by
 obtain ⟨h, hp⟩ : a.l.length < 4611686018427387904 /\ True := h
 show V3Nc a; rw [CYI]; simp only [CC, eq_self, implies_true, forall_const, ge_iff_le]
 rw [<- CJS]
 simp [h, HN])) _
end Go.Bal
