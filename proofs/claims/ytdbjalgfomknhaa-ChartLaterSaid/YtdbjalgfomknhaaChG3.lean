/- Package chart: every pair. Printed by gench2.py. -/
import Derived.Test.YtdbjalgfomknhaaChG2
set_option linter.unusedVariables false
set_option linter.unusedSimpArgs false
namespace Go.Bal
open Go Go.Sym Go.Proofs
def LXPp (q : Dk) : List (Nat × AObj) := [(101, dkB q 102), (102, dkM q)]
def KXPp (q : Dk) : List (Nat × HCell) := [(101, .live (dkB q 102)), (102, .live (dkM q))]
def fvPp (q : Dk) : AVal := .fn (.func BLP) [.bptr 101 0] []
def BPp (q : Dk) : AObj := .box [fvPp q]
structure EPp where
 q : Dk
 e : Pr
structure MPp where
 q : Dk
 l : List Pr
def C1Pp : Ctr := { ro := [100, 101, 102], α := EPp, xs := λ a => [.d (ePr a.e), .bptr 100 0], L := λ a => (100, BPp a.q) :: LXPp a.q, val := λ a => .bool (!HR a.q.c a.e), keep := λ a => (100, .live (BPp a.q)) :: KXPp a.q, pre := λ a => [a.q.c.ns.length < 1073741824 /\ True] }
def d1Pp : List AVal -> Heap -> Option (EPp × List (Nat × Nat) × List Nat)
 | [.d d, .bptr id _], H => match H id with
  | .live (.box [.fn _ [.bptr j _] _]) => match hC H j with
   | some (q, m) => some (⟨q, dPr d⟩, [(100, id), (101, j), (102, m)], [])
   | none => none
  | _ => none
 | _, _ => none
def A1Pp : Ann := { ann 8 [(BLP, C_pair.spec dDkP)] with E := [100, 101, 102] }
def V1Pp (a : EPp) : Prop := AW Try.prog A1Pp CKU (AK CKU) (C1Pp.xs a) (AF (C1Pp.L a)) (C1Pp.val a) (C1Pp.keep a) [] []
abbrev BRU (a : EPp) : Prop := a.q.c.p.lo = a.q.c.p.lo
abbrev BMS (a : EPp) : Prop := a.q.c.p.hi = a.q.c.p.hi
abbrev BOA (a : EPp) : Prop := a.q.c.base = a.q.c.base
abbrev BNS (a : EPp) : Prop := a.q.c.scale = a.q.c.scale
abbrev BRF (a : EPp) : Prop := a.q.c.off = a.q.c.off
abbrev BNZ (a : EPp) : List Mk := AE a.q.c.ms.length λ (i : Nat) => gD a.q.c.ms i
abbrev BPK (a : EPp) : Nat := (BNZ a).length
abbrev BXH (a : EPp) (i : Nat) : Mk := gD (BNZ a) i
abbrev BZQ (a : EPp) (i : Nat) : Int := (BXH a i).pl
abbrev BYG (a : EPp) (i : Nat) : Int := (BXH a i).ht
abbrev Yo (a : EPp) : List Nt := AE a.q.c.ns.length λ (i : Nat) => gD a.q.c.ns i
abbrev uW (a : EPp) : Nat := (Yo a).length
abbrev AQF (a : EPp) (i : Nat) : Nt := gD (Yo a) i
abbrev BSO (a : EPp) (i : Nat) : Int := (AQF a i).mi
abbrev BRM (a : EPp) (i : Nat) : Span := (AQF a i).t
abbrev BLW (a : EPp) (i : Nat) : Int := (BRM a i).lo
abbrev C3 (a : EPp) (i : Nat) : Int := (gD a.q.c.ns i).t.lo
abbrev BNV (a : EPp) (i : Nat) : Int := (BRM a i).hi
abbrev I1 (a : EPp) (i : Nat) : Int := (gD a.q.c.ns i).t.hi
abbrev BOB (a : EPp) (i : Nat) : Span := (AQF a i).s
abbrev BTX (a : EPp) (i : Nat) : Int := (BOB a i).lo
abbrev yC (a : EPp) (i : Nat) : Int := (gD a.q.c.ns i).s.lo
abbrev BQK (a : EPp) (i : Nat) : Int := (BOB a i).hi
abbrev H8 (a : EPp) (i : Nat) : Int := (gD a.q.c.ns i).s.hi
abbrev AOI (a : EPp) : Prop := ∀ (i : Nat), i < 40 -> a.q.sp i = a.q.sp i
abbrev BSC (a : EPp) (n : Int) : Bool := hasN (Yo a) n
abbrev AOJ (a : EPp) : Prop := ∀ (n : Int), a.q.st n = a.q.st n
abbrev APD (a : EPp) (n : Int) : Nt := ntOf (Yo a) n
abbrev BMX (a : EPp) (n : Int) : Int := (APD a n).mi
abbrev BTM (a : EPp) (n : Int) : Span := (APD a n).t
abbrev BMW (a : EPp) (n : Int) : Int := (BTM a n).lo
abbrev BKW (a : EPp) (n : Int) : Int := (BTM a n).hi
abbrev BKQ (a : EPp) (n : Int) : Span := (APD a n).s
abbrev BQJ (a : EPp) (n : Int) : Int := (BKQ a n).lo
abbrev BOT (a : EPp) (n : Int) : Int := (BKQ a n).hi
abbrev BPJ (i : Nat) (a : EPp) : Prop := i < a.q.c.ms.length
abbrev BMY (i : Nat) (a : EPp) : Prop := i < a.q.c.ns.length
theorem CYD (a : EPp) : (V1Pp a) = ((a.e.a = a.e.a /\ a.e.b = a.e.b /\ BRU a /\ BMS a /\ BOA a /\ BNS a /\ BRF a /\ BPK a = a.q.c.ms.length /\ (∀ (i : Nat), i < BPK a -> BZQ a i = (gD a.q.c.ms i).pl /\
 BYG a i = (gD a.q.c.ms i).ht) /\ uW a = a.q.c.ns.length /\ (∀ (i : Nat), i < uW a -> BSO a i = (gD a.q.c.ns i).mi /\ BLW a i = C3 a i /\ BNV a i = I1 a i /\ BTX a i = yC a i /\
 BQK a i = H8 a i) /\ AOI a /\ AT = AT /\ (∀ (n : Int), BSC a n = hasN a.q.c.ns n) /\ AOJ a /\ (∀ (n : Int), BMX a n = (ntOf a.q.c.ns n).mi /\ BMW a n = (ntOf a.q.c.ns n).t.lo /\ BKW a n =
 (ntOf a.q.c.ns n).t.hi /\ BQJ a n = (ntOf a.q.c.ns n).s.lo /\ BOT a n = (ntOf a.q.c.ns n).s.hi) /\ BRU a /\ BMS a /\ BOA a /\ BNS a /\ BRF a /\ a.q.c.ms.length = BPK a /\ (∀ (i : Nat), BPJ i a -> (gD
 a.q.c.ms i).pl = BZQ a i /\ (gD a.q.c.ms i).ht = BYG a i) /\ a.q.c.ns.length = uW a /\ (∀ (i : Nat), BMY i a -> (gD a.q.c.ns i).mi = BSO a i /\ C3 a i = BLW a i /\ I1 a i = BNV a i /\
 yC a i = BTX a i /\ H8 a i = BQK a i) /\ AOI a /\ AT = AT /\ (∀ (n : Int), hasN a.q.c.ns n = BSC a n) /\ AOJ a /\ (∀ (n : Int), (ntOf a.q.c.ns n).mi = BMX a n /\ (ntOf a.q.c.ns n).t.lo =
 BMW a n /\ (ntOf a.q.c.ns n).t.hi = BKW a n /\ (ntOf a.q.c.ns n).s.lo = BQJ a n /\ (ntOf a.q.c.ns n).s.hi = BOT a n) /\ uW a < 1073741824 /\ True) /\ (!HR a.q.c a.e) = !HR (Cht.mk a.q.c.p a.q.c.base
 a.q.c.scale a.q.c.off (BNZ a) (Yo a)) a.e /\ BRU a /\ BMS a /\ BOA a /\ BNS a /\ BRF a /\ a.q.c.ms.length = a.q.c.ms.length /\ (∀ (i : Nat), BPJ i a -> (gD a.q.c.ms i).pl = (gD a.q.c.ms i).pl /\ (gD
 a.q.c.ms i).ht = (gD a.q.c.ms i).ht) /\ a.q.c.ns.length = a.q.c.ns.length /\ (∀ (i : Nat), BMY i a -> (gD a.q.c.ns i).mi = (gD a.q.c.ns i).mi /\ C3 a i = C3 a i /\ I1 a i = I1 a i /\ yC a i =
 yC a i /\ H8 a i = H8 a i) /\ AOI a /\ AT = AT /\ (∀ (n : Int), hasN a.q.c.ns n = hasN a.q.c.ns n) /\ AOJ a /\ ∀ (n : Int), (ntOf a.q.c.ns n).mi = (ntOf a.q.c.ns n).mi /\ (ntOf a.q.c.ns n).t.lo = (ntOf
 a.q.c.ns n).t.lo /\ (ntOf a.q.c.ns n).t.hi = (ntOf a.q.c.ns n).t.hi /\ (ntOf a.q.c.ns n).s.lo = (ntOf a.q.c.ns n).s.lo /\ (ntOf a.q.c.ns n).s.hi = (ntOf a.q.c.ns n).s.hi) := by kernel_rfl
theorem CWN : AL Try.prog BUS (C1Pp.spec d1Pp) := KV C1Pp (λ _ => A1Pp) [] [] CTN (λ _ => by kernel_rfl) (λ _ => AD CPJ AI) (λ (a : EPp) h => by
 have h : a.q.c.ns.length < 1073741824 := (show a.q.c.ns.length < 1073741824 /\ True from h).1
 show V1Pp a; rw [CYD]; delta BRU BMS BOA BNS BRF BNZ BPK BXH BZQ BYG Yo uW AQF BSO BRM BLW C3 BNV I1 BOB BTX yC BQK H8 AOI BSC AOJ APD BMX BTM BMW BKW BKQ BQJ BOT BPJ BMY; simp [wr, HC, h, BH]) (λ _ => MD rfl rfl) _
def d2Pp : List AVal -> Heap -> Option (MPp × List (Nat × Nat) × List Nat)
 | [y, .fn _ _ [.bptr id _]], H => match G9 y H with
  | some (n, g, f) => match H id with
   | .live (.box [.fn _ [.bptr j _] _]) => match hC H j with
    | some (q, m) => some (⟨q, AE n λ i => dPr (g i)⟩, [(100, id), (101, j), (102, m)], f)
    | none => none
   | _ => none
  | none => none
 | _, _ => none
def A2Pp (a : MPp) : Ann := { ann 19 [(BUS, C1Pp.spec d1Pp)] with E := [100, 101, 102], loops := λ id => if id = 2 then some [{ α := Nat, dflt := 0, T := λ k => ⟨[(0, .d (ZA a.l)), (1, .fn (.func BUS) [] [.bptr 100 0]), (7, .int a.l.length), (8, .int k)], (100, .live (BPp a.q)) :: KXPp a.q⟩, inv := λ k => k <= a.l.length /\ GU (λ i => !HR a.q.c (gD a.l i)) a.l.length 0 = GU (λ i => !HR a.q.c (gD a.l i)) (a.l.length - k) k, meas := λ k => a.l.length - k }] else none }
def PPp (a : MPp) : List Prop := [a.l.length < 4611686018427387904 /\ a.q.c.ns.length < 1073741824]
def C2Pp : Ctr := { ro := [100, 101, 102], α := MPp, xs := λ a => [.d (ZA a.l), .fn (.func BUS) [] [.bptr 100 0]], L := λ a => (100, BPp a.q) :: LXPp a.q, val := λ a => .int (GU (λ i => !HR a.q.c (gD a.l i)) a.l.length 0), keep := λ a => (100, .live (BPp a.q)) :: KXPp a.q, pre := PPp }
def V2Pp (a : MPp) : Prop := AW Try.prog (A2Pp a) CIK (AK CIK) (C2Pp.xs a) (AF (C2Pp.L a)) (C2Pp.val a) (C2Pp.keep a) [] []
abbrev BXZ (a : MPp) : Prop := a.l.length = a.l.length
abbrev CAD (a : MPp) (i : Nat) : Prop := (gD a.l i).a = (gD a.l i).a
abbrev BYC (a : MPp) (i : Nat) : Prop := (gD a.l i).b = (gD a.l i).b
abbrev BYF (a : MPp) : Prop := ∀ (i : Nat), i < a.l.length -> CAD a i /\ BYC a i
abbrev BXM (a : MPp) : Prop := (↑a.l.length : Int) = (↑a.l.length : Int)
abbrev BPO (a : MPp) : Prop := a.q.c.p.lo = a.q.c.p.lo
abbrev BQO (a : MPp) : Prop := a.q.c.p.hi = a.q.c.p.hi
abbrev BSF (a : MPp) : Prop := a.q.c.base = a.q.c.base
abbrev BKO (a : MPp) : Prop := a.q.c.scale = a.q.c.scale
abbrev BUA (a : MPp) : Prop := a.q.c.off = a.q.c.off
abbrev BRX (i : Nat) (a : MPp) : Prop := i < a.q.c.ms.length
abbrev BLN (i : Nat) (a : MPp) : Prop := i < a.q.c.ns.length
abbrev D6 (a : MPp) (i : Nat) : Int := (gD a.q.c.ns i).t.lo
abbrev J5 (a : MPp) (i : Nat) : Int := (gD a.q.c.ns i).t.hi
abbrev vN (a : MPp) (i : Nat) : Int := (gD a.q.c.ns i).s.lo
abbrev vW (a : MPp) (i : Nat) : Int := (gD a.q.c.ns i).s.hi
abbrev ANM (a : MPp) : Prop := ∀ (i : Nat), i < 40 -> a.q.sp i = a.q.sp i
abbrev AOC (a : MPp) : Prop := ∀ (n : Int), a.q.st n = a.q.st n
abbrev yB (a : MPp) : Prop := BPO a /\ BQO a /\ BSF a /\ BKO a /\ BUA a /\ a.q.c.ms.length = a.q.c.ms.length /\ (∀ (i : Nat), BRX i a -> (gD a.q.c.ms i).pl = (gD a.q.c.ms i).pl /\ (gD a.q.c.ms i).ht = (gD
 a.q.c.ms i).ht) /\ a.q.c.ns.length = a.q.c.ns.length /\ (∀ (i : Nat), BLN i a -> (gD a.q.c.ns i).mi = (gD a.q.c.ns i).mi /\ D6 a i = D6 a i /\ J5 a i = J5 a i /\ vN a i = vN a i /\ vW a i
 = vW a i) /\ ANM a /\ AT = AT /\ (∀ (n : Int), hasN a.q.c.ns n = hasN a.q.c.ns n) /\ AOC a /\ ∀ (n : Int), (ntOf a.q.c.ns n).mi = (ntOf a.q.c.ns n).mi /\ (ntOf a.q.c.ns n).t.lo = (ntOf a.q.c.ns n).t.lo /\ (ntOf
 a.q.c.ns n).t.hi = (ntOf a.q.c.ns n).t.hi /\ (ntOf a.q.c.ns n).s.lo = (ntOf a.q.c.ns n).s.lo /\ (ntOf a.q.c.ns n).s.hi = (ntOf a.q.c.ns n).s.hi
abbrev BPW (a : MPp) (i : Nat) : Bool := !HR a.q.c (gD a.l i)
abbrev APT (a : MPp) : Int := GU (λ (i : Nat) => BPW a i) a.l.length 0
abbrev AOO (a : MPp) (a1 : Nat) : Nat := a.l.length - a1
abbrev APY (a : Nat) (a1 : MPp) : Prop := a <= a1.l.length /\ APT a1 = GU (λ (i : Nat) => BPW a1 i) (AOO a1 a) a
abbrev BMA (a : Nat) (a1 : MPp) : Prop := (↑a : Int) < (↑a1.l.length : Int)
abbrev AOF (a : MPp) : List Mk := AE a.q.c.ms.length λ (i : Nat) => gD a.q.c.ms i
abbrev API (a : MPp) : Nat := (AOF a).length
abbrev BLI (a : MPp) (i : Nat) : Mk := gD (AOF a) i
abbrev BPG (a : MPp) (i : Nat) : Int := (BLI a i).pl
abbrev BKK (a : MPp) (i : Nat) : Int := (BLI a i).ht
abbrev fI (a : MPp) : List Nt := AE a.q.c.ns.length λ (i : Nat) => gD a.q.c.ns i
abbrev zA (a : MPp) : Nat := (fI a).length
abbrev AOG (a : MPp) (i : Nat) : Nt := gD (fI a) i
abbrev BOD (a : MPp) (i : Nat) : Int := (AOG a i).mi
abbrev BMV (a : MPp) (i : Nat) : Span := (AOG a i).t
abbrev BRG (a : MPp) (i : Nat) : Int := (BMV a i).lo
abbrev BQX (a : MPp) (i : Nat) : Int := (BMV a i).hi
abbrev BMR (a : MPp) (i : Nat) : Span := (AOG a i).s
abbrev BKX (a : MPp) (i : Nat) : Int := (BMR a i).lo
abbrev BTU (a : MPp) (i : Nat) : Int := (BMR a i).hi
abbrev BOF (a : MPp) (n : Int) : Bool := hasN (fI a) n
abbrev ANH (a : MPp) (n : Int) : Nt := ntOf (fI a) n
abbrev BSG (a : MPp) (n : Int) : Int := (ANH a n).mi
abbrev BSX (a : MPp) (n : Int) : Span := (ANH a n).t
abbrev BLU (a : MPp) (n : Int) : Int := (BSX a n).lo
abbrev BQB (a : MPp) (n : Int) : Int := (BSX a n).hi
abbrev BPV (a : MPp) (n : Int) : Span := (ANH a n).s
abbrev BPC (a : MPp) (n : Int) : Int := (BPV a n).lo
abbrev BML (a : MPp) (n : Int) : Int := (BPV a n).hi
theorem CXN (a : MPp) : (V2Pp a) = ((∃ (a_1 : Nat), (BXZ a /\ BYF a /\ BXM a /\ (↑a_1 : Int) = 0 /\ yB a) /\ APY a_1 a) /\ ∀ (a_1 : Nat), APY a_1 a -> bif decide (BMA a_1 a) then ((0 <= (↑a_1 : Int) /\
 BMA a_1 a) /\ CAD a a_1 /\ BYC a a_1 /\ BPO a /\ BQO a /\ BSF a /\ BKO a /\ BUA a /\ API a = a.q.c.ms.length /\ (∀ (i : Nat), i < API a -> BPG a i = (gD a.q.c.ms i).pl /\ BKK a i = (gD
 a.q.c.ms i).ht) /\ zA a = a.q.c.ns.length /\ (∀ (i : Nat), i < zA a -> BOD a i = (gD a.q.c.ns i).mi /\ BRG a i = D6 a i /\ BQX a i = J5 a i /\ BKX a i = vN a i /\ BTU a i = vW a
 i) /\ ANM a /\ AT = AT /\ (∀ (n : Int), BOF a n = hasN a.q.c.ns n) /\ AOC a /\ (∀ (n : Int), BSG a n = (ntOf a.q.c.ns n).mi /\ BLU a n = (ntOf a.q.c.ns n).t.lo /\ BQB a n = (ntOf a.q.c.ns n).t.hi /\
 BPC a n = (ntOf a.q.c.ns n).s.lo /\ BML a n = (ntOf a.q.c.ns n).s.hi) /\ BPO a /\ BQO a /\ BSF a /\ BKO a /\ BUA a /\ a.q.c.ms.length = API a /\ (∀ (i : Nat), BRX i a -> (gD a.q.c.ms i).pl = BPG
 a i /\ (gD a.q.c.ms i).ht = BKK a i) /\ a.q.c.ns.length = zA a /\ (∀ (i : Nat), BLN i a -> (gD a.q.c.ns i).mi = BOD a i /\ D6 a i = BRG a i /\ J5 a i = BQX a i /\ vN a i = BKX a i /\
 vW a i = BTU a i) /\ ANM a /\ AT = AT /\ (∀ (n : Int), hasN a.q.c.ns n = BOF a n) /\ AOC a /\ (∀ (n : Int), (ntOf a.q.c.ns n).mi = BSG a n /\ (ntOf a.q.c.ns n).t.lo = BLU a n /\ (ntOf a.q.c.ns
 n).t.hi = BQB a n /\ (ntOf a.q.c.ns n).s.lo = BPC a n /\ (ntOf a.q.c.ns n).s.hi = BML a n) /\ zA a < 1073741824 /\ True) /\ bif !HR (Cht.mk a.q.c.p a.q.c.base a.q.c.scale a.q.c.off (AOF a) (fI a))
 (gD a.l a_1) then APT a = (↑a_1 : Int) /\ yB a else ∃ (a_3 : Nat), (BXZ a /\ BYF a /\ BXM a /\ (↑a_3 : Int) = IntKind.i64.wrap ((↑a_1 : Int) + 1) /\ yB a) /\ APY a_3 a /\ AOO a a_3 < AOO a a_1
 else APT a = -1 /\ yB a) := by kernel_rfl
theorem p2Pp (a : MPp) (h : AX (PPp a)) : V2Pp a := by
 obtain ⟨h, hp⟩ : a.l.length < 4611686018427387904 /\ a.q.c.ns.length < 1073741824 := h
 rw [CXN]; delta BXZ CAD BYC BYF BXM BPO BQO BSF BKO BUA BRX BLN D6 J5 vN vW ANM AOC yB BPW APT AOO APY BMA AOF API BLI BPG BKK fI zA AOG BOD BMV BRG BQX BMR BKX BTU BOF ANH BSG BSX BLU BQB BPV BPC BML
 simp only [CC, eq_self, implies_true, forall_const]
 refine ⟨⟨0, rfl, Nat.zero_le _, rfl⟩, λ k ⟨h1, h2⟩ => ⟨λ hlt => ?_, λ hge => ?_⟩⟩
 ·have hlt : k < a.l.length := by omega
  refine ⟨⟨⟨by omega, by omega⟩, hp⟩, λ hp => ?_, λ hp => ⟨k + 1, (FE (by omega)).symm, ⟨by omega, ?_⟩, by omega⟩⟩
  ·rw [h2]; exact Qf hlt (by simpa using hp)
  ·rw [h2]; exact ATN hlt (by simpa using hp)
 ·rw [h2]; exact vP (by omega)
theorem CWY : AL Try.prog CMD (C2Pp.spec d2Pp) := KV C2Pp A2Pp [] [] CUY (λ _ => by kernel_rfl) (λ _ => AD CWN AI) p2Pp (λ _ => MD rfl rfl) _
def C3Pp : Ctr := { C2Pp with val := λ (a : MPp) => .bool (decide (GU (λ i => !HR a.q.c (gD a.l i)) a.l.length 0 >= 0)) }
def d3Pp : List AVal -> Heap -> Option (C3Pp.α × List (Nat × Nat) × List Nat) := d2Pp
def A3Pp : Ann := { ann 9 [(CMD, C2Pp.spec d2Pp)] with E := [100, 101, 102] }
def V3Pp (a : MPp) : Prop := AW Try.prog A3Pp CMA (AK CMA) (C3Pp.xs a) (AF (C3Pp.L a)) (C3Pp.val a) (C3Pp.keep a) [] []
abbrev BZW (a : MPp) : List Pr := AE a.l.length λ (i : Nat) => gD a.l i
abbrev ATO (a : MPp) : Nat := (BZW a).length
abbrev BSA (a : MPp) (i : Nat) : Pr := gD (BZW a) i
abbrev BMU (a : MPp) : Prop := a.q.c.p.lo = a.q.c.p.lo
abbrev BNB (a : MPp) : Prop := a.q.c.p.hi = a.q.c.p.hi
abbrev BNI (a : MPp) : Prop := a.q.c.base = a.q.c.base
abbrev BOG (a : MPp) : Prop := a.q.c.scale = a.q.c.scale
abbrev BSL (a : MPp) : Prop := a.q.c.off = a.q.c.off
abbrev BON (a : MPp) : List Mk := AE a.q.c.ms.length λ (i : Nat) => gD a.q.c.ms i
abbrev BTV (a : MPp) : Nat := (BON a).length
abbrev BPN (a : MPp) (i : Nat) : Mk := gD (BON a) i
abbrev BLV (a : MPp) (i : Nat) : Int := (BPN a i).pl
abbrev BKM (a : MPp) (i : Nat) : Int := (BPN a i).ht
abbrev cU (a : MPp) : List Nt := AE a.q.c.ns.length λ (i : Nat) => gD a.q.c.ns i
abbrev wJ (a : MPp) : Nat := (cU a).length
abbrev AOD (a : MPp) (i : Nat) : Nt := gD (cU a) i
abbrev BRQ (a : MPp) (i : Nat) : Int := (AOD a i).mi
abbrev BTO (a : MPp) (i : Nat) : Span := (AOD a i).t
abbrev BNH (a : MPp) (i : Nat) : Int := (BTO a i).lo
abbrev yX (a : MPp) (i : Nat) : Int := (gD a.q.c.ns i).t.lo
abbrev BOQ (a : MPp) (i : Nat) : Int := (BTO a i).hi
abbrev C4 (a : MPp) (i : Nat) : Int := (gD a.q.c.ns i).t.hi
abbrev BTQ (a : MPp) (i : Nat) : Span := (AOD a i).s
abbrev BQR (a : MPp) (i : Nat) : Int := (BTQ a i).lo
abbrev F3 (a : MPp) (i : Nat) : Int := (gD a.q.c.ns i).s.lo
abbrev BMJ (a : MPp) (i : Nat) : Int := (BTQ a i).hi
abbrev L0 (a : MPp) (i : Nat) : Int := (gD a.q.c.ns i).s.hi
abbrev AON (a : MPp) : Prop := ∀ (i : Nat), i < 40 -> a.q.sp i = a.q.sp i
abbrev BTN (a : MPp) (n : Int) : Bool := hasN (cU a) n
abbrev ANX (a : MPp) : Prop := ∀ (n : Int), a.q.st n = a.q.st n
abbrev ANY (a : MPp) (n : Int) : Nt := ntOf (cU a) n
abbrev BPU (a : MPp) (n : Int) : Int := (ANY a n).mi
abbrev BTS (a : MPp) (n : Int) : Span := (ANY a n).t
abbrev BNO (a : MPp) (n : Int) : Int := (BTS a n).lo
abbrev BTE (a : MPp) (n : Int) : Int := (BTS a n).hi
abbrev BPQ (a : MPp) (n : Int) : Span := (ANY a n).s
abbrev BRI (a : MPp) (n : Int) : Int := (BPQ a n).lo
abbrev BTD (a : MPp) (n : Int) : Int := (BPQ a n).hi
abbrev BLZ (i : Nat) (a : MPp) : Prop := i < a.q.c.ms.length
abbrev BKZ (i : Nat) (a : MPp) : Prop := i < a.q.c.ns.length
theorem CYE (a : MPp) : (V3Pp a) = ((ATO a = a.l.length /\ (∀ (i : Nat), i < ATO a -> (BSA a i).a = (gD a.l i).a /\ (BSA a i).b = (gD a.l i).b) /\ BMU a /\ BNB a /\ BNI a /\ BOG a /\ BSL a /\ BTV a
 = a.q.c.ms.length /\ (∀ (i : Nat), i < BTV a -> BLV a i = (gD a.q.c.ms i).pl /\ BKM a i = (gD a.q.c.ms i).ht) /\ wJ a = a.q.c.ns.length /\ (∀ (i : Nat), i < wJ a -> BRQ a i = (gD a.q.c.ns i).mi /\
 BNH a i = yX a i /\ BOQ a i = C4 a i /\ BQR a i = F3 a i /\ BMJ a i = L0 a i) /\ AON a /\ AT = AT /\ (∀ (n : Int), BTN a n = hasN a.q.c.ns n) /\ ANX a /\ (∀ (n : Int), BPU a
 n = (ntOf a.q.c.ns n).mi /\ BNO a n = (ntOf a.q.c.ns n).t.lo /\ BTE a n = (ntOf a.q.c.ns n).t.hi /\ BRI a n = (ntOf a.q.c.ns n).s.lo /\ BTD a n = (ntOf a.q.c.ns n).s.hi) /\ BMU a /\ BNB a /\ BNI a /\
 BOG a /\ BSL a /\ a.q.c.ms.length = BTV a /\ (∀ (i : Nat), BLZ i a -> (gD a.q.c.ms i).pl = BLV a i /\ (gD a.q.c.ms i).ht = BKM a i) /\ a.q.c.ns.length = wJ a /\ (∀ (i : Nat), BKZ i a -> (gD a.q.c.ns
 i).mi = BRQ a i /\ yX a i = BNH a i /\ C4 a i = BOQ a i /\ F3 a i = BQR a i /\ L0 a i = BMJ a i) /\ AON a /\ AT = AT /\ (∀ (n : Int), hasN a.q.c.ns n = BTN a n) /\ ANX a /\ (∀
 (n : Int), (ntOf a.q.c.ns n).mi = BPU a n /\ (ntOf a.q.c.ns n).t.lo = BNO a n /\ (ntOf a.q.c.ns n).t.hi = BTE a n /\ (ntOf a.q.c.ns n).s.lo = BRI a n /\ (ntOf a.q.c.ns n).s.hi = BTD a n) /\ ATO a <
 4611686018427387904 /\ wJ a < 1073741824) /\ decide (GU (λ (i : Nat) => !HR a.q.c (gD a.l i)) a.l.length 0 >= 0) = decide (GU (λ (i : Nat) => !HR (Cht.mk a.q.c.p a.q.c.base a.q.c.scale a.q.c.off (BON a)
 (cU a)) (BSA a i)) (ATO a) 0 >= 0) /\ BMU a /\ BNB a /\ BNI a /\ BOG a /\ BSL a /\ a.q.c.ms.length = a.q.c.ms.length /\ (∀ (i : Nat), BLZ i a -> (gD a.q.c.ms i).pl = (gD a.q.c.ms i).pl /\ (gD a.q.c.ms
 i).ht = (gD a.q.c.ms i).ht) /\ a.q.c.ns.length = a.q.c.ns.length /\ (∀ (i : Nat), BKZ i a -> (gD a.q.c.ns i).mi = (gD a.q.c.ns i).mi /\ yX a i = yX a i /\ C4 a i = C4 a i /\ F3 a i = F3 a i /\
 L0 a i = L0 a i) /\ AON a /\ AT = AT /\ (∀ (n : Int), hasN a.q.c.ns n = hasN a.q.c.ns n) /\ ANX a /\ ∀ (n : Int), (ntOf a.q.c.ns n).mi = (ntOf a.q.c.ns n).mi /\ (ntOf a.q.c.ns n).t.lo = (ntOf a.q.c.ns
 n).t.lo /\ (ntOf a.q.c.ns n).t.hi = (ntOf a.q.c.ns n).t.hi /\ (ntOf a.q.c.ns n).s.lo = (ntOf a.q.c.ns n).s.lo /\ (ntOf a.q.c.ns n).s.hi = (ntOf a.q.c.ns n).s.hi) := by kernel_rfl
theorem CYA : AL Try.prog CHB (C3Pp.spec d3Pp) := Ctr.spec_ok (C := C3Pp) (λ (a : MPp) h => QX (A := A3Pp) (ren := []) (fz := []) CWB (by kernel_rfl) (AD CWY AI) (by
 obtain ⟨h, hp⟩ : a.l.length < 4611686018427387904 /\ a.q.c.ns.length < 1073741824 := h
 show V3Pp a; rw [CYE]; delta BZW ATO BSA BMU BNB BNI BOG BSL BON BTV BPN BLV BKM cU wJ AOD BRQ BTO BNH yX BOQ C4 BTQ BQR F3 BMJ L0 AON BTN ANX ANY BPU BTS BNO BTE BPQ BRI BTD BLZ BKZ; simp [h, hp, HC, BH])) _
def d4Pp : List AVal -> Heap -> Option (MPp × List (Nat × Nat) × List Nat)
 | [y, .fn _ [.bptr j _] _], H => match G9 y H with
  | some (n, g, f) => match hC H j with
   | some (q, m) => some (⟨q, AE n λ i => dPr (g i)⟩, [(101, j), (102, m)], f)
   | none => none
  | none => none
 | _, _ => none
def A4Pp : Ann := { ann 9 [(CHB, C3Pp.spec d3Pp)] with E := [101, 102] }
def C4Pp : Ctr := { ro := [101, 102], α := MPp, xs := λ a => [.d (ZA a.l), fvPp a.q], L := λ a => LXPp a.q, val := λ a => .bool (a.l.all λ x => HR a.q.c x), keep := λ a => KXPp a.q, pre := PPp }
def V4Pp (a : MPp) : Prop := AW Try.prog A4Pp F_eP (AK F_eP) (C4Pp.xs a) (AF (C4Pp.L a)) (C4Pp.val a) (C4Pp.keep a) [] []
abbrev BZR (a : MPp) : List Pr := AE a.l.length λ (i : Nat) => gD a.l i
abbrev BGI (a : MPp) : Nat := (BZR a).length
abbrev BSP (a : MPp) (i : Nat) : Pr := gD (BZR a) i
abbrev BSR (a : MPp) : Prop := a.q.c.p.lo = a.q.c.p.lo
abbrev BMO (a : MPp) : Prop := a.q.c.p.hi = a.q.c.p.hi
abbrev BSI (a : MPp) : Prop := a.q.c.base = a.q.c.base
abbrev BRA (a : MPp) : Prop := a.q.c.scale = a.q.c.scale
abbrev BPX (a : MPp) : Prop := a.q.c.off = a.q.c.off
abbrev BNU (a : MPp) : List Mk := AE a.q.c.ms.length λ (i : Nat) => gD a.q.c.ms i
abbrev BME (a : MPp) : Nat := (BNU a).length
abbrev BTF (a : MPp) (i : Nat) : Mk := gD (BNU a) i
abbrev BPZ (a : MPp) (i : Nat) : Int := (BTF a i).pl
abbrev BND (a : MPp) (i : Nat) : Int := (BTF a i).ht
abbrev Ze (a : MPp) : List Nt := AE a.q.c.ns.length λ (i : Nat) => gD a.q.c.ns i
abbrev xE (a : MPp) : Nat := (Ze a).length
abbrev AOE (a : MPp) (i : Nat) : Nt := gD (Ze a) i
abbrev BQZ (a : MPp) (i : Nat) : Int := (AOE a i).mi
abbrev BQP (a : MPp) (i : Nat) : Span := (AOE a i).t
abbrev BSH (a : MPp) (i : Nat) : Int := (BQP a i).lo
abbrev yS (a : MPp) (i : Nat) : Int := (gD a.q.c.ns i).t.lo
abbrev BTC (a : MPp) (i : Nat) : Int := (BQP a i).hi
abbrev uK (a : MPp) (i : Nat) : Int := (gD a.q.c.ns i).t.hi
abbrev BRK (a : MPp) (i : Nat) : Span := (AOE a i).s
abbrev BKI (a : MPp) (i : Nat) : Int := (BRK a i).lo
abbrev D5 (a : MPp) (i : Nat) : Int := (gD a.q.c.ns i).s.lo
abbrev BQD (a : MPp) (i : Nat) : Int := (BRK a i).hi
abbrev uI (a : MPp) (i : Nat) : Int := (gD a.q.c.ns i).s.hi
abbrev APR (a : MPp) : Prop := ∀ (i : Nat), i < 40 -> a.q.sp i = a.q.sp i
abbrev BPH (a : MPp) (n : Int) : Bool := hasN (Ze a) n
abbrev AOZ (a : MPp) : Prop := ∀ (n : Int), a.q.st n = a.q.st n
abbrev APU (a : MPp) (n : Int) : Nt := ntOf (Ze a) n
abbrev BNP (a : MPp) (n : Int) : Int := (APU a n).mi
abbrev BRO (a : MPp) (n : Int) : Span := (APU a n).t
abbrev BTI (a : MPp) (n : Int) : Int := (BRO a n).lo
abbrev BPR (a : MPp) (n : Int) : Int := (BRO a n).hi
abbrev BNX (a : MPp) (n : Int) : Span := (APU a n).s
abbrev BOY (a : MPp) (n : Int) : Int := (BNX a n).lo
abbrev BKN (a : MPp) (n : Int) : Int := (BNX a n).hi
abbrev BSZ (i : Nat) (a : MPp) : Prop := i < a.q.c.ms.length
abbrev BOV (i : Nat) (a : MPp) : Prop := i < a.q.c.ns.length
theorem CZE (a : MPp) : (V4Pp a) = ((BGI a = a.l.length /\ (∀ (i : Nat), i < BGI a -> (BSP a i).a = (gD a.l i).a /\ (BSP a i).b = (gD a.l i).b) /\ BSR a /\ BMO a /\ BSI a /\ BRA a /\ BPX a /\ BME a
 = a.q.c.ms.length /\ (∀ (i : Nat), i < BME a -> BPZ a i = (gD a.q.c.ms i).pl /\ BND a i = (gD a.q.c.ms i).ht) /\ xE a = a.q.c.ns.length /\ (∀ (i : Nat), i < xE a -> BQZ a i = (gD a.q.c.ns i).mi /\
 BSH a i = yS a i /\ BTC a i = uK a i /\ BKI a i = D5 a i /\ BQD a i = uI a i) /\ APR a /\ AT = AT /\ (∀ (n : Int), BPH a n = hasN a.q.c.ns n) /\ AOZ a /\ (∀ (n : Int), BNP a
 n = (ntOf a.q.c.ns n).mi /\ BTI a n = (ntOf a.q.c.ns n).t.lo /\ BPR a n = (ntOf a.q.c.ns n).t.hi /\ BOY a n = (ntOf a.q.c.ns n).s.lo /\ BKN a n = (ntOf a.q.c.ns n).s.hi) /\ BSR a /\ BMO a /\ BSI a /\
 BRA a /\ BPX a /\ a.q.c.ms.length = BME a /\ (∀ (i : Nat), BSZ i a -> (gD a.q.c.ms i).pl = BPZ a i /\ (gD a.q.c.ms i).ht = BND a i) /\ a.q.c.ns.length = xE a /\ (∀ (i : Nat), BOV i a -> (gD a.q.c.ns
 i).mi = BQZ a i /\ yS a i = BSH a i /\ uK a i = BTC a i /\ D5 a i = BKI a i /\ uI a i = BQD a i) /\ APR a /\ AT = AT /\ (∀ (n : Int), hasN a.q.c.ns n = BPH a n) /\ AOZ a /\ (∀
 (n : Int), (ntOf a.q.c.ns n).mi = BNP a n /\ (ntOf a.q.c.ns n).t.lo = BTI a n /\ (ntOf a.q.c.ns n).t.hi = BPR a n /\ (ntOf a.q.c.ns n).s.lo = BOY a n /\ (ntOf a.q.c.ns n).s.hi = BKN a n) /\ BGI a <
 4611686018427387904 /\ xE a < 1073741824) /\ (a.l.all λ (x : Pr) => HR a.q.c x) = !decide (GU (λ (i : Nat) => !HR (Cht.mk a.q.c.p a.q.c.base a.q.c.scale a.q.c.off (BNU a) (Ze a)) (BSP a i))
 (BGI a) 0 >= 0) /\ BSR a /\ BMO a /\ BSI a /\ BRA a /\ BPX a /\ a.q.c.ms.length = a.q.c.ms.length /\ (∀ (i : Nat), BSZ i a -> (gD a.q.c.ms i).pl = (gD a.q.c.ms i).pl /\ (gD a.q.c.ms i).ht = (gD a.q.c.ms
 i).ht) /\ a.q.c.ns.length = a.q.c.ns.length /\ (∀ (i : Nat), BOV i a -> (gD a.q.c.ns i).mi = (gD a.q.c.ns i).mi /\ yS a i = yS a i /\ uK a i = uK a i /\ D5 a i = D5 a i /\ uI a i = uI
 a i) /\ APR a /\ AT = AT /\ (∀ (n : Int), hasN a.q.c.ns n = hasN a.q.c.ns n) /\ AOZ a /\ ∀ (n : Int), (ntOf a.q.c.ns n).mi = (ntOf a.q.c.ns n).mi /\ (ntOf a.q.c.ns n).t.lo = (ntOf a.q.c.ns n).t.lo /\ (ntOf a.q.c.ns
 n).t.hi = (ntOf a.q.c.ns n).t.hi /\ (ntOf a.q.c.ns n).s.lo = (ntOf a.q.c.ns n).s.lo /\ (ntOf a.q.c.ns n).s.hi = (ntOf a.q.c.ns n).s.hi) := by kernel_rfl
theorem CXK (a : MPp) (h : AX (PPp a)) : FnT Try.prog n_eP (C4Pp.xs a) (AF (C4Pp.L a)) (C4Pp.val a) (C4Pp.keep a) := QX (A := A4Pp) (ren := []) (fz := []) CXV (by kernel_rfl) (AD CYA AI) (by
 have h' : a.l.length < 4611686018427387904 /\ a.q.c.ns.length < 1073741824 := h
 show V4Pp a; rw [CZE]; delta BZR BGI BSP BSR BMO BSI BRA BPX BNU BME BTF BPZ BND Ze xE AOE BQZ BQP BSH yS BTC uK BRK BKI D5 BQD uI APR BPH AOZ APU BNP BRO BTI BPR BNX BOY BKN BSZ BOV; simp only [CC, eq_self, implies_true, forall_const, ge_iff_le]
 rw [<- dK]
 exact ⟨h', rfl⟩)
theorem CYS : AL Try.prog n_eP (C4Pp.spec d4Pp) := Ctr.spec_ok (C := C4Pp) CXK _
end Go.Bal
