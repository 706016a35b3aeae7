/- Package chart: every pair. Printed by gench2.py. -/
import Derived.Test.YtdbjalgfomknhaaChG2
set_option linter.unusedVariables false
set_option linter.unusedSimpArgs false
namespace Go.Bal
open Go Go.Sym Go.Proofs
def LXPp (q : Dk) : List (Nat × AObj) := [(101, dkB q 102), (102, dkM q)]
def KXPp (q : Dk) : List (Nat × HCell) := [(101, .live (dkB q 102)), (102, .live (dkM q))]
def fvPp (q : Dk) : AVal := .fn (.func BUL) [.bptr 101 0] []
def BPp (q : Dk) : AObj := .box [fvPp q]
structure EPp where
 q : Dk
 e : Pr
structure MPp where
 q : Dk
 l : List Pr
def C1Pp : Ctr := { ro := [100, 101, 102], α := EPp, xs := λ a => [.d (ePr a.e), .bptr 100 0], L := λ a => (100, BPp a.q) :: LXPp a.q, val := λ a => .bool (!IH a.q.c a.e), keep := λ a => (100, .live (BPp a.q)) :: KXPp a.q, pre := λ a => [a.q.c.ns.length < 1073741824 /\ True] }
def d1Pp : List AVal -> Heap -> Option (EPp × List (Nat × Nat) × List Nat)
 | [.d d, .bptr id _], H => match H id with
  | .live (.box [.fn _ [.bptr j _] _]) => match fJ H j with
   | some (q, m) => some (⟨q, dPr d⟩, [(100, id), (101, j), (102, m)], [])
   | none => none
  | _ => none
 | _, _ => none
def A1Pp : Ann := { ann 8 [(BUL, C_pair.spec dDkP)] with E := [100, 101, 102] }
def V1Pp (a : EPp) : Prop := BB Try.prog A1Pp CLS (AL CLS) (C1Pp.xs a) (AG (C1Pp.L a)) (C1Pp.val a) (C1Pp.keep a) [] []
abbrev BSI (a : EPp) : Prop := a.q.c.p.lo = a.q.c.p.lo
abbrev BTN (a : EPp) : Prop := a.q.c.p.hi = a.q.c.p.hi
abbrev BVE (a : EPp) : Prop := a.q.c.base = a.q.c.base
abbrev BUO (a : EPp) : Prop := a.q.c.scale = a.q.c.scale
abbrev BRR (a : EPp) : Prop := a.q.c.off = a.q.c.off
abbrev BRO (a : EPp) : List Mk := AE a.q.c.ms.length λ (i : Nat) => gD a.q.c.ms i
abbrev BQJ (a : EPp) : Nat := (BRO a).length
abbrev BZI (a : EPp) (i : Nat) : Mk := gD (BRO a) i
abbrev CAM (a : EPp) (i : Nat) : Int := (BZI a i).pl
abbrev BZF (a : EPp) (i : Nat) : Int := (BZI a i).ht
abbrev Xd (a : EPp) : List Nt := AE a.q.c.ns.length λ (i : Nat) => gD a.q.c.ns i
abbrev wI (a : EPp) : Nat := (Xd a).length
abbrev AMP (a : EPp) (i : Nat) : Nt := gD (Xd a) i
abbrev BMI (a : EPp) (i : Nat) : Int := (AMP a i).mi
abbrev BUI (a : EPp) (i : Nat) : Span := (AMP a i).t
abbrev BOX (a : EPp) (i : Nat) : Int := (BUI a i).lo
abbrev wO (a : EPp) (i : Nat) : Int := (gD a.q.c.ns i).t.lo
abbrev BVL (a : EPp) (i : Nat) : Int := (BUI a i).hi
abbrev yV (a : EPp) (i : Nat) : Int := (gD a.q.c.ns i).t.hi
abbrev BRU (a : EPp) (i : Nat) : Span := (AMP a i).s
abbrev BTL (a : EPp) (i : Nat) : Int := (BRU a i).lo
abbrev uU (a : EPp) (i : Nat) : Int := (gD a.q.c.ns i).s.lo
abbrev BQT (a : EPp) (i : Nat) : Int := (BRU a i).hi
abbrev wG (a : EPp) (i : Nat) : Int := (gD a.q.c.ns i).s.hi
abbrev APM (a : EPp) : Prop := ∀ (i : Nat), i < 40 -> a.q.sp i = a.q.sp i
abbrev BVA (a : EPp) (n : Int) : Bool := hasN (Xd a) n
abbrev AOD (a : EPp) : Prop := ∀ (n : Int), a.q.st n = a.q.st n
abbrev AOS (a : EPp) (n : Int) : Nt := ntOf (Xd a) n
abbrev BNC (a : EPp) (n : Int) : Int := (AOS a n).mi
abbrev BNB (a : EPp) (n : Int) : Span := (AOS a n).t
abbrev BVM (a : EPp) (n : Int) : Int := (BNB a n).lo
abbrev BON (a : EPp) (n : Int) : Int := (BNB a n).hi
abbrev BPS (a : EPp) (n : Int) : Span := (AOS a n).s
abbrev BQD (a : EPp) (n : Int) : Int := (BPS a n).lo
abbrev BMG (a : EPp) (n : Int) : Int := (BPS a n).hi
abbrev BPH (i : Nat) (a : EPp) : Prop := i < a.q.c.ms.length
abbrev BRY (i : Nat) (a : EPp) : Prop := i < a.q.c.ns.length
theorem CZK (a : EPp) : (V1Pp a) = ((a.e.a = a.e.a /\ a.e.b = a.e.b /\ BSI a /\ BTN a /\ BVE a /\ BUO a /\ BRR a /\ BQJ a = a.q.c.ms.length /\ (∀ (i : Nat), i < BQJ a -> CAM a i = (gD a.q.c.ms i).pl /\
 BZF a i = (gD a.q.c.ms i).ht) /\ wI a = a.q.c.ns.length /\ (∀ (i : Nat), i < wI a -> BMI a i = (gD a.q.c.ns i).mi /\ BOX a i = wO a i /\ BVL a i = yV a i /\ BTL a i = uU a i /\
 BQT a i = wG a i) /\ APM a /\ AT = AT /\ (∀ (n : Int), BVA a n = hasN a.q.c.ns n) /\ AOD a /\ (∀ (n : Int), BNC a n = (ntOf a.q.c.ns n).mi /\ BVM a n = (ntOf a.q.c.ns n).t.lo /\ BON a n =
 (ntOf a.q.c.ns n).t.hi /\ BQD a n = (ntOf a.q.c.ns n).s.lo /\ BMG a n = (ntOf a.q.c.ns n).s.hi) /\ BSI a /\ BTN a /\ BVE a /\ BUO a /\ BRR a /\ a.q.c.ms.length = BQJ a /\ (∀ (i : Nat), BPH i a -> (gD
 a.q.c.ms i).pl = CAM a i /\ (gD a.q.c.ms i).ht = BZF a i) /\ a.q.c.ns.length = wI a /\ (∀ (i : Nat), BRY i a -> (gD a.q.c.ns i).mi = BMI a i /\ wO a i = BOX a i /\ yV a i = BVL a i /\
 uU a i = BTL a i /\ wG a i = BQT a i) /\ APM a /\ AT = AT /\ (∀ (n : Int), hasN a.q.c.ns n = BVA a n) /\ AOD a /\ (∀ (n : Int), (ntOf a.q.c.ns n).mi = BNC a n /\ (ntOf a.q.c.ns n).t.lo =
 BVM a n /\ (ntOf a.q.c.ns n).t.hi = BON a n /\ (ntOf a.q.c.ns n).s.lo = BQD a n /\ (ntOf a.q.c.ns n).s.hi = BMG a n) /\ wI a < 1073741824 /\ True) /\ (!IH a.q.c a.e) = !IH (Cht.mk a.q.c.p a.q.c.base
 a.q.c.scale a.q.c.off (BRO a) (Xd a)) a.e /\ BSI a /\ BTN a /\ BVE a /\ BUO a /\ BRR a /\ a.q.c.ms.length = a.q.c.ms.length /\ (∀ (i : Nat), BPH i a -> (gD a.q.c.ms i).pl = (gD a.q.c.ms i).pl /\ (gD
 a.q.c.ms i).ht = (gD a.q.c.ms i).ht) /\ a.q.c.ns.length = a.q.c.ns.length /\ (∀ (i : Nat), BRY i a -> (gD a.q.c.ns i).mi = (gD a.q.c.ns i).mi /\ wO a i = wO a i /\ yV a i = yV a i /\ uU a i =
 uU a i /\ wG a i = wG a i) /\ APM a /\ AT = AT /\ (∀ (n : Int), hasN a.q.c.ns n = hasN a.q.c.ns n) /\ AOD a /\ ∀ (n : Int), (ntOf a.q.c.ns n).mi = (ntOf a.q.c.ns n).mi /\ (ntOf a.q.c.ns n).t.lo = (ntOf
 a.q.c.ns n).t.lo /\ (ntOf a.q.c.ns n).t.hi = (ntOf a.q.c.ns n).t.hi /\ (ntOf a.q.c.ns n).s.lo = (ntOf a.q.c.ns n).s.lo /\ (ntOf a.q.c.ns n).s.hi = (ntOf a.q.c.ns n).s.hi) := by kernel_rfl
theorem DBE : AM Try.prog BXT (C1Pp.spec d1Pp) := LM C1Pp (λ _ => A1Pp) [] [] CXZ (λ _ => by kernel_rfl) (λ _ => AC CQI AJ) (λ (a : EPp) h => by
 have h : a.q.c.ns.length < 1073741824 := (show a.q.c.ns.length < 1073741824 /\ True from h).1
 show V1Pp a; rw [CZK]; delta BSI BTN BVE BUO BRR BRO BQJ BZI CAM BZF Xd wI AMP BMI BUI BOX wO BVL yV BRU BTL uU BQT wG APM BVA AOD AOS BNC BNB BVM BON BPS BQD BMG BPH BRY; simp [wr, HN, h, CB]) (λ _ => OA rfl rfl) _
def d2Pp : List AVal -> Heap -> Option (MPp × List (Nat × Nat) × List Nat)
 | [y, .fn _ _ [.bptr id _]], H => match yW y H with
  | some (n, g, f) => match H id with
   | .live (.box [.fn _ [.bptr j _] _]) => match fJ H j with
    | some (q, m) => some (⟨q, AE n λ i => dPr (g i)⟩, [(100, id), (101, j), (102, m)], f)
    | none => none
   | _ => none
  | none => none
 | _, _ => none
def A2Pp (a : MPp) : Ann := { ann 19 [(BXT, C1Pp.spec d1Pp)] with E := [100, 101, 102], loops := λ id => if id = 2 then some [{ α := Nat, dflt := 0, T := λ k => ⟨[(0, .d (Cx a.l)), (1, .fn (.func BXT) [] [.bptr 100 0]), (7, .int a.l.length), (8, .int k)], (100, .live (BPp a.q)) :: KXPp a.q⟩, inv := λ k => k <= a.l.length /\ HH (λ i => !IH a.q.c (gD a.l i)) a.l.length 0 = HH (λ i => !IH a.q.c (gD a.l i)) (a.l.length - k) k, meas := λ k => a.l.length - k }] else none }
def PPp (a : MPp) : List Prop := [a.l.length < 4611686018427387904 /\ a.q.c.ns.length < 1073741824]
def C2Pp : Ctr := { ro := [100, 101, 102], α := MPp, xs := λ a => [.d (Cx a.l), .fn (.func BXT) [] [.bptr 100 0]], L := λ a => (100, BPp a.q) :: LXPp a.q, val := λ a => .int (HH (λ i => !IH a.q.c (gD a.l i)) a.l.length 0), keep := λ a => (100, .live (BPp a.q)) :: KXPp a.q, pre := PPp }
def V2Pp (a : MPp) : Prop := BB Try.prog (A2Pp a) CLL (AL CLL) (C2Pp.xs a) (AG (C2Pp.L a)) (C2Pp.val a) (C2Pp.keep a) [] []
abbrev CAW (a : MPp) : Prop := a.l.length = a.l.length
abbrev BZW (a : MPp) (i : Nat) : Prop := (gD a.l i).a = (gD a.l i).a
abbrev CAA (a : MPp) (i : Nat) : Prop := (gD a.l i).b = (gD a.l i).b
abbrev BZX (a : MPp) : Prop := ∀ (i : Nat), i < a.l.length -> BZW a i /\ CAA a i
abbrev CBG (a : MPp) : Prop := (↑a.l.length : Int) = (↑a.l.length : Int)
abbrev BOB (a : MPp) : Prop := a.q.c.p.lo = a.q.c.p.lo
abbrev BSZ (a : MPp) : Prop := a.q.c.p.hi = a.q.c.p.hi
abbrev BWB (a : MPp) : Prop := a.q.c.base = a.q.c.base
abbrev BLR (a : MPp) : Prop := a.q.c.scale = a.q.c.scale
abbrev BVJ (a : MPp) : Prop := a.q.c.off = a.q.c.off
abbrev BLU (i : Nat) (a : MPp) : Prop := i < a.q.c.ms.length
abbrev BWA (i : Nat) (a : MPp) : Prop := i < a.q.c.ns.length
abbrev wF (a : MPp) (i : Nat) : Int := (gD a.q.c.ns i).t.lo
abbrev O0 (a : MPp) (i : Nat) : Int := (gD a.q.c.ns i).t.hi
abbrev uM (a : MPp) (i : Nat) : Int := (gD a.q.c.ns i).s.lo
abbrev H3 (a : MPp) (i : Nat) : Int := (gD a.q.c.ns i).s.hi
abbrev APL (a : MPp) : Prop := ∀ (i : Nat), i < 40 -> a.q.sp i = a.q.sp i
abbrev APO (a : MPp) : Prop := ∀ (n : Int), a.q.st n = a.q.st n
abbrev C4 (a : MPp) : Prop := BOB a /\ BSZ a /\ BWB a /\ BLR a /\ BVJ a /\ a.q.c.ms.length = a.q.c.ms.length /\ (∀ (i : Nat), BLU i a -> (gD a.q.c.ms i).pl = (gD a.q.c.ms i).pl /\ (gD a.q.c.ms i).ht = (gD
 a.q.c.ms i).ht) /\ a.q.c.ns.length = a.q.c.ns.length /\ (∀ (i : Nat), BWA i a -> (gD a.q.c.ns i).mi = (gD a.q.c.ns i).mi /\ wF a i = wF a i /\ O0 a i = O0 a i /\ uM a i = uM a i /\ H3 a i
 = H3 a i) /\ APL a /\ AT = AT /\ (∀ (n : Int), hasN a.q.c.ns n = hasN a.q.c.ns n) /\ APO a /\ ∀ (n : Int), (ntOf a.q.c.ns n).mi = (ntOf a.q.c.ns n).mi /\ (ntOf a.q.c.ns n).t.lo = (ntOf a.q.c.ns n).t.lo /\ (ntOf
 a.q.c.ns n).t.hi = (ntOf a.q.c.ns n).t.hi /\ (ntOf a.q.c.ns n).s.lo = (ntOf a.q.c.ns n).s.lo /\ (ntOf a.q.c.ns n).s.hi = (ntOf a.q.c.ns n).s.hi
abbrev BLH (a : MPp) (i : Nat) : Bool := !IH a.q.c (gD a.l i)
abbrev ANE (a : MPp) : Int := HH (λ (i : Nat) => BLH a i) a.l.length 0
abbrev AOU (a : MPp) (a1 : Nat) : Nat := a.l.length - a1
abbrev AOK (a : Nat) (a1 : MPp) : Prop := a <= a1.l.length /\ ANE a1 = HH (λ (i : Nat) => BLH a1 i) (AOU a1 a) a
abbrev BQW (a : Nat) (a1 : MPp) : Prop := (↑a : Int) < (↑a1.l.length : Int)
abbrev APR (a : MPp) : List Mk := AE a.q.c.ms.length λ (i : Nat) => gD a.q.c.ms i
abbrev AOG (a : MPp) : Nat := (APR a).length
abbrev BNU (a : MPp) (i : Nat) : Mk := gD (APR a) i
abbrev BPX (a : MPp) (i : Nat) : Int := (BNU a i).pl
abbrev BOT (a : MPp) (i : Nat) : Int := (BNU a i).ht
abbrev fC (a : MPp) : List Nt := AE a.q.c.ns.length λ (i : Nat) => gD a.q.c.ns i
abbrev J8 (a : MPp) : Nat := (fC a).length
abbrev ANJ (a : MPp) (i : Nat) : Nt := gD (fC a) i
abbrev BSX (a : MPp) (i : Nat) : Int := (ANJ a i).mi
abbrev BRK (a : MPp) (i : Nat) : Span := (ANJ a i).t
abbrev BLB (a : MPp) (i : Nat) : Int := (BRK a i).lo
abbrev BUU (a : MPp) (i : Nat) : Int := (BRK a i).hi
abbrev BPC (a : MPp) (i : Nat) : Span := (ANJ a i).s
abbrev BPM (a : MPp) (i : Nat) : Int := (BPC a i).lo
abbrev BSD (a : MPp) (i : Nat) : Int := (BPC a i).hi
abbrev BNQ (a : MPp) (n : Int) : Bool := hasN (fC a) n
abbrev API (a : MPp) (n : Int) : Nt := ntOf (fC a) n
abbrev BLO (a : MPp) (n : Int) : Int := (API a n).mi
abbrev BPY (a : MPp) (n : Int) : Span := (API a n).t
abbrev BMK (a : MPp) (n : Int) : Int := (BPY a n).lo
abbrev BNN (a : MPp) (n : Int) : Int := (BPY a n).hi
abbrev BUM (a : MPp) (n : Int) : Span := (API a n).s
abbrev BMB (a : MPp) (n : Int) : Int := (BUM a n).lo
abbrev BVT (a : MPp) (n : Int) : Int := (BUM a n).hi
theorem CZT (a : MPp) : (V2Pp a) = ((∃ (a_1 : Nat), (CAW a /\ BZX a /\ CBG a /\ (↑a_1 : Int) = 0 /\ C4 a) /\ AOK a_1 a) /\ ∀ (a_1 : Nat), AOK a_1 a -> bif decide (BQW a_1 a) then ((0 <= (↑a_1 : Int) /\
 BQW a_1 a) /\ BZW a a_1 /\ CAA a a_1 /\ BOB a /\ BSZ a /\ BWB a /\ BLR a /\ BVJ a /\ AOG a = a.q.c.ms.length /\ (∀ (i : Nat), i < AOG a -> BPX a i = (gD a.q.c.ms i).pl /\ BOT a i = (gD
 a.q.c.ms i).ht) /\ J8 a = a.q.c.ns.length /\ (∀ (i : Nat), i < J8 a -> BSX a i = (gD a.q.c.ns i).mi /\ BLB a i = wF a i /\ BUU a i = O0 a i /\ BPM a i = uM a i /\ BSD a i = H3 a
 i) /\ APL a /\ AT = AT /\ (∀ (n : Int), BNQ a n = hasN a.q.c.ns n) /\ APO a /\ (∀ (n : Int), BLO a n = (ntOf a.q.c.ns n).mi /\ BMK a n = (ntOf a.q.c.ns n).t.lo /\ BNN a n = (ntOf a.q.c.ns n).t.hi /\
 BMB a n = (ntOf a.q.c.ns n).s.lo /\ BVT a n = (ntOf a.q.c.ns n).s.hi) /\ BOB a /\ BSZ a /\ BWB a /\ BLR a /\ BVJ a /\ a.q.c.ms.length = AOG a /\ (∀ (i : Nat), BLU i a -> (gD a.q.c.ms i).pl = BPX
 a i /\ (gD a.q.c.ms i).ht = BOT a i) /\ a.q.c.ns.length = J8 a /\ (∀ (i : Nat), BWA i a -> (gD a.q.c.ns i).mi = BSX a i /\ wF a i = BLB a i /\ O0 a i = BUU a i /\ uM a i = BPM a i /\
 H3 a i = BSD a i) /\ APL a /\ AT = AT /\ (∀ (n : Int), hasN a.q.c.ns n = BNQ a n) /\ APO a /\ (∀ (n : Int), (ntOf a.q.c.ns n).mi = BLO a n /\ (ntOf a.q.c.ns n).t.lo = BMK a n /\ (ntOf a.q.c.ns
 n).t.hi = BNN a n /\ (ntOf a.q.c.ns n).s.lo = BMB a n /\ (ntOf a.q.c.ns n).s.hi = BVT a n) /\ J8 a < 1073741824 /\ True) /\ bif !IH (Cht.mk a.q.c.p a.q.c.base a.q.c.scale a.q.c.off (APR a) (fC a))
 (gD a.l a_1) then ANE a = (↑a_1 : Int) /\ C4 a else ∃ (a_3 : Nat), (CAW a /\ BZX a /\ CBG a /\ (↑a_3 : Int) = IntKind.i64.wrap ((↑a_1 : Int) + 1) /\ C4 a) /\ AOK a_3 a /\ AOU a a_3 < AOU a a_1
 else ANE a = -1 /\ C4 a) := by kernel_rfl
theorem p2Pp (a : MPp) (h : BA (PPp a)) : V2Pp a := by
 obtain ⟨h, hp⟩ : a.l.length < 4611686018427387904 /\ a.q.c.ns.length < 1073741824 := h
 rw [CZT]; delta CAW BZW CAA BZX CBG BOB BSZ BWB BLR BVJ BLU BWA wF O0 uM H3 APL APO C4 BLH ANE AOU AOK BQW APR AOG BNU BPX BOT fC J8 ANJ BSX BRK BLB BUU BPC BPM BSD BNQ API BLO BPY BMK BNN BUM BMB BVT
 simp only [CC, eq_self, implies_true, forall_const]
 refine ⟨⟨0, rfl, Nat.zero_le _, rfl⟩, λ k ⟨h1, h2⟩ => ⟨λ hlt => ?_, λ hge => ?_⟩⟩
 ·have hlt : k < a.l.length := by omega
  refine ⟨⟨⟨by omega, by omega⟩, hp⟩, λ hp => ?_, λ hp => ⟨k + 1, (GK (by omega)).symm, ⟨by omega, ?_⟩, by omega⟩⟩
  ·rw [h2]; exact Pb hlt (by simpa using hp)
  ·rw [h2]; exact AZS hlt (by simpa using hp)
 ·rw [h2]; exact vE (by omega)
theorem CZW : AM Try.prog CMS (C2Pp.spec d2Pp) := LM C2Pp A2Pp [] [] CVG (λ _ => by kernel_rfl) (λ _ => AC DBE AJ) p2Pp (λ _ => OA rfl rfl) _
def C3Pp : Ctr := { C2Pp with val := λ (a : MPp) => .bool (decide (HH (λ i => !IH a.q.c (gD a.l i)) a.l.length 0 >= 0)) }
def d3Pp : List AVal -> Heap -> Option (C3Pp.α × List (Nat × Nat) × List Nat) := d2Pp
def A3Pp : Ann := { ann 9 [(CMS, C2Pp.spec d2Pp)] with E := [100, 101, 102] }
def V3Pp (a : MPp) : Prop := BB Try.prog A3Pp CHR (AL CHR) (C3Pp.xs a) (AG (C3Pp.L a)) (C3Pp.val a) (C3Pp.keep a) [] []
abbrev CBP (a : MPp) : List Pr := AE a.l.length λ (i : Nat) => gD a.l i
abbrev ATB (a : MPp) : Nat := (CBP a).length
abbrev BVD (a : MPp) (i : Nat) : Pr := gD (CBP a) i
abbrev BQC (a : MPp) : Prop := a.q.c.p.lo = a.q.c.p.lo
abbrev BOD (a : MPp) : Prop := a.q.c.p.hi = a.q.c.p.hi
abbrev BTS (a : MPp) : Prop := a.q.c.base = a.q.c.base
abbrev BLJ (a : MPp) : Prop := a.q.c.scale = a.q.c.scale
abbrev BPZ (a : MPp) : Prop := a.q.c.off = a.q.c.off
abbrev BLZ (a : MPp) : List Mk := AE a.q.c.ms.length λ (i : Nat) => gD a.q.c.ms i
abbrev BPE (a : MPp) : Nat := (BLZ a).length
abbrev BLK (a : MPp) (i : Nat) : Mk := gD (BLZ a) i
abbrev BVB (a : MPp) (i : Nat) : Int := (BLK a i).pl
abbrev BTT (a : MPp) (i : Nat) : Int := (BLK a i).ht
abbrev Xx (a : MPp) : List Nt := AE a.q.c.ns.length λ (i : Nat) => gD a.q.c.ns i
abbrev xE (a : MPp) : Nat := (Xx a).length
abbrev APU (a : MPp) (i : Nat) : Nt := gD (Xx a) i
abbrev BPB (a : MPp) (i : Nat) : Int := (APU a i).mi
abbrev BNJ (a : MPp) (i : Nat) : Span := (APU a i).t
abbrev BVR (a : MPp) (i : Nat) : Int := (BNJ a i).lo
abbrev D0 (a : MPp) (i : Nat) : Int := (gD a.q.c.ns i).t.lo
abbrev BTW (a : MPp) (i : Nat) : Int := (BNJ a i).hi
abbrev yA (a : MPp) (i : Nat) : Int := (gD a.q.c.ns i).t.hi
abbrev BTX (a : MPp) (i : Nat) : Span := (APU a i).s
abbrev BQP (a : MPp) (i : Nat) : Int := (BTX a i).lo
abbrev tV (a : MPp) (i : Nat) : Int := (gD a.q.c.ns i).s.lo
abbrev BMU (a : MPp) (i : Nat) : Int := (BTX a i).hi
abbrev H9 (a : MPp) (i : Nat) : Int := (gD a.q.c.ns i).s.hi
abbrev AOI (a : MPp) : Prop := ∀ (i : Nat), i < 40 -> a.q.sp i = a.q.sp i
abbrev BNR (a : MPp) (n : Int) : Bool := hasN (Xx a) n
abbrev AMZ (a : MPp) : Prop := ∀ (n : Int), a.q.st n = a.q.st n
abbrev AOV (a : MPp) (n : Int) : Nt := ntOf (Xx a) n
abbrev BNL (a : MPp) (n : Int) : Int := (AOV a n).mi
abbrev BQZ (a : MPp) (n : Int) : Span := (AOV a n).t
abbrev BOF (a : MPp) (n : Int) : Int := (BQZ a n).lo
abbrev BQH (a : MPp) (n : Int) : Int := (BQZ a n).hi
abbrev BOA (a : MPp) (n : Int) : Span := (AOV a n).s
abbrev BPG (a : MPp) (n : Int) : Int := (BOA a n).lo
abbrev BNY (a : MPp) (n : Int) : Int := (BOA a n).hi
abbrev BQI (i : Nat) (a : MPp) : Prop := i < a.q.c.ms.length
abbrev BSE (i : Nat) (a : MPp) : Prop := i < a.q.c.ns.length
theorem DAB (a : MPp) : (V3Pp a) = ((ATB a = a.l.length /\ (∀ (i : Nat), i < ATB a -> (BVD a i).a = (gD a.l i).a /\ (BVD a i).b = (gD a.l i).b) /\ BQC a /\ BOD a /\ BTS a /\ BLJ a /\ BPZ a /\ BPE a
 = a.q.c.ms.length /\ (∀ (i : Nat), i < BPE a -> BVB a i = (gD a.q.c.ms i).pl /\ BTT a i = (gD a.q.c.ms i).ht) /\ xE a = a.q.c.ns.length /\ (∀ (i : Nat), i < xE a -> BPB a i = (gD a.q.c.ns i).mi /\
 BVR a i = D0 a i /\ BTW a i = yA a i /\ BQP a i = tV a i /\ BMU a i = H9 a i) /\ AOI a /\ AT = AT /\ (∀ (n : Int), BNR a n = hasN a.q.c.ns n) /\ AMZ a /\ (∀ (n : Int), BNL a
 n = (ntOf a.q.c.ns n).mi /\ BOF a n = (ntOf a.q.c.ns n).t.lo /\ BQH a n = (ntOf a.q.c.ns n).t.hi /\ BPG a n = (ntOf a.q.c.ns n).s.lo /\ BNY a n = (ntOf a.q.c.ns n).s.hi) /\ BQC a /\ BOD a /\ BTS a /\
 BLJ a /\ BPZ a /\ a.q.c.ms.length = BPE a /\ (∀ (i : Nat), BQI i a -> (gD a.q.c.ms i).pl = BVB a i /\ (gD a.q.c.ms i).ht = BTT a i) /\ a.q.c.ns.length = xE a /\ (∀ (i : Nat), BSE i a -> (gD a.q.c.ns
 i).mi = BPB a i /\ D0 a i = BVR a i /\ yA a i = BTW a i /\ tV a i = BQP a i /\ H9 a i = BMU a i) /\ AOI a /\ AT = AT /\ (∀ (n : Int), hasN a.q.c.ns n = BNR a n) /\ AMZ a /\ (∀
 (n : Int), (ntOf a.q.c.ns n).mi = BNL a n /\ (ntOf a.q.c.ns n).t.lo = BOF a n /\ (ntOf a.q.c.ns n).t.hi = BQH a n /\ (ntOf a.q.c.ns n).s.lo = BPG a n /\ (ntOf a.q.c.ns n).s.hi = BNY a n) /\ ATB a <
 4611686018427387904 /\ xE a < 1073741824) /\ decide (HH (λ (i : Nat) => !IH a.q.c (gD a.l i)) a.l.length 0 >= 0) = decide (HH (λ (i : Nat) => !IH (Cht.mk a.q.c.p a.q.c.base a.q.c.scale a.q.c.off (BLZ a)
 (Xx a)) (BVD a i)) (ATB a) 0 >= 0) /\ BQC a /\ BOD a /\ BTS a /\ BLJ a /\ BPZ a /\ a.q.c.ms.length = a.q.c.ms.length /\ (∀ (i : Nat), BQI i a -> (gD a.q.c.ms i).pl = (gD a.q.c.ms i).pl /\ (gD a.q.c.ms
 i).ht = (gD a.q.c.ms i).ht) /\ a.q.c.ns.length = a.q.c.ns.length /\ (∀ (i : Nat), BSE i a -> (gD a.q.c.ns i).mi = (gD a.q.c.ns i).mi /\ D0 a i = D0 a i /\ yA a i = yA a i /\ tV a i = tV a i /\
 H9 a i = H9 a i) /\ AOI a /\ AT = AT /\ (∀ (n : Int), hasN a.q.c.ns n = hasN a.q.c.ns n) /\ AMZ a /\ ∀ (n : Int), (ntOf a.q.c.ns n).mi = (ntOf a.q.c.ns n).mi /\ (ntOf a.q.c.ns n).t.lo = (ntOf a.q.c.ns
 n).t.lo /\ (ntOf a.q.c.ns n).t.hi = (ntOf a.q.c.ns n).t.hi /\ (ntOf a.q.c.ns n).s.lo = (ntOf a.q.c.ns n).s.lo /\ (ntOf a.q.c.ns n).s.hi = (ntOf a.q.c.ns n).s.hi) := by kernel_rfl
theorem CZF : AM Try.prog CND (C3Pp.spec d3Pp) := Ctr.spec_ok (C := C3Pp) (λ (a : MPp) h => UV (A := A3Pp) (ren := []) (fz := []) CXR (by kernel_rfl) (AC CZW AJ) (by
 obtain ⟨h, hp⟩ : a.l.length < 4611686018427387904 /\ a.q.c.ns.length < 1073741824 := h
 show V3Pp a; rw [DAB]; delta CBP ATB BVD BQC BOD BTS BLJ BPZ BLZ BPE BLK BVB BTT Xx xE APU BPB BNJ BVR D0 BTW yA BTX BQP tV BMU H9 AOI BNR AMZ AOV BNL BQZ BOF BQH BOA BPG BNY BQI BSE; simp [h, hp, HN, CB])) _
def d4Pp : List AVal -> Heap -> Option (MPp × List (Nat × Nat) × List Nat)
 | [y, .fn _ [.bptr j _] _], H => match yW y H with
  | some (n, g, f) => match fJ H j with
   | some (q, m) => some (⟨q, AE n λ i => dPr (g i)⟩, [(101, j), (102, m)], f)
   | none => none
  | none => none
 | _, _ => none
def A4Pp : Ann := { ann 9 [(CND, C3Pp.spec d3Pp)] with E := [101, 102] }
def C4Pp : Ctr := { ro := [101, 102], α := MPp, xs := λ a => [.d (Cx a.l), fvPp a.q], L := λ a => LXPp a.q, val := λ a => .bool (a.l.all λ x => IH a.q.c x), keep := λ a => KXPp a.q, pre := PPp }
def V4Pp (a : MPp) : Prop := BB Try.prog A4Pp F_eP (AL F_eP) (C4Pp.xs a) (AG (C4Pp.L a)) (C4Pp.val a) (C4Pp.keep a) [] []
abbrev BZG (a : MPp) : List Pr := AE a.l.length λ (i : Nat) => gD a.l i
abbrev AUA (a : MPp) : Nat := (BZG a).length
abbrev BSJ (a : MPp) (i : Nat) : Pr := gD (BZG a) i
abbrev BNM (a : MPp) : Prop := a.q.c.p.lo = a.q.c.p.lo
abbrev BLN (a : MPp) : Prop := a.q.c.p.hi = a.q.c.p.hi
abbrev BVN (a : MPp) : Prop := a.q.c.base = a.q.c.base
abbrev BNO (a : MPp) : Prop := a.q.c.scale = a.q.c.scale
abbrev BRZ (a : MPp) : Prop := a.q.c.off = a.q.c.off
abbrev BNT (a : MPp) : List Mk := AE a.q.c.ms.length λ (i : Nat) => gD a.q.c.ms i
abbrev BMX (a : MPp) : Nat := (BNT a).length
abbrev BLA (a : MPp) (i : Nat) : Mk := gD (BNT a) i
abbrev BQS (a : MPp) (i : Nat) : Int := (BLA a i).pl
abbrev BRJ (a : MPp) (i : Nat) : Int := (BLA a i).ht
abbrev aS (a : MPp) : List Nt := AE a.q.c.ns.length λ (i : Nat) => gD a.q.c.ns i
abbrev uK (a : MPp) : Nat := (aS a).length
abbrev AMT (a : MPp) (i : Nat) : Nt := gD (aS a) i
abbrev BWD (a : MPp) (i : Nat) : Int := (AMT a i).mi
abbrev BVQ (a : MPp) (i : Nat) : Span := (AMT a i).t
abbrev BMY (a : MPp) (i : Nat) : Int := (BVQ a i).lo
abbrev tP (a : MPp) (i : Nat) : Int := (gD a.q.c.ns i).t.lo
abbrev BRL (a : MPp) (i : Nat) : Int := (BVQ a i).hi
abbrev vO (a : MPp) (i : Nat) : Int := (gD a.q.c.ns i).t.hi
abbrev BLQ (a : MPp) (i : Nat) : Span := (AMT a i).s
abbrev BUA (a : MPp) (i : Nat) : Int := (BLQ a i).lo
abbrev wL (a : MPp) (i : Nat) : Int := (gD a.q.c.ns i).s.lo
abbrev BUK (a : MPp) (i : Nat) : Int := (BLQ a i).hi
abbrev vU (a : MPp) (i : Nat) : Int := (gD a.q.c.ns i).s.hi
abbrev AMQ (a : MPp) : Prop := ∀ (i : Nat), i < 40 -> a.q.sp i = a.q.sp i
abbrev BOV (a : MPp) (n : Int) : Bool := hasN (aS a) n
abbrev AMR (a : MPp) : Prop := ∀ (n : Int), a.q.st n = a.q.st n
abbrev AOR (a : MPp) (n : Int) : Nt := ntOf (aS a) n
abbrev BMZ (a : MPp) (n : Int) : Int := (AOR a n).mi
abbrev BOE (a : MPp) (n : Int) : Span := (AOR a n).t
abbrev BPO (a : MPp) (n : Int) : Int := (BOE a n).lo
abbrev BNP (a : MPp) (n : Int) : Int := (BOE a n).hi
abbrev BUG (a : MPp) (n : Int) : Span := (AOR a n).s
abbrev BSL (a : MPp) (n : Int) : Int := (BUG a n).lo
abbrev BPI (a : MPp) (n : Int) : Int := (BUG a n).hi
abbrev BPR (i : Nat) (a : MPp) : Prop := i < a.q.c.ms.length
abbrev BUX (i : Nat) (a : MPp) : Prop := i < a.q.c.ns.length
theorem CZC (a : MPp) : (V4Pp a) = ((AUA a = a.l.length /\ (∀ (i : Nat), i < AUA a -> (BSJ a i).a = (gD a.l i).a /\ (BSJ a i).b = (gD a.l i).b) /\ BNM a /\ BLN a /\ BVN a /\ BNO a /\ BRZ a /\ BMX a
 = a.q.c.ms.length /\ (∀ (i : Nat), i < BMX a -> BQS a i = (gD a.q.c.ms i).pl /\ BRJ a i = (gD a.q.c.ms i).ht) /\ uK a = a.q.c.ns.length /\ (∀ (i : Nat), i < uK a -> BWD a i = (gD a.q.c.ns i).mi /\
 BMY a i = tP a i /\ BRL a i = vO a i /\ BUA a i = wL a i /\ BUK a i = vU a i) /\ AMQ a /\ AT = AT /\ (∀ (n : Int), BOV a n = hasN a.q.c.ns n) /\ AMR a /\ (∀ (n : Int), BMZ a
 n = (ntOf a.q.c.ns n).mi /\ BPO a n = (ntOf a.q.c.ns n).t.lo /\ BNP a n = (ntOf a.q.c.ns n).t.hi /\ BSL a n = (ntOf a.q.c.ns n).s.lo /\ BPI a n = (ntOf a.q.c.ns n).s.hi) /\ BNM a /\ BLN a /\ BVN a /\
 BNO a /\ BRZ a /\ a.q.c.ms.length = BMX a /\ (∀ (i : Nat), BPR i a -> (gD a.q.c.ms i).pl = BQS a i /\ (gD a.q.c.ms i).ht = BRJ a i) /\ a.q.c.ns.length = uK a /\ (∀ (i : Nat), BUX i a -> (gD a.q.c.ns
 i).mi = BWD a i /\ tP a i = BMY a i /\ vO a i = BRL a i /\ wL a i = BUA a i /\ vU a i = BUK a i) /\ AMQ a /\ AT = AT /\ (∀ (n : Int), hasN a.q.c.ns n = BOV a n) /\ AMR a /\ (∀
 (n : Int), (ntOf a.q.c.ns n).mi = BMZ a n /\ (ntOf a.q.c.ns n).t.lo = BPO a n /\ (ntOf a.q.c.ns n).t.hi = BNP a n /\ (ntOf a.q.c.ns n).s.lo = BSL a n /\ (ntOf a.q.c.ns n).s.hi = BPI a n) /\ AUA a <
 4611686018427387904 /\ uK a < 1073741824) /\ (a.l.all λ (x : Pr) => IH a.q.c x) = !decide (HH (λ (i : Nat) => !IH (Cht.mk a.q.c.p a.q.c.base a.q.c.scale a.q.c.off (BNT a) (aS a)) (BSJ a i))
 (AUA a) 0 >= 0) /\ BNM a /\ BLN a /\ BVN a /\ BNO a /\ BRZ a /\ a.q.c.ms.length = a.q.c.ms.length /\ (∀ (i : Nat), BPR i a -> (gD a.q.c.ms i).pl = (gD a.q.c.ms i).pl /\ (gD a.q.c.ms i).ht = (gD a.q.c.ms
 i).ht) /\ a.q.c.ns.length = a.q.c.ns.length /\ (∀ (i : Nat), BUX i a -> (gD a.q.c.ns i).mi = (gD a.q.c.ns i).mi /\ tP a i = tP a i /\ vO a i = vO a i /\ wL a i = wL a i /\ vU a i = vU
 a i) /\ AMQ a /\ AT = AT /\ (∀ (n : Int), hasN a.q.c.ns n = hasN a.q.c.ns n) /\ AMR a /\ ∀ (n : Int), (ntOf a.q.c.ns n).mi = (ntOf a.q.c.ns n).mi /\ (ntOf a.q.c.ns n).t.lo = (ntOf a.q.c.ns n).t.lo /\ (ntOf a.q.c.ns
 n).t.hi = (ntOf a.q.c.ns n).t.hi /\ (ntOf a.q.c.ns n).s.lo = (ntOf a.q.c.ns n).s.lo /\ (ntOf a.q.c.ns n).s.hi = (ntOf a.q.c.ns n).s.hi) := by kernel_rfl
theorem DAV (a : MPp) (h : BA (PPp a)) : FnT Try.prog n_eP (C4Pp.xs a) (AG (C4Pp.L a)) (C4Pp.val a) (C4Pp.keep a) := UV (A := A4Pp) (ren := []) (fz := []) DAT (by kernel_rfl) (AC CZF AJ) (by
 have h' : a.l.length < 4611686018427387904 /\ a.q.c.ns.length < 1073741824 := h
 show V4Pp a; rw [CZC]; delta BZG AUA BSJ BNM BLN BVN BNO BRZ BNT BMX BLA BQS BRJ aS uK AMT BWD BVQ BMY tP BRL vO BLQ BUA wL BUK vU AMQ BOV AMR AOR BMZ BOE BPO BNP BUG BSL BPI BPR BUX; simp only [CC, eq_self, implies_true, forall_const, ge_iff_le]
 rw [<- Zu]
 exact ⟨h', rfl⟩)
theorem DAQ : AM Try.prog n_eP (C4Pp.spec d4Pp) := Ctr.spec_ok (C := C4Pp) DAV _
end Go.Bal
