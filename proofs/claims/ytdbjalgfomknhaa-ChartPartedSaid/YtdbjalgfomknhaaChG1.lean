/- Package chart: the order of notes, fewer than 13. Turned from RatR. -/
import Derived.Test.YtdbjalgfomknhaaChD3
set_option linter.unusedVariables false
set_option linter.unusedSimpArgs false
namespace Go.Bal
open Go Go.Sym Go.Proofs
def CIB (x : Int) : Prop := BB Try.prog (ann 6 []) CBW (AL CBW) (xI1 x) (AG []) (.bool false) [] [] []
theorem CRB (x : Int) : (CIB x) = (false = (x != x)) := by kernel_rfl
def CBU := pD dI1 λ _ => .bool false
theorem CQX : AM Try.prog BUN CBU := WW xI1 hI1 λ g _ => UV (A := ann 6 []) (ren := []) (fz := []) CRN (by kernel_rfl) AJ (by
 show CIB g; rw [CRB]; simp)
def tQ (a b : Int) : Int := bif decide (a < b) then -1 else bif decide (a > b) then 1 else 0
def CMR (x : I2) : Prop := BB Try.prog (ann 20 [(BUN, CBU)]) BZU (AL BZU) (xI2 x) (AG []) (.int (tQ x.a x.b)) [] [] []
theorem CRH (x : I2) : (CMR x) = (bif decide (x.a < x.b) then tQ x.a x.b = -1 else bif decide (x.a > x.b) then tQ x.a x.b = 1 else tQ x.a x.b = 0) := by kernel_rfl
def CIN := pD dI2 λ x => .int (tQ x.a x.b)
theorem CRI : AM Try.prog BZQ CIN := WW xI2 hI2 λ g _ => UV (A := ann 20 [(BUN, CBU)]) (ren := []) (fz := []) CRG (by kernel_rfl) (AC CQX AJ) (by
 show CMR g; rw [CRH]; unfold tQ; by_cases h : g.a < g.b <;> by_cases h2 : g.b < g.a <;> simp [h, h2])
structure GAB where
 g : Cht
 a : Int
 b : Int
def HQ (c : Cht) (x : Int) : Int := (gD c.ns x.toNat).mi
def bxG (c : Cht) : AObj := chB c
def dGAB : List AVal -> Heap -> Option (GAB × List (Nat × Nat) × List Nat)
 | [.d x, .d y, .bptr id _], H => match SM H id with
  | some q => some (⟨q, CL x, CL y⟩, [(100, id)], [])
  | none => none
 | _, _ => none
def C_fw1 : Ctr := { ro := [100], α := GAB, xs := λ a => [.int a.a, .int a.b, .bptr 100 0], L := λ a => [(100, bxG a.g)], val := λ a => .int (tQ (HQ a.g a.a) (HQ a.g a.b)), keep := λ a => [(100, .live (bxG a.g))], pre := λ a => [(0 <= a.a /\ a.a < a.g.ns.length) /\ 0 <= a.b /\ a.b < a.g.ns.length] }
def CTM : Ann := { ann 19 [(BZQ, CIN)] with E := [100] }
def CVA (a : GAB) : Prop := BB Try.prog CTM CAF (AL CAF) (C_fw1.xs a) (AG (C_fw1.L a)) (C_fw1.val a) (C_fw1.keep a) [] []
theorem CWR (a : GAB) : (CVA a) = (((0 <= a.a /\ a.a < (↑a.g.ns.length : Int)) /\ 0 <= a.b /\ a.b < (↑a.g.ns.length : Int)) /\ tQ (HQ a.g a.a) (HQ a.g a.b) = tQ (gD a.g.ns a.a.toNat).mi (gD a.g.ns a.b.toNat).mi /\
 a.g.p.lo = a.g.p.lo /\ a.g.p.hi = a.g.p.hi /\ a.g.base = a.g.base /\ a.g.scale = a.g.scale /\ a.g.off = a.g.off /\ a.g.ms.length = a.g.ms.length /\ (∀ (i : Nat), i < a.g.ms.length -> (gD a.g.ms i).pl = (gD a.g.ms i).pl /\ (gD
 a.g.ms i).ht = (gD a.g.ms i).ht) /\ a.g.ns.length = a.g.ns.length /\ ∀ (i : Nat), i < a.g.ns.length -> (gD a.g.ns i).mi = (gD a.g.ns i).mi /\ (gD a.g.ns i).t.lo = (gD a.g.ns i).t.lo /\ (gD a.g.ns i).t.hi = (gD a.g.ns i).t.hi
 /\ (gD a.g.ns i).s.lo = (gD a.g.ns i).s.lo /\ (gD a.g.ns i).s.hi = (gD a.g.ns i).s.hi) := by kernel_rfl
def rowI (l : List Int) : AObj := .row 1 l.length λ i => FV (gD l i)
def DAM (n : Nat) (l : List Int) : AObj := .row 1 n λ i => FV (gD l i)
def swL (l : List Int) (j : Nat) : List Int := (l.set j (gD l (j + 1))).set (j + 1) (gD l j)
def insJ (key : Int -> Int) : Nat -> List Int -> List Int
 | 0, l => l
 | j + 1, l => bif decide (tQ (key (gD l (j + 1))) (key (gD l j)) < 0) then insJ key j (swL l j) else l
def stR (key : Int -> Int) : Nat -> Nat -> List Int -> List Int
 | 0, _, l => l
 | n + 1, i, l => stR key n (i + 1) (insJ key i l)
def stM (key : Int -> Int) (l : List Int) : List Int := stR key (l.length - 1) 1 l
structure GL where
 g : Cht
 l : List Int
 a : Int
 b : Int
structure IL2 where
 i : Nat
 l : List Int
 deriving Inhabited
structure IJL where
 i : Nat
 j : Nat
 l : List Int
 deriving Inhabited
def fnW1 : AVal := .fn (.func PM) [] [.bptr 101 0]
def glK (a : GL) (l : List Int) : List (Nat × HCell) := [(100, .live (DAM a.l.length l)), (101, .live (bxG a.g))]
def glIn (a : GL) (l : List Int) : Prop := l.length = a.l.length /\ ∀ i, i < a.l.length -> 0 <= gD l i /\ gD l i < a.g.ns.length
def glOk (a : GL) : Prop := a.l.length < 1073741824 /\ ∀ i, i < a.l.length -> 0 <= gD a.l i /\ gD a.l i < a.g.ns.length
def dGL : List AVal -> Heap -> Option (GL × List (Nat × Nat) × List Nat)
 | [.own id _ _ n, .d x, .d y, .fn (.func f) [] [.bptr c _]], H => if f = PM then match H id, SM H c with
  | .live (.row _ m r), some q => some (⟨q, AE n λ i => CL (r i), CL x, CL y⟩, [(100, id), (101, c)], [])
  | _, _ => none else none
 | _, _ => none
def C_ins : Ctr := { ro := [101], α := GL, xs := λ a => [.own 100 1 0 a.l.length, .int a.a, .int a.b, fnW1], L := λ a => [(100, rowI a.l), (101, bxG a.g)], val := λ _ => .d (.tup []), keep := λ a => glK a (stM (HQ a.g) a.l), pre := λ a => [(a.a = 0 /\ a.b = a.l.length) /\ glOk a] }
def ins1 (a : GL) : Shape := { α := IL2, dflt := default, T := λ x => ⟨[(0, .own 100 1 0 a.l.length), (1, .int 0), (2, .int a.l.length), (3, fnW1), (8, .int x.i)], glK a x.l⟩, inv := λ x => 1 <= x.i /\ (x.i <= a.l.length ∨ x.i = 1) /\ glIn a x.l /\ stM (HQ a.g) a.l = stR (HQ a.g) (a.l.length - x.i) x.i x.l, meas := λ x => a.l.length - x.i }
def ins4 (a : GL) (m : Nat) : Shape := { α := IJL, dflt := default, T := λ x => ⟨[(0, .own 100 1 0 a.l.length), (1, .int 0), (2, .int a.l.length), (3, fnW1), (8, .int x.i), (9, .int x.j)], glK a x.l⟩, inv := λ x => a.l.length - x.i = m /\ 1 <= x.i /\ x.i < a.l.length /\ x.j <= x.i /\ glIn a x.l /\ stM (HQ a.g) a.l = stR (HQ a.g) (a.l.length - (x.i + 1)) (x.i + 1) (insJ (HQ a.g) x.j x.l), meas := λ x => x.j }
def CTD (a : GL) : Ann := { ann 53 [(PM, C_fw1.spec dGAB)] with E := [100, 101], loops := λ id => if id = 1 then some [ins1 a] else none, inner := λ gs id => if id = 4 then some [ins4 a (gs.getD 0 0)] else none }
def CSC (a : GL) : Prop := BB Try.prog (CTD a) AUD (AL AUD) [.own 100 1 0 a.l.length, .int 0, .int a.l.length, fnW1] (AG (C_ins.L a)) (C_ins.val a) (C_ins.keep a) [] []
abbrev vA : Prop := (0 : Nat) = (0 : Nat)
abbrev NV (a : GL) : Prop := a.l.length = a.l.length
abbrev uO : Prop := Int.ofNat (0 : Nat) = Int.ofNat (0 : Nat)
abbrev yX (a : GL) : Prop := (↑a.l.length : Int) = (↑a.l.length : Int)
abbrev AMV (a : GL) : Prop := a.g.p.lo = a.g.p.lo
abbrev ANG (a : GL) : Prop := a.g.p.hi = a.g.p.hi
abbrev bQ (a : GL) : Prop := AMV a /\ ANG a /\ a.g.base = a.g.base /\ a.g.scale = a.g.scale /\ a.g.off = a.g.off /\ a.g.ms.length = a.g.ms.length /\ (∀ (i : Nat), i < a.g.ms.length -> (gD a.g.ms i).pl = (gD a.g.ms
 i).pl /\ (gD a.g.ms i).ht = (gD a.g.ms i).ht) /\ a.g.ns.length = a.g.ns.length /\ ∀ (i : Nat), i < a.g.ns.length -> (gD a.g.ns i).mi = (gD a.g.ns i).mi /\ (gD a.g.ns i).t.lo = (gD a.g.ns i).t.lo /\ (gD a.g.ns i).t.hi = (gD
 a.g.ns i).t.hi /\ (gD a.g.ns i).s.lo = (gD a.g.ns i).s.lo /\ (gD a.g.ns i).s.hi = (gD a.g.ns i).s.hi
abbrev uS (a : GL) (a1 : IL2) : Nat := a.l.length - a1.i
abbrev AOZ (a : IL2) (a1 : GL) : Prop := (1 : Nat) <= a.i /\ (a.i <= a1.l.length ∨ a.i = (1 : Nat)) /\ (a.l.length = a1.l.length /\ ∀ (i : Nat), i < a1.l.length -> (0 : Int) <= gD a.l i /\ gD a.l i < (↑a1.g.ns.length : Int))
 /\ stM (HQ a1.g) a1.l = stR (HQ a1.g) (uS a1 a) a.i a.l
abbrev BRA (a : IJL) : Nat := a.i + (1 : Nat)
abbrev zR (a : GL) (a1 : IJL) (a2 : IL2) : Prop := a.l.length - a1.i = uS a a2 /\ (1 : Nat) <= a1.i /\ a1.i < a.l.length /\ a1.j <= a1.i /\ (a1.l.length = a.l.length /\ ∀ (i : Nat), i < a.l.length -> (0 : Int) <= gD
 a1.l i /\ gD a1.l i < (↑a.g.ns.length : Int)) /\ stM (HQ a.g) a.l = stR (HQ a.g) (a.l.length - BRA a1) (BRA a1) (insJ (HQ a.g) a1.j a1.l)
abbrev BGQ (a : IJL) : Bool := decide ((↑a.j : Int) > (0 : Int))
abbrev Bm (a : IJL) : Prop := BGQ a = true
abbrev K0 (a : IJL) (a1 : GL) : Prop := (0 : Int) <= (↑a.j : Int) /\ (↑a.j : Int) < (↑a1.l.length : Int)
abbrev Vo (a : IJL) : Nat := (0 : Nat) + a.j
abbrev Us (a : IJL) : Int := IntKind.i64.wrap ((↑a.j : Int) - (1 : Int))
abbrev uG (a : IJL) (a1 : GL) : Prop := (0 : Int) <= Us a /\ Us a < (↑a1.l.length : Int)
abbrev Nw (a : IJL) : Nat := (0 : Nat) + (Us a).toNat
abbrev BHX (a : IJL) (a1 : GL) : Prop := (Nw a).succ.le a1.l.length
abbrev SO (a : IJL) : Int := gD a.l (Vo a)
abbrev TG (a : IJL) : Int := gD a.l (Nw a)
abbrev J6 (a : GL) : List Mk := AE a.g.ms.length λ (i : Nat) => gD a.g.ms i
abbrev yI (a : GL) : Nat := (J6 a).length
abbrev ASU (a : GL) (i : Nat) : Mk := gD (J6 a) i
abbrev ARQ (a : GL) (i : Nat) : Int := (ASU a i).pl
abbrev AYR (a : GL) (i : Nat) : Int := (ASU a i).ht
abbrev vW (a : GL) : List Nt := AE a.g.ns.length λ (i : Nat) => gD a.g.ns i
abbrev Aj (a : GL) : Nat := (vW a).length
abbrev K4 (a : GL) (i : Nat) : Nt := gD (vW a) i
abbrev AZK (a : GL) (i : Nat) : Int := (K4 a i).mi
abbrev BEG (a : GL) (i : Nat) : Span := (K4 a i).t
abbrev BHK (a : GL) (i : Nat) : Int := (BEG a i).lo
abbrev AZL (a : GL) (i : Nat) : Int := (BEG a i).hi
abbrev AZA (a : GL) (i : Nat) : Span := (K4 a i).s
abbrev BHM (a : GL) (i : Nat) : Int := (AZA a i).lo
abbrev BCK (a : GL) (i : Nat) : Int := (AZA a i).hi
abbrev AZG (a : GL) : Cht := Cht.mk a.g.p a.g.base a.g.scale a.g.off (J6 a) (vW a)
abbrev BFS (a : IJL) (a1 : GL) : Prop := Vo a < a1.l.length
theorem CXF (a : GL) : (CSC a) = ((∃ (a_1 : IL2), (vA /\ NV a /\ uO /\ yX a /\ (↑a_1.i : Int) = IntKind.i64.wrap ((0 : Int) + (1 : Int)) /\ NV a /\ (∀ (i : Nat), i < a.l.length -> gD a_1.l i = gD
 a.l i) /\ bQ a) /\ AOZ a_1 a) /\ ∀ (a_1 : IL2), AOZ a_1 a -> bif decide ((↑a_1.i : Int) < (↑a.l.length : Int)) then (∃ (a_3 : IJL), (vA /\ NV a /\ uO /\ yX a /\ (↑a_3.i : Int) = (↑a_1.i : Int) /\
 (↑a_3.j : Int) = (↑a_1.i : Int) /\ NV a /\ (∀ (i : Nat), i < a.l.length -> gD a_3.l i = gD a_1.l i) /\ bQ a) /\ zR a a_3 a_1) /\ ∀ (a_3 : IJL), zR a a_3 a_1 -> ((Bm a_3 -> K0 a_3 a) /\ (Bm
 a_3 -> (Vo a_3).succ.le a.l.length) /\ (Bm a_3 -> uG a_3 a) /\ (Bm a_3 -> BHX a_3 a) /\ (Bm a_3 -> SO a_3 = SO a_3 /\ TG a_3 = TG a_3 /\ AMV a /\ ANG a /\ a.g.base
 = a.g.base /\ a.g.scale = a.g.scale /\ a.g.off = a.g.off /\ yI a = a.g.ms.length /\ (∀ (i : Nat), i < yI a -> ARQ a i = (gD a.g.ms i).pl /\ AYR a i = (gD a.g.ms i).ht) /\ Aj a = a.g.ns.length /\ (∀ (i
 : Nat), i < Aj a -> AZK a i = (gD a.g.ns i).mi /\ BHK a i = (gD a.g.ns i).t.lo /\ AZL a i = (gD a.g.ns i).t.hi /\ BHM a i = (gD a.g.ns i).s.lo /\ BCK a i = (gD a.g.ns i).s.hi) /\ AMV a /\
 ANG a /\ a.g.base = a.g.base /\ a.g.scale = a.g.scale /\ a.g.off = a.g.off /\ a.g.ms.length = yI a /\ (∀ (i : Nat), i < a.g.ms.length -> (gD a.g.ms i).pl = ARQ a i /\ (gD a.g.ms i).ht = AYR a i) /\
 a.g.ns.length = Aj a /\ (∀ (i : Nat), i < a.g.ns.length -> (gD a.g.ns i).mi = AZK a i /\ (gD a.g.ns i).t.lo = BHK a i /\ (gD a.g.ns i).t.hi = AZL a i /\ (gD a.g.ns i).s.lo = BHM a i /\ (gD a.g.ns
 i).s.hi = BCK a i) /\ ((0 : Int) <= SO a_3 /\ SO a_3 < (↑(Aj a) : Int)) /\ (0 : Int) <= TG a_3 /\ TG a_3 < (↑(Aj a) : Int))) /\ bif bif BGQ a_3 then decide (tQ (HQ (AZG a)
 (SO a_3)) (HQ (AZG a) (TG a_3)) < (0 : Int)) else false then (uG a_3 a /\ Nw a_3 < a.l.length /\ K0 a_3 a /\ BFS a_3 a /\ K0 a_3 a /\ BFS a_3 a /\ uG a_3 a /\ BHX
 a_3 a) /\ ∃ (a_5 : IJL), (vA /\ NV a /\ uO /\ yX a /\ (↑a_5.i : Int) = (↑a_3.i : Int) /\ (↑a_5.j : Int) = Us a_3 /\ NV a /\ (∀ (i : Nat), i < a.l.length -> gD a_5.l i = bif decide (i = Nw a_3)
 then SO a_3 else bif decide (i = Vo a_3) then TG a_3 else gD a_3.l i) /\ bQ a) /\ zR a a_5 a_1 /\ a_5.j < a_3.j else ∃ (a_5 : IL2), (vA /\ NV a /\ uO /\ yX a /\ (↑a_5.i : Int) =
 IntKind.i64.wrap ((↑a_3.i : Int) + (1 : Int)) /\ NV a /\ (∀ (i : Nat), i < a.l.length -> gD a_5.l i = gD a_3.l i) /\ bQ a) /\ AOZ a_5 a /\ uS a a_5 < uS a a_1 else NV a /\ (∀ (i : Nat), i <
 a.l.length -> gD (stM (HQ a.g) a.l) i = gD a_1.l i) /\ bQ a) := by kernel_rfl
def CHT : List AVal -> Option Int
 | [.d (.v (.int .u64 a))] => some a
 | _ => none
def BWW (a : Int) : List AVal := [.d (.v (.int .u64 a))]
def CDQ (x : Int) : Prop := BB Try.prog (ann 25 []) BCI (AL BCI) (BWW x) (AG []) .any [] [] []
abbrev dS (x : Int) : Int := x / (2 : Int) ^ Int.toNat (32 : Int)
abbrev T9 : Prop := (0 : Int) <= (16 : Int) /\ (16 : Int) <= (↑(64 : Nat) : Int)
abbrev AAJ : Int := (2 : Int) ^ Int.toNat (16 : Int)
abbrev ZN : Prop := (0 : Int) <= (8 : Int) /\ (8 : Int) <= (↑(64 : Nat) : Int)
abbrev Xz (x : Int) : Int := x / (2 : Int) ^ (32 : Nat)
abbrev AHE : Int := (2 : Int) ^ (16 : Nat)
abbrev ADL (x : Int) : Int := Xz x / AHE
abbrev Ap : Int := (2 : Int) ^ (8 : Nat)
abbrev ACC (x : Int) : Int := IntKind.u8.wrap (ADL x / Ap)
abbrev S6 (x : Int) : Int := IntKind.u8.wrap (ADL x)
abbrev hG (x : Int) : Int := IntKind.u8.wrap (Xz x / Ap)
abbrev qQ (x : Int) : Int := IntKind.u8.wrap (Xz x)
abbrev pQ (x : Int) : Int := x / AHE
abbrev iY (x : Int) : Int := IntKind.u8.wrap (pQ x / Ap)
abbrev hU (x : Int) : Int := IntKind.u8.wrap (pQ x)
abbrev nZ (x : Int) : Int := IntKind.u8.wrap (x / Ap)
theorem CJM (x : Int) : (CDQ x) = (bif decide (x >= (4294967296 : Int)) then ((0 : Int) <= (32 : Int) /\ (32 : Int) <= (↑(64 : Nat) : Int)) /\ bif decide (dS x >= (65536 : Int)) then T9 /\ bif decide
 (dS x / AAJ >= (256 : Int)) then ZN /\ ((0 : Int) <= ACC x /\ ACC x < (↑(256 : Nat) : Int)) /\ True else ((0 : Int) <= S6 x /\ S6 x < (↑(256 : Nat) : Int)) /\ True else bif decide
 (dS x >= (256 : Int)) then ZN /\ ((0 : Int) <= hG x /\ hG x < (↑(256 : Nat) : Int)) /\ True else ((0 : Int) <= qQ x /\ qQ x < (↑(256 : Nat) : Int)) /\ True else bif decide (x >=
 (65536 : Int)) then T9 /\ bif decide (x / AAJ >= (256 : Int)) then ZN /\ ((0 : Int) <= iY x /\ iY x < (↑(256 : Nat) : Int)) /\ True else ((0 : Int) <= hU x /\ hU x < (↑(256 :
 Nat) : Int)) /\ True else bif decide (x >= (256 : Int)) then ZN /\ ((0 : Int) <= nZ x /\ nZ x < (↑(256 : Nat) : Int)) /\ True else ((0 : Int) <= IntKind.u8.wrap x /\ IntKind.u8.wrap x < (↑(256 : Nat) :
 Int)) /\ True) := by kernel_rfl
def BJT := pD CHT (λ _ => .any) (λ x => [0 <= x /\ x <= 20])
def CTH (x : Int) : Prop := BB Try.prog (ann 8 [(N0, BJT)]) CBY (AL CBY) (BWW x) (AG []) .any [] [] []
theorem CVL (x : Int) : (CTH x) = ((0 <= x /\ x <= 20) /\ True) := by kernel_rfl
def dGLp : List AVal -> Heap -> Option (GL × List (Nat × Nat) × List Nat)
 | [.own id _ _ n, .d x, .d y, _, .fn (.func f) [] [.bptr c _]], H => if f = PM then match H id, SM H c with
  | .live (.row _ m r), some q => some (⟨q, AE n λ i => CL (r i), CL x, CL y⟩, [(100, id), (101, c)], [])
  | _, _ => none else none
 | _, _ => none
def C_pdq : Ctr := { ro := [101], α := GL, xs := λ a => [.own 100 1 0 a.l.length, .int a.a, .int a.b, .any, fnW1], L := λ a => [(100, rowI a.l), (101, bxG a.g)], val := λ _ => .d (.tup []), keep := λ a => glK a (stM (HQ a.g) a.l), pre := λ a => [((a.a = 0 /\ a.b = a.l.length) /\ a.l.length <= 12) /\ glOk a] }
def pq2 (a : GL) : Shape := { α := One, dflt := default, T := λ _ => ⟨[(0, .own 100 1 0 a.l.length), (1, .int 0), (2, .int a.l.length), (3, .any), (4, fnW1), (10, .bool true), (11, .bool true)], glK a a.l⟩, inv := λ _ => True, meas := λ _ => 0 }
def CSE (a : GL) : Ann := { ann 148 [(V9, C_ins.spec dGL)] with E := [100, 101], loops := λ id => if id = 2 then some [pq2 a] else none }
def CUC (a : GL) : Prop := BB Try.prog (CSE a) BXR (AL BXR) [.own 100 1 0 a.l.length, .int 0, .int a.l.length, .any, fnW1] (AG (C_pdq.L a)) (C_pdq.val a) (C_pdq.keep a) [] []
abbrev BOI : Prop := (0 : Nat) = (0 : Nat)
abbrev BWG (a : GL) : Prop := a.l.length = a.l.length
abbrev BNE (a : GL) : Prop := (↑a.l.length : Int) = (↑a.l.length : Int)
abbrev APG (a : GL) : Prop := a.g.p.lo = a.g.p.lo
abbrev ANC (a : GL) : Prop := a.g.p.hi = a.g.p.hi
abbrev BPU (a : GL) : Prop := APG a /\ ANC a /\ a.g.base = a.g.base /\ a.g.scale = a.g.scale /\ a.g.off = a.g.off /\ a.g.ms.length = a.g.ms.length /\ (∀ (i : Nat), i < a.g.ms.length -> (gD a.g.ms i).pl = (gD a.g.ms
 i).pl /\ (gD a.g.ms i).ht = (gD a.g.ms i).ht) /\ a.g.ns.length = a.g.ns.length /\ ∀ (i : Nat), i < a.g.ns.length -> (gD a.g.ns i).mi = (gD a.g.ns i).mi /\ (gD a.g.ns i).t.lo = (gD a.g.ns i).t.lo /\ (gD a.g.ns i).t.hi = (gD
 a.g.ns i).t.hi /\ (gD a.g.ns i).s.lo = (gD a.g.ns i).s.lo /\ (gD a.g.ns i).s.hi = (gD a.g.ns i).s.hi
abbrev AOH (a : GL) : List Int := AE a.l.length λ (i : Nat) => gD a.l i
abbrev dM (a : GL) : Nat := (AOH a).length
abbrev BRE (a : GL) : Prop := dM a = a.l.length
abbrev BSC : Prop := (0 : Int) = Int.ofNat (0 : Nat)
abbrev AQE (i : Nat) (a : GL) : Prop := i < dM a
abbrev H6 (a : GL) (i : Nat) : Int := gD (AOH a) i
abbrev M6 (a : GL) : List Mk := AE a.g.ms.length λ (i : Nat) => gD a.g.ms i
abbrev tM (a : GL) : Nat := (M6 a).length
abbrev BGL (a : GL) (i : Nat) : Mk := gD (M6 a) i
abbrev ASE (a : GL) (i : Nat) : Int := (BGL a i).pl
abbrev AZB (a : GL) (i : Nat) : Int := (BGL a i).ht
abbrev L9 (a : GL) : List Nt := AE a.g.ns.length λ (i : Nat) => gD a.g.ns i
abbrev Wz (a : GL) : Nat := (L9 a).length
abbrev D3 (a : GL) (i : Nat) : Nt := gD (L9 a) i
abbrev BBB (a : GL) (i : Nat) : Int := (D3 a i).mi
abbrev ARM (a : GL) (i : Nat) : Span := (D3 a i).t
abbrev BAW (a : GL) (i : Nat) : Int := (ARM a i).lo
abbrev AQV (a : GL) (i : Nat) : Int := (ARM a i).hi
abbrev AST (a : GL) (i : Nat) : Span := (D3 a i).s
abbrev BCJ (a : GL) (i : Nat) : Int := (AST a i).lo
abbrev ARF (a : GL) (i : Nat) : Int := (AST a i).hi
theorem CWC (a : GL) : (CUC a) = ((∃ (a_1 : One), (BOI /\ BWG a /\ Int.ofNat (0 : Nat) = Int.ofNat (0 : Nat) /\ BNE a /\ true = true /\ true = true /\ BWG a /\ (∀ (i : Nat), i < a.l.length -> gD a.l i = gD
 a.l i) /\ BPU a) /\ True) /\ ∀ (a_1 : One), True -> bif decide (IntKind.i64.wrap ((↑a.l.length : Int) - (0 : Int)) <= (12 : Int)) then (BOI /\ BRE a /\ BSC /\ BNE a /\ BRE a /\ (∀ (i : Nat), AQE i a ->
 H6 a i = gD a.l i) /\ APG a /\ ANC a /\ a.g.base = a.g.base /\ a.g.scale = a.g.scale /\ a.g.off = a.g.off /\ tM a = a.g.ms.length /\ (∀ (i : Nat), i < tM a -> ASE a i = (gD a.g.ms i).pl /\ AZB
 a i = (gD a.g.ms i).ht) /\ Wz a = a.g.ns.length /\ (∀ (i : Nat), i < Wz a -> BBB a i = (gD a.g.ns i).mi /\ BAW a i = (gD a.g.ns i).t.lo /\ AQV a i = (gD a.g.ns i).t.hi /\ BCJ a i = (gD a.g.ns
 i).s.lo /\ ARF a i = (gD a.g.ns i).s.hi) /\ APG a /\ ANC a /\ a.g.base = a.g.base /\ a.g.scale = a.g.scale /\ a.g.off = a.g.off /\ a.g.ms.length = tM a /\ (∀ (i : Nat), i < a.g.ms.length -> (gD a.g.ms i).pl =
 ASE a i /\ (gD a.g.ms i).ht = AZB a i) /\ a.g.ns.length = Wz a /\ (∀ (i : Nat), i < a.g.ns.length -> (gD a.g.ns i).mi = BBB a i /\ (gD a.g.ns i).t.lo = BAW a i /\ (gD a.g.ns i).t.hi = AQV a i /\
 (gD a.g.ns i).s.lo = BCJ a i /\ (gD a.g.ns i).s.hi = ARF a i) /\ (BSC /\ (↑a.l.length : Int) = (↑(dM a) : Int)) /\ dM a < (1073741824 : Nat) /\ ∀ (i : Nat), AQE i a -> (0 : Int) <= H6 a i /\
 H6 a i < (↑(Wz a) : Int)) /\ a.l.length = dM a /\ (∀ (i : Nat), i < a.l.length -> gD (stM (HQ a.g) a.l) i = gD (stM (HQ (Cht.mk a.g.p a.g.base a.g.scale a.g.off (M6 a) (L9 a))) (AOH a))
 i) /\ BPU a else False) := by kernel_rfl
def dGLt : List AVal -> Heap -> Option (GL × List (Nat × Nat) × List Nat)
 | [.own id _ _ n, .fn (.func f) [] [.bptr c _]], H => if f = PM then match H id, SM H c with
  | .live (.row _ m r), some q => some (⟨q, AE n λ i => CL (r i), 0, 0⟩, [(100, id), (101, c)], [])
  | _, _ => none else none
 | _, _ => none
def C_sort : Ctr := { ro := [101], α := GL, xs := λ a => [.own 100 1 0 a.l.length, fnW1], L := λ a => [(100, rowI a.l), (101, bxG a.g)], val := λ _ => .d (.tup []), keep := λ a => glK a (stM (HQ a.g) a.l), pre := λ a => [a.l.length <= 12 /\ glOk a] }
def CHL : Ann := { ann 14 [(BUR, BJT), (BJZ, C_pdq.spec dGLp)] with E := [100, 101] }
def CKN (a : GL) : Prop := BB Try.prog CHL vC (AL vC) (C_sort.xs a) (AG (C_sort.L a)) (C_sort.val a) (C_sort.keep a) [] []
theorem CQE (a : GL) : (CKN a) = ((((0 : Int) <= IntKind.u64.wrap (↑a.l.length : Int) /\ IntKind.u64.wrap (↑a.l.length : Int) <= (20 : Int)) /\ (0 : Nat) = (0 : Nat) /\ (AE a.l.length λ (i : Nat) => gD a.l i).length
 = a.l.length /\ (0 : Int) = Int.ofNat (0 : Nat) /\ (↑a.l.length : Int) = (↑a.l.length : Int) /\ (AE a.l.length λ (i : Nat) => gD a.l i).length = a.l.length /\ (∀ (i : Nat), i < (AE a.l.length λ (i : Nat) => gD a.l
 i).length -> gD (AE a.l.length λ (i : Nat) => gD a.l i) i = gD a.l i) /\ a.g.p.lo = a.g.p.lo /\ a.g.p.hi = a.g.p.hi /\ a.g.base = a.g.base /\ a.g.scale = a.g.scale /\ a.g.off = a.g.off /\ (AE a.g.ms.length λ (i : Nat) =>
 gD a.g.ms i).length = a.g.ms.length /\ (∀ (i : Nat), i < (AE a.g.ms.length λ (i : Nat) => gD a.g.ms i).length -> (gD (AE a.g.ms.length λ (i : Nat) => gD a.g.ms i) i).pl = (gD a.g.ms i).pl /\ (gD (AE a.g.ms.length fun
 (i : Nat) => gD a.g.ms i) i).ht = (gD a.g.ms i).ht) /\ (AE a.g.ns.length λ (i : Nat) => gD a.g.ns i).length = a.g.ns.length /\ (∀ (i : Nat), i < (AE a.g.ns.length λ (i : Nat) => gD a.g.ns i).length -> (gD (AE
 a.g.ns.length λ (i : Nat) => gD a.g.ns i) i).mi = (gD a.g.ns i).mi /\ (gD (AE a.g.ns.length λ (i : Nat) => gD a.g.ns i) i).t.lo = (gD a.g.ns i).t.lo /\ (gD (AE a.g.ns.length λ (i : Nat) => gD a.g.ns i) i).t.hi =
 (gD a.g.ns i).t.hi /\ (gD (AE a.g.ns.length λ (i : Nat) => gD a.g.ns i) i).s.lo = (gD a.g.ns i).s.lo /\ (gD (AE a.g.ns.length λ (i : Nat) => gD a.g.ns i) i).s.hi = (gD a.g.ns i).s.hi) /\ a.g.p.lo = a.g.p.lo /\ a.g.p.hi
 = a.g.p.hi /\ a.g.base = a.g.base /\ a.g.scale = a.g.scale /\ a.g.off = a.g.off /\ a.g.ms.length = (AE a.g.ms.length λ (i : Nat) => gD a.g.ms i).length /\ (∀ (i : Nat), i < a.g.ms.length -> (gD a.g.ms i).pl = (gD (AE
 a.g.ms.length λ (i : Nat) => gD a.g.ms i) i).pl /\ (gD a.g.ms i).ht = (gD (AE a.g.ms.length λ (i : Nat) => gD a.g.ms i) i).ht) /\ a.g.ns.length = (AE a.g.ns.length λ (i : Nat) => gD a.g.ns i).length /\ (∀ (i : Nat),
 i < a.g.ns.length -> (gD a.g.ns i).mi = (gD (AE a.g.ns.length λ (i : Nat) => gD a.g.ns i) i).mi /\ (gD a.g.ns i).t.lo = (gD (AE a.g.ns.length λ (i : Nat) => gD a.g.ns i) i).t.lo /\ (gD a.g.ns i).t.hi = (gD (AE
 a.g.ns.length λ (i : Nat) => gD a.g.ns i) i).t.hi /\ (gD a.g.ns i).s.lo = (gD (AE a.g.ns.length λ (i : Nat) => gD a.g.ns i) i).s.lo /\ (gD a.g.ns i).s.hi = (gD (AE a.g.ns.length λ (i : Nat) => gD a.g.ns i) i).s.hi)
 /\ (((0 : Int) = Int.ofNat (0 : Nat) /\ (↑a.l.length : Int) = (↑(AE a.l.length λ (i : Nat) => gD a.l i).length : Int)) /\ (AE a.l.length λ (i : Nat) => gD a.l i).length <= (12 : Nat)) /\ (AE a.l.length λ (i : Nat) =>
 gD a.l i).length < (1073741824 : Nat) /\ ∀ (i : Nat), i < (AE a.l.length λ (i : Nat) => gD a.l i).length -> (0 : Int) <= gD (AE a.l.length λ (i : Nat) => gD a.l i) i /\ gD (AE a.l.length λ (i : Nat) => gD a.l i) i <
 (↑(AE a.g.ns.length λ (i : Nat) => gD a.g.ns i).length : Int)) /\ a.l.length = (AE a.l.length λ (i : Nat) => gD a.l i).length /\ (∀ (i : Nat), i < a.l.length -> gD (stM (HQ a.g) a.l) i = gD (stM (HQ (Cht.mk a.g.p
 a.g.base a.g.scale a.g.off (AE a.g.ms.length λ (i : Nat) => gD a.g.ms i) (AE a.g.ns.length λ (i : Nat) => gD a.g.ns i))) (AE a.l.length λ (i : Nat) => gD a.l i)) i) /\ a.g.p.lo = a.g.p.lo /\ a.g.p.hi = a.g.p.hi /\
 a.g.base = a.g.base /\ a.g.scale = a.g.scale /\ a.g.off = a.g.off /\ a.g.ms.length = a.g.ms.length /\ (∀ (i : Nat), i < a.g.ms.length -> (gD a.g.ms i).pl = (gD a.g.ms i).pl /\ (gD a.g.ms i).ht = (gD a.g.ms i).ht) /\
 a.g.ns.length = a.g.ns.length /\ ∀ (i : Nat), i < a.g.ns.length -> (gD a.g.ns i).mi = (gD a.g.ns i).mi /\ (gD a.g.ns i).t.lo = (gD a.g.ns i).t.lo /\ (gD a.g.ns i).t.hi = (gD a.g.ns i).t.hi /\ (gD a.g.ns i).s.lo = (gD a.g.ns
 i).s.lo /\ (gD a.g.ns i).s.hi = (gD a.g.ns i).s.hi) := by kernel_rfl
theorem CXE : AM Try.prog PM (C_fw1.spec dGAB) := LM C_fw1 (λ _ => CTM) [] [] CPJ (λ _ => by kernel_rfl) (λ _ => AC CRI AJ) (λ (a : GAB) h => by
 show CVA a; rw [CWR]; simp only [CC, eq_self, implies_true, forall_const]
 exact ⟨h, rfl⟩) (λ _ => OA rfl rfl) _
theorem CFN {l : List Int} {j i : Nat} {x : Int} (hj : j < l.length) : gD (l.set j x) i = bif decide (i = j) then x else gD l i := by
 unfold gD
 rw [List.getD_eq_getElem?_getD, List.getD_eq_getElem?_getD, List.getElem?_set]
 by_cases h : i = j
 ·subst h; simp [hj]
 ·simp [h, Ne.symm h]
theorem CHH {l : List Int} {j i : Nat} (hj : j + 1 < l.length) : gD (swL l j) i = bif decide (i = j) then gD l (j + 1) else bif decide (i = j + 1) then gD l j else gD l i := by
 unfold swL
 rw [CFN (by simpa using hj), CFN (by omega)]
 by_cases h : i = j
 ·subst h; simp
 ·simp [h]
theorem BTQ (l : List Int) (j : Nat) : (swL l j).length = l.length := by simp [swL]
theorem DAK (a : GL) (h : glOk a) : CSC a := by
 rw [CXF]; delta vA NV uO yX AMV ANG bQ uS AOZ BRA zR BGQ Bm K0 Vo Us uG Nw BHX SO TG J6 yI ASU ARQ AYR vW Aj K4 AZK BEG BHK AZL AZA BHM BCK AZG BFS; simp only [CC, eq_self, implies_true, forall_const]
 obtain ⟨hlen, hin⟩ := h
 refine ⟨⟨⟨1, a.l⟩, ⟨by show (1 : Int) = _; rw [FC (by omega) (by omega)]; rfl, λ _ _ => rfl⟩, Nat.one_pos, .inr rfl, ⟨rfl, hin⟩, rfl⟩, λ x ⟨x1, x2, ⟨x3, x4⟩, x5⟩ => ⟨λ hlt => ⟨⟨⟨x.i, x.i, x.l⟩, ⟨rfl, rfl, λ _ _ => rfl⟩, rfl, x1, Int.ofNat_lt.1 hlt, Nat.le_refl _, ⟨x3, x4⟩, ?_⟩, λ y ⟨y1, y2, y3, y4, ⟨y5, y6⟩, y7⟩ => ?_⟩, λ hge => ?_⟩⟩
 ·rw [x5, show a.l.length - x.i = (a.l.length - (x.i + 1)) + 1 by omega]; rfl
 ·refine ⟨⟨λ _ => ⟨by omega, by omega⟩, λ _ => by omega, λ hj => ?_, λ hj => ?_, λ hj => ⟨y6 _ (by omega), ?_⟩⟩, λ hc => ?_, λ hc => ?_⟩
  ·rw [FC (by omega) (by omega)]; omega
  ·rw [FC (by omega) (by omega)]; omega
  ·rw [FC (by omega) (by omega)]; exact y6 _ (by omega)
  ·have hj : 0 < y.j := by
    cases hd : decide ((y.j : Int) > 0) with
    | false => rw [hd] at hc; cases hc
    | true => have := of_decide_eq_true hd; omega
   obtain ⟨j, hj2⟩ : ∃ j, y.j = j + 1 := ⟨y.j - 1, by omega⟩
   have e : IntKind.i64.wrap ((y.j : Int) - 1) = (j : Nat) := by rw [FC (by omega) (by omega)]; omega
   rw [decide_eq_true (show (y.j : Int) > 0 by omega)] at hc
   have hc : decide (tQ (HQ a.g (gD y.l y.j)) (HQ a.g (gD y.l (IntKind.i64.wrap ((y.j : Int) - 1)).toNat)) < 0) = true := hc
   rw [e] at hc ⊢
   simp only [Int.toNat_natCast] at hc ⊢
   refine ⟨⟨⟨by omega, by omega⟩, by omega, ⟨by omega, by omega⟩, by omega, ⟨by omega, by omega⟩, by omega, ⟨by omega, by omega⟩, by omega⟩, ⟨y.i, j, swL y.l j⟩, ⟨rfl, rfl, λ i hi => ?_⟩, ⟨y1, y2, y3, by show j <= y.i; omega, ⟨by rw [BTQ]; exact y5, λ i hi => ?_⟩, ?_⟩, by show j < _; omega⟩
   ·show gD (swL y.l j) i = _
    rw [CHH (by omega), hj2]
   ·show 0 <= gD (swL y.l j) i /\ gD (swL y.l j) i < _
    rw [CHH (by omega)]
    cases decide (i = j)
    ·cases decide (i = j + 1)
     ·exact y6 i hi
     ·exact y6 j (by omega)
    ·exact y6 (j + 1) (by omega)
   ·rw [hj2] at hc y7
    unfold insJ at y7
    rw [hc] at y7; exact y7
  ·have hq : insJ (HQ a.g) y.j y.l = y.l := by
    cases hd : decide ((y.j : Int) > 0) with
    | false =>
     have := of_decide_eq_false hd
     rw [show y.j = 0 by omega]; rfl
    | true =>
     have hj := of_decide_eq_true hd
     obtain ⟨j, hj2⟩ : ∃ j, y.j = j + 1 := ⟨y.j - 1, by omega⟩
     have e : IntKind.i64.wrap ((y.j : Int) - 1) = (j : Nat) := by rw [FC (by omega) (by omega)]; omega
     rw [hd] at hc
     have hc : decide (tQ (HQ a.g (gD y.l y.j)) (HQ a.g (gD y.l (IntKind.i64.wrap ((y.j : Int) - 1)).toNat)) < 0) = false := hc
     rw [e, hj2] at hc
     simp only [Int.toNat_natCast] at hc
     rw [hj2]; unfold insJ; rw [hc]; rfl
   rw [hq] at y7
   refine ⟨⟨y.i + 1, y.l⟩, ⟨(GK (by omega)).symm, λ _ _ => rfl⟩, ⟨by show 0 < y.i + 1; omega, .inl (by show y.i + 1 <= _; omega), ⟨y5, y6⟩, y7⟩, by show a.l.length - (y.i + 1) < _; omega⟩
 ·intro i hi
  rw [x5, show a.l.length - x.i = 0 by omega]; rfl
theorem CVI : AM Try.prog V9 (C_ins.spec dGL) := okT C_ins (λ (a : GL) h => by
 obtain ⟨⟨ha, hb⟩, h⟩ : (a.a = 0 /\ a.b = a.l.length) /\ glOk a := h
 show FnT Try.prog V9 [.own 100 1 0 a.l.length, .int a.a, .int a.b, fnW1] _ _ _
 rw [ha, hb]
 exact UV (A := CTD a) (L := C_ins.L a) (keep := C_ins.keep a) (ren := []) (fz := []) CDI (by kernel_rfl) (AC CXE AJ) (DAK a h)) _
theorem CUX (xs : List AVal) (a : Int) (h : CHT xs = some a) : xs = BWW a := by
 unfold CHT at h; split at h <;> cases h; rfl
theorem CYR (n : Int) : 0 <= IntKind.u8.wrap n /\ IntKind.u8.wrap n < ((256 : Nat) : Int) := by
 have e : IntKind.u8.wrap n = n % 256 := by
  simp only [IntKind.wrap, IntKind.bits, IntKind.signed]
  simp
 rw [e]; exact ⟨Int.emod_nonneg _ (by omega), Int.emod_lt_of_pos _ (by omega)⟩
theorem CJF : AM Try.prog N0 BJT := WW BWW CUX λ x h => UV (A := ann 25 []) (ren := []) (fz := []) CGD (by kernel_rfl) AJ (by
 have h : 0 <= x /\ x <= 20 := h
 show CDQ x; rw [CJM]; delta dS T9 AAJ ZN Xz AHE ADL Ap ACC S6 hG qQ pQ iY hU nZ; simp only [CC, eq_self, implies_true, forall_const]
 exact ⟨λ h => by omega, λ _ => ⟨λ h => by omega, λ _ => ⟨λ h => by omega, λ _ => CYR _⟩⟩⟩)
theorem CHY : AM Try.prog BUR BJT := WW BWW CUX λ x h => UV (A := ann 8 [(N0, BJT)]) (ren := []) (fz := []) CRP (by kernel_rfl) (AC CJF AJ) (by
 show CTH x; rw [CVL]; exact ⟨h, trivial⟩)
theorem CWX : AM Try.prog BJZ (C_pdq.spec dGLp) := okT C_pdq (λ (a : GL) h => by
 obtain ⟨⟨⟨ha, hb⟩, hl⟩, h⟩ : ((a.a = 0 /\ a.b = a.l.length) /\ a.l.length <= 12) /\ glOk a := h
 show FnT Try.prog BJZ [.own 100 1 0 a.l.length, .int a.a, .int a.b, .any, fnW1] _ _ _
 rw [ha, hb]
 refine UV (A := CSE a) (L := C_pdq.L a) (keep := C_pdq.keep a) (ren := []) (fz := []) CKW (by kernel_rfl) (AC CVI AJ) ?_
 show CUC a
 rw [CWC]; delta BOI BWG BNE APG ANC BPU AOH dM BRE BSC AQE H6 M6 tM BGL ASE AZB L9 Wz D3 BBB ARM BAW AQV AST BCJ ARF; simp only [CC, eq_self, implies_true, forall_const]
 have e : IntKind.i64.wrap ((a.l.length : Int) - 0) = a.l.length := by rw [FC (by omega) (by omega)]; omega
 rw [e]
 exact ⟨⟨default, trivial⟩, λ _ => ⟨rfl, rfl, h⟩, λ hc => by omega⟩) _
theorem CRR : AM Try.prog vK (C_sort.spec dGLt) := LM C_sort (λ _ => CHL) [] [] BYJ (λ _ => by kernel_rfl) (λ _ => AC CHY (AC CWX AJ)) (λ (a : GL) h => by
 obtain ⟨hl, h⟩ : a.l.length <= 12 /\ glOk a := h
 show CKN a; rw [CQE]; simp only [CC, eq_self, implies_true, forall_const]
 have e : IntKind.u64.wrap (a.l.length : Int) = a.l.length := u64w (by omega) (by omega)
 rw [e]
 exact ⟨by omega, rfl, ⟨rfl, hl⟩, h⟩) (λ _ => OA rfl rfl) _
end Go.Bal
