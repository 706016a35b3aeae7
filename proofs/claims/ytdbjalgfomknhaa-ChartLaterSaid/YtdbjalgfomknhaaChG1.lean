/- Package chart: the order of notes, fewer than 13. Turned from RatR. -/
import Derived.Test.YtdbjalgfomknhaaChD3
set_option linter.unusedVariables false
set_option linter.unusedSimpArgs false
namespace Go.Bal
open Go Go.Sym Go.Proofs
def CHH (x : Int) : Prop := AW Try.prog (ann 6 []) CAC (AK CAC) (xI1 x) (AF []) (.bool false) [] [] []
theorem CPQ (x : Int) : (CHH x) = (false = (x != x)) := by kernel_rfl
def BZO := pD dI1 λ _ => .bool false
theorem CNS : AL Try.prog BMB BZO := XE xI1 hI1 λ g _ => QX (A := ann 6 []) (ren := []) (fz := []) COE (by kernel_rfl) AI (by
 show CHH g; rw [CPQ]; simp)
def gN (a b : Int) : Int := bif decide (a < b) then -1 else bif decide (a > b) then 1 else 0
def CIP (x : I2) : Prop := AW Try.prog (ann 20 [(BMB, BZO)]) BXF (AK BXF) (xI2 x) (AF []) (.int (gN x.a x.b)) [] [] []
theorem CPO (x : I2) : (CIP x) = (bif decide (x.a < x.b) then gN x.a x.b = -1 else bif decide (x.a > x.b) then gN x.a x.b = 1 else gN x.a x.b = 0) := by kernel_rfl
def CIN := pD dI2 λ x => .int (gN x.a x.b)
theorem COR : AL Try.prog BZS CIN := XE xI2 hI2 λ g _ => QX (A := ann 20 [(BMB, BZO)]) (ren := []) (fz := []) COU (by kernel_rfl) (AD CNS AI) (by
 show CIP g; rw [CPO]; unfold gN; by_cases h : g.a < g.b <;> by_cases h2 : g.b < g.a <;> simp [h, h2])
structure GAB where
 g : Cht
 a : Int
 b : Int
def GK (c : Cht) (x : Int) : Int := (gD c.ns x.toNat).mi
def bxG (c : Cht) : AObj := chB c
def dGAB : List AVal -> Heap -> Option (GAB × List (Nat × Nat) × List Nat)
 | [.d x, .d y, .bptr id _], H => match TQ H id with
  | some q => some (⟨q, BU x, BU y⟩, [(100, id)], [])
  | none => none
 | _, _ => none
def C_fw1 : Ctr := { ro := [100], α := GAB, xs := λ a => [.int a.a, .int a.b, .bptr 100 0], L := λ a => [(100, bxG a.g)], val := λ a => .int (gN (GK a.g a.a) (GK a.g a.b)), keep := λ a => [(100, .live (bxG a.g))], pre := λ a => [(0 <= a.a /\ a.a < a.g.ns.length) /\ 0 <= a.b /\ a.b < a.g.ns.length] }
def CRA : Ann := { ann 19 [(BZS, CIN)] with E := [100] }
def CSE (a : GAB) : Prop := AW Try.prog CRA BYR (AK BYR) (C_fw1.xs a) (AF (C_fw1.L a)) (C_fw1.val a) (C_fw1.keep a) [] []
theorem CVL (a : GAB) : (CSE a) = (((0 <= a.a /\ a.a < (↑a.g.ns.length : Int)) /\ 0 <= a.b /\ a.b < (↑a.g.ns.length : Int)) /\ gN (GK a.g a.a) (GK a.g a.b) = gN (gD a.g.ns a.a.toNat).mi (gD a.g.ns a.b.toNat).mi /\
 a.g.p.lo = a.g.p.lo /\ a.g.p.hi = a.g.p.hi /\ a.g.base = a.g.base /\ a.g.scale = a.g.scale /\ a.g.off = a.g.off /\ a.g.ms.length = a.g.ms.length /\ (∀ (i : Nat), i < a.g.ms.length -> (gD a.g.ms i).pl = (gD a.g.ms i).pl /\ (gD
 a.g.ms i).ht = (gD a.g.ms i).ht) /\ a.g.ns.length = a.g.ns.length /\ ∀ (i : Nat), i < a.g.ns.length -> (gD a.g.ns i).mi = (gD a.g.ns i).mi /\ (gD a.g.ns i).t.lo = (gD a.g.ns i).t.lo /\ (gD a.g.ns i).t.hi = (gD a.g.ns i).t.hi
 /\ (gD a.g.ns i).s.lo = (gD a.g.ns i).s.lo /\ (gD a.g.ns i).s.hi = (gD a.g.ns i).s.hi) := by kernel_rfl
def rowI (l : List Int) : AObj := .row 1 l.length λ i => FF (gD l i)
def CYO (n : Nat) (l : List Int) : AObj := .row 1 n λ i => FF (gD l i)
def swL (l : List Int) (j : Nat) : List Int := (l.set j (gD l (j + 1))).set (j + 1) (gD l j)
def insJ (key : Int -> Int) : Nat -> List Int -> List Int
 | 0, l => l
 | j + 1, l => bif decide (gN (key (gD l (j + 1))) (key (gD l j)) < 0) then insJ key j (swL l j) else l
def stR (key : Int -> Int) : Nat -> Nat -> List Int -> List Int
 | 0, _, l => l
 | n + 1, i, l => stR key n (i + 1) (insJ key i l)
def stM (key : Int -> Int) (l : List Int) : List Int := stR key (l.length - 1) 1 l
structure GL where
 g : Cht
 l : List Int
 a : Int
 b : Int
structure IL2 where
 i : Nat
 l : List Int
 deriving Inhabited
structure IJL where
 i : Nat
 j : Nat
 l : List Int
 deriving Inhabited
def fnW1 : AVal := .fn (.func PC) [] [.bptr 101 0]
def glK (a : GL) (l : List Int) : List (Nat × HCell) := [(100, .live (CYO a.l.length l)), (101, .live (bxG a.g))]
def glIn (a : GL) (l : List Int) : Prop := l.length = a.l.length /\ ∀ i, i < a.l.length -> 0 <= gD l i /\ gD l i < a.g.ns.length
def glOk (a : GL) : Prop := a.l.length < 1073741824 /\ ∀ i, i < a.l.length -> 0 <= gD a.l i /\ gD a.l i < a.g.ns.length
def dGL : List AVal -> Heap -> Option (GL × List (Nat × Nat) × List Nat)
 | [.own id _ _ n, .d x, .d y, .fn (.func f) [] [.bptr c _]], H => if f = PC then match H id, TQ H c with
  | .live (.row _ m r), some q => some (⟨q, AE n λ i => BU (r i), BU x, BU y⟩, [(100, id), (101, c)], [])
  | _, _ => none else none
 | _, _ => none
def C_ins : Ctr := { ro := [101], α := GL, xs := λ a => [.own 100 1 0 a.l.length, .int a.a, .int a.b, fnW1], L := λ a => [(100, rowI a.l), (101, bxG a.g)], val := λ _ => .d (.tup []), keep := λ a => glK a (stM (GK a.g) a.l), pre := λ a => [(a.a = 0 /\ a.b = a.l.length) /\ glOk a] }
def ins1 (a : GL) : Shape := { α := IL2, dflt := default, T := λ x => ⟨[(0, .own 100 1 0 a.l.length), (1, .int 0), (2, .int a.l.length), (3, fnW1), (8, .int x.i)], glK a x.l⟩, inv := λ x => 1 <= x.i /\ (x.i <= a.l.length ∨ x.i = 1) /\ glIn a x.l /\ stM (GK a.g) a.l = stR (GK a.g) (a.l.length - x.i) x.i x.l, meas := λ x => a.l.length - x.i }
def ins4 (a : GL) (m : Nat) : Shape := { α := IJL, dflt := default, T := λ x => ⟨[(0, .own 100 1 0 a.l.length), (1, .int 0), (2, .int a.l.length), (3, fnW1), (8, .int x.i), (9, .int x.j)], glK a x.l⟩, inv := λ x => a.l.length - x.i = m /\ 1 <= x.i /\ x.i < a.l.length /\ x.j <= x.i /\ glIn a x.l /\ stM (GK a.g) a.l = stR (GK a.g) (a.l.length - (x.i + 1)) (x.i + 1) (insJ (GK a.g) x.j x.l), meas := λ x => x.j }
def CQW (a : GL) : Ann := { ann 53 [(PC, C_fw1.spec dGAB)] with E := [100, 101], loops := λ id => if id = 1 then some [ins1 a] else none, inner := λ gs id => if id = 4 then some [ins4 a (gs.getD 0 0)] else none }
def CPW (a : GL) : Prop := AW Try.prog (CQW a) BDD (AK BDD) [.own 100 1 0 a.l.length, .int 0, .int a.l.length, fnW1] (AF (C_ins.L a)) (C_ins.val a) (C_ins.keep a) [] []
abbrev J3 : Prop := (0 : Nat) = (0 : Nat)
abbrev ND (a : GL) : Prop := a.l.length = a.l.length
abbrev uU : Prop := Int.ofNat (0 : Nat) = Int.ofNat (0 : Nat)
abbrev F5 (a : GL) : Prop := (↑a.l.length : Int) = (↑a.l.length : Int)
abbrev AQG (a : GL) : Prop := a.g.p.lo = a.g.p.lo
abbrev ANJ (a : GL) : Prop := a.g.p.hi = a.g.p.hi
abbrev fW (a : GL) : Prop := AQG a /\ ANJ a /\ a.g.base = a.g.base /\ a.g.scale = a.g.scale /\ a.g.off = a.g.off /\ a.g.ms.length = a.g.ms.length /\ (∀ (i : Nat), i < a.g.ms.length -> (gD a.g.ms i).pl = (gD a.g.ms
 i).pl /\ (gD a.g.ms i).ht = (gD a.g.ms i).ht) /\ a.g.ns.length = a.g.ns.length /\ ∀ (i : Nat), i < a.g.ns.length -> (gD a.g.ns i).mi = (gD a.g.ns i).mi /\ (gD a.g.ns i).t.lo = (gD a.g.ns i).t.lo /\ (gD a.g.ns i).t.hi = (gD
 a.g.ns i).t.hi /\ (gD a.g.ns i).s.lo = (gD a.g.ns i).s.lo /\ (gD a.g.ns i).s.hi = (gD a.g.ns i).s.hi
abbrev vD (a : GL) (a1 : IL2) : Nat := a.l.length - a1.i
abbrev AOM (a : IL2) (a1 : GL) : Prop := (1 : Nat) <= a.i /\ (a.i <= a1.l.length ∨ a.i = (1 : Nat)) /\ (a.l.length = a1.l.length /\ ∀ (i : Nat), i < a1.l.length -> (0 : Int) <= gD a.l i /\ gD a.l i < (↑a1.g.ns.length : Int))
 /\ stM (GK a1.g) a1.l = stR (GK a1.g) (vD a1 a) a.i a.l
abbrev BOS (a : IJL) : Nat := a.i + (1 : Nat)
abbrev L5 (a : GL) (a1 : IJL) (a2 : IL2) : Prop := a.l.length - a1.i = vD a a2 /\ (1 : Nat) <= a1.i /\ a1.i < a.l.length /\ a1.j <= a1.i /\ (a1.l.length = a.l.length /\ ∀ (i : Nat), i < a.l.length -> (0 : Int) <= gD
 a1.l i /\ gD a1.l i < (↑a.g.ns.length : Int)) /\ stM (GK a.g) a.l = stR (GK a.g) (a.l.length - BOS a1) (BOS a1) (insJ (GK a.g) a1.j a1.l)
abbrev BET (a : IJL) : Bool := decide ((↑a.j : Int) > (0 : Int))
abbrev YW (a : IJL) : Prop := BET a = true
abbrev F2 (a : IJL) (a1 : GL) : Prop := (0 : Int) <= (↑a.j : Int) /\ (↑a.j : Int) < (↑a1.l.length : Int)
abbrev Ml (a : IJL) : Nat := (0 : Nat) + a.j
abbrev Qp (a : IJL) : Int := IntKind.i64.wrap ((↑a.j : Int) - (1 : Int))
abbrev yT (a : IJL) (a1 : GL) : Prop := (0 : Int) <= Qp a /\ Qp a < (↑a1.l.length : Int)
abbrev Wg (a : IJL) : Nat := (0 : Nat) + (Qp a).toNat
abbrev BGP (a : IJL) (a1 : GL) : Prop := (Wg a).succ.le a1.l.length
abbrev SJ (a : IJL) : Int := gD a.l (Ml a)
abbrev TD (a : IJL) : Int := gD a.l (Wg a)
abbrev vF (a : GL) : List Mk := AE a.g.ms.length λ (i : Nat) => gD a.g.ms i
abbrev yI (a : GL) : Nat := (vF a).length
abbrev ATS (a : GL) (i : Nat) : Mk := gD (vF a) i
abbrev AVZ (a : GL) (i : Nat) : Int := (ATS a i).pl
abbrev BAK (a : GL) (i : Nat) : Int := (ATS a i).ht
abbrev zG (a : GL) : List Nt := AE a.g.ns.length λ (i : Nat) => gD a.g.ns i
abbrev ZV (a : GL) : Nat := (zG a).length
abbrev yF (a : GL) (i : Nat) : Nt := gD (zG a) i
abbrev BCS (a : GL) (i : Nat) : Int := (yF a i).mi
abbrev AQT (a : GL) (i : Nat) : Span := (yF a i).t
abbrev BEN (a : GL) (i : Nat) : Int := (AQT a i).lo
abbrev AVK (a : GL) (i : Nat) : Int := (AQT a i).hi
abbrev BAP (a : GL) (i : Nat) : Span := (yF a i).s
abbrev BID (a : GL) (i : Nat) : Int := (BAP a i).lo
abbrev AYB (a : GL) (i : Nat) : Int := (BAP a i).hi
abbrev BBV (a : GL) : Cht := Cht.mk a.g.p a.g.base a.g.scale a.g.off (vF a) (zG a)
abbrev BDI (a : IJL) (a1 : GL) : Prop := Ml a < a1.l.length
theorem CVO (a : GL) : (CPW a) = ((∃ (a_1 : IL2), (J3 /\ ND a /\ uU /\ F5 a /\ (↑a_1.i : Int) = IntKind.i64.wrap ((0 : Int) + (1 : Int)) /\ ND a /\ (∀ (i : Nat), i < a.l.length -> gD a_1.l i = gD
 a.l i) /\ fW a) /\ AOM a_1 a) /\ ∀ (a_1 : IL2), AOM a_1 a -> bif decide ((↑a_1.i : Int) < (↑a.l.length : Int)) then (∃ (a_3 : IJL), (J3 /\ ND a /\ uU /\ F5 a /\ (↑a_3.i : Int) = (↑a_1.i : Int) /\
 (↑a_3.j : Int) = (↑a_1.i : Int) /\ ND a /\ (∀ (i : Nat), i < a.l.length -> gD a_3.l i = gD a_1.l i) /\ fW a) /\ L5 a a_3 a_1) /\ ∀ (a_3 : IJL), L5 a a_3 a_1 -> ((YW a_3 -> F2 a_3 a) /\ (YW
 a_3 -> (Ml a_3).succ.le a.l.length) /\ (YW a_3 -> yT a_3 a) /\ (YW a_3 -> BGP a_3 a) /\ (YW a_3 -> SJ a_3 = SJ a_3 /\ TD a_3 = TD a_3 /\ AQG a /\ ANJ a /\ a.g.base
 = a.g.base /\ a.g.scale = a.g.scale /\ a.g.off = a.g.off /\ yI a = a.g.ms.length /\ (∀ (i : Nat), i < yI a -> AVZ a i = (gD a.g.ms i).pl /\ BAK a i = (gD a.g.ms i).ht) /\ ZV a = a.g.ns.length /\ (∀ (i
 : Nat), i < ZV a -> BCS a i = (gD a.g.ns i).mi /\ BEN a i = (gD a.g.ns i).t.lo /\ AVK a i = (gD a.g.ns i).t.hi /\ BID a i = (gD a.g.ns i).s.lo /\ AYB a i = (gD a.g.ns i).s.hi) /\ AQG a /\
 ANJ a /\ a.g.base = a.g.base /\ a.g.scale = a.g.scale /\ a.g.off = a.g.off /\ a.g.ms.length = yI a /\ (∀ (i : Nat), i < a.g.ms.length -> (gD a.g.ms i).pl = AVZ a i /\ (gD a.g.ms i).ht = BAK a i) /\
 a.g.ns.length = ZV a /\ (∀ (i : Nat), i < a.g.ns.length -> (gD a.g.ns i).mi = BCS a i /\ (gD a.g.ns i).t.lo = BEN a i /\ (gD a.g.ns i).t.hi = AVK a i /\ (gD a.g.ns i).s.lo = BID a i /\ (gD a.g.ns
 i).s.hi = AYB a i) /\ ((0 : Int) <= SJ a_3 /\ SJ a_3 < (↑(ZV a) : Int)) /\ (0 : Int) <= TD a_3 /\ TD a_3 < (↑(ZV a) : Int))) /\ bif bif BET a_3 then decide (gN (GK (BBV a)
 (SJ a_3)) (GK (BBV a) (TD a_3)) < (0 : Int)) else false then (yT a_3 a /\ Wg a_3 < a.l.length /\ F2 a_3 a /\ BDI a_3 a /\ F2 a_3 a /\ BDI a_3 a /\ yT a_3 a /\ BGP
 a_3 a) /\ ∃ (a_5 : IJL), (J3 /\ ND a /\ uU /\ F5 a /\ (↑a_5.i : Int) = (↑a_3.i : Int) /\ (↑a_5.j : Int) = Qp a_3 /\ ND a /\ (∀ (i : Nat), i < a.l.length -> gD a_5.l i = bif decide (i = Wg a_3)
 then SJ a_3 else bif decide (i = Ml a_3) then TD a_3 else gD a_3.l i) /\ fW a) /\ L5 a a_5 a_1 /\ a_5.j < a_3.j else ∃ (a_5 : IL2), (J3 /\ ND a /\ uU /\ F5 a /\ (↑a_5.i : Int) =
 IntKind.i64.wrap ((↑a_3.i : Int) + (1 : Int)) /\ ND a /\ (∀ (i : Nat), i < a.l.length -> gD a_5.l i = gD a_3.l i) /\ fW a) /\ AOM a_5 a /\ vD a a_5 < vD a a_1 else ND a /\ (∀ (i : Nat), i <
 a.l.length -> gD (stM (GK a.g) a.l) i = gD a_1.l i) /\ fW a) := by kernel_rfl
def CJB : List AVal -> Option Int
 | [.d (.v (.int .u64 a))] => some a
 | _ => none
def BUE (a : Int) : List AVal := [.d (.v (.int .u64 a))]
def CCF (x : Int) : Prop := AW Try.prog (ann 25 []) AWK (AK AWK) (BUE x) (AF []) .any [] [] []
abbrev gB (x : Int) : Int := x / (2 : Int) ^ Int.toNat (32 : Int)
abbrev AEC : Prop := (0 : Int) <= (16 : Int) /\ (16 : Int) <= (↑(64 : Nat) : Int)
abbrev M4 : Int := (2 : Int) ^ Int.toNat (16 : Int)
abbrev Ca : Prop := (0 : Int) <= (8 : Int) /\ (8 : Int) <= (↑(64 : Nat) : Int)
abbrev Yk (x : Int) : Int := x / (2 : Int) ^ (32 : Nat)
abbrev AIB : Int := (2 : Int) ^ (16 : Nat)
abbrev AKS (x : Int) : Int := Yk x / AIB
abbrev Ap : Int := (2 : Int) ^ (8 : Nat)
abbrev AIV (x : Int) : Int := IntKind.u8.wrap (AKS x / Ap)
abbrev AFX (x : Int) : Int := IntKind.u8.wrap (AKS x)
abbrev nZ (x : Int) : Int := IntKind.u8.wrap (Yk x / Ap)
abbrev sJ (x : Int) : Int := IntKind.u8.wrap (Yk x)
abbrev jI (x : Int) : Int := x / AIB
abbrev jM (x : Int) : Int := IntKind.u8.wrap (jI x / Ap)
abbrev mU (x : Int) : Int := IntKind.u8.wrap (jI x)
abbrev oJ (x : Int) : Int := IntKind.u8.wrap (x / Ap)
theorem CHJ (x : Int) : (CCF x) = (bif decide (x >= (4294967296 : Int)) then ((0 : Int) <= (32 : Int) /\ (32 : Int) <= (↑(64 : Nat) : Int)) /\ bif decide (gB x >= (65536 : Int)) then AEC /\ bif decide
 (gB x / M4 >= (256 : Int)) then Ca /\ ((0 : Int) <= AIV x /\ AIV x < (↑(256 : Nat) : Int)) /\ True else ((0 : Int) <= AFX x /\ AFX x < (↑(256 : Nat) : Int)) /\ True else bif decide
 (gB x >= (256 : Int)) then Ca /\ ((0 : Int) <= nZ x /\ nZ x < (↑(256 : Nat) : Int)) /\ True else ((0 : Int) <= sJ x /\ sJ x < (↑(256 : Nat) : Int)) /\ True else bif decide (x >=
 (65536 : Int)) then AEC /\ bif decide (x / M4 >= (256 : Int)) then Ca /\ ((0 : Int) <= jM x /\ jM x < (↑(256 : Nat) : Int)) /\ True else ((0 : Int) <= mU x /\ mU x < (↑(256 :
 Nat) : Int)) /\ True else bif decide (x >= (256 : Int)) then Ca /\ ((0 : Int) <= oJ x /\ oJ x < (↑(256 : Nat) : Int)) /\ True else ((0 : Int) <= IntKind.u8.wrap x /\ IntKind.u8.wrap x < (↑(256 : Nat) :
 Int)) /\ True) := by kernel_rfl
def BJN := pD CJB (λ _ => .any) (λ x => [0 <= x /\ x <= 20])
def CQZ (x : Int) : Prop := AW Try.prog (ann 8 [(xP, BJN)]) BXI (AK BXI) (BUE x) (AF []) .any [] [] []
theorem CTL (x : Int) : (CQZ x) = ((0 <= x /\ x <= 20) /\ True) := by kernel_rfl
def dGLp : List AVal -> Heap -> Option (GL × List (Nat × Nat) × List Nat)
 | [.own id _ _ n, .d x, .d y, _, .fn (.func f) [] [.bptr c _]], H => if f = PC then match H id, TQ H c with
  | .live (.row _ m r), some q => some (⟨q, AE n λ i => BU (r i), BU x, BU y⟩, [(100, id), (101, c)], [])
  | _, _ => none else none
 | _, _ => none
def C_pdq : Ctr := { ro := [101], α := GL, xs := λ a => [.own 100 1 0 a.l.length, .int a.a, .int a.b, .any, fnW1], L := λ a => [(100, rowI a.l), (101, bxG a.g)], val := λ _ => .d (.tup []), keep := λ a => glK a (stM (GK a.g) a.l), pre := λ a => [((a.a = 0 /\ a.b = a.l.length) /\ a.l.length <= 12) /\ glOk a] }
def pq2 (a : GL) : Shape := { α := One, dflt := default, T := λ _ => ⟨[(0, .own 100 1 0 a.l.length), (1, .int 0), (2, .int a.l.length), (3, .any), (4, fnW1), (10, .bool true), (11, .bool true)], glK a a.l⟩, inv := λ _ => True, meas := λ _ => 0 }
def CRC (a : GL) : Ann := { ann 148 [(Z9, C_ins.spec dGL)] with E := [100, 101], loops := λ id => if id = 2 then some [pq2 a] else none }
def CRU (a : GL) : Prop := AW Try.prog (CRC a) BWC (AK BWC) [.own 100 1 0 a.l.length, .int 0, .int a.l.length, .any, fnW1] (AF (C_pdq.L a)) (C_pdq.val a) (C_pdq.keep a) [] []
abbrev BQS : Prop := (0 : Nat) = (0 : Nat)
abbrev BKE (a : GL) : Prop := a.l.length = a.l.length
abbrev BQA (a : GL) : Prop := (↑a.l.length : Int) = (↑a.l.length : Int)
abbrev AOT (a : GL) : Prop := a.g.p.lo = a.g.p.lo
abbrev ANV (a : GL) : Prop := a.g.p.hi = a.g.p.hi
abbrev BLO (a : GL) : Prop := AOT a /\ ANV a /\ a.g.base = a.g.base /\ a.g.scale = a.g.scale /\ a.g.off = a.g.off /\ a.g.ms.length = a.g.ms.length /\ (∀ (i : Nat), i < a.g.ms.length -> (gD a.g.ms i).pl = (gD a.g.ms
 i).pl /\ (gD a.g.ms i).ht = (gD a.g.ms i).ht) /\ a.g.ns.length = a.g.ns.length /\ ∀ (i : Nat), i < a.g.ns.length -> (gD a.g.ns i).mi = (gD a.g.ns i).mi /\ (gD a.g.ns i).t.lo = (gD a.g.ns i).t.lo /\ (gD a.g.ns i).t.hi = (gD
 a.g.ns i).t.hi /\ (gD a.g.ns i).s.lo = (gD a.g.ns i).s.lo /\ (gD a.g.ns i).s.hi = (gD a.g.ns i).s.hi
abbrev AQE (a : GL) : List Int := AE a.l.length λ (i : Nat) => gD a.l i
abbrev fY (a : GL) : Nat := (AQE a).length
abbrev BOM (a : GL) : Prop := fY a = a.l.length
abbrev BOR : Prop := (0 : Int) = Int.ofNat (0 : Nat)
abbrev BAI (i : Nat) (a : GL) : Prop := i < fY a
abbrev zO (a : GL) (i : Nat) : Int := gD (AQE a) i
abbrev xC (a : GL) : List Mk := AE a.g.ms.length λ (i : Nat) => gD a.g.ms i
abbrev C6 (a : GL) : Nat := (xC a).length
abbrev BBU (a : GL) (i : Nat) : Mk := gD (xC a) i
abbrev AWY (a : GL) (i : Nat) : Int := (BBU a i).pl
abbrev ARD (a : GL) (i : Nat) : Int := (BBU a i).ht
abbrev E1 (a : GL) : List Nt := AE a.g.ns.length λ (i : Nat) => gD a.g.ns i
abbrev Lk (a : GL) : Nat := (E1 a).length
abbrev K0 (a : GL) (i : Nat) : Nt := gD (E1 a) i
abbrev BDU (a : GL) (i : Nat) : Int := (K0 a i).mi
abbrev BBA (a : GL) (i : Nat) : Span := (K0 a i).t
abbrev BGW (a : GL) (i : Nat) : Int := (BBA a i).lo
abbrev BDO (a : GL) (i : Nat) : Int := (BBA a i).hi
abbrev AQO (a : GL) (i : Nat) : Span := (K0 a i).s
abbrev BDX (a : GL) (i : Nat) : Int := (AQO a i).lo
abbrev ARB (a : GL) (i : Nat) : Int := (AQO a i).hi
theorem CTW (a : GL) : (CRU a) = ((∃ (a_1 : One), (BQS /\ BKE a /\ Int.ofNat (0 : Nat) = Int.ofNat (0 : Nat) /\ BQA a /\ true = true /\ true = true /\ BKE a /\ (∀ (i : Nat), i < a.l.length -> gD a.l i = gD
 a.l i) /\ BLO a) /\ True) /\ ∀ (a_1 : One), True -> bif decide (IntKind.i64.wrap ((↑a.l.length : Int) - (0 : Int)) <= (12 : Int)) then (BQS /\ BOM a /\ BOR /\ BQA a /\ BOM a /\ (∀ (i : Nat), BAI i a ->
 zO a i = gD a.l i) /\ AOT a /\ ANV a /\ a.g.base = a.g.base /\ a.g.scale = a.g.scale /\ a.g.off = a.g.off /\ C6 a = a.g.ms.length /\ (∀ (i : Nat), i < C6 a -> AWY a i = (gD a.g.ms i).pl /\ ARD
 a i = (gD a.g.ms i).ht) /\ Lk a = a.g.ns.length /\ (∀ (i : Nat), i < Lk a -> BDU a i = (gD a.g.ns i).mi /\ BGW a i = (gD a.g.ns i).t.lo /\ BDO a i = (gD a.g.ns i).t.hi /\ BDX a i = (gD a.g.ns
 i).s.lo /\ ARB a i = (gD a.g.ns i).s.hi) /\ AOT a /\ ANV a /\ a.g.base = a.g.base /\ a.g.scale = a.g.scale /\ a.g.off = a.g.off /\ a.g.ms.length = C6 a /\ (∀ (i : Nat), i < a.g.ms.length -> (gD a.g.ms i).pl =
 AWY a i /\ (gD a.g.ms i).ht = ARD a i) /\ a.g.ns.length = Lk a /\ (∀ (i : Nat), i < a.g.ns.length -> (gD a.g.ns i).mi = BDU a i /\ (gD a.g.ns i).t.lo = BGW a i /\ (gD a.g.ns i).t.hi = BDO a i /\
 (gD a.g.ns i).s.lo = BDX a i /\ (gD a.g.ns i).s.hi = ARB a i) /\ (BOR /\ (↑a.l.length : Int) = (↑(fY a) : Int)) /\ fY a < (1073741824 : Nat) /\ ∀ (i : Nat), BAI i a -> (0 : Int) <= zO a i /\
 zO a i < (↑(Lk a) : Int)) /\ a.l.length = fY a /\ (∀ (i : Nat), i < a.l.length -> gD (stM (GK a.g) a.l) i = gD (stM (GK (Cht.mk a.g.p a.g.base a.g.scale a.g.off (xC a) (E1 a))) (AQE a))
 i) /\ BLO a else False) := by kernel_rfl
def dGLt : List AVal -> Heap -> Option (GL × List (Nat × Nat) × List Nat)
 | [.own id _ _ n, .fn (.func f) [] [.bptr c _]], H => if f = PC then match H id, TQ H c with
  | .live (.row _ m r), some q => some (⟨q, AE n λ i => BU (r i), 0, 0⟩, [(100, id), (101, c)], [])
  | _, _ => none else none
 | _, _ => none
def C_sort : Ctr := { ro := [101], α := GL, xs := λ a => [.own 100 1 0 a.l.length, fnW1], L := λ a => [(100, rowI a.l), (101, bxG a.g)], val := λ _ => .d (.tup []), keep := λ a => glK a (stM (GK a.g) a.l), pre := λ a => [a.l.length <= 12 /\ glOk a] }
def CFU : Ann := { ann 14 [(BOK, BJN), (BJV, C_pdq.spec dGLp)] with E := [100, 101] }
def CLH (a : GL) : Prop := AW Try.prog CFU yZ (AK yZ) (C_sort.xs a) (AF (C_sort.L a)) (C_sort.val a) (C_sort.keep a) [] []
theorem CPD (a : GL) : (CLH a) = ((((0 : Int) <= IntKind.u64.wrap (↑a.l.length : Int) /\ IntKind.u64.wrap (↑a.l.length : Int) <= (20 : Int)) /\ (0 : Nat) = (0 : Nat) /\ (AE a.l.length λ (i : Nat) => gD a.l i).length
 = a.l.length /\ (0 : Int) = Int.ofNat (0 : Nat) /\ (↑a.l.length : Int) = (↑a.l.length : Int) /\ (AE a.l.length λ (i : Nat) => gD a.l i).length = a.l.length /\ (∀ (i : Nat), i < (AE a.l.length λ (i : Nat) => gD a.l
 i).length -> gD (AE a.l.length λ (i : Nat) => gD a.l i) i = gD a.l i) /\ a.g.p.lo = a.g.p.lo /\ a.g.p.hi = a.g.p.hi /\ a.g.base = a.g.base /\ a.g.scale = a.g.scale /\ a.g.off = a.g.off /\ (AE a.g.ms.length λ (i : Nat) =>
 gD a.g.ms i).length = a.g.ms.length /\ (∀ (i : Nat), i < (AE a.g.ms.length λ (i : Nat) => gD a.g.ms i).length -> (gD (AE a.g.ms.length λ (i : Nat) => gD a.g.ms i) i).pl = (gD a.g.ms i).pl /\ (gD (AE a.g.ms.length fun
 (i : Nat) => gD a.g.ms i) i).ht = (gD a.g.ms i).ht) /\ (AE a.g.ns.length λ (i : Nat) => gD a.g.ns i).length = a.g.ns.length /\ (∀ (i : Nat), i < (AE a.g.ns.length λ (i : Nat) => gD a.g.ns i).length -> (gD (AE
 a.g.ns.length λ (i : Nat) => gD a.g.ns i) i).mi = (gD a.g.ns i).mi /\ (gD (AE a.g.ns.length λ (i : Nat) => gD a.g.ns i) i).t.lo = (gD a.g.ns i).t.lo /\ (gD (AE a.g.ns.length λ (i : Nat) => gD a.g.ns i) i).t.hi =
 (gD a.g.ns i).t.hi /\ (gD (AE a.g.ns.length λ (i : Nat) => gD a.g.ns i) i).s.lo = (gD a.g.ns i).s.lo /\ (gD (AE a.g.ns.length λ (i : Nat) => gD a.g.ns i) i).s.hi = (gD a.g.ns i).s.hi) /\ a.g.p.lo = a.g.p.lo /\ a.g.p.hi
 = a.g.p.hi /\ a.g.base = a.g.base /\ a.g.scale = a.g.scale /\ a.g.off = a.g.off /\ a.g.ms.length = (AE a.g.ms.length λ (i : Nat) => gD a.g.ms i).length /\ (∀ (i : Nat), i < a.g.ms.length -> (gD a.g.ms i).pl = (gD (AE
 a.g.ms.length λ (i : Nat) => gD a.g.ms i) i).pl /\ (gD a.g.ms i).ht = (gD (AE a.g.ms.length λ (i : Nat) => gD a.g.ms i) i).ht) /\ a.g.ns.length = (AE a.g.ns.length λ (i : Nat) => gD a.g.ns i).length /\ (∀ (i : Nat),
 i < a.g.ns.length -> (gD a.g.ns i).mi = (gD (AE a.g.ns.length λ (i : Nat) => gD a.g.ns i) i).mi /\ (gD a.g.ns i).t.lo = (gD (AE a.g.ns.length λ (i : Nat) => gD a.g.ns i) i).t.lo /\ (gD a.g.ns i).t.hi = (gD (AE
 a.g.ns.length λ (i : Nat) => gD a.g.ns i) i).t.hi /\ (gD a.g.ns i).s.lo = (gD (AE a.g.ns.length λ (i : Nat) => gD a.g.ns i) i).s.lo /\ (gD a.g.ns i).s.hi = (gD (AE a.g.ns.length λ (i : Nat) => gD a.g.ns i) i).s.hi)
 /\ (((0 : Int) = Int.ofNat (0 : Nat) /\ (↑a.l.length : Int) = (↑(AE a.l.length λ (i : Nat) => gD a.l i).length : Int)) /\ (AE a.l.length λ (i : Nat) => gD a.l i).length <= (12 : Nat)) /\ (AE a.l.length λ (i : Nat) =>
 gD a.l i).length < (1073741824 : Nat) /\ ∀ (i : Nat), i < (AE a.l.length λ (i : Nat) => gD a.l i).length -> (0 : Int) <= gD (AE a.l.length λ (i : Nat) => gD a.l i) i /\ gD (AE a.l.length λ (i : Nat) => gD a.l i) i <
 (↑(AE a.g.ns.length λ (i : Nat) => gD a.g.ns i).length : Int)) /\ a.l.length = (AE a.l.length λ (i : Nat) => gD a.l i).length /\ (∀ (i : Nat), i < a.l.length -> gD (stM (GK a.g) a.l) i = gD (stM (GK (Cht.mk a.g.p
 a.g.base a.g.scale a.g.off (AE a.g.ms.length λ (i : Nat) => gD a.g.ms i) (AE a.g.ns.length λ (i : Nat) => gD a.g.ns i))) (AE a.l.length λ (i : Nat) => gD a.l i)) i) /\ a.g.p.lo = a.g.p.lo /\ a.g.p.hi = a.g.p.hi /\
 a.g.base = a.g.base /\ a.g.scale = a.g.scale /\ a.g.off = a.g.off /\ a.g.ms.length = a.g.ms.length /\ (∀ (i : Nat), i < a.g.ms.length -> (gD a.g.ms i).pl = (gD a.g.ms i).pl /\ (gD a.g.ms i).ht = (gD a.g.ms i).ht) /\
 a.g.ns.length = a.g.ns.length /\ ∀ (i : Nat), i < a.g.ns.length -> (gD a.g.ns i).mi = (gD a.g.ns i).mi /\ (gD a.g.ns i).t.lo = (gD a.g.ns i).t.lo /\ (gD a.g.ns i).t.hi = (gD a.g.ns i).t.hi /\ (gD a.g.ns i).s.lo = (gD a.g.ns
 i).s.lo /\ (gD a.g.ns i).s.hi = (gD a.g.ns i).s.hi) := by kernel_rfl
theorem CWE : AL Try.prog PC (C_fw1.spec dGAB) := KV C_fw1 (λ _ => CRA) [] [] CMS (λ _ => by kernel_rfl) (λ _ => AD COR AI) (λ (a : GAB) h => by
 show CSE a; rw [CVL]; simp only [CC, eq_self, implies_true, forall_const]
 exact ⟨h, rfl⟩) (λ _ => MD rfl rfl) _
theorem CDD {l : List Int} {j i : Nat} {x : Int} (hj : j < l.length) : gD (l.set j x) i = bif decide (i = j) then x else gD l i := by
 unfold gD
 rw [List.getD_eq_getElem?_getD, List.getD_eq_getElem?_getD, List.getElem?_set]
 by_cases h : i = j
 ·subst h; simp [hj]
 ·simp [h, Ne.symm h]
theorem ARX {l : List Int} {j i : Nat} (hj : j + 1 < l.length) : gD (swL l j) i = bif decide (i = j) then gD l (j + 1) else bif decide (i = j + 1) then gD l j else gD l i := by
 unfold swL
 rw [CDD (by simpa using hj), CDD (by omega)]
 by_cases h : i = j
 ·subst h; simp
 ·simp [h]
theorem AWN (l : List Int) (j : Nat) : (swL l j).length = l.length := by simp [swL]
theorem CYM (a : GL) (h : glOk a) : CPW a := by
 rw [CVO]; delta J3 ND uU F5 AQG ANJ fW vD AOM BOS L5 BET YW F2 Ml Qp yT Wg BGP SJ TD vF yI ATS AVZ BAK zG ZV yF BCS AQT BEN AVK BAP BID AYB BBV BDI; simp only [CC, eq_self, implies_true, forall_const]
 obtain ⟨hlen, hin⟩ := h
 refine ⟨⟨⟨1, a.l⟩, ⟨by show (1 : Int) = _; rw [CP (by omega) (by omega)]; rfl, λ _ _ => rfl⟩, Nat.one_pos, .inr rfl, ⟨rfl, hin⟩, rfl⟩, λ x ⟨x1, x2, ⟨x3, x4⟩, x5⟩ => ⟨λ hlt => ⟨⟨⟨x.i, x.i, x.l⟩, ⟨rfl, rfl, λ _ _ => rfl⟩, rfl, x1, Int.ofNat_lt.1 hlt, Nat.le_refl _, ⟨x3, x4⟩, ?_⟩, λ y ⟨y1, y2, y3, y4, ⟨y5, y6⟩, y7⟩ => ?_⟩, λ hge => ?_⟩⟩
 ·rw [x5, show a.l.length - x.i = (a.l.length - (x.i + 1)) + 1 by omega]; rfl
 ·refine ⟨⟨λ _ => ⟨by omega, by omega⟩, λ _ => by omega, λ hj => ?_, λ hj => ?_, λ hj => ⟨y6 _ (by omega), ?_⟩⟩, λ hc => ?_, λ hc => ?_⟩
  ·rw [CP (by omega) (by omega)]; omega
  ·rw [CP (by omega) (by omega)]; omega
  ·rw [CP (by omega) (by omega)]; exact y6 _ (by omega)
  ·have hj : 0 < y.j := by
    cases hd : decide ((y.j : Int) > 0) with
    | false => rw [hd] at hc; cases hc
    | true => have := of_decide_eq_true hd; omega
   obtain ⟨j, hj2⟩ : ∃ j, y.j = j + 1 := ⟨y.j - 1, by omega⟩
   have e : IntKind.i64.wrap ((y.j : Int) - 1) = (j : Nat) := by rw [CP (by omega) (by omega)]; omega
   rw [decide_eq_true (show (y.j : Int) > 0 by omega)] at hc
   have hc : decide (gN (GK a.g (gD y.l y.j)) (GK a.g (gD y.l (IntKind.i64.wrap ((y.j : Int) - 1)).toNat)) < 0) = true := hc
   rw [e] at hc ⊢
   simp only [Int.toNat_natCast] at hc ⊢
   refine ⟨⟨⟨by omega, by omega⟩, by omega, ⟨by omega, by omega⟩, by omega, ⟨by omega, by omega⟩, by omega, ⟨by omega, by omega⟩, by omega⟩, ⟨y.i, j, swL y.l j⟩, ⟨rfl, rfl, λ i hi => ?_⟩, ⟨y1, y2, y3, by show j <= y.i; omega, ⟨by rw [AWN]; exact y5, λ i hi => ?_⟩, ?_⟩, by show j < _; omega⟩
   ·show gD (swL y.l j) i = _
    rw [ARX (by omega), hj2]
   ·show 0 <= gD (swL y.l j) i /\ gD (swL y.l j) i < _
    rw [ARX (by omega)]
    cases decide (i = j)
    ·cases decide (i = j + 1)
     ·exact y6 i hi
     ·exact y6 j (by omega)
    ·exact y6 (j + 1) (by omega)
   ·rw [hj2] at hc y7
    unfold insJ at y7
    rw [hc] at y7; exact y7
  ·have hq : insJ (GK a.g) y.j y.l = y.l := by
    cases hd : decide ((y.j : Int) > 0) with
    | false =>
     have := of_decide_eq_false hd
     rw [show y.j = 0 by omega]; rfl
    | true =>
     have hj := of_decide_eq_true hd
     obtain ⟨j, hj2⟩ : ∃ j, y.j = j + 1 := ⟨y.j - 1, by omega⟩
     have e : IntKind.i64.wrap ((y.j : Int) - 1) = (j : Nat) := by rw [CP (by omega) (by omega)]; omega
     rw [hd] at hc
     have hc : decide (gN (GK a.g (gD y.l y.j)) (GK a.g (gD y.l (IntKind.i64.wrap ((y.j : Int) - 1)).toNat)) < 0) = false := hc
     rw [e, hj2] at hc
     simp only [Int.toNat_natCast] at hc
     rw [hj2]; unfold insJ; rw [hc]; rfl
   rw [hq] at y7
   refine ⟨⟨y.i + 1, y.l⟩, ⟨(FE (by omega)).symm, λ _ _ => rfl⟩, ⟨by show 0 < y.i + 1; omega, .inl (by show y.i + 1 <= _; omega), ⟨y5, y6⟩, y7⟩, by show a.l.length - (y.i + 1) < _; omega⟩
 ·intro i hi
  rw [x5, show a.l.length - x.i = 0 by omega]; rfl
theorem CUW : AL Try.prog Z9 (C_ins.spec dGL) := okT C_ins (λ (a : GL) h => by
 obtain ⟨⟨ha, hb⟩, h⟩ : (a.a = 0 /\ a.b = a.l.length) /\ glOk a := h
 show FnT Try.prog Z9 [.own 100 1 0 a.l.length, .int a.a, .int a.b, fnW1] _ _ _
 rw [ha, hb]
 exact QX (A := CQW a) (L := C_ins.L a) (keep := C_ins.keep a) (ren := []) (fz := []) CBN (by kernel_rfl) (AD CWE AI) (CYM a h)) _
theorem CRY (xs : List AVal) (a : Int) (h : CJB xs = some a) : xs = BUE a := by
 unfold CJB at h; split at h <;> cases h; rfl
theorem CZH (n : Int) : 0 <= IntKind.u8.wrap n /\ IntKind.u8.wrap n < ((256 : Nat) : Int) := by
 have e : IntKind.u8.wrap n = n % 256 := by
  simp only [IntKind.wrap, IntKind.bits, IntKind.signed]
  simp
 rw [e]; exact ⟨Int.emod_nonneg _ (by omega), Int.emod_lt_of_pos _ (by omega)⟩
theorem CHZ : AL Try.prog xP BJN := XE BUE CRY λ x h => QX (A := ann 25 []) (ren := []) (fz := []) CDW (by kernel_rfl) AI (by
 have h : 0 <= x /\ x <= 20 := h
 show CCF x; rw [CHJ]; delta gB AEC M4 Ca Yk AIB AKS Ap AIV AFX nZ sJ jI jM mU oJ; simp only [CC, eq_self, implies_true, forall_const]
 exact ⟨λ h => by omega, λ _ => ⟨λ h => by omega, λ _ => ⟨λ h => by omega, λ _ => CZH _⟩⟩⟩)
theorem CHD : AL Try.prog BOK BJN := XE BUE CRY λ x h => QX (A := ann 8 [(xP, BJN)]) (ren := []) (fz := []) CNB (by kernel_rfl) (AD CHZ AI) (by
 show CQZ x; rw [CTL]; exact ⟨h, trivial⟩)
theorem CVX : AL Try.prog BJV (C_pdq.spec dGLp) := okT C_pdq (λ (a : GL) h => by
 obtain ⟨⟨⟨ha, hb⟩, hl⟩, h⟩ : ((a.a = 0 /\ a.b = a.l.length) /\ a.l.length <= 12) /\ glOk a := h
 show FnT Try.prog BJV [.own 100 1 0 a.l.length, .int a.a, .int a.b, .any, fnW1] _ _ _
 rw [ha, hb]
 refine QX (A := CRC a) (L := C_pdq.L a) (keep := C_pdq.keep a) (ren := []) (fz := []) CKT (by kernel_rfl) (AD CUW AI) ?_
 show CRU a
 rw [CTW]; delta BQS BKE BQA AOT ANV BLO AQE fY BOM BOR BAI zO xC C6 BBU AWY ARD E1 Lk K0 BDU BBA BGW BDO AQO BDX ARB; simp only [CC, eq_self, implies_true, forall_const]
 have e : IntKind.i64.wrap ((a.l.length : Int) - 0) = a.l.length := by rw [CP (by omega) (by omega)]; omega
 rw [e]
 exact ⟨⟨default, trivial⟩, λ _ => ⟨rfl, rfl, h⟩, λ hc => by omega⟩) _
theorem CPM : AL Try.prog uL (C_sort.spec dGLt) := KV C_sort (λ _ => CFU) [] [] BWM (λ _ => by kernel_rfl) (λ _ => AD CHD (AD CVX AI)) (λ (a : GL) h => by
 obtain ⟨hl, h⟩ : a.l.length <= 12 /\ glOk a := h
 show CLH a; rw [CPD]; simp only [CC, eq_self, implies_true, forall_const]
 have e : IntKind.u64.wrap (a.l.length : Int) = a.l.length := u64w (by omega) (by omega)
 rw [e]
 exact ⟨by omega, rfl, ⟨rfl, hl⟩, h⟩) (λ _ => MD rfl rfl) _
end Go.Bal
