/- Package chart: the order of notes, fewer than 13. Turned from RatR. -/
import Derived.Test.YtdbjalgfomknhaaChD3
set_option linter.unusedVariables false
set_option linter.unusedSimpArgs false
namespace Go.Bal
open Go Go.Sym Go.Proofs
def COH (x : Int) : Prop := AZ Try.prog (ann 6 []) BYW (AL BYW) (xI1 x) (AG []) (.bool false) [] [] []
theorem CPV (x : Int) : (COH x) = (false = (x != x)) := by kernel_rfl
def BZH := pD dI1 λ _ => .bool false
theorem CPA : AM Try.prog BQE BZH := XN xI1 hI1 λ g _ => UO (A := ann 6 []) (ren := []) (fz := []) CRK (by kernel_rfl) AJ (by
 show COH g; rw [CPV]; simp)
def M3 (a b : Int) : Int := bif decide (a < b) then -1 else bif decide (a > b) then 1 else 0
def CNO (x : I2) : Prop := AZ Try.prog (ann 20 [(BQE, BZH)]) CAL (AL CAL) (xI2 x) (AG []) (.int (M3 x.a x.b)) [] [] []
theorem COS (x : I2) : (CNO x) = (bif decide (x.a < x.b) then M3 x.a x.b = -1 else bif decide (x.a > x.b) then M3 x.a x.b = 1 else M3 x.a x.b = 0) := by kernel_rfl
def CLI := pD dI2 λ x => .int (M3 x.a x.b)
theorem CRL : AM Try.prog BYT CLI := XN xI2 hI2 λ g _ => UO (A := ann 20 [(BQE, BZH)]) (ren := []) (fz := []) CPQ (by kernel_rfl) (AC CPA AJ) (by
 show CNO g; rw [COS]; unfold M3; by_cases h : g.a < g.b <;> by_cases h2 : g.b < g.a <;> simp [h, h2])
structure GAB where
 g : Cht
 a : Int
 b : Int
def IC (c : Cht) (x : Int) : Int := (gD c.ns x.toNat).mi
def bxG (c : Cht) : AObj := chB c
def dGAB : List AVal -> Heap -> Option (GAB × List (Nat × Nat) × List Nat)
 | [.d x, .d y, .bptr id _], H => match TJ H id with
  | some q => some (⟨q, CK x, CK y⟩, [(100, id)], [])
  | none => none
 | _, _ => none
def C_fw1 : Ctr := { ro := [100], α := GAB, xs := λ a => [.int a.a, .int a.b, .bptr 100 0], L := λ a => [(100, bxG a.g)], val := λ a => .int (M3 (IC a.g a.a) (IC a.g a.b)), keep := λ a => [(100, .live (bxG a.g))], pre := λ a => [(0 <= a.a /\ a.a < a.g.ns.length) /\ 0 <= a.b /\ a.b < a.g.ns.length] }
def CUR : Ann := { ann 19 [(BYT, CLI)] with E := [100] }
def CSA (a : GAB) : Prop := AZ Try.prog CUR BZU (AL BZU) (C_fw1.xs a) (AG (C_fw1.L a)) (C_fw1.val a) (C_fw1.keep a) [] []
theorem CWL (a : GAB) : (CSA a) = (((0 <= a.a /\ a.a < (↑a.g.ns.length : Int)) /\ 0 <= a.b /\ a.b < (↑a.g.ns.length : Int)) /\ M3 (IC a.g a.a) (IC a.g a.b) = M3 (gD a.g.ns a.a.toNat).mi (gD a.g.ns a.b.toNat).mi /\
 a.g.p.lo = a.g.p.lo /\ a.g.p.hi = a.g.p.hi /\ a.g.base = a.g.base /\ a.g.scale = a.g.scale /\ a.g.off = a.g.off /\ a.g.ms.length = a.g.ms.length /\ (∀ (i : Nat), i < a.g.ms.length -> (gD a.g.ms i).pl = (gD a.g.ms i).pl /\ (gD
 a.g.ms i).ht = (gD a.g.ms i).ht) /\ a.g.ns.length = a.g.ns.length /\ ∀ (i : Nat), i < a.g.ns.length -> (gD a.g.ns i).mi = (gD a.g.ns i).mi /\ (gD a.g.ns i).t.lo = (gD a.g.ns i).t.lo /\ (gD a.g.ns i).t.hi = (gD a.g.ns i).t.hi
 /\ (gD a.g.ns i).s.lo = (gD a.g.ns i).s.lo /\ (gD a.g.ns i).s.hi = (gD a.g.ns i).s.hi) := by kernel_rfl
def rowI (l : List Int) : AObj := .row 1 l.length λ i => FT (gD l i)
def DAG (n : Nat) (l : List Int) : AObj := .row 1 n λ i => FT (gD l i)
def swL (l : List Int) (j : Nat) : List Int := (l.set j (gD l (j + 1))).set (j + 1) (gD l j)
def insJ (key : Int -> Int) : Nat -> List Int -> List Int
 | 0, l => l
 | j + 1, l => bif decide (M3 (key (gD l (j + 1))) (key (gD l j)) < 0) then insJ key j (swL l j) else l
def stR (key : Int -> Int) : Nat -> Nat -> List Int -> List Int
 | 0, _, l => l
 | n + 1, i, l => stR key n (i + 1) (insJ key i l)
def stM (key : Int -> Int) (l : List Int) : List Int := stR key (l.length - 1) 1 l
structure GL where
 g : Cht
 l : List Int
 a : Int
 b : Int
structure IL2 where
 i : Nat
 l : List Int
 deriving Inhabited
structure IJL where
 i : Nat
 j : Nat
 l : List Int
 deriving Inhabited
def fnW1 : AVal := .fn (.func PH) [] [.bptr 101 0]
def glK (a : GL) (l : List Int) : List (Nat × HCell) := [(100, .live (DAG a.l.length l)), (101, .live (bxG a.g))]
def glIn (a : GL) (l : List Int) : Prop := l.length = a.l.length /\ ∀ i, i < a.l.length -> 0 <= gD l i /\ gD l i < a.g.ns.length
def glOk (a : GL) : Prop := a.l.length < 1073741824 /\ ∀ i, i < a.l.length -> 0 <= gD a.l i /\ gD a.l i < a.g.ns.length
def dGL : List AVal -> Heap -> Option (GL × List (Nat × Nat) × List Nat)
 | [.own id _ _ n, .d x, .d y, .fn (.func f) [] [.bptr c _]], H => if f = PH then match H id, TJ H c with
  | .live (.row _ m r), some q => some (⟨q, AE n λ i => CK (r i), CK x, CK y⟩, [(100, id), (101, c)], [])
  | _, _ => none else none
 | _, _ => none
def C_ins : Ctr := { ro := [101], α := GL, xs := λ a => [.own 100 1 0 a.l.length, .int a.a, .int a.b, fnW1], L := λ a => [(100, rowI a.l), (101, bxG a.g)], val := λ _ => .d (.tup []), keep := λ a => glK a (stM (IC a.g) a.l), pre := λ a => [(a.a = 0 /\ a.b = a.l.length) /\ glOk a] }
def ins1 (a : GL) : Shape := { α := IL2, dflt := default, T := λ x => ⟨[(0, .own 100 1 0 a.l.length), (1, .int 0), (2, .int a.l.length), (3, fnW1), (8, .int x.i)], glK a x.l⟩, inv := λ x => 1 <= x.i /\ (x.i <= a.l.length ∨ x.i = 1) /\ glIn a x.l /\ stM (IC a.g) a.l = stR (IC a.g) (a.l.length - x.i) x.i x.l, meas := λ x => a.l.length - x.i }
def ins4 (a : GL) (m : Nat) : Shape := { α := IJL, dflt := default, T := λ x => ⟨[(0, .own 100 1 0 a.l.length), (1, .int 0), (2, .int a.l.length), (3, fnW1), (8, .int x.i), (9, .int x.j)], glK a x.l⟩, inv := λ x => a.l.length - x.i = m /\ 1 <= x.i /\ x.i < a.l.length /\ x.j <= x.i /\ glIn a x.l /\ stM (IC a.g) a.l = stR (IC a.g) (a.l.length - (x.i + 1)) (x.i + 1) (insJ (IC a.g) x.j x.l), meas := λ x => x.j }
def CSN (a : GL) : Ann := { ann 53 [(PH, C_fw1.spec dGAB)] with E := [100, 101], loops := λ id => if id = 1 then some [ins1 a] else none, inner := λ gs id => if id = 4 then some [ins4 a (gs.getD 0 0)] else none }
def CRO (a : GL) : Prop := AZ Try.prog (CSN a) AQM (AL AQM) [.own 100 1 0 a.l.length, .int 0, .int a.l.length, fnW1] (AG (C_ins.L a)) (C_ins.val a) (C_ins.keep a) [] []
abbrev C5 : Prop := (0 : Nat) = (0 : Nat)
abbrev NT (a : GL) : Prop := a.l.length = a.l.length
abbrev wE : Prop := Int.ofNat (0 : Nat) = Int.ofNat (0 : Nat)
abbrev yR (a : GL) : Prop := (↑a.l.length : Int) = (↑a.l.length : Int)
abbrev AOU (a : GL) : Prop := a.g.p.lo = a.g.p.lo
abbrev ANS (a : GL) : Prop := a.g.p.hi = a.g.p.hi
abbrev dB (a : GL) : Prop := AOU a /\ ANS a /\ a.g.base = a.g.base /\ a.g.scale = a.g.scale /\ a.g.off = a.g.off /\ a.g.ms.length = a.g.ms.length /\ (∀ (i : Nat), i < a.g.ms.length -> (gD a.g.ms i).pl = (gD a.g.ms
 i).pl /\ (gD a.g.ms i).ht = (gD a.g.ms i).ht) /\ a.g.ns.length = a.g.ns.length /\ ∀ (i : Nat), i < a.g.ns.length -> (gD a.g.ns i).mi = (gD a.g.ns i).mi /\ (gD a.g.ns i).t.lo = (gD a.g.ns i).t.lo /\ (gD a.g.ns i).t.hi = (gD
 a.g.ns i).t.hi /\ (gD a.g.ns i).s.lo = (gD a.g.ns i).s.lo /\ (gD a.g.ns i).s.hi = (gD a.g.ns i).s.hi
abbrev yH (a : GL) (a1 : IL2) : Nat := a.l.length - a1.i
abbrev AMT (a : IL2) (a1 : GL) : Prop := (1 : Nat) <= a.i /\ (a.i <= a1.l.length ∨ a.i = (1 : Nat)) /\ (a.l.length = a1.l.length /\ ∀ (i : Nat), i < a1.l.length -> (0 : Int) <= gD a.l i /\ gD a.l i < (↑a1.g.ns.length : Int))
 /\ stM (IC a1.g) a1.l = stR (IC a1.g) (yH a1 a) a.i a.l
abbrev BVW (a : IJL) : Nat := a.i + (1 : Nat)
abbrev tL (a : GL) (a1 : IJL) (a2 : IL2) : Prop := a.l.length - a1.i = yH a a2 /\ (1 : Nat) <= a1.i /\ a1.i < a.l.length /\ a1.j <= a1.i /\ (a1.l.length = a.l.length /\ ∀ (i : Nat), i < a.l.length -> (0 : Int) <= gD
 a1.l i /\ gD a1.l i < (↑a.g.ns.length : Int)) /\ stM (IC a.g) a.l = stR (IC a.g) (a.l.length - BVW a1) (BVW a1) (insJ (IC a.g) a1.j a1.l)
abbrev BAQ (a : IJL) : Bool := decide ((↑a.j : Int) > (0 : Int))
abbrev YZ (a : IJL) : Prop := BAQ a = true
abbrev uJ (a : IJL) (a1 : GL) : Prop := (0 : Int) <= (↑a.j : Int) /\ (↑a.j : Int) < (↑a1.l.length : Int)
abbrev Tf (a : IJL) : Nat := (0 : Nat) + a.j
abbrev Va (a : IJL) : Int := IntKind.i64.wrap ((↑a.j : Int) - (1 : Int))
abbrev M2 (a : IJL) (a1 : GL) : Prop := (0 : Int) <= Va a /\ Va a < (↑a1.l.length : Int)
abbrev Tk (a : IJL) : Nat := (0 : Nat) + (Va a).toNat
abbrev AVY (a : IJL) (a1 : GL) : Prop := (Tk a).succ.le a1.l.length
abbrev TD (a : IJL) : Int := gD a.l (Tf a)
abbrev SZ (a : IJL) : Int := gD a.l (Tk a)
abbrev xL (a : GL) : List Mk := AE a.g.ms.length λ (i : Nat) => gD a.g.ms i
abbrev C1 (a : GL) : Nat := (xL a).length
abbrev AUK (a : GL) (i : Nat) : Mk := gD (xL a) i
abbrev AXG (a : GL) (i : Nat) : Int := (AUK a i).pl
abbrev BDJ (a : GL) (i : Nat) : Int := (AUK a i).ht
abbrev J6 (a : GL) : List Nt := AE a.g.ns.length λ (i : Nat) => gD a.g.ns i
abbrev YJ (a : GL) : Nat := (J6 a).length
abbrev tG (a : GL) (i : Nat) : Nt := gD (J6 a) i
abbrev BFS (a : GL) (i : Nat) : Int := (tG a i).mi
abbrev ARO (a : GL) (i : Nat) : Span := (tG a i).t
abbrev AYD (a : GL) (i : Nat) : Int := (ARO a i).lo
abbrev AYW (a : GL) (i : Nat) : Int := (ARO a i).hi
abbrev AYM (a : GL) (i : Nat) : Span := (tG a i).s
abbrev BHN (a : GL) (i : Nat) : Int := (AYM a i).lo
abbrev BBN (a : GL) (i : Nat) : Int := (AYM a i).hi
abbrev AWJ (a : GL) : Cht := Cht.mk a.g.p a.g.base a.g.scale a.g.off (xL a) (J6 a)
abbrev BHU (a : IJL) (a1 : GL) : Prop := Tf a < a1.l.length
theorem CXH (a : GL) : (CRO a) = ((∃ (a_1 : IL2), (C5 /\ NT a /\ wE /\ yR a /\ (↑a_1.i : Int) = IntKind.i64.wrap ((0 : Int) + (1 : Int)) /\ NT a /\ (∀ (i : Nat), i < a.l.length -> gD a_1.l i = gD
 a.l i) /\ dB a) /\ AMT a_1 a) /\ ∀ (a_1 : IL2), AMT a_1 a -> bif decide ((↑a_1.i : Int) < (↑a.l.length : Int)) then (∃ (a_3 : IJL), (C5 /\ NT a /\ wE /\ yR a /\ (↑a_3.i : Int) = (↑a_1.i : Int) /\
 (↑a_3.j : Int) = (↑a_1.i : Int) /\ NT a /\ (∀ (i : Nat), i < a.l.length -> gD a_3.l i = gD a_1.l i) /\ dB a) /\ tL a a_3 a_1) /\ ∀ (a_3 : IJL), tL a a_3 a_1 -> ((YZ a_3 -> uJ a_3 a) /\ (YZ
 a_3 -> (Tf a_3).succ.le a.l.length) /\ (YZ a_3 -> M2 a_3 a) /\ (YZ a_3 -> AVY a_3 a) /\ (YZ a_3 -> TD a_3 = TD a_3 /\ SZ a_3 = SZ a_3 /\ AOU a /\ ANS a /\ a.g.base
 = a.g.base /\ a.g.scale = a.g.scale /\ a.g.off = a.g.off /\ C1 a = a.g.ms.length /\ (∀ (i : Nat), i < C1 a -> AXG a i = (gD a.g.ms i).pl /\ BDJ a i = (gD a.g.ms i).ht) /\ YJ a = a.g.ns.length /\ (∀ (i
 : Nat), i < YJ a -> BFS a i = (gD a.g.ns i).mi /\ AYD a i = (gD a.g.ns i).t.lo /\ AYW a i = (gD a.g.ns i).t.hi /\ BHN a i = (gD a.g.ns i).s.lo /\ BBN a i = (gD a.g.ns i).s.hi) /\ AOU a /\
 ANS a /\ a.g.base = a.g.base /\ a.g.scale = a.g.scale /\ a.g.off = a.g.off /\ a.g.ms.length = C1 a /\ (∀ (i : Nat), i < a.g.ms.length -> (gD a.g.ms i).pl = AXG a i /\ (gD a.g.ms i).ht = BDJ a i) /\
 a.g.ns.length = YJ a /\ (∀ (i : Nat), i < a.g.ns.length -> (gD a.g.ns i).mi = BFS a i /\ (gD a.g.ns i).t.lo = AYD a i /\ (gD a.g.ns i).t.hi = AYW a i /\ (gD a.g.ns i).s.lo = BHN a i /\ (gD a.g.ns
 i).s.hi = BBN a i) /\ ((0 : Int) <= TD a_3 /\ TD a_3 < (↑(YJ a) : Int)) /\ (0 : Int) <= SZ a_3 /\ SZ a_3 < (↑(YJ a) : Int))) /\ bif bif BAQ a_3 then decide (M3 (IC (AWJ a)
 (TD a_3)) (IC (AWJ a) (SZ a_3)) < (0 : Int)) else false then (M2 a_3 a /\ Tk a_3 < a.l.length /\ uJ a_3 a /\ BHU a_3 a /\ uJ a_3 a /\ BHU a_3 a /\ M2 a_3 a /\ AVY
 a_3 a) /\ ∃ (a_5 : IJL), (C5 /\ NT a /\ wE /\ yR a /\ (↑a_5.i : Int) = (↑a_3.i : Int) /\ (↑a_5.j : Int) = Va a_3 /\ NT a /\ (∀ (i : Nat), i < a.l.length -> gD a_5.l i = bif decide (i = Tk a_3)
 then TD a_3 else bif decide (i = Tf a_3) then SZ a_3 else gD a_3.l i) /\ dB a) /\ tL a a_5 a_1 /\ a_5.j < a_3.j else ∃ (a_5 : IL2), (C5 /\ NT a /\ wE /\ yR a /\ (↑a_5.i : Int) =
 IntKind.i64.wrap ((↑a_3.i : Int) + (1 : Int)) /\ NT a /\ (∀ (i : Nat), i < a.l.length -> gD a_5.l i = gD a_3.l i) /\ dB a) /\ AMT a_5 a /\ yH a a_5 < yH a a_1 else NT a /\ (∀ (i : Nat), i <
 a.l.length -> gD (stM (IC a.g) a.l) i = gD a_1.l i) /\ dB a) := by kernel_rfl
def CMB : List AVal -> Option Int
 | [.d (.v (.int .u64 a))] => some a
 | _ => none
def BWO (a : Int) : List AVal := [.d (.v (.int .u64 a))]
def CFM (x : Int) : Prop := AZ Try.prog (ann 25 []) BDU (AL BDU) (BWO x) (AG []) .any [] [] []
abbrev aN (x : Int) : Int := x / (2 : Int) ^ Int.toNat (32 : Int)
abbrev U8 : Prop := (0 : Int) <= (16 : Int) /\ (16 : Int) <= (↑(64 : Nat) : Int)
abbrev ADQ : Int := (2 : Int) ^ Int.toNat (16 : Int)
abbrev Cj : Prop := (0 : Int) <= (8 : Int) /\ (8 : Int) <= (↑(64 : Nat) : Int)
abbrev Ye (x : Int) : Int := x / (2 : Int) ^ (32 : Nat)
abbrev T9 : Int := (2 : Int) ^ (16 : Nat)
abbrev AKJ (x : Int) : Int := Ye x / T9
abbrev Ag : Int := (2 : Int) ^ (8 : Nat)
abbrev O0 (x : Int) : Int := IntKind.u8.wrap (AKJ x / Ag)
abbrev AAP (x : Int) : Int := IntKind.u8.wrap (AKJ x)
abbrev kI (x : Int) : Int := IntKind.u8.wrap (Ye x / Ag)
abbrev hU (x : Int) : Int := IntKind.u8.wrap (Ye x)
abbrev oI (x : Int) : Int := x / T9
abbrev sU (x : Int) : Int := IntKind.u8.wrap (oI x / Ag)
abbrev oU (x : Int) : Int := IntKind.u8.wrap (oI x)
abbrev lP (x : Int) : Int := IntKind.u8.wrap (x / Ag)
theorem CLK (x : Int) : (CFM x) = (bif decide (x >= (4294967296 : Int)) then ((0 : Int) <= (32 : Int) /\ (32 : Int) <= (↑(64 : Nat) : Int)) /\ bif decide (aN x >= (65536 : Int)) then U8 /\ bif decide
 (aN x / ADQ >= (256 : Int)) then Cj /\ ((0 : Int) <= O0 x /\ O0 x < (↑(256 : Nat) : Int)) /\ True else ((0 : Int) <= AAP x /\ AAP x < (↑(256 : Nat) : Int)) /\ True else bif decide
 (aN x >= (256 : Int)) then Cj /\ ((0 : Int) <= kI x /\ kI x < (↑(256 : Nat) : Int)) /\ True else ((0 : Int) <= hU x /\ hU x < (↑(256 : Nat) : Int)) /\ True else bif decide (x >=
 (65536 : Int)) then U8 /\ bif decide (x / ADQ >= (256 : Int)) then Cj /\ ((0 : Int) <= sU x /\ sU x < (↑(256 : Nat) : Int)) /\ True else ((0 : Int) <= oU x /\ oU x < (↑(256 :
 Nat) : Int)) /\ True else bif decide (x >= (256 : Int)) then Cj /\ ((0 : Int) <= lP x /\ lP x < (↑(256 : Nat) : Int)) /\ True else ((0 : Int) <= IntKind.u8.wrap x /\ IntKind.u8.wrap x < (↑(256 : Nat) :
 Int)) /\ True) := by kernel_rfl
def BJO := pD CMB (λ _ => .any) (λ x => [0 <= x /\ x <= 20])
def CRX (x : Int) : Prop := AZ Try.prog (ann 8 [(uH, BJO)]) CCB (AL CCB) (BWO x) (AG []) .any [] [] []
theorem CVR (x : Int) : (CRX x) = ((0 <= x /\ x <= 20) /\ True) := by kernel_rfl
def dGLp : List AVal -> Heap -> Option (GL × List (Nat × Nat) × List Nat)
 | [.own id _ _ n, .d x, .d y, _, .fn (.func f) [] [.bptr c _]], H => if f = PH then match H id, TJ H c with
  | .live (.row _ m r), some q => some (⟨q, AE n λ i => CK (r i), CK x, CK y⟩, [(100, id), (101, c)], [])
  | _, _ => none else none
 | _, _ => none
def C_pdq : Ctr := { ro := [101], α := GL, xs := λ a => [.own 100 1 0 a.l.length, .int a.a, .int a.b, .any, fnW1], L := λ a => [(100, rowI a.l), (101, bxG a.g)], val := λ _ => .d (.tup []), keep := λ a => glK a (stM (IC a.g) a.l), pre := λ a => [((a.a = 0 /\ a.b = a.l.length) /\ a.l.length <= 12) /\ glOk a] }
def pq2 (a : GL) : Shape := { α := One, dflt := default, T := λ _ => ⟨[(0, .own 100 1 0 a.l.length), (1, .int 0), (2, .int a.l.length), (3, .any), (4, fnW1), (10, .bool true), (11, .bool true)], glK a a.l⟩, inv := λ _ => True, meas := λ _ => 0 }
def CUS (a : GL) : Ann := { ann 148 [(AGH, C_ins.spec dGL)] with E := [100, 101], loops := λ id => if id = 2 then some [pq2 a] else none }
def CSE (a : GL) : Prop := AZ Try.prog (CUS a) BYA (AL BYA) [.own 100 1 0 a.l.length, .int 0, .int a.l.length, .any, fnW1] (AG (C_pdq.L a)) (C_pdq.val a) (C_pdq.keep a) [] []
abbrev BTY : Prop := (0 : Nat) = (0 : Nat)
abbrev BTA (a : GL) : Prop := a.l.length = a.l.length
abbrev BKW (a : GL) : Prop := (↑a.l.length : Int) = (↑a.l.length : Int)
abbrev ANA (a : GL) : Prop := a.g.p.lo = a.g.p.lo
abbrev AOY (a : GL) : Prop := a.g.p.hi = a.g.p.hi
abbrev BQJ (a : GL) : Prop := ANA a /\ AOY a /\ a.g.base = a.g.base /\ a.g.scale = a.g.scale /\ a.g.off = a.g.off /\ a.g.ms.length = a.g.ms.length /\ (∀ (i : Nat), i < a.g.ms.length -> (gD a.g.ms i).pl = (gD a.g.ms
 i).pl /\ (gD a.g.ms i).ht = (gD a.g.ms i).ht) /\ a.g.ns.length = a.g.ns.length /\ ∀ (i : Nat), i < a.g.ns.length -> (gD a.g.ns i).mi = (gD a.g.ns i).mi /\ (gD a.g.ns i).t.lo = (gD a.g.ns i).t.lo /\ (gD a.g.ns i).t.hi = (gD
 a.g.ns i).t.hi /\ (gD a.g.ns i).s.lo = (gD a.g.ns i).s.lo /\ (gD a.g.ns i).s.hi = (gD a.g.ns i).s.hi
abbrev ANW (a : GL) : List Int := AE a.l.length λ (i : Nat) => gD a.l i
abbrev Xi (a : GL) : Nat := (ANW a).length
abbrev BPX (a : GL) : Prop := Xi a = a.l.length
abbrev BPH : Prop := (0 : Int) = Int.ofNat (0 : Nat)
abbrev BAV (i : Nat) (a : GL) : Prop := i < Xi a
abbrev K2 (a : GL) (i : Nat) : Int := gD (ANW a) i
abbrev sY (a : GL) : List Mk := AE a.g.ms.length λ (i : Nat) => gD a.g.ms i
abbrev D4 (a : GL) : Nat := (sY a).length
abbrev BAT (a : GL) (i : Nat) : Mk := gD (sY a) i
abbrev AXZ (a : GL) (i : Nat) : Int := (BAT a i).pl
abbrev BCP (a : GL) (i : Nat) : Int := (BAT a i).ht
abbrev zH (a : GL) : List Nt := AE a.g.ns.length λ (i : Nat) => gD a.g.ns i
abbrev Nk (a : GL) : Nat := (zH a).length
abbrev B7 (a : GL) (i : Nat) : Nt := gD (zH a) i
abbrev AVZ (a : GL) (i : Nat) : Int := (B7 a i).mi
abbrev AXL (a : GL) (i : Nat) : Span := (B7 a i).t
abbrev BHM (a : GL) (i : Nat) : Int := (AXL a i).lo
abbrev BBR (a : GL) (i : Nat) : Int := (AXL a i).hi
abbrev AYI (a : GL) (i : Nat) : Span := (B7 a i).s
abbrev BCI (a : GL) (i : Nat) : Int := (AYI a i).lo
abbrev AXU (a : GL) (i : Nat) : Int := (AYI a i).hi
theorem CWS (a : GL) : (CSE a) = ((∃ (a_1 : One), (BTY /\ BTA a /\ Int.ofNat (0 : Nat) = Int.ofNat (0 : Nat) /\ BKW a /\ true = true /\ true = true /\ BTA a /\ (∀ (i : Nat), i < a.l.length -> gD a.l i = gD
 a.l i) /\ BQJ a) /\ True) /\ ∀ (a_1 : One), True -> bif decide (IntKind.i64.wrap ((↑a.l.length : Int) - (0 : Int)) <= (12 : Int)) then (BTY /\ BPX a /\ BPH /\ BKW a /\ BPX a /\ (∀ (i : Nat), BAV i a ->
 K2 a i = gD a.l i) /\ ANA a /\ AOY a /\ a.g.base = a.g.base /\ a.g.scale = a.g.scale /\ a.g.off = a.g.off /\ D4 a = a.g.ms.length /\ (∀ (i : Nat), i < D4 a -> AXZ a i = (gD a.g.ms i).pl /\ BCP
 a i = (gD a.g.ms i).ht) /\ Nk a = a.g.ns.length /\ (∀ (i : Nat), i < Nk a -> AVZ a i = (gD a.g.ns i).mi /\ BHM a i = (gD a.g.ns i).t.lo /\ BBR a i = (gD a.g.ns i).t.hi /\ BCI a i = (gD a.g.ns
 i).s.lo /\ AXU a i = (gD a.g.ns i).s.hi) /\ ANA a /\ AOY a /\ a.g.base = a.g.base /\ a.g.scale = a.g.scale /\ a.g.off = a.g.off /\ a.g.ms.length = D4 a /\ (∀ (i : Nat), i < a.g.ms.length -> (gD a.g.ms i).pl =
 AXZ a i /\ (gD a.g.ms i).ht = BCP a i) /\ a.g.ns.length = Nk a /\ (∀ (i : Nat), i < a.g.ns.length -> (gD a.g.ns i).mi = AVZ a i /\ (gD a.g.ns i).t.lo = BHM a i /\ (gD a.g.ns i).t.hi = BBR a i /\
 (gD a.g.ns i).s.lo = BCI a i /\ (gD a.g.ns i).s.hi = AXU a i) /\ (BPH /\ (↑a.l.length : Int) = (↑(Xi a) : Int)) /\ Xi a < (1073741824 : Nat) /\ ∀ (i : Nat), BAV i a -> (0 : Int) <= K2 a i /\
 K2 a i < (↑(Nk a) : Int)) /\ a.l.length = Xi a /\ (∀ (i : Nat), i < a.l.length -> gD (stM (IC a.g) a.l) i = gD (stM (IC (Cht.mk a.g.p a.g.base a.g.scale a.g.off (sY a) (zH a))) (ANW a))
 i) /\ BQJ a else False) := by kernel_rfl
def dGLt : List AVal -> Heap -> Option (GL × List (Nat × Nat) × List Nat)
 | [.own id _ _ n, .fn (.func f) [] [.bptr c _]], H => if f = PH then match H id, TJ H c with
  | .live (.row _ m r), some q => some (⟨q, AE n λ i => CK (r i), 0, 0⟩, [(100, id), (101, c)], [])
  | _, _ => none else none
 | _, _ => none
def C_sort : Ctr := { ro := [101], α := GL, xs := λ a => [.own 100 1 0 a.l.length, fnW1], L := λ a => [(100, rowI a.l), (101, bxG a.g)], val := λ _ => .d (.tup []), keep := λ a => glK a (stM (IC a.g) a.l), pre := λ a => [a.l.length <= 12 /\ glOk a] }
def CKR : Ann := { ann 14 [(BQY, BJO), (BKI, C_pdq.spec dGLp)] with E := [100, 101] }
def CKN (a : GL) : Prop := AZ Try.prog CKR F5 (AL F5) (C_sort.xs a) (AG (C_sort.L a)) (C_sort.val a) (C_sort.keep a) [] []
theorem COU (a : GL) : (CKN a) = ((((0 : Int) <= IntKind.u64.wrap (↑a.l.length : Int) /\ IntKind.u64.wrap (↑a.l.length : Int) <= (20 : Int)) /\ (0 : Nat) = (0 : Nat) /\ (AE a.l.length λ (i : Nat) => gD a.l i).length
 = a.l.length /\ (0 : Int) = Int.ofNat (0 : Nat) /\ (↑a.l.length : Int) = (↑a.l.length : Int) /\ (AE a.l.length λ (i : Nat) => gD a.l i).length = a.l.length /\ (∀ (i : Nat), i < (AE a.l.length λ (i : Nat) => gD a.l
 i).length -> gD (AE a.l.length λ (i : Nat) => gD a.l i) i = gD a.l i) /\ a.g.p.lo = a.g.p.lo /\ a.g.p.hi = a.g.p.hi /\ a.g.base = a.g.base /\ a.g.scale = a.g.scale /\ a.g.off = a.g.off /\ (AE a.g.ms.length λ (i : Nat) =>
 gD a.g.ms i).length = a.g.ms.length /\ (∀ (i : Nat), i < (AE a.g.ms.length λ (i : Nat) => gD a.g.ms i).length -> (gD (AE a.g.ms.length λ (i : Nat) => gD a.g.ms i) i).pl = (gD a.g.ms i).pl /\ (gD (AE a.g.ms.length fun
 (i : Nat) => gD a.g.ms i) i).ht = (gD a.g.ms i).ht) /\ (AE a.g.ns.length λ (i : Nat) => gD a.g.ns i).length = a.g.ns.length /\ (∀ (i : Nat), i < (AE a.g.ns.length λ (i : Nat) => gD a.g.ns i).length -> (gD (AE
 a.g.ns.length λ (i : Nat) => gD a.g.ns i) i).mi = (gD a.g.ns i).mi /\ (gD (AE a.g.ns.length λ (i : Nat) => gD a.g.ns i) i).t.lo = (gD a.g.ns i).t.lo /\ (gD (AE a.g.ns.length λ (i : Nat) => gD a.g.ns i) i).t.hi =
 (gD a.g.ns i).t.hi /\ (gD (AE a.g.ns.length λ (i : Nat) => gD a.g.ns i) i).s.lo = (gD a.g.ns i).s.lo /\ (gD (AE a.g.ns.length λ (i : Nat) => gD a.g.ns i) i).s.hi = (gD a.g.ns i).s.hi) /\ a.g.p.lo = a.g.p.lo /\ a.g.p.hi
 = a.g.p.hi /\ a.g.base = a.g.base /\ a.g.scale = a.g.scale /\ a.g.off = a.g.off /\ a.g.ms.length = (AE a.g.ms.length λ (i : Nat) => gD a.g.ms i).length /\ (∀ (i : Nat), i < a.g.ms.length -> (gD a.g.ms i).pl = (gD (AE
 a.g.ms.length λ (i : Nat) => gD a.g.ms i) i).pl /\ (gD a.g.ms i).ht = (gD (AE a.g.ms.length λ (i : Nat) => gD a.g.ms i) i).ht) /\ a.g.ns.length = (AE a.g.ns.length λ (i : Nat) => gD a.g.ns i).length /\ (∀ (i : Nat),
 i < a.g.ns.length -> (gD a.g.ns i).mi = (gD (AE a.g.ns.length λ (i : Nat) => gD a.g.ns i) i).mi /\ (gD a.g.ns i).t.lo = (gD (AE a.g.ns.length λ (i : Nat) => gD a.g.ns i) i).t.lo /\ (gD a.g.ns i).t.hi = (gD (AE
 a.g.ns.length λ (i : Nat) => gD a.g.ns i) i).t.hi /\ (gD a.g.ns i).s.lo = (gD (AE a.g.ns.length λ (i : Nat) => gD a.g.ns i) i).s.lo /\ (gD a.g.ns i).s.hi = (gD (AE a.g.ns.length λ (i : Nat) => gD a.g.ns i) i).s.hi)
 /\ (((0 : Int) = Int.ofNat (0 : Nat) /\ (↑a.l.length : Int) = (↑(AE a.l.length λ (i : Nat) => gD a.l i).length : Int)) /\ (AE a.l.length λ (i : Nat) => gD a.l i).length <= (12 : Nat)) /\ (AE a.l.length λ (i : Nat) =>
 gD a.l i).length < (1073741824 : Nat) /\ ∀ (i : Nat), i < (AE a.l.length λ (i : Nat) => gD a.l i).length -> (0 : Int) <= gD (AE a.l.length λ (i : Nat) => gD a.l i) i /\ gD (AE a.l.length λ (i : Nat) => gD a.l i) i <
 (↑(AE a.g.ns.length λ (i : Nat) => gD a.g.ns i).length : Int)) /\ a.l.length = (AE a.l.length λ (i : Nat) => gD a.l i).length /\ (∀ (i : Nat), i < a.l.length -> gD (stM (IC a.g) a.l) i = gD (stM (IC (Cht.mk a.g.p
 a.g.base a.g.scale a.g.off (AE a.g.ms.length λ (i : Nat) => gD a.g.ms i) (AE a.g.ns.length λ (i : Nat) => gD a.g.ns i))) (AE a.l.length λ (i : Nat) => gD a.l i)) i) /\ a.g.p.lo = a.g.p.lo /\ a.g.p.hi = a.g.p.hi /\
 a.g.base = a.g.base /\ a.g.scale = a.g.scale /\ a.g.off = a.g.off /\ a.g.ms.length = a.g.ms.length /\ (∀ (i : Nat), i < a.g.ms.length -> (gD a.g.ms i).pl = (gD a.g.ms i).pl /\ (gD a.g.ms i).ht = (gD a.g.ms i).ht) /\
 a.g.ns.length = a.g.ns.length /\ ∀ (i : Nat), i < a.g.ns.length -> (gD a.g.ns i).mi = (gD a.g.ns i).mi /\ (gD a.g.ns i).t.lo = (gD a.g.ns i).t.lo /\ (gD a.g.ns i).t.hi = (gD a.g.ns i).t.hi /\ (gD a.g.ns i).s.lo = (gD a.g.ns
 i).s.lo /\ (gD a.g.ns i).s.hi = (gD a.g.ns i).s.hi) := by kernel_rfl
theorem CXB : AM Try.prog PH (C_fw1.spec dGAB) := LF C_fw1 (λ _ => CUR) [] [] COO (λ _ => by kernel_rfl) (λ _ => AC CRL AJ) (λ (a : GAB) h => by
 show CSA a; rw [CWL]; simp only [CC, eq_self, implies_true, forall_const]
 exact ⟨h, rfl⟩) (λ _ => NP rfl rfl) _
theorem CCP {l : List Int} {j i : Nat} {x : Int} (hj : j < l.length) : gD (l.set j x) i = bif decide (i = j) then x else gD l i := by
 unfold gD
 rw [List.getD_eq_getElem?_getD, List.getD_eq_getElem?_getD, List.getElem?_set]
 by_cases h : i = j
 ·subst h; simp [hj]
 ·simp [h, Ne.symm h]
theorem CKP {l : List Int} {j i : Nat} (hj : j + 1 < l.length) : gD (swL l j) i = bif decide (i = j) then gD l (j + 1) else bif decide (i = j + 1) then gD l j else gD l i := by
 unfold swL
 rw [CCP (by simpa using hj), CCP (by omega)]
 by_cases h : i = j
 ·subst h; simp
 ·simp [h]
theorem BLF (l : List Int) (j : Nat) : (swL l j).length = l.length := by simp [swL]
theorem CZV (a : GL) (h : glOk a) : CRO a := by
 rw [CXH]; delta C5 NT wE yR AOU ANS dB yH AMT BVW tL BAQ YZ uJ Tf Va M2 Tk AVY TD SZ xL C1 AUK AXG BDJ J6 YJ tG BFS ARO AYD AYW AYM BHN BBN AWJ BHU; simp only [CC, eq_self, implies_true, forall_const]
 obtain ⟨hlen, hin⟩ := h
 refine ⟨⟨⟨1, a.l⟩, ⟨by show (1 : Int) = _; rw [FH (by omega) (by omega)]; rfl, λ _ _ => rfl⟩, Nat.one_pos, .inr rfl, ⟨rfl, hin⟩, rfl⟩, λ x ⟨x1, x2, ⟨x3, x4⟩, x5⟩ => ⟨λ hlt => ⟨⟨⟨x.i, x.i, x.l⟩, ⟨rfl, rfl, λ _ _ => rfl⟩, rfl, x1, Int.ofNat_lt.1 hlt, Nat.le_refl _, ⟨x3, x4⟩, ?_⟩, λ y ⟨y1, y2, y3, y4, ⟨y5, y6⟩, y7⟩ => ?_⟩, λ hge => ?_⟩⟩
 ·rw [x5, show a.l.length - x.i = (a.l.length - (x.i + 1)) + 1 by omega]; rfl
 ·refine ⟨⟨λ _ => ⟨by omega, by omega⟩, λ _ => by omega, λ hj => ?_, λ hj => ?_, λ hj => ⟨y6 _ (by omega), ?_⟩⟩, λ hc => ?_, λ hc => ?_⟩
  ·rw [FH (by omega) (by omega)]; omega
  ·rw [FH (by omega) (by omega)]; omega
  ·rw [FH (by omega) (by omega)]; exact y6 _ (by omega)
  ·have hj : 0 < y.j := by
    cases hd : decide ((y.j : Int) > 0) with
    | false => rw [hd] at hc; cases hc
    | true => have := of_decide_eq_true hd; omega
   obtain ⟨j, hj2⟩ : ∃ j, y.j = j + 1 := ⟨y.j - 1, by omega⟩
   have e : IntKind.i64.wrap ((y.j : Int) - 1) = (j : Nat) := by rw [FH (by omega) (by omega)]; omega
   rw [decide_eq_true (show (y.j : Int) > 0 by omega)] at hc
   have hc : decide (M3 (IC a.g (gD y.l y.j)) (IC a.g (gD y.l (IntKind.i64.wrap ((y.j : Int) - 1)).toNat)) < 0) = true := hc
   rw [e] at hc ⊢
   simp only [Int.toNat_natCast] at hc ⊢
   refine ⟨⟨⟨by omega, by omega⟩, by omega, ⟨by omega, by omega⟩, by omega, ⟨by omega, by omega⟩, by omega, ⟨by omega, by omega⟩, by omega⟩, ⟨y.i, j, swL y.l j⟩, ⟨rfl, rfl, λ i hi => ?_⟩, ⟨y1, y2, y3, by show j <= y.i; omega, ⟨by rw [BLF]; exact y5, λ i hi => ?_⟩, ?_⟩, by show j < _; omega⟩
   ·show gD (swL y.l j) i = _
    rw [CKP (by omega), hj2]
   ·show 0 <= gD (swL y.l j) i /\ gD (swL y.l j) i < _
    rw [CKP (by omega)]
    cases decide (i = j)
    ·cases decide (i = j + 1)
     ·exact y6 i hi
     ·exact y6 j (by omega)
    ·exact y6 (j + 1) (by omega)
   ·rw [hj2] at hc y7
    unfold insJ at y7
    rw [hc] at y7; exact y7
  ·have hq : insJ (IC a.g) y.j y.l = y.l := by
    cases hd : decide ((y.j : Int) > 0) with
    | false =>
     have := of_decide_eq_false hd
     rw [show y.j = 0 by omega]; rfl
    | true =>
     have hj := of_decide_eq_true hd
     obtain ⟨j, hj2⟩ : ∃ j, y.j = j + 1 := ⟨y.j - 1, by omega⟩
     have e : IntKind.i64.wrap ((y.j : Int) - 1) = (j : Nat) := by rw [FH (by omega) (by omega)]; omega
     rw [hd] at hc
     have hc : decide (M3 (IC a.g (gD y.l y.j)) (IC a.g (gD y.l (IntKind.i64.wrap ((y.j : Int) - 1)).toNat)) < 0) = false := hc
     rw [e, hj2] at hc
     simp only [Int.toNat_natCast] at hc
     rw [hj2]; unfold insJ; rw [hc]; rfl
   rw [hq] at y7
   refine ⟨⟨y.i + 1, y.l⟩, ⟨(GE (by omega)).symm, λ _ _ => rfl⟩, ⟨by show 0 < y.i + 1; omega, .inl (by show y.i + 1 <= _; omega), ⟨y5, y6⟩, y7⟩, by show a.l.length - (y.i + 1) < _; omega⟩
 ·intro i hi
  rw [x5, show a.l.length - x.i = 0 by omega]; rfl
theorem CVD : AM Try.prog AGH (C_ins.spec dGL) := okT C_ins (λ (a : GL) h => by
 obtain ⟨⟨ha, hb⟩, h⟩ : (a.a = 0 /\ a.b = a.l.length) /\ glOk a := h
 show FnT Try.prog AGH [.own 100 1 0 a.l.length, .int a.a, .int a.b, fnW1] _ _ _
 rw [ha, hb]
 exact UO (A := CSN a) (L := C_ins.L a) (keep := C_ins.keep a) (ren := []) (fz := []) CEW (by kernel_rfl) (AC CXB AJ) (CZV a h)) _
theorem CSP (xs : List AVal) (a : Int) (h : CMB xs = some a) : xs = BWO a := by
 unfold CMB at h; split at h <;> cases h; rfl
theorem CZS (n : Int) : 0 <= IntKind.u8.wrap n /\ IntKind.u8.wrap n < ((256 : Nat) : Int) := by
 have e : IntKind.u8.wrap n = n % 256 := by
  simp only [IntKind.wrap, IntKind.bits, IntKind.signed]
  simp
 rw [e]; exact ⟨Int.emod_nonneg _ (by omega), Int.emod_lt_of_pos _ (by omega)⟩
theorem CLT : AM Try.prog uH BJO := XN BWO CSP λ x h => UO (A := ann 25 []) (ren := []) (fz := []) CFY (by kernel_rfl) AJ (by
 have h : 0 <= x /\ x <= 20 := h
 show CFM x; rw [CLK]; delta aN U8 ADQ Cj Ye T9 AKJ Ag O0 AAP kI hU oI sU oU lP; simp only [CC, eq_self, implies_true, forall_const]
 exact ⟨λ h => by omega, λ _ => ⟨λ h => by omega, λ _ => ⟨λ h => by omega, λ _ => CZS _⟩⟩⟩)
theorem CNP : AM Try.prog BQY BJO := XN BWO CSP λ x h => UO (A := ann 8 [(uH, BJO)]) (ren := []) (fz := []) CRJ (by kernel_rfl) (AC CLT AJ) (by
 show CRX x; rw [CVR]; exact ⟨h, trivial⟩)
theorem CVA : AM Try.prog BKI (C_pdq.spec dGLp) := okT C_pdq (λ (a : GL) h => by
 obtain ⟨⟨⟨ha, hb⟩, hl⟩, h⟩ : ((a.a = 0 /\ a.b = a.l.length) /\ a.l.length <= 12) /\ glOk a := h
 show FnT Try.prog BKI [.own 100 1 0 a.l.length, .int a.a, .int a.b, .any, fnW1] _ _ _
 rw [ha, hb]
 refine UO (A := CUS a) (L := C_pdq.L a) (keep := C_pdq.keep a) (ren := []) (fz := []) CLB (by kernel_rfl) (AC CVD AJ) ?_
 show CSE a
 rw [CWS]; delta BTY BTA BKW ANA AOY BQJ ANW Xi BPX BPH BAV K2 sY D4 BAT AXZ BCP zH Nk B7 AVZ AXL BHM BBR AYI BCI AXU; simp only [CC, eq_self, implies_true, forall_const]
 have e : IntKind.i64.wrap ((a.l.length : Int) - 0) = a.l.length := by rw [FH (by omega) (by omega)]; omega
 rw [e]
 exact ⟨⟨default, trivial⟩, λ _ => ⟨rfl, rfl, h⟩, λ hc => by omega⟩) _
theorem CRF : AM Try.prog G8 (C_sort.spec dGLt) := LF C_sort (λ _ => CKR) [] [] BXP (λ _ => by kernel_rfl) (λ _ => AC CNP (AC CVA AJ)) (λ (a : GL) h => by
 obtain ⟨hl, h⟩ : a.l.length <= 12 /\ glOk a := h
 show CKN a; rw [COU]; simp only [CC, eq_self, implies_true, forall_const]
 have e : IntKind.u64.wrap (a.l.length : Int) = a.l.length := u64w (by omega) (by omega)
 rw [e]
 exact ⟨by omega, rfl, ⟨rfl, hl⟩, h⟩) (λ _ => NP rfl rfl) _
end Go.Bal
