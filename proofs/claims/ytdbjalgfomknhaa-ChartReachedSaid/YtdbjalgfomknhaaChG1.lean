/- Package chart: the order of notes, fewer than 13. Turned from RatR. -/
import Derived.Test.YtdbjalgfomknhaaChD3
set_option linter.unusedVariables false
set_option linter.unusedSimpArgs false
namespace Go.Bal
open Go Go.Sym Go.Proofs
def DHN (x : Int) : Prop := BA Try.prog (ann 6 []) CTB (AL CTB) (xI1 x) (AG []) (.bool false) [] [] []
theorem DKG (x : Int) : (DHN x) = (false = (x != x)) := by kernel_rfl
def CTC := pD dI1 λ _ => .bool false
theorem DJA : AN Try.prog CEY CTC := XL xI1 hI1 λ g _ => PJ (A := ann 6 []) (ren := []) (fz := []) DMB (by kernel_rfl) AI (by
 show DHN g; rw [DKG]; simp)
def Y7 (a b : Int) : Int := bif decide (a < b) then -1 else bif decide (a > b) then 1 else 0
def DGS (x : I2) : Prop := BA Try.prog (ann 20 [(CEY, CTC)]) CSV (AL CSV) (xI2 x) (AG []) (.int (Y7 x.a x.b)) [] [] []
theorem DKV (x : I2) : (DGS x) = (bif decide (x.a < x.b) then Y7 x.a x.b = -1 else bif decide (x.a > x.b) then Y7 x.a x.b = 1 else Y7 x.a x.b = 0) := by kernel_rfl
def DFL := pD dI2 λ x => .int (Y7 x.a x.b)
theorem DKY : AN Try.prog CSP DFL := XL xI2 hI2 λ g _ => PJ (A := ann 20 [(CEY, CTC)]) (ren := []) (fz := []) DKP (by kernel_rfl) (AD DJA AI) (by
 show DGS g; rw [DKV]; unfold Y7; by_cases h : g.a < g.b <;> by_cases h2 : g.b < g.a <;> simp [h, h2])
structure GAB where
 g : Cht
 a : Int
 b : Int
def KF (c : Cht) (x : Int) : Int := (gD c.ns x.toNat).mi
def bxG (c : Cht) : AObj := chB c
def dGAB : List AVal -> Heap -> Option (GAB × List (Nat × Nat) × List Nat)
 | [.d x, .d y, .bptr id _], H => match YR H id with
  | some q => some (⟨q, BV x, BV y⟩, [(100, id)], [])
  | none => none
 | _, _ => none
def C_fw1 : Ctr := { ro := [100], α := GAB, xs := λ a => [.int a.a, .int a.b, .bptr 100 0], L := λ a => [(100, bxG a.g)], val := λ a => .int (Y7 (KF a.g a.a) (KF a.g a.b)), keep := λ a => [(100, .live (bxG a.g))], pre := λ a => [(0 <= a.a /\ a.a < a.g.ns.length) /\ 0 <= a.b /\ a.b < a.g.ns.length] }
def DOO : Ann := { ann 19 [(CSP, DFL)] with E := [100] }
def DMZ (a : GAB) : Prop := BA Try.prog DOO CVF (AL CVF) (C_fw1.xs a) (AG (C_fw1.L a)) (C_fw1.val a) (C_fw1.keep a) [] []
theorem DPZ (a : GAB) : (DMZ a) = (((0 <= a.a /\ a.a < (↑a.g.ns.length : Int)) /\ 0 <= a.b /\ a.b < (↑a.g.ns.length : Int)) /\ Y7 (KF a.g a.a) (KF a.g a.b) = Y7 (gD a.g.ns a.a.toNat).mi (gD a.g.ns a.b.toNat).mi /\
 a.g.p.lo = a.g.p.lo /\ a.g.p.hi = a.g.p.hi /\ a.g.base = a.g.base /\ a.g.scale = a.g.scale /\ a.g.off = a.g.off /\ a.g.ms.length = a.g.ms.length /\ (∀ (i : Nat), i < a.g.ms.length -> (gD a.g.ms i).pl = (gD a.g.ms i).pl /\ (gD
 a.g.ms i).ht = (gD a.g.ms i).ht) /\ a.g.ns.length = a.g.ns.length /\ ∀ (i : Nat), i < a.g.ns.length -> (gD a.g.ns i).mi = (gD a.g.ns i).mi /\ (gD a.g.ns i).t.lo = (gD a.g.ns i).t.lo /\ (gD a.g.ns i).t.hi = (gD a.g.ns i).t.hi
 /\ (gD a.g.ns i).s.lo = (gD a.g.ns i).s.lo /\ (gD a.g.ns i).s.hi = (gD a.g.ns i).s.hi) := by kernel_rfl
def rowI (l : List Int) : AObj := .row 1 l.length λ i => EU (gD l i)
def DVF (n : Nat) (l : List Int) : AObj := .row 1 n λ i => EU (gD l i)
def swL (l : List Int) (j : Nat) : List Int := (l.set j (gD l (j + 1))).set (j + 1) (gD l j)
def insJ (key : Int -> Int) : Nat -> List Int -> List Int
 | 0, l => l
 | j + 1, l => bif decide (Y7 (key (gD l (j + 1))) (key (gD l j)) < 0) then insJ key j (swL l j) else l
def stR (key : Int -> Int) : Nat -> Nat -> List Int -> List Int
 | 0, _, l => l
 | n + 1, i, l => stR key n (i + 1) (insJ key i l)
def stM (key : Int -> Int) (l : List Int) : List Int := stR key (l.length - 1) 1 l
structure GL where
 g : Cht
 l : List Int
 a : Int
 b : Int
structure IL2 where
 i : Nat
 l : List Int
 deriving Inhabited
structure IJL where
 i : Nat
 j : Nat
 l : List Int
 deriving Inhabited
def fnW1 : AVal := .fn (.func RJ) [] [.bptr 101 0]
def glK (a : GL) (l : List Int) : List (Nat × HCell) := [(100, .live (DVF a.l.length l)), (101, .live (bxG a.g))]
def glIn (a : GL) (l : List Int) : Prop := l.length = a.l.length /\ ∀ i, i < a.l.length -> 0 <= gD l i /\ gD l i < a.g.ns.length
def glOk (a : GL) : Prop := a.l.length < 1073741824 /\ ∀ i, i < a.l.length -> 0 <= gD a.l i /\ gD a.l i < a.g.ns.length
def dGL : List AVal -> Heap -> Option (GL × List (Nat × Nat) × List Nat)
 | [.own id _ _ n, .d x, .d y, .fn (.func f) [] [.bptr c _]], H => if f = RJ then match H id, YR H c with
  | .live (.row _ m r), some q => some (⟨q, AF n λ i => BV (r i), BV x, BV y⟩, [(100, id), (101, c)], [])
  | _, _ => none else none
 | _, _ => none
def C_ins : Ctr := { ro := [101], α := GL, xs := λ a => [.own 100 1 0 a.l.length, .int a.a, .int a.b, fnW1], L := λ a => [(100, rowI a.l), (101, bxG a.g)], val := λ _ => .d (.tup []), keep := λ a => glK a (stM (KF a.g) a.l), pre := λ a => [(a.a = 0 /\ a.b = a.l.length) /\ glOk a] }
def ins1 (a : GL) : Shape := { α := IL2, dflt := default, T := λ x => ⟨[(0, .own 100 1 0 a.l.length), (1, .int 0), (2, .int a.l.length), (3, fnW1), (8, .int x.i)], glK a x.l⟩, inv := λ x => 1 <= x.i /\ (x.i <= a.l.length ∨ x.i = 1) /\ glIn a x.l /\ stM (KF a.g) a.l = stR (KF a.g) (a.l.length - x.i) x.i x.l, meas := λ x => a.l.length - x.i }
def ins4 (a : GL) (m : Nat) : Shape := { α := IJL, dflt := default, T := λ x => ⟨[(0, .own 100 1 0 a.l.length), (1, .int 0), (2, .int a.l.length), (3, fnW1), (8, .int x.i), (9, .int x.j)], glK a x.l⟩, inv := λ x => a.l.length - x.i = m /\ 1 <= x.i /\ x.i < a.l.length /\ x.j <= x.i /\ glIn a x.l /\ stM (KF a.g) a.l = stR (KF a.g) (a.l.length - (x.i + 1)) (x.i + 1) (insJ (KF a.g) x.j x.l), meas := λ x => x.j }
def DPG (a : GL) : Ann := { ann 53 [(RJ, C_fw1.spec dGAB)] with E := [100, 101], loops := λ id => if id = 1 then some [ins1 a] else none, inner := λ gs id => if id = 4 then some [ins4 a (gs.getD 0 0)] else none }
def DNS (a : GL) : Prop := BA Try.prog (DPG a) BRK (AL BRK) [.own 100 1 0 a.l.length, .int 0, .int a.l.length, fnW1] (AG (C_ins.L a)) (C_ins.val a) (C_ins.keep a) [] []
abbrev AGF : Prop := (0 : Nat) = (0 : Nat)
abbrev PL (a : GL) : Prop := a.l.length = a.l.length
abbrev ABW : Prop := Int.ofNat (0 : Nat) = Int.ofNat (0 : Nat)
abbrev AAI (a : GL) : Prop := (↑a.l.length : Int) = (↑a.l.length : Int)
abbrev BLF (a : GL) : Prop := a.g.p.lo = a.g.p.lo
abbrev BLY (a : GL) : Prop := a.g.p.hi = a.g.p.hi
abbrev gN (a : GL) : Prop := BLF a /\ BLY a /\ a.g.base = a.g.base /\ a.g.scale = a.g.scale /\ a.g.off = a.g.off /\ a.g.ms.length = a.g.ms.length /\ (∀ (i : Nat), i < a.g.ms.length -> (gD a.g.ms i).pl = (gD a.g.ms
 i).pl /\ (gD a.g.ms i).ht = (gD a.g.ms i).ht) /\ a.g.ns.length = a.g.ns.length /\ ∀ (i : Nat), i < a.g.ns.length -> (gD a.g.ns i).mi = (gD a.g.ns i).mi /\ (gD a.g.ns i).t.lo = (gD a.g.ns i).t.lo /\ (gD a.g.ns i).t.hi = (gD
 a.g.ns i).t.hi /\ (gD a.g.ns i).s.lo = (gD a.g.ns i).s.lo /\ (gD a.g.ns i).s.hi = (gD a.g.ns i).s.hi
abbrev AJV (a : GL) (a1 : IL2) : Nat := a.l.length - a1.i
abbrev BJO (a : IL2) (a1 : GL) : Prop := (1 : Nat) <= a.i /\ (a.i <= a1.l.length ∨ a.i = (1 : Nat)) /\ (a.l.length = a1.l.length /\ ∀ (i : Nat), i < a1.l.length -> (0 : Int) <= gD a.l i /\ gD a.l i < (↑a1.g.ns.length : Int))
 /\ stM (KF a1.g) a1.l = stR (KF a1.g) (AJV a1 a) a.i a.l
abbrev CPA (a : IJL) : Nat := a.i + (1 : Nat)
abbrev ABT (a : GL) (a1 : IJL) (a2 : IL2) : Prop := a.l.length - a1.i = AJV a a2 /\ (1 : Nat) <= a1.i /\ a1.i < a.l.length /\ a1.j <= a1.i /\ (a1.l.length = a.l.length /\ ∀ (i : Nat), i < a.l.length -> (0 : Int) <= gD
 a1.l i /\ gD a1.l i < (↑a.g.ns.length : Int)) /\ stM (KF a.g) a.l = stR (KF a.g) (a.l.length - CPA a1) (CPA a1) (insJ (KF a.g) a1.j a1.l)
abbrev BZT (a : IJL) : Bool := decide ((↑a.j : Int) > (0 : Int))
abbrev Hj (a : IJL) : Prop := BZT a = true
abbrev AFT (a : IJL) (a1 : GL) : Prop := (0 : Int) <= (↑a.j : Int) /\ (↑a.j : Int) < (↑a1.l.length : Int)
abbrev Vv (a : IJL) : Nat := (0 : Nat) + a.j
abbrev Up (a : IJL) : Int := IntKind.i64.wrap ((↑a.j : Int) - (1 : Int))
abbrev ACB (a : IJL) (a1 : GL) : Prop := (0 : Int) <= Up a /\ Up a < (↑a1.l.length : Int)
abbrev Yb (a : IJL) : Nat := (0 : Nat) + (Up a).toNat
abbrev BUK (a : IJL) (a1 : GL) : Prop := (Yb a).succ.le a1.l.length
abbrev WK (a : IJL) : Int := gD a.l (Vv a)
abbrev WU (a : IJL) : Int := gD a.l (Yb a)
abbrev AEX (a : GL) : List Mk := AF a.g.ms.length λ (i : Nat) => gD a.g.ms i
abbrev ACP (a : GL) : Nat := (AEX a).length
abbrev CBK (a : GL) (i : Nat) : Mk := gD (AEX a) i
abbrev BQC (a : GL) (i : Nat) : Int := (CBK a i).pl
abbrev BMW (a : GL) (i : Nat) : Int := (CBK a i).ht
abbrev ADS (a : GL) : List Nt := AF a.g.ns.length λ (i : Nat) => gD a.g.ns i
abbrev Hn (a : GL) : Nat := (ADS a).length
abbrev AGX (a : GL) (i : Nat) : Nt := gD (ADS a) i
abbrev CAA (a : GL) (i : Nat) : Int := (AGX a i).mi
abbrev BYY (a : GL) (i : Nat) : Span := (AGX a i).t
abbrev CBY (a : GL) (i : Nat) : Int := (BYY a i).lo
abbrev BXI (a : GL) (i : Nat) : Int := (BYY a i).hi
abbrev BTW (a : GL) (i : Nat) : Span := (AGX a i).s
abbrev BME (a : GL) (i : Nat) : Int := (BTW a i).lo
abbrev CCH (a : GL) (i : Nat) : Int := (BTW a i).hi
abbrev BPG (a : GL) : Cht := Cht.mk a.g.p a.g.base a.g.scale a.g.off (AEX a) (ADS a)
abbrev BMU (a : IJL) (a1 : GL) : Prop := Vv a < a1.l.length
theorem DRC (a : GL) : (DNS a) = ((∃ (a_1 : IL2), (AGF /\ PL a /\ ABW /\ AAI a /\ (↑a_1.i : Int) = IntKind.i64.wrap ((0 : Int) + (1 : Int)) /\ PL a /\ (∀ (i : Nat), i < a.l.length -> gD a_1.l i = gD
 a.l i) /\ gN a) /\ BJO a_1 a) /\ ∀ (a_1 : IL2), BJO a_1 a -> bif decide ((↑a_1.i : Int) < (↑a.l.length : Int)) then (∃ (a_3 : IJL), (AGF /\ PL a /\ ABW /\ AAI a /\ (↑a_3.i : Int) = (↑a_1.i : Int) /\
 (↑a_3.j : Int) = (↑a_1.i : Int) /\ PL a /\ (∀ (i : Nat), i < a.l.length -> gD a_3.l i = gD a_1.l i) /\ gN a) /\ ABT a a_3 a_1) /\ ∀ (a_3 : IJL), ABT a a_3 a_1 -> ((Hj a_3 -> AFT a_3 a) /\ (Hj
 a_3 -> (Vv a_3).succ.le a.l.length) /\ (Hj a_3 -> ACB a_3 a) /\ (Hj a_3 -> BUK a_3 a) /\ (Hj a_3 -> WK a_3 = WK a_3 /\ WU a_3 = WU a_3 /\ BLF a /\ BLY a /\ a.g.base
 = a.g.base /\ a.g.scale = a.g.scale /\ a.g.off = a.g.off /\ ACP a = a.g.ms.length /\ (∀ (i : Nat), i < ACP a -> BQC a i = (gD a.g.ms i).pl /\ BMW a i = (gD a.g.ms i).ht) /\ Hn a = a.g.ns.length /\ (∀ (i
 : Nat), i < Hn a -> CAA a i = (gD a.g.ns i).mi /\ CBY a i = (gD a.g.ns i).t.lo /\ BXI a i = (gD a.g.ns i).t.hi /\ BME a i = (gD a.g.ns i).s.lo /\ CCH a i = (gD a.g.ns i).s.hi) /\ BLF a /\
 BLY a /\ a.g.base = a.g.base /\ a.g.scale = a.g.scale /\ a.g.off = a.g.off /\ a.g.ms.length = ACP a /\ (∀ (i : Nat), i < a.g.ms.length -> (gD a.g.ms i).pl = BQC a i /\ (gD a.g.ms i).ht = BMW a i) /\
 a.g.ns.length = Hn a /\ (∀ (i : Nat), i < a.g.ns.length -> (gD a.g.ns i).mi = CAA a i /\ (gD a.g.ns i).t.lo = CBY a i /\ (gD a.g.ns i).t.hi = BXI a i /\ (gD a.g.ns i).s.lo = BME a i /\ (gD a.g.ns
 i).s.hi = CCH a i) /\ ((0 : Int) <= WK a_3 /\ WK a_3 < (↑(Hn a) : Int)) /\ (0 : Int) <= WU a_3 /\ WU a_3 < (↑(Hn a) : Int))) /\ bif bif BZT a_3 then decide (Y7 (KF (BPG a)
 (WK a_3)) (KF (BPG a) (WU a_3)) < (0 : Int)) else false then (ACB a_3 a /\ Yb a_3 < a.l.length /\ AFT a_3 a /\ BMU a_3 a /\ AFT a_3 a /\ BMU a_3 a /\ ACB a_3 a /\ BUK
 a_3 a) /\ ∃ (a_5 : IJL), (AGF /\ PL a /\ ABW /\ AAI a /\ (↑a_5.i : Int) = (↑a_3.i : Int) /\ (↑a_5.j : Int) = Up a_3 /\ PL a /\ (∀ (i : Nat), i < a.l.length -> gD a_5.l i = bif decide (i = Yb a_3)
 then WK a_3 else bif decide (i = Vv a_3) then WU a_3 else gD a_3.l i) /\ gN a) /\ ABT a a_5 a_1 /\ a_5.j < a_3.j else ∃ (a_5 : IL2), (AGF /\ PL a /\ ABW /\ AAI a /\ (↑a_5.i : Int) =
 IntKind.i64.wrap ((↑a_3.i : Int) + (1 : Int)) /\ PL a /\ (∀ (i : Nat), i < a.l.length -> gD a_5.l i = gD a_3.l i) /\ gN a) /\ BJO a_5 a /\ AJV a a_5 < AJV a a_1 else PL a /\ (∀ (i : Nat), i <
 a.l.length -> gD (stM (KF a.g) a.l) i = gD a_1.l i) /\ gN a) := by kernel_rfl
def DHR : List AVal -> Option Int
 | [.d (.v (.int .u64 a))] => some a
 | _ => none
def CQF (a : Int) : List AVal := [.d (.v (.int .u64 a))]
def CXO (x : Int) : Prop := BA Try.prog (ann 25 []) BWX (AL BWX) (CQF x) (AG []) .any [] [] []
abbrev hU (x : Int) : Int := x / (2 : Int) ^ Int.toNat (32 : Int)
abbrev ARU : Prop := (0 : Int) <= (16 : Int) /\ (16 : Int) <= (↑(64 : Nat) : Int)
abbrev BFA : Int := (2 : Int) ^ Int.toNat (16 : Int)
abbrev Gs : Prop := (0 : Int) <= (8 : Int) /\ (8 : Int) <= (↑(64 : Nat) : Int)
abbrev nC (x : Int) : Int := x / (2 : Int) ^ (32 : Nat)
abbrev AZU : Int := (2 : Int) ^ (16 : Nat)
abbrev BAB (x : Int) : Int := nC x / AZU
abbrev Fy : Int := (2 : Int) ^ (8 : Nat)
abbrev BEV (x : Int) : Int := IntKind.u8.wrap (BAB x / Fy)
abbrev BBE (x : Int) : Int := IntKind.u8.wrap (BAB x)
abbrev yX (x : Int) : Int := IntKind.u8.wrap (nC x / Fy)
abbrev uT (x : Int) : Int := IntKind.u8.wrap (nC x)
abbrev P6 (x : Int) : Int := x / AZU
abbrev wP (x : Int) : Int := IntKind.u8.wrap (P6 x / Fy)
abbrev zQ (x : Int) : Int := IntKind.u8.wrap (P6 x)
abbrev S9 (x : Int) : Int := IntKind.u8.wrap (x / Fy)
theorem DII (x : Int) : (CXO x) = (bif decide (x >= (4294967296 : Int)) then ((0 : Int) <= (32 : Int) /\ (32 : Int) <= (↑(64 : Nat) : Int)) /\ bif decide (hU x >= (65536 : Int)) then ARU /\ bif decide
 (hU x / BFA >= (256 : Int)) then Gs /\ ((0 : Int) <= BEV x /\ BEV x < (↑(256 : Nat) : Int)) /\ True else ((0 : Int) <= BBE x /\ BBE x < (↑(256 : Nat) : Int)) /\ True else bif decide
 (hU x >= (256 : Int)) then Gs /\ ((0 : Int) <= yX x /\ yX x < (↑(256 : Nat) : Int)) /\ True else ((0 : Int) <= uT x /\ uT x < (↑(256 : Nat) : Int)) /\ True else bif decide (x >=
 (65536 : Int)) then ARU /\ bif decide (x / BFA >= (256 : Int)) then Gs /\ ((0 : Int) <= wP x /\ wP x < (↑(256 : Nat) : Int)) /\ True else ((0 : Int) <= zQ x /\ zQ x < (↑(256 :
 Nat) : Int)) /\ True else bif decide (x >= (256 : Int)) then Gs /\ ((0 : Int) <= S9 x /\ S9 x < (↑(256 : Nat) : Int)) /\ True else ((0 : Int) <= IntKind.u8.wrap x /\ IntKind.u8.wrap x < (↑(256 : Nat) :
 Int)) /\ True) := by kernel_rfl
def CEF := pD DHR (λ _ => .any) (λ x => [0 <= x /\ x <= 20])
def DON (x : Int) : Prop := BA Try.prog (ann 8 [(Z9, CEF)]) CTO (AL CTO) (CQF x) (AG []) .any [] [] []
theorem DPS (x : Int) : (DON x) = ((0 <= x /\ x <= 20) /\ True) := by kernel_rfl
def dGLp : List AVal -> Heap -> Option (GL × List (Nat × Nat) × List Nat)
 | [.own id _ _ n, .d x, .d y, _, .fn (.func f) [] [.bptr c _]], H => if f = RJ then match H id, YR H c with
  | .live (.row _ m r), some q => some (⟨q, AF n λ i => BV (r i), BV x, BV y⟩, [(100, id), (101, c)], [])
  | _, _ => none else none
 | _, _ => none
def C_pdq : Ctr := { ro := [101], α := GL, xs := λ a => [.own 100 1 0 a.l.length, .int a.a, .int a.b, .any, fnW1], L := λ a => [(100, rowI a.l), (101, bxG a.g)], val := λ _ => .d (.tup []), keep := λ a => glK a (stM (KF a.g) a.l), pre := λ a => [((a.a = 0 /\ a.b = a.l.length) /\ a.l.length <= 12) /\ glOk a] }
def pq2 (a : GL) : Shape := { α := One, dflt := default, T := λ _ => ⟨[(0, .own 100 1 0 a.l.length), (1, .int 0), (2, .int a.l.length), (3, .any), (4, fnW1), (10, .bool true), (11, .bool true)], glK a a.l⟩, inv := λ _ => True, meas := λ _ => 0 }
def DMD (a : GL) : Ann := { ann 148 [(BBV, C_ins.spec dGL)] with E := [100, 101], loops := λ id => if id = 2 then some [pq2 a] else none }
def DPD (a : GL) : Prop := BA Try.prog (DMD a) CRV (AL CRV) [.own 100 1 0 a.l.length, .int 0, .int a.l.length, .any, fnW1] (AG (C_pdq.L a)) (C_pdq.val a) (C_pdq.keep a) [] []
abbrev CFA : Prop := (0 : Nat) = (0 : Nat)
abbrev CHZ (a : GL) : Prop := a.l.length = a.l.length
abbrev CLC (a : GL) : Prop := (↑a.l.length : Int) = (↑a.l.length : Int)
abbrev BLR (a : GL) : Prop := a.g.p.lo = a.g.p.lo
abbrev BLM (a : GL) : Prop := a.g.p.hi = a.g.p.hi
abbrev CHO (a : GL) : Prop := BLR a /\ BLM a /\ a.g.base = a.g.base /\ a.g.scale = a.g.scale /\ a.g.off = a.g.off /\ a.g.ms.length = a.g.ms.length /\ (∀ (i : Nat), i < a.g.ms.length -> (gD a.g.ms i).pl = (gD a.g.ms
 i).pl /\ (gD a.g.ms i).ht = (gD a.g.ms i).ht) /\ a.g.ns.length = a.g.ns.length /\ ∀ (i : Nat), i < a.g.ns.length -> (gD a.g.ns i).mi = (gD a.g.ns i).mi /\ (gD a.g.ns i).t.lo = (gD a.g.ns i).t.lo /\ (gD a.g.ns i).t.hi = (gD
 a.g.ns i).t.hi /\ (gD a.g.ns i).s.lo = (gD a.g.ns i).s.lo /\ (gD a.g.ns i).s.hi = (gD a.g.ns i).s.hi
abbrev BIV (a : GL) : List Int := AF a.l.length λ (i : Nat) => gD a.l i
abbrev fS (a : GL) : Nat := (BIV a).length
abbrev CMP (a : GL) : Prop := fS a = a.l.length
abbrev CFB : Prop := (0 : Int) = Int.ofNat (0 : Nat)
abbrev BVH (i : Nat) (a : GL) : Prop := i < fS a
abbrev ABJ (a : GL) (i : Nat) : Int := gD (BIV a) i
abbrev AGQ (a : GL) : List Mk := AF a.g.ms.length λ (i : Nat) => gD a.g.ms i
abbrev AIK (a : GL) : Nat := (AGQ a).length
abbrev BRB (a : GL) (i : Nat) : Mk := gD (AGQ a) i
abbrev BOC (a : GL) (i : Nat) : Int := (BRB a i).pl
abbrev BOF (a : GL) (i : Nat) : Int := (BRB a i).ht
abbrev AAS (a : GL) : List Nt := AF a.g.ns.length λ (i : Nat) => gD a.g.ns i
abbrev Rt (a : GL) : Nat := (AAS a).length
abbrev AAL (a : GL) (i : Nat) : Nt := gD (AAS a) i
abbrev BXA (a : GL) (i : Nat) : Int := (AAL a i).mi
abbrev CCV (a : GL) (i : Nat) : Span := (AAL a i).t
abbrev BRC (a : GL) (i : Nat) : Int := (CCV a i).lo
abbrev BQN (a : GL) (i : Nat) : Int := (CCV a i).hi
abbrev CCI (a : GL) (i : Nat) : Span := (AAL a i).s
abbrev CCJ (a : GL) (i : Nat) : Int := (CCI a i).lo
abbrev BVZ (a : GL) (i : Nat) : Int := (CCI a i).hi
theorem DPM (a : GL) : (DPD a) = ((∃ (a_1 : One), (CFA /\ CHZ a /\ Int.ofNat (0 : Nat) = Int.ofNat (0 : Nat) /\ CLC a /\ true = true /\ true = true /\ CHZ a /\ (∀ (i : Nat), i < a.l.length -> gD a.l i = gD
 a.l i) /\ CHO a) /\ True) /\ ∀ (a_1 : One), True -> bif decide (IntKind.i64.wrap ((↑a.l.length : Int) - (0 : Int)) <= (12 : Int)) then (CFA /\ CMP a /\ CFB /\ CLC a /\ CMP a /\ (∀ (i : Nat), BVH i a ->
 ABJ a i = gD a.l i) /\ BLR a /\ BLM a /\ a.g.base = a.g.base /\ a.g.scale = a.g.scale /\ a.g.off = a.g.off /\ AIK a = a.g.ms.length /\ (∀ (i : Nat), i < AIK a -> BOC a i = (gD a.g.ms i).pl /\ BOF
 a i = (gD a.g.ms i).ht) /\ Rt a = a.g.ns.length /\ (∀ (i : Nat), i < Rt a -> BXA a i = (gD a.g.ns i).mi /\ BRC a i = (gD a.g.ns i).t.lo /\ BQN a i = (gD a.g.ns i).t.hi /\ CCJ a i = (gD a.g.ns
 i).s.lo /\ BVZ a i = (gD a.g.ns i).s.hi) /\ BLR a /\ BLM a /\ a.g.base = a.g.base /\ a.g.scale = a.g.scale /\ a.g.off = a.g.off /\ a.g.ms.length = AIK a /\ (∀ (i : Nat), i < a.g.ms.length -> (gD a.g.ms i).pl =
 BOC a i /\ (gD a.g.ms i).ht = BOF a i) /\ a.g.ns.length = Rt a /\ (∀ (i : Nat), i < a.g.ns.length -> (gD a.g.ns i).mi = BXA a i /\ (gD a.g.ns i).t.lo = BRC a i /\ (gD a.g.ns i).t.hi = BQN a i /\
 (gD a.g.ns i).s.lo = CCJ a i /\ (gD a.g.ns i).s.hi = BVZ a i) /\ (CFB /\ (↑a.l.length : Int) = (↑(fS a) : Int)) /\ fS a < (1073741824 : Nat) /\ ∀ (i : Nat), BVH i a -> (0 : Int) <= ABJ a i /\
 ABJ a i < (↑(Rt a) : Int)) /\ a.l.length = fS a /\ (∀ (i : Nat), i < a.l.length -> gD (stM (KF a.g) a.l) i = gD (stM (KF (Cht.mk a.g.p a.g.base a.g.scale a.g.off (AGQ a) (AAS a))) (BIV a))
 i) /\ CHO a else False) := by kernel_rfl
def dGLt : List AVal -> Heap -> Option (GL × List (Nat × Nat) × List Nat)
 | [.own id _ _ n, .fn (.func f) [] [.bptr c _]], H => if f = RJ then match H id, YR H c with
  | .live (.row _ m r), some q => some (⟨q, AF n λ i => BV (r i), 0, 0⟩, [(100, id), (101, c)], [])
  | _, _ => none else none
 | _, _ => none
def C_sort : Ctr := { ro := [101], α := GL, xs := λ a => [.own 100 1 0 a.l.length, fnW1], L := λ a => [(100, rowI a.l), (101, bxG a.g)], val := λ _ => .d (.tup []), keep := λ a => glK a (stM (KF a.g) a.l), pre := λ a => [a.l.length <= 12 /\ glOk a] }
def DCF : Ann := { ann 14 [(CGA, CEF), (CEN, C_pdq.spec dGLp)] with E := [100, 101] }
def DBJ (a : GL) : Prop := BA Try.prog DCF AJK (AL AJK) (C_sort.xs a) (AG (C_sort.L a)) (C_sort.val a) (C_sort.keep a) [] []
theorem DKR (a : GL) : (DBJ a) = ((((0 : Int) <= IntKind.u64.wrap (↑a.l.length : Int) /\ IntKind.u64.wrap (↑a.l.length : Int) <= (20 : Int)) /\ (0 : Nat) = (0 : Nat) /\ (AF a.l.length λ (i : Nat) => gD a.l i).length
 = a.l.length /\ (0 : Int) = Int.ofNat (0 : Nat) /\ (↑a.l.length : Int) = (↑a.l.length : Int) /\ (AF a.l.length λ (i : Nat) => gD a.l i).length = a.l.length /\ (∀ (i : Nat), i < (AF a.l.length λ (i : Nat) => gD a.l
 i).length -> gD (AF a.l.length λ (i : Nat) => gD a.l i) i = gD a.l i) /\ a.g.p.lo = a.g.p.lo /\ a.g.p.hi = a.g.p.hi /\ a.g.base = a.g.base /\ a.g.scale = a.g.scale /\ a.g.off = a.g.off /\ (AF a.g.ms.length λ (i : Nat) =>
 gD a.g.ms i).length = a.g.ms.length /\ (∀ (i : Nat), i < (AF a.g.ms.length λ (i : Nat) => gD a.g.ms i).length -> (gD (AF a.g.ms.length λ (i : Nat) => gD a.g.ms i) i).pl = (gD a.g.ms i).pl /\ (gD (AF a.g.ms.length fun
 (i : Nat) => gD a.g.ms i) i).ht = (gD a.g.ms i).ht) /\ (AF a.g.ns.length λ (i : Nat) => gD a.g.ns i).length = a.g.ns.length /\ (∀ (i : Nat), i < (AF a.g.ns.length λ (i : Nat) => gD a.g.ns i).length -> (gD (AF
 a.g.ns.length λ (i : Nat) => gD a.g.ns i) i).mi = (gD a.g.ns i).mi /\ (gD (AF a.g.ns.length λ (i : Nat) => gD a.g.ns i) i).t.lo = (gD a.g.ns i).t.lo /\ (gD (AF a.g.ns.length λ (i : Nat) => gD a.g.ns i) i).t.hi =
 (gD a.g.ns i).t.hi /\ (gD (AF a.g.ns.length λ (i : Nat) => gD a.g.ns i) i).s.lo = (gD a.g.ns i).s.lo /\ (gD (AF a.g.ns.length λ (i : Nat) => gD a.g.ns i) i).s.hi = (gD a.g.ns i).s.hi) /\ a.g.p.lo = a.g.p.lo /\ a.g.p.hi
 = a.g.p.hi /\ a.g.base = a.g.base /\ a.g.scale = a.g.scale /\ a.g.off = a.g.off /\ a.g.ms.length = (AF a.g.ms.length λ (i : Nat) => gD a.g.ms i).length /\ (∀ (i : Nat), i < a.g.ms.length -> (gD a.g.ms i).pl = (gD (AF
 a.g.ms.length λ (i : Nat) => gD a.g.ms i) i).pl /\ (gD a.g.ms i).ht = (gD (AF a.g.ms.length λ (i : Nat) => gD a.g.ms i) i).ht) /\ a.g.ns.length = (AF a.g.ns.length λ (i : Nat) => gD a.g.ns i).length /\ (∀ (i : Nat),
 i < a.g.ns.length -> (gD a.g.ns i).mi = (gD (AF a.g.ns.length λ (i : Nat) => gD a.g.ns i) i).mi /\ (gD a.g.ns i).t.lo = (gD (AF a.g.ns.length λ (i : Nat) => gD a.g.ns i) i).t.lo /\ (gD a.g.ns i).t.hi = (gD (AF
 a.g.ns.length λ (i : Nat) => gD a.g.ns i) i).t.hi /\ (gD a.g.ns i).s.lo = (gD (AF a.g.ns.length λ (i : Nat) => gD a.g.ns i) i).s.lo /\ (gD a.g.ns i).s.hi = (gD (AF a.g.ns.length λ (i : Nat) => gD a.g.ns i) i).s.hi)
 /\ (((0 : Int) = Int.ofNat (0 : Nat) /\ (↑a.l.length : Int) = (↑(AF a.l.length λ (i : Nat) => gD a.l i).length : Int)) /\ (AF a.l.length λ (i : Nat) => gD a.l i).length <= (12 : Nat)) /\ (AF a.l.length λ (i : Nat) =>
 gD a.l i).length < (1073741824 : Nat) /\ ∀ (i : Nat), i < (AF a.l.length λ (i : Nat) => gD a.l i).length -> (0 : Int) <= gD (AF a.l.length λ (i : Nat) => gD a.l i) i /\ gD (AF a.l.length λ (i : Nat) => gD a.l i) i <
 (↑(AF a.g.ns.length λ (i : Nat) => gD a.g.ns i).length : Int)) /\ a.l.length = (AF a.l.length λ (i : Nat) => gD a.l i).length /\ (∀ (i : Nat), i < a.l.length -> gD (stM (KF a.g) a.l) i = gD (stM (KF (Cht.mk a.g.p
 a.g.base a.g.scale a.g.off (AF a.g.ms.length λ (i : Nat) => gD a.g.ms i) (AF a.g.ns.length λ (i : Nat) => gD a.g.ns i))) (AF a.l.length λ (i : Nat) => gD a.l i)) i) /\ a.g.p.lo = a.g.p.lo /\ a.g.p.hi = a.g.p.hi /\
 a.g.base = a.g.base /\ a.g.scale = a.g.scale /\ a.g.off = a.g.off /\ a.g.ms.length = a.g.ms.length /\ (∀ (i : Nat), i < a.g.ms.length -> (gD a.g.ms i).pl = (gD a.g.ms i).pl /\ (gD a.g.ms i).ht = (gD a.g.ms i).ht) /\
 a.g.ns.length = a.g.ns.length /\ ∀ (i : Nat), i < a.g.ns.length -> (gD a.g.ns i).mi = (gD a.g.ns i).mi /\ (gD a.g.ns i).t.lo = (gD a.g.ns i).t.lo /\ (gD a.g.ns i).t.hi = (gD a.g.ns i).t.hi /\ (gD a.g.ns i).s.lo = (gD a.g.ns
 i).s.lo /\ (gD a.g.ns i).s.hi = (gD a.g.ns i).s.hi) := by kernel_rfl
theorem DPK : AN Try.prog RJ (C_fw1.spec dGAB) := MB C_fw1 (λ _ => DOO) [] [] DLD (λ _ => by kernel_rfl) (λ _ => AD DKY AI) (λ (a : GAB) h => by
 show DMZ a; rw [DPZ]; simp only [AU, eq_self, implies_true, and_self, true_and, and_true, true_implies, forall_const, decide_eq_true_eq, decide_eq_false_iff_not, Int.toNat_natCast, dSpan_eSpan, dInt_eInt, AY, AW, AX, Nat.zero_add, Int.zero_sub, Nat.le_eq, Nat.succ_eq_add_one, Nat.add_one_le_iff, Bool.not_eq_true', Bool.not_eq_false', rng_length, AK, AJ]
 exact ⟨h, rfl⟩) (λ _ => OS rfl rfl) _
theorem CXF {l : List Int} {j i : Nat} {x : Int} (hj : j < l.length) : gD (l.set j x) i = bif decide (i = j) then x else gD l i := by
 unfold gD
 rw [List.getD_eq_getElem?_getD, List.getD_eq_getElem?_getD, List.getElem?_set]
 by_cases h : i = j
 ·subst h; simp [hj]
 ·simp [h, Ne.symm h]
theorem DDP {l : List Int} {j i : Nat} (hj : j + 1 < l.length) : gD (swL l j) i = bif decide (i = j) then gD l (j + 1) else bif decide (i = j + 1) then gD l j else gD l i := by
 unfold swL
 rw [CXF (by simpa using hj), CXF (by omega)]
 by_cases h : i = j
 ·subst h; simp
 ·simp [h]
theorem CIQ (l : List Int) (j : Nat) : (swL l j).length = l.length := by simp [swL]
theorem DTH (a : GL) (h : glOk a) : DNS a := by
 rw [DRC]; delta AGF PL ABW AAI BLF BLY gN AJV BJO CPA ABT BZT Hj AFT Vv Up ACB Yb BUK WK WU AEX ACP CBK BQC BMW ADS Hn AGX CAA BYY CBY BXI BTW BME CCH BPG BMU; simp only [AU, eq_self, implies_true, and_self, true_and, and_true, true_implies, forall_const, decide_eq_true_eq, decide_eq_false_iff_not, Int.toNat_natCast, dSpan_eSpan, dInt_eInt, AY, AW, AX, Nat.zero_add, Int.zero_sub, Nat.le_eq, Nat.succ_eq_add_one, Nat.add_one_le_iff, Bool.not_eq_true', Bool.not_eq_false', rng_length, AK, AJ]
 obtain ⟨hlen, hin⟩ := h
 refine ⟨⟨⟨1, a.l⟩, ⟨by show (1 : Int) = _; rw [EN (by omega) (by omega)]; rfl, λ _ _ => rfl⟩, Nat.one_pos, .inr rfl, ⟨rfl, hin⟩, rfl⟩, λ x ⟨x1, x2, ⟨x3, x4⟩, x5⟩ => ⟨λ hlt => ⟨⟨⟨x.i, x.i, x.l⟩, ⟨rfl, rfl, λ _ _ => rfl⟩, rfl, x1, Int.ofNat_lt.1 hlt, Nat.le_refl _, ⟨x3, x4⟩, ?_⟩, λ y ⟨y1, y2, y3, y4, ⟨y5, y6⟩, y7⟩ => ?_⟩, λ hge => ?_⟩⟩
 ·rw [x5, show a.l.length - x.i = (a.l.length - (x.i + 1)) + 1 by omega]; rfl
 ·refine ⟨⟨λ _ => ⟨by omega, by omega⟩, λ _ => by omega, λ hj => ?_, λ hj => ?_, λ hj => ⟨y6 _ (by omega), ?_⟩⟩, λ hc => ?_, λ hc => ?_⟩
  ·rw [EN (by omega) (by omega)]; omega
  ·rw [EN (by omega) (by omega)]; omega
  ·rw [EN (by omega) (by omega)]; exact y6 _ (by omega)
  ·have hj : 0 < y.j := by
    cases hd : decide ((y.j : Int) > 0) with
    | false => rw [hd] at hc; cases hc
    | true => have := of_decide_eq_true hd; omega
   obtain ⟨j, hj2⟩ : ∃ j, y.j = j + 1 := ⟨y.j - 1, by omega⟩
   have e : IntKind.i64.wrap ((y.j : Int) - 1) = (j : Nat) := by rw [EN (by omega) (by omega)]; omega
   rw [decide_eq_true (show (y.j : Int) > 0 by omega)] at hc
   have hc : decide (Y7 (KF a.g (gD y.l y.j)) (KF a.g (gD y.l (IntKind.i64.wrap ((y.j : Int) - 1)).toNat)) < 0) = true := hc
   rw [e] at hc ⊢
   simp only [Int.toNat_natCast] at hc ⊢
   refine ⟨⟨⟨by omega, by omega⟩, by omega, ⟨by omega, by omega⟩, by omega, ⟨by omega, by omega⟩, by omega, ⟨by omega, by omega⟩, by omega⟩, ⟨y.i, j, swL y.l j⟩, ⟨rfl, rfl, λ i hi => ?_⟩, ⟨y1, y2, y3, by show j <= y.i; omega, ⟨by rw [CIQ]; exact y5, λ i hi => ?_⟩, ?_⟩, by show j < _; omega⟩
   ·show gD (swL y.l j) i = _
    rw [DDP (by omega), hj2]
   ·show 0 <= gD (swL y.l j) i /\ gD (swL y.l j) i < _
    rw [DDP (by omega)]
    cases decide (i = j)
    ·cases decide (i = j + 1)
     ·exact y6 i hi
     ·exact y6 j (by omega)
    ·exact y6 (j + 1) (by omega)
   ·rw [hj2] at hc y7
    unfold insJ at y7
    rw [hc] at y7; exact y7
  ·have hq : insJ (KF a.g) y.j y.l = y.l := by
    cases hd : decide ((y.j : Int) > 0) with
    | false =>
     have := of_decide_eq_false hd
     rw [show y.j = 0 by omega]; rfl
    | true =>
     have hj := of_decide_eq_true hd
     obtain ⟨j, hj2⟩ : ∃ j, y.j = j + 1 := ⟨y.j - 1, by omega⟩
     have e : IntKind.i64.wrap ((y.j : Int) - 1) = (j : Nat) := by rw [EN (by omega) (by omega)]; omega
     rw [hd] at hc
     have hc : decide (Y7 (KF a.g (gD y.l y.j)) (KF a.g (gD y.l (IntKind.i64.wrap ((y.j : Int) - 1)).toNat)) < 0) = false := hc
     rw [e, hj2] at hc
     simp only [Int.toNat_natCast] at hc
     rw [hj2]; unfold insJ; rw [hc]; rfl
   rw [hq] at y7
   refine ⟨⟨y.i + 1, y.l⟩, ⟨(FM (by omega)).symm, λ _ _ => rfl⟩, ⟨by show 0 < y.i + 1; omega, .inl (by show y.i + 1 <= _; omega), ⟨y5, y6⟩, y7⟩, by show a.l.length - (y.i + 1) < _; omega⟩
 ·intro i hi
  rw [x5, show a.l.length - x.i = 0 by omega]; rfl
theorem DSC : AN Try.prog BBV (C_ins.spec dGL) := okT C_ins (λ (a : GL) h => by
 obtain ⟨⟨ha, hb⟩, h⟩ : (a.a = 0 /\ a.b = a.l.length) /\ glOk a := h
 show FnT Try.prog BBV [.own 100 1 0 a.l.length, .int a.a, .int a.b, fnW1] _ _ _
 rw [ha, hb]
 exact PJ (A := DPG a) (L := C_ins.L a) (keep := C_ins.keep a) (ren := []) (fz := []) CXL (by kernel_rfl) (AD DPK AI) (DTH a h)) _
theorem DOE (xs : List AVal) (a : Int) (h : DHR xs = some a) : xs = CQF a := by
 unfold DHR at h; split at h <;> cases h; rfl
theorem DVG (n : Int) : 0 <= IntKind.u8.wrap n /\ IntKind.u8.wrap n < ((256 : Nat) : Int) := by
 have e : IntKind.u8.wrap n = n % 256 := by
  simp only [IntKind.wrap, IntKind.bits, IntKind.signed]
  simp
 rw [e]; exact ⟨Int.emod_nonneg _ (by omega), Int.emod_lt_of_pos _ (by omega)⟩
theorem DBK : AN Try.prog Z9 CEF := XL CQF DOE λ x h => PJ (A := ann 25 []) (ren := []) (fz := []) DAB (by kernel_rfl) AI (by
 have h : 0 <= x /\ x <= 20 := h
 show CXO x; rw [DII]; delta hU ARU BFA Gs nC AZU BAB Fy BEV BBE yX uT P6 wP zQ S9; simp only [AU, eq_self, implies_true, and_self, true_and, and_true, true_implies, forall_const, decide_eq_true_eq, decide_eq_false_iff_not, Int.toNat_natCast, dSpan_eSpan, dInt_eInt, AY, AW, AX, Nat.zero_add, Int.zero_sub, Nat.le_eq, Nat.succ_eq_add_one, Nat.add_one_le_iff, Bool.not_eq_true', Bool.not_eq_false', rng_length, AK, AJ]
 exact ⟨λ h => by omega, λ _ => ⟨λ h => by omega, λ _ => ⟨λ h => by omega, λ _ => DVG _⟩⟩⟩)
theorem DDZ : AN Try.prog CGA CEF := XL CQF DOE λ x h => PJ (A := ann 8 [(Z9, CEF)]) (ren := []) (fz := []) DIV (by kernel_rfl) (AD DBK AI) (by
 show DON x; rw [DPS]; exact ⟨h, trivial⟩)
theorem DQO : AN Try.prog CEN (C_pdq.spec dGLp) := okT C_pdq (λ (a : GL) h => by
 obtain ⟨⟨⟨ha, hb⟩, hl⟩, h⟩ : ((a.a = 0 /\ a.b = a.l.length) /\ a.l.length <= 12) /\ glOk a := h
 show FnT Try.prog CEN [.own 100 1 0 a.l.length, .int a.a, .int a.b, .any, fnW1] _ _ _
 rw [ha, hb]
 refine PJ (A := DMD a) (L := C_pdq.L a) (keep := C_pdq.keep a) (ren := []) (fz := []) DCK (by kernel_rfl) (AD DSC AI) ?_
 show DPD a
 rw [DPM]; delta CFA CHZ CLC BLR BLM CHO BIV fS CMP CFB BVH ABJ AGQ AIK BRB BOC BOF AAS Rt AAL BXA CCV BRC BQN CCI CCJ BVZ; simp only [AU, eq_self, implies_true, and_self, true_and, and_true, true_implies, forall_const, decide_eq_true_eq, decide_eq_false_iff_not, Int.toNat_natCast, dSpan_eSpan, dInt_eInt, AY, AW, AX, Nat.zero_add, Int.zero_sub, Nat.le_eq, Nat.succ_eq_add_one, Nat.add_one_le_iff, Bool.not_eq_true', Bool.not_eq_false', rng_length, AK, AJ]
 have e : IntKind.i64.wrap ((a.l.length : Int) - 0) = a.l.length := by rw [EN (by omega) (by omega)]; omega
 rw [e]
 exact ⟨⟨default, trivial⟩, λ _ => ⟨rfl, rfl, h⟩, λ hc => by omega⟩) _
theorem DJQ : AN Try.prog AJB (C_sort.spec dGLt) := MB C_sort (λ _ => DCF) [] [] CQM (λ _ => by kernel_rfl) (λ _ => AD DDZ (AD DQO AI)) (λ (a : GL) h => by
 obtain ⟨hl, h⟩ : a.l.length <= 12 /\ glOk a := h
 show DBJ a; rw [DKR]; simp only [AU, eq_self, implies_true, and_self, true_and, and_true, true_implies, forall_const, decide_eq_true_eq, decide_eq_false_iff_not, Int.toNat_natCast, dSpan_eSpan, dInt_eInt, AY, AW, AX, Nat.zero_add, Int.zero_sub, Nat.le_eq, Nat.succ_eq_add_one, Nat.add_one_le_iff, Bool.not_eq_true', Bool.not_eq_false', rng_length, AK, AJ]
 have e : IntKind.u64.wrap (a.l.length : Int) = a.l.length := u64w (by omega) (by omega)
 rw [e]
 exact ⟨by omega, rfl, ⟨rfl, hl⟩, h⟩) (λ _ => OS rfl rfl) _
end Go.Bal
