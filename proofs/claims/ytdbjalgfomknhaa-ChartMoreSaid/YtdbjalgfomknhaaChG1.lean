/- Package chart: the order of notes, fewer than 13. Turned from RatR. -/
import Derived.Test.YtdbjalgfomknhaaChD3
set_option linter.unusedVariables false
set_option linter.unusedSimpArgs false
namespace Go.Bal
open Go Go.Sym Go.Proofs
def DDM (x : Int) : Prop := AZ Try.prog (ann 6 []) CSS (AN CSS) (xI1 x) (AF []) (.bool false) [] [] []
theorem DHG (x : Int) : (DDM x) = (false = (x != x)) := by kernel_rfl
def CRI := pD dI1 λ _ => .bool false
theorem DGP : AP Try.prog CKB CRI := Ba xI1 hI1 λ g _ => TV (A := ann 6 []) (ren := []) (fz := []) DGN (by kernel_rfl) AK (by
 show DDM g; rw [DHG]; simp)
def rK (a b : Int) : Int := bif decide (a < b) then -1 else bif decide (a > b) then 1 else 0
def DDU (x : I2) : Prop := AZ Try.prog (ann 20 [(CKB, CRI)]) CSN (AN CSN) (xI2 x) (AF []) (.int (rK x.a x.b)) [] [] []
theorem DGW (x : I2) : (DDU x) = (bif decide (x.a < x.b) then rK x.a x.b = -1 else bif decide (x.a > x.b) then rK x.a x.b = 1 else rK x.a x.b = 0) := by kernel_rfl
def CYD := pD dI2 λ x => .int (rK x.a x.b)
theorem DIP : AP Try.prog CSA CYD := Ba xI2 hI2 λ g _ => TV (A := ann 20 [(CKB, CRI)]) (ren := []) (fz := []) DGO (by kernel_rfl) (AD DGP AK) (by
 show DDU g; rw [DGW]; unfold rK; by_cases h : g.a < g.b <;> by_cases h2 : g.b < g.a <;> simp [h, h2])
structure GAB where
 g : Cht
 a : Int
 b : Int
def ID (c : Cht) (x : Int) : Int := (gD c.ns x.toNat).mi
def bxG (c : Cht) : AObj := chB c
def dGAB : List AVal -> Heap -> Option (GAB × List (Nat × Nat) × List Nat)
 | [.d x, .d y, .bptr id _], H => match VK H id with
  | some q => some (⟨q, CD x, CD y⟩, [(100, id)], [])
  | none => none
 | _, _ => none
def C_fw1 : Ctr := { ro := [100], α := GAB, xs := λ a => [.int a.a, .int a.b, .bptr 100 0], L := λ a => [(100, bxG a.g)], val := λ a => .int (rK (ID a.g a.a) (ID a.g a.b)), keep := λ a => [(100, .live (bxG a.g))], pre := λ a => [(0 <= a.a /\ a.a < a.g.ns.length) /\ 0 <= a.b /\ a.b < a.g.ns.length] }
def DJO : Ann := { ann 19 [(CSA, CYD)] with E := [100] }
def DKL (a : GAB) : Prop := AZ Try.prog DJO CSD (AN CSD) (C_fw1.xs a) (AF (C_fw1.L a)) (C_fw1.val a) (C_fw1.keep a) [] []
theorem DPH (a : GAB) : (DKL a) = (((0 <= a.a /\ a.a < (↑a.g.ns.length : Int)) /\ 0 <= a.b /\ a.b < (↑a.g.ns.length : Int)) /\ rK (ID a.g a.a) (ID a.g a.b) = rK (gD a.g.ns a.a.toNat).mi (gD a.g.ns a.b.toNat).mi /\
 a.g.p.lo = a.g.p.lo /\ a.g.p.hi = a.g.p.hi /\ a.g.base = a.g.base /\ a.g.scale = a.g.scale /\ a.g.off = a.g.off /\ a.g.ms.length = a.g.ms.length /\ (∀ (i : Nat), i < a.g.ms.length -> (gD a.g.ms i).pl = (gD a.g.ms i).pl /\ (gD
 a.g.ms i).ht = (gD a.g.ms i).ht) /\ a.g.ns.length = a.g.ns.length /\ ∀ (i : Nat), i < a.g.ns.length -> (gD a.g.ns i).mi = (gD a.g.ns i).mi /\ (gD a.g.ns i).t.lo = (gD a.g.ns i).t.lo /\ (gD a.g.ns i).t.hi = (gD a.g.ns i).t.hi
 /\ (gD a.g.ns i).s.lo = (gD a.g.ns i).s.lo /\ (gD a.g.ns i).s.hi = (gD a.g.ns i).s.hi) := by kernel_rfl
def rowI (l : List Int) : AObj := .row 1 l.length λ i => FV (gD l i)
def DQT (n : Nat) (l : List Int) : AObj := .row 1 n λ i => FV (gD l i)
def swL (l : List Int) (j : Nat) : List Int := (l.set j (gD l (j + 1))).set (j + 1) (gD l j)
def insJ (key : Int -> Int) : Nat -> List Int -> List Int
 | 0, l => l
 | j + 1, l => bif decide (rK (key (gD l (j + 1))) (key (gD l j)) < 0) then insJ key j (swL l j) else l
def stR (key : Int -> Int) : Nat -> Nat -> List Int -> List Int
 | 0, _, l => l
 | n + 1, i, l => stR key n (i + 1) (insJ key i l)
def stM (key : Int -> Int) (l : List Int) : List Int := stR key (l.length - 1) 1 l
structure GL where
 g : Cht
 l : List Int
 a : Int
 b : Int
structure IL2 where
 i : Nat
 l : List Int
 deriving Inhabited
structure IJL where
 i : Nat
 j : Nat
 l : List Int
 deriving Inhabited
def fnW1 : AVal := .fn (.func RG) [] [.bptr 101 0]
def glK (a : GL) (l : List Int) : List (Nat × HCell) := [(100, .live (DQT a.l.length l)), (101, .live (bxG a.g))]
def glIn (a : GL) (l : List Int) : Prop := l.length = a.l.length /\ ∀ i, i < a.l.length -> 0 <= gD l i /\ gD l i < a.g.ns.length
def glOk (a : GL) : Prop := a.l.length < 1073741824 /\ ∀ i, i < a.l.length -> 0 <= gD a.l i /\ gD a.l i < a.g.ns.length
def dGL : List AVal -> Heap -> Option (GL × List (Nat × Nat) × List Nat)
 | [.own id _ _ n, .d x, .d y, .fn (.func f) [] [.bptr c _]], H => if f = RG then match H id, VK H c with
  | .live (.row _ m r), some q => some (⟨q, AE n λ i => CD (r i), CD x, CD y⟩, [(100, id), (101, c)], [])
  | _, _ => none else none
 | _, _ => none
def C_ins : Ctr := { ro := [101], α := GL, xs := λ a => [.own 100 1 0 a.l.length, .int a.a, .int a.b, fnW1], L := λ a => [(100, rowI a.l), (101, bxG a.g)], val := λ _ => .d (.tup []), keep := λ a => glK a (stM (ID a.g) a.l), pre := λ a => [(a.a = 0 /\ a.b = a.l.length) /\ glOk a] }
def ins1 (a : GL) : Shape := { α := IL2, dflt := default, T := λ x => ⟨[(0, .own 100 1 0 a.l.length), (1, .int 0), (2, .int a.l.length), (3, fnW1), (8, .int x.i)], glK a x.l⟩, inv := λ x => 1 <= x.i /\ (x.i <= a.l.length ∨ x.i = 1) /\ glIn a x.l /\ stM (ID a.g) a.l = stR (ID a.g) (a.l.length - x.i) x.i x.l, meas := λ x => a.l.length - x.i }
def ins4 (a : GL) (m : Nat) : Shape := { α := IJL, dflt := default, T := λ x => ⟨[(0, .own 100 1 0 a.l.length), (1, .int 0), (2, .int a.l.length), (3, fnW1), (8, .int x.i), (9, .int x.j)], glK a x.l⟩, inv := λ x => a.l.length - x.i = m /\ 1 <= x.i /\ x.i < a.l.length /\ x.j <= x.i /\ glIn a x.l /\ stM (ID a.g) a.l = stR (ID a.g) (a.l.length - (x.i + 1)) (x.i + 1) (insJ (ID a.g) x.j x.l), meas := λ x => x.j }
def DMO (a : GL) : Ann := { ann 53 [(RG, C_fw1.spec dGAB)] with E := [100, 101], loops := λ id => if id = 1 then some [ins1 a] else none, inner := λ gs id => if id = 4 then some [ins4 a (gs.getD 0 0)] else none }
def DLA (a : GL) : Prop := AZ Try.prog (DMO a) BRI (AN BRI) [.own 100 1 0 a.l.length, .int 0, .int a.l.length, fnW1] (AF (C_ins.L a)) (C_ins.val a) (C_ins.keep a) [] []
abbrev ADD : Prop := (0 : Nat) = (0 : Nat)
abbrev PK (a : GL) : Prop := a.l.length = a.l.length
abbrev Z6 : Prop := Int.ofNat (0 : Nat) = Int.ofNat (0 : Nat)
abbrev AEH (a : GL) : Prop := (↑a.l.length : Int) = (↑a.l.length : Int)
abbrev BHS (a : GL) : Prop := a.g.p.lo = a.g.p.lo
abbrev BHN (a : GL) : Prop := a.g.p.hi = a.g.p.hi
abbrev gF (a : GL) : Prop := BHS a /\ BHN a /\ a.g.base = a.g.base /\ a.g.scale = a.g.scale /\ a.g.off = a.g.off /\ a.g.ms.length = a.g.ms.length /\ (∀ (i : Nat), i < a.g.ms.length -> (gD a.g.ms i).pl = (gD a.g.ms
 i).pl /\ (gD a.g.ms i).ht = (gD a.g.ms i).ht) /\ a.g.ns.length = a.g.ns.length /\ ∀ (i : Nat), i < a.g.ns.length -> (gD a.g.ns i).mi = (gD a.g.ns i).mi /\ (gD a.g.ns i).t.lo = (gD a.g.ns i).t.lo /\ (gD a.g.ns i).t.hi = (gD
 a.g.ns i).t.hi /\ (gD a.g.ns i).s.lo = (gD a.g.ns i).s.lo /\ (gD a.g.ns i).s.hi = (gD a.g.ns i).s.hi
abbrev M2 (a : GL) (a1 : IL2) : Nat := a.l.length - a1.i
abbrev BIP (a : IL2) (a1 : GL) : Prop := (1 : Nat) <= a.i /\ (a.i <= a1.l.length ∨ a.i = (1 : Nat)) /\ (a.l.length = a1.l.length /\ ∀ (i : Nat), i < a1.l.length -> (0 : Int) <= gD a.l i /\ gD a.l i < (↑a1.g.ns.length : Int))
 /\ stM (ID a1.g) a1.l = stR (ID a1.g) (M2 a1 a) a.i a.l
abbrev CGZ (a : IJL) : Nat := a.i + (1 : Nat)
abbrev X5 (a : GL) (a1 : IJL) (a2 : IL2) : Prop := a.l.length - a1.i = M2 a a2 /\ (1 : Nat) <= a1.i /\ a1.i < a.l.length /\ a1.j <= a1.i /\ (a1.l.length = a.l.length /\ ∀ (i : Nat), i < a.l.length -> (0 : Int) <= gD
 a1.l i /\ gD a1.l i < (↑a.g.ns.length : Int)) /\ stM (ID a.g) a.l = stR (ID a.g) (a.l.length - CGZ a1) (CGZ a1) (insJ (ID a.g) a1.j a1.l)
abbrev BMK (a : IJL) : Bool := decide ((↑a.j : Int) > (0 : Int))
abbrev Em (a : IJL) : Prop := BMK a = true
abbrev U4 (a : IJL) (a1 : GL) : Prop := (0 : Int) <= (↑a.j : Int) /\ (↑a.j : Int) < (↑a1.l.length : Int)
abbrev Zx (a : IJL) : Nat := (0 : Nat) + a.j
abbrev Wu (a : IJL) : Int := IntKind.i64.wrap ((↑a.j : Int) - (1 : Int))
abbrev ADR (a : IJL) (a1 : GL) : Prop := (0 : Int) <= Wu a /\ Wu a < (↑a1.l.length : Int)
abbrev Vk (a : IJL) : Nat := (0 : Nat) + (Wu a).toNat
abbrev BZM (a : IJL) (a1 : GL) : Prop := (Vk a).succ.le a1.l.length
abbrev WO (a : IJL) : Int := gD a.l (Zx a)
abbrev VO (a : IJL) : Int := gD a.l (Vk a)
abbrev W2 (a : GL) : List Mk := AE a.g.ms.length λ (i : Nat) => gD a.g.ms i
abbrev ADI (a : GL) : Nat := (W2 a).length
abbrev BQZ (a : GL) (i : Nat) : Mk := gD (W2 a) i
abbrev BJW (a : GL) (i : Nat) : Int := (BQZ a i).pl
abbrev BTO (a : GL) (i : Nat) : Int := (BQZ a i).ht
abbrev Z1 (a : GL) : List Nt := AE a.g.ns.length λ (i : Nat) => gD a.g.ns i
abbrev Da (a : GL) : Nat := (Z1 a).length
abbrev R9 (a : GL) (i : Nat) : Nt := gD (Z1 a) i
abbrev BYU (a : GL) (i : Nat) : Int := (R9 a i).mi
abbrev BVD (a : GL) (i : Nat) : Span := (R9 a i).t
abbrev BON (a : GL) (i : Nat) : Int := (BVD a i).lo
abbrev BPQ (a : GL) (i : Nat) : Int := (BVD a i).hi
abbrev BZI (a : GL) (i : Nat) : Span := (R9 a i).s
abbrev BQD (a : GL) (i : Nat) : Int := (BZI a i).lo
abbrev BZN (a : GL) (i : Nat) : Int := (BZI a i).hi
abbrev BSE (a : GL) : Cht := Cht.mk a.g.p a.g.base a.g.scale a.g.off (W2 a) (Z1 a)
abbrev BLY (a : IJL) (a1 : GL) : Prop := Zx a < a1.l.length
theorem DOY (a : GL) : (DLA a) = ((∃ (a_1 : IL2), (ADD /\ PK a /\ Z6 /\ AEH a /\ (↑a_1.i : Int) = IntKind.i64.wrap ((0 : Int) + (1 : Int)) /\ PK a /\ (∀ (i : Nat), i < a.l.length -> gD a_1.l i = gD
 a.l i) /\ gF a) /\ BIP a_1 a) /\ ∀ (a_1 : IL2), BIP a_1 a -> bif decide ((↑a_1.i : Int) < (↑a.l.length : Int)) then (∃ (a_3 : IJL), (ADD /\ PK a /\ Z6 /\ AEH a /\ (↑a_3.i : Int) = (↑a_1.i : Int) /\
 (↑a_3.j : Int) = (↑a_1.i : Int) /\ PK a /\ (∀ (i : Nat), i < a.l.length -> gD a_3.l i = gD a_1.l i) /\ gF a) /\ X5 a a_3 a_1) /\ ∀ (a_3 : IJL), X5 a a_3 a_1 -> ((Em a_3 -> U4 a_3 a) /\ (Em
 a_3 -> (Zx a_3).succ.le a.l.length) /\ (Em a_3 -> ADR a_3 a) /\ (Em a_3 -> BZM a_3 a) /\ (Em a_3 -> WO a_3 = WO a_3 /\ VO a_3 = VO a_3 /\ BHS a /\ BHN a /\ a.g.base
 = a.g.base /\ a.g.scale = a.g.scale /\ a.g.off = a.g.off /\ ADI a = a.g.ms.length /\ (∀ (i : Nat), i < ADI a -> BJW a i = (gD a.g.ms i).pl /\ BTO a i = (gD a.g.ms i).ht) /\ Da a = a.g.ns.length /\ (∀ (i
 : Nat), i < Da a -> BYU a i = (gD a.g.ns i).mi /\ BON a i = (gD a.g.ns i).t.lo /\ BPQ a i = (gD a.g.ns i).t.hi /\ BQD a i = (gD a.g.ns i).s.lo /\ BZN a i = (gD a.g.ns i).s.hi) /\ BHS a /\
 BHN a /\ a.g.base = a.g.base /\ a.g.scale = a.g.scale /\ a.g.off = a.g.off /\ a.g.ms.length = ADI a /\ (∀ (i : Nat), i < a.g.ms.length -> (gD a.g.ms i).pl = BJW a i /\ (gD a.g.ms i).ht = BTO a i) /\
 a.g.ns.length = Da a /\ (∀ (i : Nat), i < a.g.ns.length -> (gD a.g.ns i).mi = BYU a i /\ (gD a.g.ns i).t.lo = BON a i /\ (gD a.g.ns i).t.hi = BPQ a i /\ (gD a.g.ns i).s.lo = BQD a i /\ (gD a.g.ns
 i).s.hi = BZN a i) /\ ((0 : Int) <= WO a_3 /\ WO a_3 < (↑(Da a) : Int)) /\ (0 : Int) <= VO a_3 /\ VO a_3 < (↑(Da a) : Int))) /\ bif bif BMK a_3 then decide (rK (ID (BSE a)
 (WO a_3)) (ID (BSE a) (VO a_3)) < (0 : Int)) else false then (ADR a_3 a /\ Vk a_3 < a.l.length /\ U4 a_3 a /\ BLY a_3 a /\ U4 a_3 a /\ BLY a_3 a /\ ADR a_3 a /\ BZM
 a_3 a) /\ ∃ (a_5 : IJL), (ADD /\ PK a /\ Z6 /\ AEH a /\ (↑a_5.i : Int) = (↑a_3.i : Int) /\ (↑a_5.j : Int) = Wu a_3 /\ PK a /\ (∀ (i : Nat), i < a.l.length -> gD a_5.l i = bif decide (i = Vk a_3)
 then WO a_3 else bif decide (i = Zx a_3) then VO a_3 else gD a_3.l i) /\ gF a) /\ X5 a a_5 a_1 /\ a_5.j < a_3.j else ∃ (a_5 : IL2), (ADD /\ PK a /\ Z6 /\ AEH a /\ (↑a_5.i : Int) =
 IntKind.i64.wrap ((↑a_3.i : Int) + (1 : Int)) /\ PK a /\ (∀ (i : Nat), i < a.l.length -> gD a_5.l i = gD a_3.l i) /\ gF a) /\ BIP a_5 a /\ M2 a a_5 < M2 a a_1 else PK a /\ (∀ (i : Nat), i <
 a.l.length -> gD (stM (ID a.g) a.l) i = gD a_1.l i) /\ gF a) := by kernel_rfl
def DAF : List AVal -> Option Int
 | [.d (.v (.int .u64 a))] => some a
 | _ => none
def CND (a : Int) : List AVal := [.d (.v (.int .u64 a))]
def CTM (x : Int) : Prop := AZ Try.prog (ann 25 []) BKE (AN BKE) (CND x) (AF []) .any [] [] []
abbrev iP (x : Int) : Int := x / (2 : Int) ^ Int.toNat (32 : Int)
abbrev BDD : Prop := (0 : Int) <= (16 : Int) /\ (16 : Int) <= (↑(64 : Nat) : Int)
abbrev ALO : Int := (2 : Int) ^ Int.toNat (16 : Int)
abbrev Eo : Prop := (0 : Int) <= (8 : Int) /\ (8 : Int) <= (↑(64 : Nat) : Int)
abbrev dA (x : Int) : Int := x / (2 : Int) ^ (32 : Nat)
abbrev AGH : Int := (2 : Int) ^ (16 : Nat)
abbrev AZW (x : Int) : Int := dA x / AGH
abbrev Gl : Int := (2 : Int) ^ (8 : Nat)
abbrev APO (x : Int) : Int := IntKind.u8.wrap (AZW x / Gl)
abbrev AXH (x : Int) : Int := IntKind.u8.wrap (AZW x)
abbrev G1 (x : Int) : Int := IntKind.u8.wrap (dA x / Gl)
abbrev vB (x : Int) : Int := IntKind.u8.wrap (dA x)
abbrev tU (x : Int) : Int := x / AGH
abbrev vO (x : Int) : Int := IntKind.u8.wrap (tU x / Gl)
abbrev sU (x : Int) : Int := IntKind.u8.wrap (tU x)
abbrev vA (x : Int) : Int := IntKind.u8.wrap (x / Gl)
theorem DDV (x : Int) : (CTM x) = (bif decide (x >= (4294967296 : Int)) then ((0 : Int) <= (32 : Int) /\ (32 : Int) <= (↑(64 : Nat) : Int)) /\ bif decide (iP x >= (65536 : Int)) then BDD /\ bif decide
 (iP x / ALO >= (256 : Int)) then Eo /\ ((0 : Int) <= APO x /\ APO x < (↑(256 : Nat) : Int)) /\ True else ((0 : Int) <= AXH x /\ AXH x < (↑(256 : Nat) : Int)) /\ True else bif decide
 (iP x >= (256 : Int)) then Eo /\ ((0 : Int) <= G1 x /\ G1 x < (↑(256 : Nat) : Int)) /\ True else ((0 : Int) <= vB x /\ vB x < (↑(256 : Nat) : Int)) /\ True else bif decide (x >=
 (65536 : Int)) then BDD /\ bif decide (x / ALO >= (256 : Int)) then Eo /\ ((0 : Int) <= vO x /\ vO x < (↑(256 : Nat) : Int)) /\ True else ((0 : Int) <= sU x /\ sU x < (↑(256 :
 Nat) : Int)) /\ True else bif decide (x >= (256 : Int)) then Eo /\ ((0 : Int) <= vA x /\ vA x < (↑(256 : Nat) : Int)) /\ True else ((0 : Int) <= IntKind.u8.wrap x /\ IntKind.u8.wrap x < (↑(256 : Nat) :
 Int)) /\ True) := by kernel_rfl
def CCR := pD DAF (λ _ => .any) (λ x => [0 <= x /\ x <= 20])
def DKA (x : Int) : Prop := AZ Try.prog (ann 8 [(U7, CCR)]) CQY (AN CQY) (CND x) (AF []) .any [] [] []
theorem DNH (x : Int) : (DKA x) = ((0 <= x /\ x <= 20) /\ True) := by kernel_rfl
def dGLp : List AVal -> Heap -> Option (GL × List (Nat × Nat) × List Nat)
 | [.own id _ _ n, .d x, .d y, _, .fn (.func f) [] [.bptr c _]], H => if f = RG then match H id, VK H c with
  | .live (.row _ m r), some q => some (⟨q, AE n λ i => CD (r i), CD x, CD y⟩, [(100, id), (101, c)], [])
  | _, _ => none else none
 | _, _ => none
def C_pdq : Ctr := { ro := [101], α := GL, xs := λ a => [.own 100 1 0 a.l.length, .int a.a, .int a.b, .any, fnW1], L := λ a => [(100, rowI a.l), (101, bxG a.g)], val := λ _ => .d (.tup []), keep := λ a => glK a (stM (ID a.g) a.l), pre := λ a => [((a.a = 0 /\ a.b = a.l.length) /\ a.l.length <= 12) /\ glOk a] }
def pq2 (a : GL) : Shape := { α := One, dflt := default, T := λ _ => ⟨[(0, .own 100 1 0 a.l.length), (1, .int 0), (2, .int a.l.length), (3, .any), (4, fnW1), (10, .bool true), (11, .bool true)], glK a a.l⟩, inv := λ _ => True, meas := λ _ => 0 }
def DKZ (a : GL) : Ann := { ann 148 [(AIU, C_ins.spec dGL)] with E := [100, 101], loops := λ id => if id = 2 then some [pq2 a] else none }
def DMN (a : GL) : Prop := AZ Try.prog (DKZ a) CPF (AN CPF) [.own 100 1 0 a.l.length, .int 0, .int a.l.length, .any, fnW1] (AF (C_pdq.L a)) (C_pdq.val a) (C_pdq.keep a) [] []
abbrev CKM : Prop := (0 : Nat) = (0 : Nat)
abbrev CIR (a : GL) : Prop := a.l.length = a.l.length
abbrev CFK (a : GL) : Prop := (↑a.l.length : Int) = (↑a.l.length : Int)
abbrev BHW (a : GL) : Prop := a.g.p.lo = a.g.p.lo
abbrev BHU (a : GL) : Prop := a.g.p.hi = a.g.p.hi
abbrev CHT (a : GL) : Prop := BHW a /\ BHU a /\ a.g.base = a.g.base /\ a.g.scale = a.g.scale /\ a.g.off = a.g.off /\ a.g.ms.length = a.g.ms.length /\ (∀ (i : Nat), i < a.g.ms.length -> (gD a.g.ms i).pl = (gD a.g.ms
 i).pl /\ (gD a.g.ms i).ht = (gD a.g.ms i).ht) /\ a.g.ns.length = a.g.ns.length /\ ∀ (i : Nat), i < a.g.ns.length -> (gD a.g.ns i).mi = (gD a.g.ns i).mi /\ (gD a.g.ns i).t.lo = (gD a.g.ns i).t.lo /\ (gD a.g.ns i).t.hi = (gD
 a.g.ns i).t.hi /\ (gD a.g.ns i).s.lo = (gD a.g.ns i).s.lo /\ (gD a.g.ns i).s.hi = (gD a.g.ns i).s.hi
abbrev BGN (a : GL) : List Int := AE a.l.length λ (i : Nat) => gD a.l i
abbrev iL (a : GL) : Nat := (BGN a).length
abbrev CKT (a : GL) : Prop := iL a = a.l.length
abbrev CMT : Prop := (0 : Int) = Int.ofNat (0 : Nat)
abbrev CAS (i : Nat) (a : GL) : Prop := i < iL a
abbrev R8 (a : GL) (i : Nat) : Int := gD (BGN a) i
abbrev ADV (a : GL) : List Mk := AE a.g.ms.length λ (i : Nat) => gD a.g.ms i
abbrev ABQ (a : GL) : Nat := (ADV a).length
abbrev BYK (a : GL) (i : Nat) : Mk := gD (ADV a) i
abbrev BMF (a : GL) (i : Nat) : Int := (BYK a i).pl
abbrev BVK (a : GL) (i : Nat) : Int := (BYK a i).ht
abbrev R3 (a : GL) : List Nt := AE a.g.ns.length λ (i : Nat) => gD a.g.ns i
abbrev bI (a : GL) : Nat := (R3 a).length
abbrev AAE (a : GL) (i : Nat) : Nt := gD (R3 a) i
abbrev CAG (a : GL) (i : Nat) : Int := (AAE a i).mi
abbrev BPA (a : GL) (i : Nat) : Span := (AAE a i).t
abbrev BWA (a : GL) (i : Nat) : Int := (BPA a i).lo
abbrev BYE (a : GL) (i : Nat) : Int := (BPA a i).hi
abbrev BQY (a : GL) (i : Nat) : Span := (AAE a i).s
abbrev BXD (a : GL) (i : Nat) : Int := (BQY a i).lo
abbrev BVY (a : GL) (i : Nat) : Int := (BQY a i).hi
theorem DPL (a : GL) : (DMN a) = ((∃ (a_1 : One), (CKM /\ CIR a /\ Int.ofNat (0 : Nat) = Int.ofNat (0 : Nat) /\ CFK a /\ true = true /\ true = true /\ CIR a /\ (∀ (i : Nat), i < a.l.length -> gD a.l i = gD
 a.l i) /\ CHT a) /\ True) /\ ∀ (a_1 : One), True -> bif decide (IntKind.i64.wrap ((↑a.l.length : Int) - (0 : Int)) <= (12 : Int)) then (CKM /\ CKT a /\ CMT /\ CFK a /\ CKT a /\ (∀ (i : Nat), CAS i a ->
 R8 a i = gD a.l i) /\ BHW a /\ BHU a /\ a.g.base = a.g.base /\ a.g.scale = a.g.scale /\ a.g.off = a.g.off /\ ABQ a = a.g.ms.length /\ (∀ (i : Nat), i < ABQ a -> BMF a i = (gD a.g.ms i).pl /\ BVK
 a i = (gD a.g.ms i).ht) /\ bI a = a.g.ns.length /\ (∀ (i : Nat), i < bI a -> CAG a i = (gD a.g.ns i).mi /\ BWA a i = (gD a.g.ns i).t.lo /\ BYE a i = (gD a.g.ns i).t.hi /\ BXD a i = (gD a.g.ns
 i).s.lo /\ BVY a i = (gD a.g.ns i).s.hi) /\ BHW a /\ BHU a /\ a.g.base = a.g.base /\ a.g.scale = a.g.scale /\ a.g.off = a.g.off /\ a.g.ms.length = ABQ a /\ (∀ (i : Nat), i < a.g.ms.length -> (gD a.g.ms i).pl =
 BMF a i /\ (gD a.g.ms i).ht = BVK a i) /\ a.g.ns.length = bI a /\ (∀ (i : Nat), i < a.g.ns.length -> (gD a.g.ns i).mi = CAG a i /\ (gD a.g.ns i).t.lo = BWA a i /\ (gD a.g.ns i).t.hi = BYE a i /\
 (gD a.g.ns i).s.lo = BXD a i /\ (gD a.g.ns i).s.hi = BVY a i) /\ (CMT /\ (↑a.l.length : Int) = (↑(iL a) : Int)) /\ iL a < (1073741824 : Nat) /\ ∀ (i : Nat), CAS i a -> (0 : Int) <= R8 a i /\
 R8 a i < (↑(bI a) : Int)) /\ a.l.length = iL a /\ (∀ (i : Nat), i < a.l.length -> gD (stM (ID a.g) a.l) i = gD (stM (ID (Cht.mk a.g.p a.g.base a.g.scale a.g.off (ADV a) (R3 a))) (BGN a))
 i) /\ CHT a else False) := by kernel_rfl
def dGLt : List AVal -> Heap -> Option (GL × List (Nat × Nat) × List Nat)
 | [.own id _ _ n, .fn (.func f) [] [.bptr c _]], H => if f = RG then match H id, VK H c with
  | .live (.row _ m r), some q => some (⟨q, AE n λ i => CD (r i), 0, 0⟩, [(100, id), (101, c)], [])
  | _, _ => none else none
 | _, _ => none
def C_sort : Ctr := { ro := [101], α := GL, xs := λ a => [.own 100 1 0 a.l.length, fnW1], L := λ a => [(100, rowI a.l), (101, bxG a.g)], val := λ _ => .d (.tup []), keep := λ a => glK a (stM (ID a.g) a.l), pre := λ a => [a.l.length <= 12 /\ glOk a] }
def DDB : Ann := { ann 14 [(CDI, CCR), (CBZ, C_pdq.spec dGLp)] with E := [100, 101] }
def CZS (a : GL) : Prop := AZ Try.prog DDB Q2 (AN Q2) (C_sort.xs a) (AF (C_sort.L a)) (C_sort.val a) (C_sort.keep a) [] []
theorem DJA (a : GL) : (CZS a) = ((((0 : Int) <= IntKind.u64.wrap (↑a.l.length : Int) /\ IntKind.u64.wrap (↑a.l.length : Int) <= (20 : Int)) /\ (0 : Nat) = (0 : Nat) /\ (AE a.l.length λ (i : Nat) => gD a.l i).length
 = a.l.length /\ (0 : Int) = Int.ofNat (0 : Nat) /\ (↑a.l.length : Int) = (↑a.l.length : Int) /\ (AE a.l.length λ (i : Nat) => gD a.l i).length = a.l.length /\ (∀ (i : Nat), i < (AE a.l.length λ (i : Nat) => gD a.l
 i).length -> gD (AE a.l.length λ (i : Nat) => gD a.l i) i = gD a.l i) /\ a.g.p.lo = a.g.p.lo /\ a.g.p.hi = a.g.p.hi /\ a.g.base = a.g.base /\ a.g.scale = a.g.scale /\ a.g.off = a.g.off /\ (AE a.g.ms.length λ (i : Nat) =>
 gD a.g.ms i).length = a.g.ms.length /\ (∀ (i : Nat), i < (AE a.g.ms.length λ (i : Nat) => gD a.g.ms i).length -> (gD (AE a.g.ms.length λ (i : Nat) => gD a.g.ms i) i).pl = (gD a.g.ms i).pl /\ (gD (AE a.g.ms.length fun
 (i : Nat) => gD a.g.ms i) i).ht = (gD a.g.ms i).ht) /\ (AE a.g.ns.length λ (i : Nat) => gD a.g.ns i).length = a.g.ns.length /\ (∀ (i : Nat), i < (AE a.g.ns.length λ (i : Nat) => gD a.g.ns i).length -> (gD (AE
 a.g.ns.length λ (i : Nat) => gD a.g.ns i) i).mi = (gD a.g.ns i).mi /\ (gD (AE a.g.ns.length λ (i : Nat) => gD a.g.ns i) i).t.lo = (gD a.g.ns i).t.lo /\ (gD (AE a.g.ns.length λ (i : Nat) => gD a.g.ns i) i).t.hi =
 (gD a.g.ns i).t.hi /\ (gD (AE a.g.ns.length λ (i : Nat) => gD a.g.ns i) i).s.lo = (gD a.g.ns i).s.lo /\ (gD (AE a.g.ns.length λ (i : Nat) => gD a.g.ns i) i).s.hi = (gD a.g.ns i).s.hi) /\ a.g.p.lo = a.g.p.lo /\ a.g.p.hi
 = a.g.p.hi /\ a.g.base = a.g.base /\ a.g.scale = a.g.scale /\ a.g.off = a.g.off /\ a.g.ms.length = (AE a.g.ms.length λ (i : Nat) => gD a.g.ms i).length /\ (∀ (i : Nat), i < a.g.ms.length -> (gD a.g.ms i).pl = (gD (AE
 a.g.ms.length λ (i : Nat) => gD a.g.ms i) i).pl /\ (gD a.g.ms i).ht = (gD (AE a.g.ms.length λ (i : Nat) => gD a.g.ms i) i).ht) /\ a.g.ns.length = (AE a.g.ns.length λ (i : Nat) => gD a.g.ns i).length /\ (∀ (i : Nat),
 i < a.g.ns.length -> (gD a.g.ns i).mi = (gD (AE a.g.ns.length λ (i : Nat) => gD a.g.ns i) i).mi /\ (gD a.g.ns i).t.lo = (gD (AE a.g.ns.length λ (i : Nat) => gD a.g.ns i) i).t.lo /\ (gD a.g.ns i).t.hi = (gD (AE
 a.g.ns.length λ (i : Nat) => gD a.g.ns i) i).t.hi /\ (gD a.g.ns i).s.lo = (gD (AE a.g.ns.length λ (i : Nat) => gD a.g.ns i) i).s.lo /\ (gD a.g.ns i).s.hi = (gD (AE a.g.ns.length λ (i : Nat) => gD a.g.ns i) i).s.hi)
 /\ (((0 : Int) = Int.ofNat (0 : Nat) /\ (↑a.l.length : Int) = (↑(AE a.l.length λ (i : Nat) => gD a.l i).length : Int)) /\ (AE a.l.length λ (i : Nat) => gD a.l i).length <= (12 : Nat)) /\ (AE a.l.length λ (i : Nat) =>
 gD a.l i).length < (1073741824 : Nat) /\ ∀ (i : Nat), i < (AE a.l.length λ (i : Nat) => gD a.l i).length -> (0 : Int) <= gD (AE a.l.length λ (i : Nat) => gD a.l i) i /\ gD (AE a.l.length λ (i : Nat) => gD a.l i) i <
 (↑(AE a.g.ns.length λ (i : Nat) => gD a.g.ns i).length : Int)) /\ a.l.length = (AE a.l.length λ (i : Nat) => gD a.l i).length /\ (∀ (i : Nat), i < a.l.length -> gD (stM (ID a.g) a.l) i = gD (stM (ID (Cht.mk a.g.p
 a.g.base a.g.scale a.g.off (AE a.g.ms.length λ (i : Nat) => gD a.g.ms i) (AE a.g.ns.length λ (i : Nat) => gD a.g.ns i))) (AE a.l.length λ (i : Nat) => gD a.l i)) i) /\ a.g.p.lo = a.g.p.lo /\ a.g.p.hi = a.g.p.hi /\
 a.g.base = a.g.base /\ a.g.scale = a.g.scale /\ a.g.off = a.g.off /\ a.g.ms.length = a.g.ms.length /\ (∀ (i : Nat), i < a.g.ms.length -> (gD a.g.ms i).pl = (gD a.g.ms i).pl /\ (gD a.g.ms i).ht = (gD a.g.ms i).ht) /\
 a.g.ns.length = a.g.ns.length /\ ∀ (i : Nat), i < a.g.ns.length -> (gD a.g.ns i).mi = (gD a.g.ns i).mi /\ (gD a.g.ns i).t.lo = (gD a.g.ns i).t.lo /\ (gD a.g.ns i).t.hi = (gD a.g.ns i).t.hi /\ (gD a.g.ns i).s.lo = (gD a.g.ns
 i).s.lo /\ (gD a.g.ns i).s.hi = (gD a.g.ns i).s.hi) := by kernel_rfl
theorem DOK : AP Try.prog RG (C_fw1.spec dGAB) := MC C_fw1 (λ _ => DJO) [] [] DGD (λ _ => by kernel_rfl) (λ _ => AD DIP AK) (λ (a : GAB) h => by
 show DKL a; rw [DPH]; simp only [CC, eq_self, implies_true, forall_const]
 exact ⟨h, rfl⟩) (λ _ => MO rfl rfl) _
theorem CVC {l : List Int} {j i : Nat} {x : Int} (hj : j < l.length) : gD (l.set j x) i = bif decide (i = j) then x else gD l i := by
 unfold gD
 rw [List.getD_eq_getElem?_getD, List.getD_eq_getElem?_getD, List.getElem?_set]
 by_cases h : i = j
 ·subst h; simp [hj]
 ·simp [h, Ne.symm h]
theorem BXJ {l : List Int} {j i : Nat} (hj : j + 1 < l.length) : gD (swL l j) i = bif decide (i = j) then gD l (j + 1) else bif decide (i = j + 1) then gD l j else gD l i := by
 unfold swL
 rw [CVC (by simpa using hj), CVC (by omega)]
 by_cases h : i = j
 ·subst h; simp
 ·simp [h]
theorem BQO (l : List Int) (j : Nat) : (swL l j).length = l.length := by simp [swL]
theorem DRA (a : GL) (h : glOk a) : DLA a := by
 rw [DOY]; delta ADD PK Z6 AEH BHS BHN gF M2 BIP CGZ X5 BMK Em U4 Zx Wu ADR Vk BZM WO VO W2 ADI BQZ BJW BTO Z1 Da R9 BYU BVD BON BPQ BZI BQD BZN BSE BLY; simp only [CC, eq_self, implies_true, forall_const]
 obtain ⟨hlen, hin⟩ := h
 refine ⟨⟨⟨1, a.l⟩, ⟨by show (1 : Int) = _; rw [EM (by omega) (by omega)]; rfl, λ _ _ => rfl⟩, Nat.one_pos, .inr rfl, ⟨rfl, hin⟩, rfl⟩, λ x ⟨x1, x2, ⟨x3, x4⟩, x5⟩ => ⟨λ hlt => ⟨⟨⟨x.i, x.i, x.l⟩, ⟨rfl, rfl, λ _ _ => rfl⟩, rfl, x1, Int.ofNat_lt.1 hlt, Nat.le_refl _, ⟨x3, x4⟩, ?_⟩, λ y ⟨y1, y2, y3, y4, ⟨y5, y6⟩, y7⟩ => ?_⟩, λ hge => ?_⟩⟩
 ·rw [x5, show a.l.length - x.i = (a.l.length - (x.i + 1)) + 1 by omega]; rfl
 ·refine ⟨⟨λ _ => ⟨by omega, by omega⟩, λ _ => by omega, λ hj => ?_, λ hj => ?_, λ hj => ⟨y6 _ (by omega), ?_⟩⟩, λ hc => ?_, λ hc => ?_⟩
  ·rw [EM (by omega) (by omega)]; omega
  ·rw [EM (by omega) (by omega)]; omega
  ·rw [EM (by omega) (by omega)]; exact y6 _ (by omega)
  ·have hj : 0 < y.j := by
    cases hd : decide ((y.j : Int) > 0) with
    | false => rw [hd] at hc; cases hc
    | true => have := of_decide_eq_true hd; omega
   obtain ⟨j, hj2⟩ : ∃ j, y.j = j + 1 := ⟨y.j - 1, by omega⟩
   have e : IntKind.i64.wrap ((y.j : Int) - 1) = (j : Nat) := by rw [EM (by omega) (by omega)]; omega
   rw [decide_eq_true (show (y.j : Int) > 0 by omega)] at hc
   have hc : decide (rK (ID a.g (gD y.l y.j)) (ID a.g (gD y.l (IntKind.i64.wrap ((y.j : Int) - 1)).toNat)) < 0) = true := hc
   rw [e] at hc ⊢
   simp only [Int.toNat_natCast] at hc ⊢
   refine ⟨⟨⟨by omega, by omega⟩, by omega, ⟨by omega, by omega⟩, by omega, ⟨by omega, by omega⟩, by omega, ⟨by omega, by omega⟩, by omega⟩, ⟨y.i, j, swL y.l j⟩, ⟨rfl, rfl, λ i hi => ?_⟩, ⟨y1, y2, y3, by show j <= y.i; omega, ⟨by rw [BQO]; exact y5, λ i hi => ?_⟩, ?_⟩, by show j < _; omega⟩
   ·show gD (swL y.l j) i = _
    rw [BXJ (by omega), hj2]
   ·show 0 <= gD (swL y.l j) i /\ gD (swL y.l j) i < _
    rw [BXJ (by omega)]
    cases decide (i = j)
    ·cases decide (i = j + 1)
     ·exact y6 i hi
     ·exact y6 j (by omega)
    ·exact y6 (j + 1) (by omega)
   ·rw [hj2] at hc y7
    unfold insJ at y7
    rw [hc] at y7; exact y7
  ·have hq : insJ (ID a.g) y.j y.l = y.l := by
    cases hd : decide ((y.j : Int) > 0) with
    | false =>
     have := of_decide_eq_false hd
     rw [show y.j = 0 by omega]; rfl
    | true =>
     have hj := of_decide_eq_true hd
     obtain ⟨j, hj2⟩ : ∃ j, y.j = j + 1 := ⟨y.j - 1, by omega⟩
     have e : IntKind.i64.wrap ((y.j : Int) - 1) = (j : Nat) := by rw [EM (by omega) (by omega)]; omega
     rw [hd] at hc
     have hc : decide (rK (ID a.g (gD y.l y.j)) (ID a.g (gD y.l (IntKind.i64.wrap ((y.j : Int) - 1)).toNat)) < 0) = false := hc
     rw [e, hj2] at hc
     simp only [Int.toNat_natCast] at hc
     rw [hj2]; unfold insJ; rw [hc]; rfl
   rw [hq] at y7
   refine ⟨⟨y.i + 1, y.l⟩, ⟨(GC (by omega)).symm, λ _ _ => rfl⟩, ⟨by show 0 < y.i + 1; omega, .inl (by show y.i + 1 <= _; omega), ⟨y5, y6⟩, y7⟩, by show a.l.length - (y.i + 1) < _; omega⟩
 ·intro i hi
  rw [x5, show a.l.length - x.i = 0 by omega]; rfl
theorem DOS : AP Try.prog AIU (C_ins.spec dGL) := okT C_ins (λ (a : GL) h => by
 obtain ⟨⟨ha, hb⟩, h⟩ : (a.a = 0 /\ a.b = a.l.length) /\ glOk a := h
 show FnT Try.prog AIU [.own 100 1 0 a.l.length, .int a.a, .int a.b, fnW1] _ _ _
 rw [ha, hb]
 exact TV (A := DMO a) (L := C_ins.L a) (keep := C_ins.keep a) (ren := []) (fz := []) CTJ (by kernel_rfl) (AD DOK AK) (DRA a h)) _
theorem DMF (xs : List AVal) (a : Int) (h : DAF xs = some a) : xs = CND a := by
 unfold DAF at h; split at h <;> cases h; rfl
theorem DSD (n : Int) : 0 <= IntKind.u8.wrap n /\ IntKind.u8.wrap n < ((256 : Nat) : Int) := by
 have e : IntKind.u8.wrap n = n % 256 := by
  simp only [IntKind.wrap, IntKind.bits, IntKind.signed]
  simp
 rw [e]; exact ⟨Int.emod_nonneg _ (by omega), Int.emod_lt_of_pos _ (by omega)⟩
theorem DAB : AP Try.prog U7 CCR := Ba CND DMF λ x h => TV (A := ann 25 []) (ren := []) (fz := []) CXR (by kernel_rfl) AK (by
 have h : 0 <= x /\ x <= 20 := h
 show CTM x; rw [DDV]; delta iP BDD ALO Eo dA AGH AZW Gl APO AXH G1 vB tU vO sU vA; simp only [CC, eq_self, implies_true, forall_const]
 exact ⟨λ h => by omega, λ _ => ⟨λ h => by omega, λ _ => ⟨λ h => by omega, λ _ => DSD _⟩⟩⟩)
theorem DEM : AP Try.prog CDI CCR := Ba CND DMF λ x h => TV (A := ann 8 [(U7, CCR)]) (ren := []) (fz := []) DHA (by kernel_rfl) (AD DAB AK) (by
 show DKA x; rw [DNH]; exact ⟨h, trivial⟩)
theorem DOW : AP Try.prog CBZ (C_pdq.spec dGLp) := okT C_pdq (λ (a : GL) h => by
 obtain ⟨⟨⟨ha, hb⟩, hl⟩, h⟩ : ((a.a = 0 /\ a.b = a.l.length) /\ a.l.length <= 12) /\ glOk a := h
 show FnT Try.prog CBZ [.own 100 1 0 a.l.length, .int a.a, .int a.b, .any, fnW1] _ _ _
 rw [ha, hb]
 refine TV (A := DKZ a) (L := C_pdq.L a) (keep := C_pdq.keep a) (ren := []) (fz := []) CYT (by kernel_rfl) (AD DOS AK) ?_
 show DMN a
 rw [DPL]; delta CKM CIR CFK BHW BHU CHT BGN iL CKT CMT CAS R8 ADV ABQ BYK BMF BVK R3 bI AAE CAG BPA BWA BYE BQY BXD BVY; simp only [CC, eq_self, implies_true, forall_const]
 have e : IntKind.i64.wrap ((a.l.length : Int) - 0) = a.l.length := by rw [EM (by omega) (by omega)]; omega
 rw [e]
 exact ⟨⟨default, trivial⟩, λ _ => ⟨rfl, rfl, h⟩, λ hc => by omega⟩) _
theorem DFT : AP Try.prog AEZ (C_sort.spec dGLt) := MC C_sort (λ _ => DDB) [] [] CNI (λ _ => by kernel_rfl) (λ _ => AD DEM (AD DOW AK)) (λ (a : GL) h => by
 obtain ⟨hl, h⟩ : a.l.length <= 12 /\ glOk a := h
 show CZS a; rw [DJA]; simp only [CC, eq_self, implies_true, forall_const]
 have e : IntKind.u64.wrap (a.l.length : Int) = a.l.length := u64w (by omega) (by omega)
 rw [e]
 exact ⟨by omega, rfl, ⟨rfl, hl⟩, h⟩) (λ _ => MO rfl rfl) _
end Go.Bal
