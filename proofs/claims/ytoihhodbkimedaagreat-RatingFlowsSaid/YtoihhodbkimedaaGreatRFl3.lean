/- Package rating: the reference: flow, Flow, Reaches. -/
import Derived.Test.YtoihhodbkimedaaGreatRFl2
import Derived.Test.YtoihhodbkimedaaGreatRatZ
set_option linter.unusedVariables false
set_option linter.unusedSimpArgs false
namespace Go.Bal
open Go Go.Sym Go.Proofs
structure GT where
 g : List Gau
 t : Int
def dGT : List AVal -> Heap -> Option (GT × List (Nat × Nat) × List Nat)
 | [x, .d t], H => match Bc x H with
  | some (l, f) => some (⟨l, DH t⟩, [], f)
  | none => none
 | _, _ => none
def C_rFw : Ctr := { α := GT, xs := λ a => [.d (AS a.g), .int a.t], val := λ a => .d (eBnd (FU a.g a.t)), pre := λ a => [a.g.length < 1073741824 /\ (∀ g ∈ a.g, DJ g) /\ jU a.g /\ Can a.g /\ 0 <= a.t /\ a.t <= 2000] }
structure FwS where
 i : Nat
 k : Nat
 lo : Rt
 hi : Rt
 deriving Inhabited
def fwH (x : FwS) : List (Nat × HCell) := [(1000, .live (.box [.int 0, .int 0, .int 0, .int 0])), (2048, .live (.box [.int x.lo.n, .int x.lo.d, .int x.hi.n, .int x.hi.d]))]
def fwSl (a : GT) (x : FwS) : List (Nat × AVal) := [(0, .d (AS a.g)), (1, .int a.t), (4, .bptr 1000 0), (5, .bptr 2048 0), (6, .int x.i)]
def rfw3 (a : GT) : Shape := { α := FwS, dflt := default, T := λ x => ⟨fwSl a x, fwH x⟩, inv := λ x => x.k = 0 /\ x.i <= a.g.length /\ flI a.g a.t x.i 0 x.lo x.hi, meas := λ x => a.g.length - x.i }
def CVA (a : GT) (m : Nat) : Shape := { α := FwS, dflt := default, T := λ x => ⟨fwSl a x ++ [(9, .int x.k)], fwH x⟩, inv := λ x => a.g.length - x.i = m /\ x.i < a.g.length /\ x.i < x.k /\ x.k <= a.g.length /\ flI a.g a.t x.i x.k x.lo x.hi, meas := λ x => a.g.length - x.k }
def CUZ (a : GT) (m : Nat) : Shape := { α := FwS, dflt := default, T := λ x => ⟨fwSl a x, fwH x⟩, inv := λ x => x.k = 0 /\ a.g.length - x.i = m /\ x.i < a.g.length /\ flI a.g a.t x.i (x.i + 1) x.lo x.hi, meas := λ _ => 0 }
def rfw8 (a : GT) (m : Nat) : Shape := { α := FwS, dflt := default, T := λ x => ⟨fwSl a x ++ [(8, .bptr 6240 0)], fwH x ++ [(6240, .live (.box [.int (gD a.g x.i).hi, .int 1]))]⟩, inv := λ x => x.k = 0 /\ a.g.length - x.i = m /\ x.i < a.g.length /\ MaxR (loO a.g a.t x.i (x.i + 1)) (loQ a.g a.t) x.lo /\ MinR (hiO a.g a.t x.i 0) (hiQ a.g a.t) x.hi, meas := λ _ => 0 }
def COD (a : GT) : Ann := { ann 116 [(Ok, gX), (BJN, BUT), (AIH, BIK)] with loops := λ id => if id = 3 then some [rfw3 a] else none, inner := λ gs id => if id = 11 then some [CVA a (gs.getD 0 0)] else none, cutIn := λ gs id => if id = 8 then some [rfw8 a (gs.getD 0 0)] else if id = 10 then some [CUZ a (gs.getD 0 0)] else none }
def CQB (a : GT) : Prop := AN Try.prog (COD a) BQL (AF BQL) (C_rFw.xs a) (AC []) (C_rFw.val a) [] [] []
abbrev JQ (a : GT) : Prop := a.g.length = a.g.length
abbrev JV (a : GT) : Prop := ∀ (i : Nat), i < a.g.length -> (gD a.g i).st = (gD a.g i).st /\ (gD a.g i).lo = (gD a.g i).lo /\ (gD a.g i).hi = (gD a.g i).hi
abbrev BN : Prop := Int.ofNat (0 : Nat) = Int.ofNat (0 : Nat)
abbrev BKM (a : FwS) : Prop := a.lo.d = (1 : Int)
abbrev BID (a : FwS) : Prop := a.hi.d = (1 : Int)
abbrev BJY (a : GT) (a1 : FwS) : Prop := MinR (hiO a.g a.t a1.i (0 : Nat)) (hiQ a.g a.t) a1.hi
abbrev AIX (a : FwS) (a1 : GT) : Prop := a.k = (0 : Nat) /\ a.i <= a1.g.length /\ MaxR (loO a1.g a1.t a.i (0 : Nat)) (loQ a1.g a1.t) a.lo /\ BJY a1 a
abbrev BDF (a : FwS) (a1 : GT) : Prop := (↑a.i : Int) < (↑a1.g.length : Int)
abbrev Iw (a : FwS) (a1 : GT) : Prop := (0 : Int) <= (↑a.i : Int) /\ BDF a a1
abbrev OZ (a : FwS) (a1 : FwS) : Prop := (↑a.i : Int) = (↑a1.i : Int)
abbrev AUJ (a : FwS) (a1 : FwS) (a2 : GT) : Prop := a.hi.n = a1.hi.n /\ a.hi.d = a1.hi.d /\ (gD a2.g a.i).hi = (gD a2.g a1.i).hi /\ Int.ofNat (1 : Nat) = Int.ofNat (1 : Nat)
abbrev Na (a : GT) (a1 : FwS) : Nat := a.g.length - a1.i
abbrev oF (a : GT) (a1 : FwS) (a2 : FwS) : Prop := Na a a1 = Na a a2
abbrev ASJ (a : FwS) : Nat := a.i + (1 : Nat)
abbrev AYA (a : GT) (a1 : FwS) : Prop := MaxR (loO a.g a.t a1.i (ASJ a1)) (loQ a.g a.t) a1.lo
abbrev uS (a : FwS) (a1 : GT) (a2 : FwS) : Prop := a.k = (0 : Nat) /\ oF a1 a a2 /\ a.i < a1.g.length /\ AYA a1 a /\ BJY a1 a
abbrev sA (a : FwS) (a1 : GT) (a2 : FwS) : Prop := a.k = (0 : Nat) /\ oF a1 a a2 /\ a.i < a1.g.length /\ AYA a1 a /\ MinR (hiO a1.g a1.t a.i (ASJ a)) (hiQ a1.g a1.t) a.hi
abbrev AUB (a : FwS) (a1 : FwS) : Prop := a.hi.n = a1.hi.n /\ a.hi.d = a1.hi.d
abbrev Kd (a : FwS) (a1 : FwS) : Prop := BN /\ BN /\ BN /\ BN /\ a.lo.n = a1.lo.n /\ a.lo.d = a1.lo.d /\ AUB a a1
abbrev ANQ (a : FwS) : Int := IntKind.i64.wrap ((↑a.i : Int) + (1 : Int))
abbrev rW (a : GT) (a1 : FwS) (a2 : FwS) : Prop := oF a a1 a2 /\ a1.i < a.g.length /\ a1.i < a1.k /\ a1.k <= a.g.length /\ MaxR (loO a.g a.t a1.i a1.k) (loQ a.g a.t) a1.lo /\ MinR (hiO a.g a.t a1.i a1.k) (hiQ a.g
 a.t) a1.hi
abbrev AOK (a : FwS) (a1 : GT) : Prop := (↑a.k : Int) < (↑a1.g.length : Int)
abbrev AOO (a : FwS) (a1 : GT) : Prop := (0 : Int) <= (↑a.k : Int) /\ AOK a a1
abbrev Lv (a : FwS) (a1 : FwS) : Prop := (↑a.k : Int) = IntKind.i64.wrap ((↑a1.k : Int) + (1 : Int))
abbrev AYT (a : GT) (a1 : FwS) : Nat := a.g.length - a1.k
abbrev Jt (a : GT) (a1 : FwS) (a2 : FwS) (a3 : FwS) : Prop := rW a a1 a2 /\ AYT a a1 < AYT a a3
abbrev AZC (a : GT) (a1 : FwS) (a2 : FwS) : Prop := ∃ (a_1 : FwS), (JQ a /\ JV a /\ a.t = a.t /\ OZ a_1 a1 /\ Lv a_1 a1 /\ Kd a_1 a1) /\ Jt a a_1 a2 a1
abbrev pK (a : GT) (a1 : FwS) : Rt := WE (gD a.g a1.i) (gD a.g a1.k) a.t
abbrev pO (a : GT) (a1 : FwS) : Rt := WH (gD a.g a1.i) (gD a.g a1.k) a.t
abbrev BAJ (a : GT) (a1 : FwS) : Bool := UX (pO a a1) a1.hi
abbrev ALJ (a : FwS) (a1 : GT) (a2 : FwS) : Prop := a.lo.n = (pK a1 a2).n
abbrev ATN (a : FwS) (a1 : GT) (a2 : FwS) : Prop := a.lo.d = (pK a1 a2).d
abbrev ARN (a : FwS) (a1 : GT) (a2 : FwS) : Prop := a.hi.n = (pO a1 a2).n /\ a.hi.d = (pO a1 a2).d
theorem CTY (a : GT) : (CQB a) = ((∃ (a_1 : FwS), (JQ a /\ JV a /\ a.t = a.t /\ (↑a_1.i : Int) = (0 : Int) /\ BN /\ BN /\ BN /\ BN /\ a_1.lo.n = (0 : Int) /\ BKM a_1 /\ a_1.hi.n = (200000 :
 Int) /\ BID a_1) /\ AIX a_1 a) /\ ∀ (a_1 : FwS), AIX a_1 a -> bif decide (BDF a_1 a) then (Iw a_1 a /\ Iw a_1 a) /\ (Iw a_1 a /\ bif bif decide ((gD a.g a_1.i).st <= a.t) then UX a_1.lo (Rt.mk
 (gD a.g a_1.i).lo (1 : Int)) else false then ∃ (a_3 : FwS), (JQ a /\ JV a /\ a.t = a.t /\ OZ a_3 a_1 /\ BN /\ BN /\ BN /\ BN /\ a_3.lo.n = (gD a.g a_1.i).lo /\ BKM a_3 /\ AUJ a_3 a_1 a)
 /\ uS a_3 a a_1 else ∃ (a_3 : FwS), (JQ a /\ JV a /\ a.t = a.t /\ OZ a_3 a_1 /\ BN /\ BN /\ BN /\ BN /\ a_3.lo.n = a_1.lo.n /\ a_3.lo.d = a_1.lo.d /\ AUJ a_3 a_1 a) /\ uS a_3 a
 a_1) /\ ∀ (a_3 : FwS), uS a_3 a a_1 -> (Iw a_3 a /\ bif bif decide ((gD a.g a_3.i).st >= a.t) then UX (Rt.mk (gD a.g a_3.i).hi (1 : Int)) a_3.hi else false then ∃ (a_5 : FwS), (JQ a /\ JV a /\ a.t = a.t
 /\ OZ a_5 a_3 /\ BN /\ BN /\ BN /\ BN /\ a_5.lo.n = a_3.lo.n /\ a_5.lo.d = a_3.lo.d /\ a_5.hi.n = (gD a.g a_3.i).hi /\ BID a_5) /\ sA a_5 a a_1 else ∃ (a_5 : FwS), (JQ a /\ JV a /\ a.t =
 a.t /\ OZ a_5 a_3 /\ Kd a_5 a_3) /\ sA a_5 a a_1) /\ ∀ (a_5 : FwS), sA a_5 a a_1 -> (∃ (a_7 : FwS), (JQ a /\ JV a /\ a.t = a.t /\ OZ a_7 a_5 /\ (↑a_7.k : Int) = ANQ a_5 /\ Kd a_7
 a_5) /\ rW a a_7 a_1) /\ ∀ (a_7 : FwS), rW a a_7 a_1 -> bif decide (AOK a_7 a) then (AOO a_7 a /\ Iw a_7 a) /\ bif (gD a.g a_7.k).st == (gD a.g a_7.i).st then AZC a a_7 a_1 else (Iw a_7 a
 /\ AOO a_7 a /\ ((0 : Int) <= (gD a.g a_7.i).st /\ (gD a.g a_7.i).st <= (2000 : Int) /\ (0 : Int) <= (gD a.g a_7.i).lo /\ (gD a.g a_7.i).lo <= (gD a.g a_7.i).hi /\ (gD a.g a_7.i).hi <= (200000 : Int)) /\ ((0 : Int) <= (gD a.g
 a_7.k).st /\ (gD a.g a_7.k).st <= (2000 : Int) /\ (0 : Int) <= (gD a.g a_7.k).lo /\ (gD a.g a_7.k).lo <= (gD a.g a_7.k).hi /\ (gD a.g a_7.k).hi <= (200000 : Int)) /\ (gD a.g a_7.i).st < (gD a.g a_7.k).st /\ (0 : Int) <= a.t /\ a.t <=
 (2000 : Int)) /\ bif UX a_7.lo (pK a a_7) then bif BAJ a a_7 then ∃ (a_9 : FwS), (JQ a /\ JV a /\ a.t = a.t /\ OZ a_9 a_7 /\ Lv a_9 a_7 /\ BN /\ BN /\ BN /\ BN /\ ALJ a_9
 a a_7 /\ ATN a_9 a a_7 /\ ARN a_9 a a_7) /\ Jt a a_9 a_1 a_7 else ∃ (a_9 : FwS), (JQ a /\ JV a /\ a.t = a.t /\ OZ a_9 a_7 /\ Lv a_9 a_7 /\ BN /\ BN /\ BN /\ BN /\ ALJ a_9
 a a_7 /\ ATN a_9 a a_7 /\ AUB a_9 a_7) /\ Jt a a_9 a_1 a_7 else bif BAJ a a_7 then ∃ (a_9 : FwS), (JQ a /\ JV a /\ a.t = a.t /\ OZ a_9 a_7 /\ Lv a_9 a_7 /\ BN /\ BN /\ BN /\
 BN /\ a_9.lo.n = a_7.lo.n /\ a_9.lo.d = a_7.lo.d /\ ARN a_9 a a_7) /\ Jt a a_9 a_1 a_7 else AZC a a_7 a_1 else ∃ (a_9 : FwS), (JQ a /\ JV a /\ a.t = a.t /\ (↑a_9.i : Int) = ANQ a_7 /\ Kd
 a_9 a_7) /\ AIX a_9 a /\ Na a a_9 < Na a a_1 else ((((0 : Int) < a_1.lo.d /\ a_1.lo.d <= (4000000 : Int)) /\ (-2305843009213693952 : Int) <= a_1.lo.n /\ a_1.lo.n <= (2305843009213693952 : Int)) /\ ((0 : Int) <
 a_1.hi.d /\ a_1.hi.d <= (4000000 : Int)) /\ (-2305843009213693952 : Int) <= a_1.hi.n /\ a_1.hi.n <= (2305843009213693952 : Int)) /\ (FU a.g a.t).lo.n = (CT a_1.lo).n /\ (FU a.g a.t).lo.d = (CT a_1.lo).d /\ (FU a.g
 a.t).hi.n = (CT a_1.hi).n /\ (FU a.g a.t).hi.d = (CT a_1.hi).d) := by kernel_rfl
def C_rFlow : Ctr := { α := GBt, xs := xGBt, L := λ _ => [], val := λ a => .tup [.d (eBnd (AU a)), .int (BD a)], keep := λ _ => [], pre := λ a => [a.g.length < 1073741824 /\ a.b.length < 1073741824] }
def BTV : Ann := ann 33 [(ZC, C_rAsk.spec dGB), (Fi, Mi), (Xc, C_rPart.spec dIX), (ACP, C_rIns.spec dGBI), (qT, C_rPb.spec JM), (AUE, C_rFw.spec dGT)]
def BUL (a : GBt) : Prop := AN Try.prog BTV BGQ (AF BGQ) (xGBt a) (AC []) (C_rFlow.val a) [] [] []
abbrev Ca (a : GBt) : List Gau := AE a.g.length λ (i : Nat) => gD a.g i
abbrev Ya (a : GBt) : Nat := (Ca a).length
abbrev X9 (a : GBt) : Prop := Ya a = a.g.length
abbrev Vj (a : GBt) (i : Nat) : Gau := gD (Ca a) i
abbrev R7 (a : GBt) : Prop := ∀ (i : Nat), i < Ya a -> (Vj a i).st = (gD a.g i).st /\ (Vj a i).lo = (gD a.g i).lo /\ (Vj a i).hi = (gD a.g i).hi
abbrev QY (a : GBt) : List Int := AE a.b.length λ (i : Nat) => gD a.b i
abbrev Ub (a : GBt) : Nat := (QY a).length
abbrev Xm (a : GBt) : Prop := Ub a = a.b.length
abbrev Vs (a : GBt) : Prop := ∀ (i : Nat), i < Ub a -> gD (QY a) i = gD a.b i
abbrev ACJ (a : GBt) : Prop := Ub a < 1073741824
abbrev eS (a : GBt) : Prop := Ya a < 1073741824 /\ ACJ a
abbrev Zs (a : GBt) : Int := AH (GB.mk (Ca a) (QY a))
abbrev Dm (a : GBt) : Prop := (AU a).lo.n = 0
abbrev Ec (a : GBt) : Prop := (AU a).lo.d = 0
abbrev Ic (a : GBt) : Prop := (AU a).hi.n = 0
abbrev Dk (a : GBt) : Prop := (AU a).hi.d = 0
abbrev Gb (a : GBt) : Nat := ET (QY a) a.t
abbrev dK (a : GBt) : List Gau := DP (Ca a) (QY a) (↑(Gb a) : Int)
abbrev jB (a : GBt) : Nat := (dK a).length
abbrev SQ (a : GBt) (i : Nat) : Gau := gD (dK a) i
abbrev OG (a : GBt) : List Gau := AE (jB a) λ (i : Nat) => SQ a i
abbrev Fm (a : GBt) : Nat := (OG a).length
abbrev nM (a : GBt) : Prop := Fm a = jB a
abbrev aQ (i : Nat) (a : GBt) : Prop := i < Fm a
abbrev Cp (a : GBt) (i : Nat) : Gau := gD (OG a) i
abbrev Dp (a : GBt) (i : Nat) : Int := (Cp a i).st
abbrev dI (a : GBt) : Prop := ∀ (i : Nat), aQ i a -> Dp a i = (SQ a i).st /\ (Cp a i).lo = (SQ a i).lo /\ (Cp a i).hi = (SQ a i).hi
abbrev jF (a : GBt) : Prop := Fm a < 1073741824
abbrev mU (g : Gau) (a : GBt) : Prop := List.Mem g (OG a)
abbrev aD (a : GBt) : Prop := ∀ (g : Gau), mU g a -> 0 <= g.st /\ g.st <= 2000 /\ 0 <= g.lo /\ g.lo <= g.hi /\ g.hi <= 200000
abbrev fV (a : GBt) : Prop := ∀ (i j : Nat), i <= j -> aQ j a -> Dp a i <= Dp a j
abbrev nI (a : GBt) : Bnd := FU (OG a) a.t
abbrev dH (a : GBt) : Rt := (nI a).lo
abbrev mY (a : GBt) : Rt := (nI a).hi
theorem CBB (a : GBt) : (BUL a) = ((X9 a /\ R7 a /\ Xm a /\ Vs a /\ eS a) /\ bif Zs a != 0 then Dm a /\ Ec a /\ Ic a /\ Dk a /\ BD a =
 Zs a else bif !BY a.t 0 2000 then Dm a /\ Ec a /\ Ic a /\ Dk a /\ BD a = 4 else (Xm a /\ Vs a /\ a.t = a.t /\ (ACJ a /\ True) /\ X9 a /\ R7 a /\
 Xm a /\ Vs a /\ (↑(Gb a) : Int) = (↑(Gb a) : Int) /\ eS a) /\ (nM a /\ dI a /\ jF a /\ aD a /\ fV a) /\ bif !HV (OG a) then Dm a /\
 Ec a /\ Ic a /\ Dk a /\ BD a = 6 else (nM a /\ dI a /\ a.t = a.t /\ jF a /\ aD a /\ fV a /\ (∃ (x : Ln), (0 <= x.a0 /\ x.a0 < x.b0 /\ x.b0 <= 2000 /\ 0 <= x.a1 /\ x.a1 <=
 x.b1 /\ x.b1 <= 200000) /\ ∀ (g : Gau), mU g a -> g.lo * (CH x).w <= (CH x).num g.st /\ (CH x).num g.st <= g.hi * (CH x).w) /\ 0 <= a.t /\ a.t <= 2000) /\ (AU a).lo.n = (dH a).n /\ (AU a).lo.d = (dH
 a).d /\ (AU a).hi.n = (mY a).n /\ (AU a).hi.d = (mY a).d /\ BD a = 0) := by kernel_rfl
structure RcA where
 a : GBt
 u : Bool
 x : Ln
def dRcA : List AVal -> Heap -> Option (RcA × List (Nat × Nat) × List Nat)
 | [x, y, .d t, .d u, .d z], H => match Bc x H, XT y H with
  | some (l, f), some (m, e) => some (⟨⟨l, m, DH t⟩, CPR u, dLn z⟩, [], f ++ e)
  | _, _ => none
 | _, _ => none
def Ut (a : RcA) : List Gau := DP a.a.g a.a.b (ET a.a.b a.a.t)
def C_rRch : Ctr := { α := RcA, xs := λ a => [.d (AS a.a.g), .d (BC a.a.b), .int a.a.t, .bool a.u, .d (eLn a.x)], val := λ _ => .bool true, pre := λ a => [(a.a.g.length < 1073741824 /\ a.a.b.length < 1073741824) /\ BD a.a = 0 /\ DR a.x /\ (∀ g ∈ Ut a, BJ a.x g = true) /\ CT (ER a.x a.a.t) = (bif a.u then (AU a.a).hi else (AU a.a).lo)] }
def rc6 (a : RcA) : Shape := { α := Nat, dflt := 0, T := λ i => ⟨[(2, .int a.a.t), (3, .bool a.u), (9, .bptr 1000 0), (11, .bptr 2112 0), (13, .d (AS (Ut a))), (14, .int i)], [(1000, .live (.box [.int a.x.a0, .int a.x.a1, .int a.x.b0, .int a.x.b1])), (2112, .live (.box [.int (AU a.a).lo.n, .int (AU a.a).lo.d, .int (AU a.a).hi.n, .int (AU a.a).hi.d]))]⟩, inv := λ i => i <= (Ut a).length, meas := λ i => (Ut a).length - i }
def CBR (a : RcA) : Ann := { ann 83 [(wX, C_rFlow.spec Yi), (ALQ, BNW), (Xc, C_rPart.spec dIX), (ACP, C_rIns.spec dGBI), (BRT, APN), (Ok, gX), (AIH, BIK)] with loops := λ id => if id = 6 then some [rc6 a] else none }
def CDY (a : RcA) : Prop := AN Try.prog (CBR a) BQO (AF BQO) (C_rRch.xs a) (AC []) (.bool true) [] [] []
abbrev Pd (a : RcA) : List Gau := AE a.a.g.length λ (i : Nat) => gD a.a.g i
abbrev vB (a : RcA) : Nat := (Pd a).length
abbrev AMT (a : RcA) : Prop := vB a = a.a.g.length
abbrev sW (a : RcA) (i : Nat) : Gau := gD (Pd a) i
abbrev AVD (a : RcA) : Prop := ∀ (i : Nat), i < vB a -> (sW a i).st = (gD a.a.g i).st /\ (sW a i).lo = (gD a.a.g i).lo /\ (sW a i).hi = (gD a.a.g i).hi
abbrev WO (a : RcA) : List Int := AE a.a.b.length λ (i : Nat) => gD a.a.b i
abbrev vC (a : RcA) : Nat := (WO a).length
abbrev oW (a : RcA) : Prop := vC a = a.a.b.length
abbrev xC (a : RcA) : Prop := ∀ (i : Nat), i < vC a -> gD (WO a) i = gD a.a.b i
abbrev AQW (a : RcA) : Prop := vC a < 1073741824
abbrev A9 (a : RcA) : Prop := vB a < 1073741824 /\ AQW a
abbrev Y0 (a : RcA) : GBt := GBt.mk (Pd a) (WO a) a.a.t
abbrev Sj (a : RcA) : Nat := ET (WO a) a.a.t
abbrev S0 (a : RcA) : List Gau := DP (Pd a) (WO a) (↑(Sj a) : Int)
abbrev Qt (a : RcA) (i : Nat) : Gau := gD (S0 a) i
abbrev G6 (a : RcA) : Bnd := AU (Y0 a)
abbrev P5 (a : RcA) : Rt := (G6 a).lo
abbrev zE (a : RcA) : Rt := (G6 a).hi
abbrev V8 (a : Nat) (a1 : RcA) : Prop := (↑a : Int) < (↑(Ut a1).length : Int)
abbrev Rf (a : Nat) (a1 : RcA) : Prop := 0 <= (↑a : Int) /\ V8 a a1
abbrev B9 (a : RcA) : Prop := 0 <= a.x.a0 /\ a.x.a0 < a.x.b0 /\ a.x.b0 <= 2000 /\ 0 <= a.x.a1 /\ a.x.a1 <= a.x.b1 /\ a.x.b1 <= 200000
abbrev M8 (a : RcA) (a1 : Nat) : Rt := ER a.x (gD (Ut a) a1).st
abbrev L0 (a : RcA) (a1 : Nat) : Bool := UX (M8 a a1) (Rt.mk (gD (Ut a) a1).lo 1)
abbrev AAS (a : RcA) (a1 : Nat) : Nat := (Ut a).length - a1
abbrev ACR (a : RcA) : Prop := B9 a /\ (0 <= a.a.t /\ a.a.t <= 2000) /\ (0 < (ER a.x a.a.t).d /\ (ER a.x a.a.t).d <= 4000000) /\ -2305843009213693952 <= (ER a.x a.a.t).n /\ (ER a.x a.a.t).n <=
 2305843009213693952
theorem CKC (a : RcA) : (CDY a) = ((AMT a /\ AVD a /\ oW a /\ xC a /\ a.a.t = a.a.t /\ A9 a) /\ bif bif BD (Y0 a) != 0 then true else !SK a.x then true = false else (oW a /\
 xC a /\ a.a.t = a.a.t /\ (AQW a /\ True) /\ AMT a /\ AVD a /\ oW a /\ xC a /\ (↑(Sj a) : Int) = (↑(Sj a) : Int) /\ A9 a) /\ (∃ (a_1 : Nat), (a.a.t = a.a.t /\ a.u = a.u /\ (Ut
 a).length = (S0 a).length /\ (∀ (i : Nat), i < (Ut a).length -> (gD (Ut a) i).st = (Qt a i).st /\ (gD (Ut a) i).lo = (Qt a i).lo /\ (gD (Ut a) i).hi = (Qt a i).hi) /\ (↑a_1 : Int) = 0 /\ a.x.a0
 = a.x.a0 /\ a.x.a1 = a.x.a1 /\ a.x.b0 = a.x.b0 /\ a.x.b1 = a.x.b1 /\ (AU a.a).lo.n = (P5 a).n /\ (AU a.a).lo.d = (P5 a).d /\ (AU a.a).hi.n = (zE a).n /\ (AU a.a).hi.d = (zE a).d) /\ a_1.le
 (Ut a).length) /\ ∀ (a_1 : Nat), a_1.le (Ut a).length -> bif decide (V8 a_1 a) then (Rf a_1 a /\ B9 a /\ 0 <= (gD (Ut a) a_1).st /\ (gD (Ut a) a_1).st <= 2000) /\ (Rf a_1 a /\ ((!L0 a a_1) =
 true -> Rf a_1 a)) /\ bif bif L0 a a_1 then true else UX (Rt.mk (gD (Ut a) a_1).hi 1) (M8 a a_1) then true = false else ∃ (a_3 : Nat), (a.a.t = a.a.t /\ a.u = a.u /\ (Ut a).length = (Ut a).length /\
 (∀ (i : Nat), i < (Ut a).length -> (gD (Ut a) i).st = (gD (Ut a) i).st /\ (gD (Ut a) i).lo = (gD (Ut a) i).lo /\ (gD (Ut a) i).hi = (gD (Ut a) i).hi) /\ (↑a_3 : Int) = IntKind.i64.wrap ((↑a_1 : Int) + 1) /\ a.x.a0 =
 a.x.a0 /\ a.x.a1 = a.x.a1 /\ a.x.b0 = a.x.b0 /\ a.x.b1 = a.x.b1 /\ (AU a.a).lo.n = (AU a.a).lo.n /\ (AU a.a).lo.d = (AU a.a).lo.d /\ (AU a.a).hi.n = (AU a.a).hi.n /\ (AU a.a).hi.d = (AU a.a).hi.d) /\
 a_3.le (Ut a).length /\ AAS a a_3 < AAS a a_1 else bif a.u then ACR a /\ true = ((CT (ER a.x a.a.t)).n == (AU a.a).hi.n && ((CT (ER a.x a.a.t)).d == (AU a.a).hi.d && true)) else ACR
 a /\ true = ((CT (ER a.x a.a.t)).n == (AU a.a).lo.n && ((CT (ER a.x a.a.t)).d == (AU a.a).lo.d && true))) := by kernel_rfl
theorem CWB (a : GT) (h : a.g.length < 1073741824) (ho : ∀ g ∈ a.g, DJ g) (ha : jU a.g) (hc : Can a.g) (ht : 0 <= a.t /\ a.t <= 2000) : CQB a := by
 rw [CTY]; delta JQ JV BN BKM BID BJY AIX BDF Iw OZ AUJ Na oF ASJ AYA uS sA AUB Kd ANQ rW AOK AOO Lv AYT Jt AZC pK pO BAJ ALJ ATN ARN; simp only [CC, eq_self, implies_true, forall_const]
 have lo1 : ∀ (x : FwS), (x.i : Int) < a.g.length -> MaxR (loO a.g a.t x.i 0) (loQ a.g a.t) x.lo -> ∀ c : Bool, (bif decide ((gD a.g x.i).st <= a.t) then UX x.lo ⟨(gD a.g x.i).lo, 1⟩ else false) = c -> MaxR (loO a.g a.t x.i (x.i + 1)) (loQ a.g a.t) (bif c then ⟨(gD a.g x.i).lo, 1⟩ else x.lo) := λ x hx hm c hcc => by
  have := CRG ho (show x.i < a.g.length by omega) hm
  rw [show (bif decide ((gD a.g x.i).st <= a.t) then PI x.lo ⟨(gD a.g x.i).lo, 1⟩ else false) = c from hcc] at this
  exact this
 have hi1 : ∀ (x : FwS), x.i < a.g.length -> MinR (hiO a.g a.t x.i 0) (hiQ a.g a.t) x.hi -> ∀ c : Bool, (bif decide ((gD a.g x.i).st >= a.t) then UX ⟨(gD a.g x.i).hi, 1⟩ x.hi else false) = c -> MinR (hiO a.g a.t x.i (x.i + 1)) (hiQ a.g a.t) (bif c then ⟨(gD a.g x.i).hi, 1⟩ else x.hi) := λ x hx hm c hcc => by
  have := CSJ ho hx hm
  rw [show (bif decide ((gD a.g x.i).st >= a.t) then PI ⟨(gD a.g x.i).hi, 1⟩ x.hi else false) = c from hcc] at this
  exact this
 have Ym : ∀ (w : FwS), (w.k : Int) < a.g.length -> ((gD a.g w.k).st == (gD a.g w.i).st) = false -> w.i < w.k -> (gD a.g w.i).st < (gD a.g w.k).st := λ w h1 h2 h3 => by
  have e1 := ha w.i w.k (by omega) (by omega)
  have e2 : ¬(gD a.g w.k).st = (gD a.g w.i).st := by simpa using h2
  omega
 have lo2 : ∀ (w : FwS), (w.k : Int) < a.g.length -> ((gD a.g w.k).st == (gD a.g w.i).st) = false -> w.i < w.k -> MaxR (loO a.g a.t w.i w.k) (loQ a.g a.t) w.lo -> ∀ c : Bool, UX w.lo (WE (gD a.g w.i) (gD a.g w.k) a.t) = c -> MaxR (loO a.g a.t w.i (w.k + 1)) (loQ a.g a.t) (bif c then WE (gD a.g w.i) (gD a.g w.k) a.t else w.lo) := λ w h1 h2 h3 hm c hcc => by
  have := CTU ho ht h3 (by omega) (Ym w h1 h2 h3) hm
  rw [show PI w.lo (WE (gD a.g w.i) (gD a.g w.k) a.t) = c from hcc] at this
  exact this
 have hi2 : ∀ (w : FwS), (w.k : Int) < a.g.length -> ((gD a.g w.k).st == (gD a.g w.i).st) = false -> w.i < w.k -> MinR (hiO a.g a.t w.i w.k) (hiQ a.g a.t) w.hi -> ∀ c : Bool, UX (WH (gD a.g w.i) (gD a.g w.k) a.t) w.hi = c -> MinR (hiO a.g a.t w.i (w.k + 1)) (hiQ a.g a.t) (bif c then WH (gD a.g w.i) (gD a.g w.k) a.t else w.hi) := λ w h1 h2 h3 hm c hcc => by
  have := CRC ho ht h3 (by omega) (Ym w h1 h2 h3) hm
  rw [show PI (WH (gD a.g w.i) (gD a.g w.k) a.t) w.hi = c from hcc] at this
  exact this
 refine ⟨⟨⟨0, 0, ⟨0, 1⟩, ⟨200000, 1⟩⟩, ⟨rfl, rfl, rfl, rfl, rfl⟩, rfl, Nat.zero_le _, CVN _ _⟩, λ x ⟨x1, x2, x3, x4⟩ => ⟨λ hlt => ⟨⟨by omega, by omega⟩, ⟨⟨by omega, by omega⟩, λ c => ⟨⟨x.i, 0, ⟨(gD a.g x.i).lo, 1⟩, x.hi⟩, ⟨rfl, rfl, rfl, rfl, rfl, rfl⟩, rfl, rfl, by show x.i < _; omega, lo1 x hlt x3 true c, x4⟩, λ c => ⟨⟨x.i, 0, x.lo, x.hi⟩, ⟨rfl, rfl, rfl, rfl, rfl, rfl⟩, rfl, rfl, by show x.i < _; omega, lo1 x hlt x3 false c, x4⟩⟩, λ y ⟨y1, y2, y3, y4, y5⟩ => ⟨⟨⟨by omega, by omega⟩, λ c => ⟨⟨y.i, 0, y.lo, ⟨(gD a.g y.i).hi, 1⟩⟩, ⟨rfl, rfl, rfl, rfl, rfl⟩, rfl, y2, y3, y4, hi1 y y3 y5 true c⟩, λ c => ⟨⟨y.i, 0, y.lo, y.hi⟩, ⟨rfl, rfl, rfl, rfl, rfl⟩, rfl, y2, y3, y4, hi1 y y3 y5 false c⟩⟩, λ z ⟨z1, z2, z3, z4, z5⟩ => ⟨⟨⟨z.i, z.i + 1, z.lo, z.hi⟩, ⟨rfl, (BF (by omega)).symm, rfl, rfl, rfl, rfl⟩, z2, z3, Nat.lt_succ_self _, by show z.i + 1 <= _; omega, z4, z5⟩, λ w ⟨w1, w2, w3, w4, w5, w6⟩ => ⟨λ hlt2 => ⟨⟨⟨by omega, by omega⟩, by omega, by omega⟩, λ ce => ?_, λ ce => ⟨⟨⟨by omega, by omega⟩, ⟨by omega, by omega⟩, ho _ (BM w2), ho _ (BM (by omega)), Ym w hlt2 ce w3, ht⟩, λ c => ⟨λ d => ⟨⟨w.i, w.k + 1, WE (gD a.g w.i) (gD a.g w.k) a.t, WH (gD a.g w.i) (gD a.g w.k) a.t⟩, ⟨rfl, (BF (by omega)).symm, rfl, rfl, rfl, rfl⟩, ⟨w1, w2, Nat.lt_succ_of_lt w3, by show w.k + 1 <= _; omega, lo2 w hlt2 ce w3 w5 true c, hi2 w hlt2 ce w3 w6 true d⟩, by show a.g.length - (w.k + 1) < _; omega⟩, λ d => ⟨⟨w.i, w.k + 1, WE (gD a.g w.i) (gD a.g w.k) a.t, w.hi⟩, ⟨rfl, (BF (by omega)).symm, rfl, rfl, rfl, rfl⟩, ⟨w1, w2, Nat.lt_succ_of_lt w3, by show w.k + 1 <= _; omega, lo2 w hlt2 ce w3 w5 true c, hi2 w hlt2 ce w3 w6 false d⟩, by show a.g.length - (w.k + 1) < _; omega⟩⟩, λ c => ⟨λ d => ⟨⟨w.i, w.k + 1, w.lo, WH (gD a.g w.i) (gD a.g w.k) a.t⟩, ⟨rfl, (BF (by omega)).symm, rfl, rfl, rfl, rfl⟩, ⟨w1, w2, Nat.lt_succ_of_lt w3, by show w.k + 1 <= _; omega, lo2 w hlt2 ce w3 w5 false c, hi2 w hlt2 ce w3 w6 true d⟩, by show a.g.length - (w.k + 1) < _; omega⟩, λ d => ⟨⟨w.i, w.k + 1, w.lo, w.hi⟩, ⟨rfl, (BF (by omega)).symm, rfl, rfl, rfl, rfl⟩, ⟨w1, w2, Nat.lt_succ_of_lt w3, by show w.k + 1 <= _; omega, lo2 w hlt2 ce w3 w5 false c, hi2 w hlt2 ce w3 w6 false d⟩, by show a.g.length - (w.k + 1) < _; omega⟩⟩⟩⟩, λ hge => ⟨⟨w.i + 1, 0, w.lo, w.hi⟩, ⟨(BF (by omega)).symm, rfl, rfl, rfl, rfl⟩, ⟨rfl, by show w.i + 1 <= _; omega, ?_⟩, by show a.g.length - (w.i + 1) < _; omega⟩⟩⟩⟩⟩, λ hge => ?_⟩⟩
 ·have e : (gD a.g w.k).st = (gD a.g w.i).st := by simpa using ce
  have := CEW w3 e ⟨w5, w6⟩
  exact ⟨⟨w.i, w.k + 1, w.lo, w.hi⟩, ⟨rfl, (BF (by omega)).symm, rfl, rfl, rfl, rfl⟩, ⟨w1, w2, Nat.lt_succ_of_lt w3, by show w.k + 1 <= _; omega, this⟩, by show a.g.length - (w.k + 1) < _; omega⟩
 ·have e : w.k = a.g.length := by omega
  rw [e] at w5 w6
  exact CGN ⟨w5, w6⟩
 ·have e : x.i = a.g.length := by omega
  rw [e] at x3 x4
  have E := CTX ho ha ht hc ⟨x3, x4⟩
  have l0 := x3.low.1
  have h0 := x4.low.1
  obtain ⟨b1, b2, b3⟩ := x3.b
  obtain ⟨d1, d2, d3⟩ := x4.b
  rw [<- E]
  exact ⟨⟨⟨⟨l0, by omega⟩, by omega, by omega⟩, ⟨h0, by omega⟩, by omega, by omega⟩, rfl, rfl, rfl, rfl⟩
theorem BRY : AG Try.prog AUE (C_rFw.spec dGT) := HR C_rFw COD [] [] CMY (λ _ => by kernel_rfl) (λ _ => AB rB (AB CEL (AB BNB AD))) (λ (a : GT) h => CWB a h.1 h.2.1 h.2.2.1 h.2.2.2.1 h.2.2.2.2) (λ _ => IN rfl rfl) _
theorem CMT (a : GBt) (h1 : a.g.length < 1073741824) (h2 : a.b.length < 1073741824) : BUL a := by
 rw [CBB]; delta Ca Ya X9 Vj R7 QY Ub Xm Vs ACJ eS Zs Dm Ec Ic Dk Gb dK jB SQ OG Fm nM aQ Cp Dp dI jF mU aD fV nI dH mY; simp only [CC, eq_self, implies_true, forall_const, show GB.mk a.g a.b = GA a from rfl]
 have hd : ¬BD a = 0 -> AU a = default := λ h => by unfold AU; rw [show (BD a == 0) = false by simpa using h]; rfl
 have hl := Oc a.g a.b (ET a.b a.t)
 refine ⟨⟨h1, h2⟩, λ hE => ?_, λ hE => ⟨λ hT => ?_, λ hT => ?_⟩⟩
 ·have e : BD a = AH (GA a) := by unfold BD; rw [show (AH (GA a) == 0) = false by simpa using hE]; rfl
  rw [hd (by rw [e]; simpa using hE)]; exact ⟨rfl, rfl, rfl, rfl, e⟩
 ·have e : BD a = 4 := by unfold BD; rw [show (AH (GA a) == 0) = true by simpa using hE, show inT a = false from hT]; rfl
  rw [hd (by rw [e]; omega)]; exact ⟨rfl, rfl, rfl, rfl, e⟩
 ·have hE0 : AH (GA a) = 0 := by simpa using hE
  obtain ⟨f1, f2⟩ := CDG hE0 hT
  have ho : ∀ g ∈ DP a.g a.b (ET a.b a.t), DJ g := Rk (UG hE0)
  have ht : 0 <= a.t /\ a.t <= 2000 := by unfold BY at hT; simpa using hT
  refine ⟨⟨h2, h1, h2⟩, ⟨by omega, ho, As _ _ _⟩, λ hp => ?_, λ hp => ⟨⟨by omega, ho, As _ _ _, (ZU ho).1 hp, ht⟩, ?_⟩⟩
  ·have e := f2 hp
   rw [hd (by rw [e]; omega)]; exact ⟨rfl, rfl, rfl, rfl, e⟩
  ·obtain ⟨e, e2⟩ := f1 hp
   rw [e2]; exact ⟨rfl, rfl, rfl, rfl, e⟩
theorem AKE : AG Try.prog wX (C_rFlow.spec Yi) := HR C_rFlow (λ _ => BTV) [] [] CFT (λ _ => by kernel_rfl) (λ _ => AB AGU (AB Uu (AB tC (AB AHK (AB BRP (AB BRY AD)))))) (λ (a : GBt) h => CMT a h.1 h.2) (λ _ => IN rfl rfl) _
theorem CAB {a : GBt} (h : BD a = 0) : AH (GA a) = 0 /\ inT a = true := by
 unfold BD at h
 cases h1 : AH (GA a) == 0 with
 | false => rw [h1] at h; rw [show AH (GA a) = 0 from h] at h1; cases h1
 | true =>
  rw [h1] at h
  cases h2 : inT a with
  | false => rw [h2] at h; cases h
  | true => exact ⟨by simpa using h1, rfl⟩
theorem CSF (a : RcA) (h : (a.a.g.length < 1073741824 /\ a.a.b.length < 1073741824) /\ BD a.a = 0 /\ DR a.x /\ (∀ g ∈ Ut a, BJ a.x g = true) /\ CT (ER a.x a.a.t) = (bif a.u then (AU a.a).hi else (AU a.a).lo)) : CDY a := by
 rw [CKC]; delta Pd vB AMT sW AVD WO vC oW xC AQW A9 Y0 Sj S0 Qt G6 P5 zE V8 Rf B9 M8 L0 AAS ACR; simp only [CC, eq_self, implies_true, forall_const]
 obtain ⟨⟨h1, h2⟩, h3, h4, h5, h6⟩ := h
 have hx : SK a.x = true := by
  obtain ⟨q1, q2, q3, q4, q5, q6⟩ := h4
  unfold SK riP BY
  simp only [Bool.and_eq_true, decide_eq_true_eq]; omega
 obtain ⟨hE, hT⟩ := CAB h3
 have ho : ∀ g ∈ Ut a, DJ g := Rk (UG hE)
 have ht : 0 <= a.a.t /\ a.a.t <= 2000 := by unfold inT BY at hT; simpa using hT
 have hl : (Ut a).length <= a.a.g.length := Oc _ _ _
 rw [show BD (GBt.mk a.a.g a.a.b a.a.t) = 0 from h3, hx]
 have hd := ANX (t := a.a.t) h4
 have hn := CPP h4 ht
 have hq : 0 <= a.x.b0 - a.x.a0 /\ a.x.b0 - a.x.a0 <= 2000 := by obtain ⟨q1, q2, q3, q4, q5, q6⟩ := h4; omega
 refine ⟨⟨h1, h2⟩, λ hc => (by cases hc), λ _ => ⟨⟨h2, h1, h2⟩, ⟨0, ⟨rfl, λ _ _ => ⟨rfl, rfl, rfl⟩, rfl⟩, Nat.zero_le _⟩, λ i hi => ⟨λ hlt => ?_, λ hge => ⟨λ hu => ⟨⟨h4, ht, ⟨hd.1, by omega⟩, hn⟩, ?_⟩, λ hu => ⟨⟨h4, ht, ⟨hd.1, by omega⟩, hn⟩, ?_⟩⟩⟩⟩⟩
 ·have hm := BM (l := Ut a) (show i < (Ut a).length by omega)
  have hg := ho _ hm
  rw [CMA h4 hg, h5 _ hm]
  exact ⟨⟨⟨by omega, by omega⟩, h4, hg.1, hg.2.1⟩, ⟨⟨by omega, by omega⟩, λ _ => ⟨by omega, by omega⟩⟩, λ hc => (by cases hc), λ _ => ⟨i + 1, (BF (by omega)).symm, by omega, by omega⟩⟩
 ·rw [hu] at h6; rw [h6]; simp
 ·rw [hu] at h6; rw [h6]; simp
theorem CMC : AG Try.prog BSD (C_rRch.spec dRcA) := HR C_rRch CBR [] [] CKZ (λ _ => by kernel_rfl) (λ _ => AB AKE (AB BYM (AB tC (AB AHK (AB CLO (AB rB (AB BNB AD))))))) (λ (a : RcA) h => CSF a h) (λ _ => IN rfl rfl) _
end Go.Bal
