/- Package chart: the greatest stages from a time to another one. -/
import Derived.Test.YtdbjalgfomknhaaChI
set_option linter.unusedVariables false
set_option linter.unusedSimpArgs false
namespace Go.Bal
open Go Go.Sym Go.Proofs
structure CZ2 where
 a : CZ
 f : Int
 t : Int
structure IJ where
 i : Nat
 j : Nat
 deriving Inhabited
def dCZ2 : List AVal -> Heap -> Option (CZ2 × List (Nat × Nat) × List Nat)
 | [x, y, .d f, .d t], H => match BVO x H, CBQ y H with
  | some (c, g), some (l, e) => some (⟨⟨c, l⟩, BU f, BU t⟩, [], g ++ e)
  | _, _ => none
 | _, _ => none
def xCZ2 (x : CZ2) : List AVal := [.d (YV x.a.c), .d (CO x.a.z), .int x.f, .int x.t]
def Jy (x : CZ2) : Int := AY x.f (-100000001)
def Jz (x : CZ2) : Int := DX x.t 100000001
def Ju (x : CZ2) (a b : Nat) : Bool := (KF (AH x.a) (winL (CB x.a) (a : Int) (b : Int) (Jy x) (Jz x))).all IL
def IR (x : CZ2) (a b : Nat) : List Span := AE (b + 1 - a) λ i => gD (stgL x.a.c) (a + i)
def pkI (x : CZ2) (a : Nat) (h : Hul) : Nat -> Hul
 | 0 => h
 | k + 1 => bif Ju x a (a + k) then KG (pkI x a h k) ⟨gLo (IR x a (a + k)), gHi (IR x a (a + k))⟩ else pkI x a h k
def Jx (x : CZ2) : Nat -> Hul
 | 0 => zHul
 | a + 1 => bif decide (Jz x >= Jy x) then pkI x a (Jx x a) (x.a.c.ms.length - a) else Jx x a
def PF (x : CZ2) : Span × Int := bif decide (x.t < x.f) then (⟨0, 0⟩, 4) else DS (Jx x x.a.c.ms.length)
def CQ (x : CZ2) : Span × Int := bif AM x.a == 0 then PF x else (⟨0, 0⟩, AM x.a)
def C_Peak : Ctr := { α := CZ2, xs := xCZ2, val := λ x => .tup [.d (BT (CQ x).1), .int (CQ x).2], keep := λ _ => [], pre := λ x => [x.a.c.ms.length < 4611686018427387904 /\ x.a.c.ns.length < 4611686018427387904 /\ x.a.z.length < 4611686018427387904] }
def pkS (x : CZ2) (a : Nat) : List (Nat × AVal) := [(2, .int (Jy x)), (3, .int (Jz x)), (8, .bptr 202 0), (10, .bptr 208 0), (11, .d (AV (CB x.a))), (12, .d (AV (stgL x.a.c))), (14, .bptr 206 0), (42, .int x.a.c.ms.length), (43, .int a)]
def pkH (x : CZ2) (h : Hul) : List (Nat × HCell) := [(202, .live (.box [.int 0, .int 0])), (206, .live (hlB h)), (208, .live (dkB (AH x.a) 209)), (209, .live (dkM (AH x.a)))]
def pk9 (x : CZ2) : Shape := { α := Nat, dflt := 0, T := λ a => ⟨pkS x a, pkH x (Jx x a)⟩, inv := λ a => a <= x.a.c.ms.length, meas := λ a => x.a.c.ms.length - a, first := [(202, 1016), (206, 8000), (208, 2032), (209, 2033)] }
def pk12 (x : CZ2) (m : Nat) : Shape := { α := IJ, dflt := default, T := λ s => ⟨[(15, .int s.i), (16, .int s.j)] ++ pkS x s.i, pkH x (pkI x s.i (Jx x s.i) (s.j - s.i))⟩, inv := λ s => s.i < x.a.c.ms.length /\ x.a.c.ms.length - s.i = m /\ s.i <= s.j /\ s.j <= x.a.c.ms.length /\ (s.i < s.j -> Jz x >= Jy x), meas := λ s => x.a.c.ms.length - s.j }
def CIJ (x : CZ2) : Ann := { ann 91 [(TA, C_rdO.spec dCZ), (ARG, C_win.spec dDkW), (TR, C_nar.spec dDkS), (BKT, C_least.spec dN0c), (CAM, C_most.spec dN0c), (Ij, orS (C_grL.spec CQK) (C_grH.spec CSU)), (AJH, C_hadd.spec dHuS), (vG, C_who.spec dHu1)] with loops := λ id => if id = 9 then some [pk9 x] else none, inner := λ gs id => if id = 12 then some [pk12 x (gs.getD 0 0)] else none }
def CDR : Ann := ann 91 [(TA, C_rdX.spec dCZ)]
def CHE (x : CZ2) : Prop := AW Try.prog (CIJ x) AZN (AK AZN) (xCZ2 x) (AF []) (.tup [.d (BT (PF x).1), .int (PF x).2]) [] [] []
abbrev H6 (x : CZ2) : List Mk := AE x.a.c.ms.length λ (i : Nat) => gD x.a.c.ms i
abbrev wW (x : CZ2) : Nat := (H6 x).length
abbrev BAA (x : CZ2) (i : Nat) : Mk := gD (H6 x) i
abbrev F6 (x : CZ2) : List Nt := AE x.a.c.ns.length λ (i : Nat) => gD x.a.c.ns i
abbrev xV (x : CZ2) : Nat := (F6 x).length
abbrev xO (x : CZ2) (i : Nat) : Nt := gD (F6 x) i
abbrev AZH (x : CZ2) (i : Nat) : Span := (xO x i).t
abbrev ATE (x : CZ2) (i : Nat) : Span := (xO x i).s
abbrev G2 (x : CZ2) : List Int := AE x.a.z.length λ (i : Nat) => gD x.a.z i
abbrev xG (x : CZ2) : Nat := (G2 x).length
abbrev L9 (x : CZ2) : Cht := Cht.mk x.a.c.p x.a.c.base x.a.c.scale x.a.c.off (H6 x) (F6 x)
abbrev U8 (x : CZ2) : CZ := CZ.mk (L9 x) (G2 x)
abbrev YZ (x : CZ2) : Dk := AH (U8 x)
abbrev AHU (x : CZ2) : List Span := (AU (YZ x)).fst
abbrev T1 (x : CZ2) : Nat := (AHU x).length
abbrev AFV (x : CZ2) (i : Nat) : Span := gD (AHU x) i
abbrev O8 (x : CZ2) : List Span := stgL (L9 x)
abbrev AHH (i : Nat) (x : CZ2) : Prop := i < (stgL x.a.c).length
abbrev R6 (x : CZ2) (i : Nat) : Span := gD (O8 x) i
abbrev FM : Prop := Int.ofNat (0 : Nat) = Int.ofNat (0 : Nat)
abbrev NA (x : CZ2) : Cht := (YZ x).c
abbrev AAG (x : CZ2) : Span := (NA x).p
abbrev AAE (x : CZ2) : List Mk := (NA x).ms
abbrev fC (i : Nat) (x : CZ2) : Prop := i < (AH x.a).c.ms.length
abbrev RM (x : CZ2) (i : Nat) : Int := (gD (AH x.a).c.ms i).pl
abbrev ACD (x : CZ2) (i : Nat) : Mk := gD (AAE x) i
abbrev QT (x : CZ2) (i : Nat) : Int := (gD (AH x.a).c.ms i).ht
abbrev Ar (x : CZ2) : List Nt := (NA x).ns
abbrev cN (i : Nat) (x : CZ2) : Prop := i < (AH x.a).c.ns.length
abbrev QB (x : CZ2) (i : Nat) : Int := (gD (AH x.a).c.ns i).mi
abbrev fA (x : CZ2) (i : Nat) : Nt := gD (Ar x) i
abbrev ACM (x : CZ2) (i : Nat) : Span := (gD (AH x.a).c.ns i).t
abbrev RN (x : CZ2) (i : Nat) : Int := (ACM x i).lo
abbrev AIR (x : CZ2) (i : Nat) : Span := (fA x i).t
abbrev QI (x : CZ2) (i : Nat) : Int := (ACM x i).hi
abbrev R8 (x : CZ2) (i : Nat) : Span := (gD (AH x.a).c.ns i).s
abbrev QV (x : CZ2) (i : Nat) : Int := (R8 x i).lo
abbrev ADO (x : CZ2) (i : Nat) : Span := (fA x i).s
abbrev QA (x : CZ2) (i : Nat) : Int := (R8 x i).hi
abbrev Zx (x : CZ2) (n : Int) : Nt := ntOf (Ar x) n
abbrev Q3 (x : CZ2) (n : Int) : Span := (Zx x n).t
abbrev ACL (x : CZ2) (n : Int) : Span := (Zx x n).s
abbrev ABE (a : IJ) (a1 : Nat) : Prop := (↑a.i : Int) = (↑a1 : Int)
abbrev Ay (x : CZ2) : Prop := (CB x.a).length = (CB x.a).length
abbrev ZS (x : CZ2) : Prop := ∀ (i : Nat), i < (CB x.a).length -> (gD (CB x.a) i).lo = (gD (CB x.a) i).lo /\ (gD (CB x.a) i).hi = (gD (CB x.a) i).hi
abbrev ZP (x : CZ2) : Prop := (stgL x.a.c).length = (stgL x.a.c).length
abbrev Aq (x : CZ2) : Prop := ∀ (i : Nat), AHH i x -> (gD (stgL x.a.c) i).lo = (gD (stgL x.a.c) i).lo /\ (gD (stgL x.a.c) i).hi = (gD (stgL x.a.c) i).hi
abbrev Cb (x : CZ2) : Prop := (↑x.a.c.ms.length : Int) = (↑x.a.c.ms.length : Int)
abbrev AJR (x : CZ2) (a : IJ) : Hul := pkI x a.i (Jx x a.i) (a.j - a.i)
abbrev Yv (x : CZ2) (a : IJ) : Span := (AJR x a).s
abbrev JN (x : CZ2) (a : IJ) : Int := (Yv x a).lo
abbrev JU (x : CZ2) (a : IJ) : Int := (Yv x a).hi
abbrev IF (x : CZ2) (a : IJ) : Bool := (AJR x a).m
abbrev QL (x : CZ2) : Prop := (AH x.a).c.p.lo = (AH x.a).c.p.lo
abbrev QC (x : CZ2) : Prop := (AH x.a).c.p.hi = (AH x.a).c.p.hi
abbrev QM (x : CZ2) : Prop := (AH x.a).c.base = (AH x.a).c.base
abbrev RL (x : CZ2) : Prop := (AH x.a).c.scale = (AH x.a).c.scale
abbrev QD (x : CZ2) : Prop := (AH x.a).c.off = (AH x.a).c.off
abbrev QF (x : CZ2) : Prop := ∀ (i : Nat), i < (40 : Nat) -> (AH x.a).sp i = (AH x.a).sp i
abbrev PS (x : CZ2) : Prop := ∀ (n : Int), (AH x.a).st n = (AH x.a).st n
abbrev ZI (x : CZ2) : Prop := QL x /\ QC x /\ QM x /\ RL x /\ QD x /\ (AH x.a).c.ms.length = (AH x.a).c.ms.length /\ (∀ (i : Nat), fC i x -> RM x i = RM x i /\
 QT x i = QT x i) /\ (AH x.a).c.ns.length = (AH x.a).c.ns.length /\ (∀ (i : Nat), cN i x -> QB x i = QB x i /\ RN x i = RN x i /\ QI x i = QI x i /\ QV x
 i = QV x i /\ QA x i = QA x i) /\ QF x /\ AT = AT /\ (∀ (n : Int), hasN (AH x.a).c.ns n = hasN (AH x.a).c.ns n) /\ PS x /\ ∀ (n : Int), (ntOf (AH x.a).c.ns n).mi = (ntOf (AH
 x.a).c.ns n).mi /\ (ntOf (AH x.a).c.ns n).t.lo = (ntOf (AH x.a).c.ns n).t.lo /\ (ntOf (AH x.a).c.ns n).t.hi = (ntOf (AH x.a).c.ns n).t.hi /\ (ntOf (AH x.a).c.ns n).s.lo = (ntOf (AH x.a).c.ns n).s.lo /\ (ntOf
 (AH x.a).c.ns n).s.hi = (ntOf (AH x.a).c.ns n).s.hi
abbrev dO (x : CZ2) (a : Nat) : Nat := x.a.c.ms.length - a
abbrev cM (a : IJ) (x : CZ2) (a1 : Nat) : Prop := a.i < x.a.c.ms.length /\ x.a.c.ms.length - a.i = dO x a1 /\ a.i <= a.j /\ a.j <= x.a.c.ms.length /\ (a.i < a.j -> Jz x >= Jy x)
abbrev aZ (x : CZ2) : List Span := AE (CB x.a).length λ (i : Nat) => gD (CB x.a) i
abbrev LQ (x : CZ2) : Nat := (aZ x).length
abbrev AFI (x : CZ2) (i : Nat) : Span := gD (aZ x) i
abbrev Zr (x : CZ2) : List Mk := AE (AH x.a).c.ms.length λ (i : Nat) => gD (AH x.a).c.ms i
abbrev MN (x : CZ2) : Nat := (Zr x).length
abbrev Q5 (x : CZ2) : Prop := MN x = (AH x.a).c.ms.length
abbrev AFP (x : CZ2) (i : Nat) : Mk := gD (Zr x) i
abbrev AMA (x : CZ2) (i : Nat) : Int := (AFP x i).pl
abbrev ADH (x : CZ2) (i : Nat) : Int := (AFP x i).ht
abbrev Q4 (x : CZ2) : Prop := ∀ (i : Nat), i < MN x -> AMA x i = RM x i /\ ADH x i = QT x i
abbrev QR (x : CZ2) : List Nt := AE (AH x.a).c.ns.length λ (i : Nat) => gD (AH x.a).c.ns i
abbrev Zi (x : CZ2) : Nat := (QR x).length
abbrev ALJ (x : CZ2) : Prop := Zi x = (AH x.a).c.ns.length
abbrev eD (x : CZ2) (i : Nat) : Nt := gD (QR x) i
abbrev ALG (x : CZ2) (i : Nat) : Int := (eD x i).mi
abbrev AFQ (x : CZ2) (i : Nat) : Span := (eD x i).t
abbrev ACS (x : CZ2) (i : Nat) : Int := (AFQ x i).lo
abbrev AEO (x : CZ2) (i : Nat) : Int := (AFQ x i).hi
abbrev S7 (x : CZ2) (i : Nat) : Span := (eD x i).s
abbrev ALL (x : CZ2) (i : Nat) : Int := (S7 x i).lo
abbrev ABV (x : CZ2) (i : Nat) : Int := (S7 x i).hi
abbrev AGL (x : CZ2) : Prop := ∀ (i : Nat), i < Zi x -> ALG x i = QB x i /\ ACS x i = RN x i /\ AEO x i = QI x i /\ ALL x i = QV x i /\ ABV x i =
 QA x i
abbrev AEU (x : CZ2) (n : Int) : Bool := hasN (QR x) n
abbrev ABU (x : CZ2) : Prop := ∀ (n : Int), AEU x n = hasN (AH x.a).c.ns n
abbrev cR (x : CZ2) (n : Int) : Nt := ntOf (QR x) n
abbrev AET (x : CZ2) (n : Int) : Int := (cR x n).mi
abbrev ACB (x : CZ2) (n : Int) : Span := (cR x n).t
abbrev AHF (x : CZ2) (n : Int) : Int := (ACB x n).lo
abbrev P2 (x : CZ2) (n : Int) : Int := (ACB x n).hi
abbrev P6 (x : CZ2) (n : Int) : Span := (cR x n).s
abbrev AFU (x : CZ2) (n : Int) : Int := (P6 x n).lo
abbrev AAA (x : CZ2) (n : Int) : Int := (P6 x n).hi
abbrev AEI (x : CZ2) : Prop := ∀ (n : Int), AET x n = (ntOf (AH x.a).c.ns n).mi /\ AHF x n = (ntOf (AH x.a).c.ns n).t.lo /\ P2 x n = (ntOf (AH x.a).c.ns n).t.hi /\ AFU x n = (ntOf (AH
 x.a).c.ns n).s.lo /\ AAA x n = (ntOf (AH x.a).c.ns n).s.hi
abbrev AKZ (x : CZ2) : Prop := (AH x.a).c.ms.length = MN x
abbrev AKO (x : CZ2) : Prop := ∀ (i : Nat), fC i x -> RM x i = AMA x i /\ QT x i = ADH x i
abbrev ALB (x : CZ2) : Prop := (AH x.a).c.ns.length = Zi x
abbrev U0 (x : CZ2) : Prop := ∀ (i : Nat), cN i x -> QB x i = ALG x i /\ RN x i = ACS x i /\ QI x i = AEO x i /\ QV x i = ALL x i /\ QA x i = ABV
 x i
abbrev qO (x : CZ2) : Prop := ∀ (n : Int), hasN (AH x.a).c.ns n = AEU x n
abbrev jR (x : CZ2) : Prop := ∀ (n : Int), (ntOf (AH x.a).c.ns n).mi = AET x n /\ (ntOf (AH x.a).c.ns n).t.lo = AHF x n /\ (ntOf (AH x.a).c.ns n).t.hi = P2 x n /\ (ntOf (AH x.a).c.ns
 n).s.lo = AFU x n /\ (ntOf (AH x.a).c.ns n).s.hi = AAA x n
abbrev mZ (a : IJ) : Prop := (0 : Int) <= (↑a.i : Int)
abbrev lT (x : CZ2) (a : IJ) : List Span := winL (aZ x) (↑a.i : Int) (↑a.j : Int) (Jy x) (Jz x)
abbrev lG (x : CZ2) (a : IJ) : Nat := (lT x a).length
abbrev Ez (x : CZ2) (a : IJ) (i : Nat) : Span := gD (lT x a) i
abbrev Io (x : CZ2) (a : IJ) : List Span := AE (lG x a) λ (i : Nat) => Ez x a i
abbrev Ey (x : CZ2) (a : IJ) : Nat := (Io x a).length
abbrev oG (x : CZ2) (a : IJ) (i : Nat) : Span := gD (Io x a) i
abbrev SX (a : IJ) : Int := IntKind.i64.wrap ((↑a.j : Int) + (1 : Int))
abbrev sM (a : IJ) (x : CZ2) : Prop := mZ a /\ (↑a.i : Int) <= SX a /\ SX a <= (↑(stgL x.a.c).length : Int)
abbrev lN (a : IJ) : Nat := (SX a).toNat - a.i
abbrev En (x : CZ2) (a : IJ) (i : Nat) : Span := gD (stgL x.a.c) (a.i + i)
abbrev TM (a : IJ) (x : CZ2) : List Span := AE (lN a) λ (i : Nat) => En x a i
abbrev SA (a : IJ) (x : CZ2) : Nat := (TM a x).length
abbrev tU (a : IJ) (x : CZ2) : Prop := SA a x = lN a
abbrev mG (a : IJ) (x : CZ2) (i : Nat) : Span := gD (TM a x) i
abbrev jY (a : IJ) (x : CZ2) : Prop := ∀ (i : Nat), i < SA a x -> (mG a x i).lo = (En x a i).lo /\ (mG a x i).hi = (En x a i).hi
abbrev pB (a : IJ) (x : CZ2) : Prop := (0 : Nat) < SA a x /\ SA a x < (1073741824 : Nat)
abbrev Fm (a : IJ) (x : CZ2) : Int := gLo (TM a x)
abbrev Fk (a : IJ) (x : CZ2) : Int := gHi (TM a x)
abbrev SZ (a : IJ) (a1 : IJ) : Prop := (↑a.i : Int) = (↑a1.i : Int)
abbrev iX (a : IJ) (a1 : IJ) : Prop := (↑a.j : Int) = SX a1
abbrev tD (x : CZ2) (a : IJ) : Span := (KG (Hul.mk (Yv x a) (IF x a)) (Span.mk (Fm a x) (Fk a x))).s
abbrev qT (x : CZ2) (a : IJ) : Nat := x.a.c.ms.length - a.j
abbrev nO (a : IJ) (x : CZ2) (a1 : Nat) (a2 : IJ) : Prop := cM a x a1 /\ qT x a < qT x a2
abbrev iK (x : CZ2) (a : Nat) : Prop := (Jx x a).s.lo = (Jx x a).s.lo
abbrev jD (x : CZ2) (a : Nat) : Prop := (Jx x a).s.hi = (Jx x a).s.hi
abbrev pC (x : CZ2) (a : Nat) : Prop := (Jx x a).m = (Jx x a).m
abbrev rM (x : CZ2) (a : Nat) : Span × Int := DS (Hul.mk (Jx x a).s (Jx x a).m)
abbrev mY (x : CZ2) (a : Nat) : Span := (rM x a).fst
theorem CMO (x : CZ2) : (CHE x) = ((x.a.c.p.lo = x.a.c.p.lo /\ x.a.c.p.hi = x.a.c.p.hi /\ x.a.c.base = x.a.c.base /\ x.a.c.scale = x.a.c.scale /\ x.a.c.off = x.a.c.off /\ wW x = x.a.c.ms.length /\ (∀ (i : Nat), i
 < wW x -> (BAA x i).pl = (gD x.a.c.ms i).pl /\ (BAA x i).ht = (gD x.a.c.ms i).ht) /\ xV x = x.a.c.ns.length /\ (∀ (i : Nat), i < xV x -> (xO x i).mi = (gD x.a.c.ns i).mi /\ (AZH x i).lo =
 (gD x.a.c.ns i).t.lo /\ (AZH x i).hi = (gD x.a.c.ns i).t.hi /\ (ATE x i).lo = (gD x.a.c.ns i).s.lo /\ (ATE x i).hi = (gD x.a.c.ns i).s.hi) /\ xG x = x.a.z.length /\ (∀ (i : Nat), i < xG x -> gD
 (G2 x) i = gD x.a.z i) /\ (wW x < (4611686018427387904 : Nat) /\ xV x < (4611686018427387904 : Nat) /\ xG x < (4611686018427387904 : Nat)) /\ AM (U8 x) = (0 : Int)) /\ bif decide (x.t < x.f)
 then (PF x).fst.lo = (0 : Int) /\ (PF x).fst.hi = (0 : Int) /\ (PF x).snd = (4 : Int) else (∃ (a : Nat), (Jy x = AY x.f (-100000001 : Int) /\ Jz x = DX x.t (100000001 : Int) /\ (CB x.a).length = T1 x /\
 (∀ (i : Nat), i < (CB x.a).length -> (gD (CB x.a) i).lo = (AFV x i).lo /\ (gD (CB x.a) i).hi = (AFV x i).hi) /\ (stgL x.a.c).length = (O8 x).length /\ (∀ (i : Nat), AHH i x -> (gD (stgL x.a.c)
 i).lo = (R6 x i).lo /\ (gD (stgL x.a.c) i).hi = (R6 x i).hi) /\ (↑x.a.c.ms.length : Int) = (↑(T1 x) : Int) /\ (↑a : Int) = (0 : Int) /\ FM /\ FM /\ (Jx x a).s.lo = (0 : Int) /\ (Jx x a).s.hi
 = (0 : Int) /\ (Jx x a).m = false /\ (AH x.a).c.p.lo = (AAG x).lo /\ (AH x.a).c.p.hi = (AAG x).hi /\ (AH x.a).c.base = (NA x).base /\ (AH x.a).c.scale = (NA x).scale /\ (AH x.a).c.off =
 (NA x).off /\ (AH x.a).c.ms.length = (AAE x).length /\ (∀ (i : Nat), fC i x -> RM x i = (ACD x i).pl /\ QT x i = (ACD x i).ht) /\ (AH x.a).c.ns.length = (Ar x).length /\
 (∀ (i : Nat), cN i x -> QB x i = (fA x i).mi /\ RN x i = (AIR x i).lo /\ QI x i = (AIR x i).hi /\ QV x i = (ADO x i).lo /\ QA x i = (ADO x i).hi) /\ (∀
 (i : Nat), i < (40 : Nat) -> (AH x.a).sp i = (YZ x).sp i) /\ AT = AT /\ (∀ (n : Int), hasN (AH x.a).c.ns n = hasN (Ar x) n) /\ (∀ (n : Int), (AH x.a).st n = (YZ x).st n) /\ ∀ (n : Int), (ntOf
 (AH x.a).c.ns n).mi = (Zx x n).mi /\ (ntOf (AH x.a).c.ns n).t.lo = (Q3 x n).lo /\ (ntOf (AH x.a).c.ns n).t.hi = (Q3 x n).hi /\ (ntOf (AH x.a).c.ns n).s.lo = (ACL x n).lo /\ (ntOf (AH
 x.a).c.ns n).s.hi = (ACL x n).hi) /\ a.le x.a.c.ms.length) /\ ∀ (a : Nat), a.le x.a.c.ms.length -> bif decide ((↑a : Int) < (↑x.a.c.ms.length : Int)) then (∃ (a_2 : IJ), (ABE a_2 a /\ (↑a_2.j : Int) = (↑a : Int)
 /\ Jy x = Jy x /\ Jz x = Jz x /\ Ay x /\ ZS x /\ ZP x /\ Aq x /\ Cb x /\ ABE a_2 a /\ FM /\ FM /\ JN x a_2 = (Jx x a).s.lo /\ JU x a_2 = (Jx x a).s.hi /\
 IF x a_2 = (Jx x a).m /\ ZI x) /\ cM a_2 x a) /\ ∀ (a_2 : IJ), cM a_2 x a -> bif bif decide ((↑a_2.j : Int) < (↑(CB x.a).length : Int)) then decide (Jz x >= Jy x) else false then (LQ x =
 (CB x.a).length /\ (∀ (i : Nat), i < LQ x -> (AFI x i).lo = (gD (CB x.a) i).lo /\ (AFI x i).hi = (gD (CB x.a) i).hi) /\ (↑a_2.i : Int) = (↑a_2.i : Int) /\ (↑a_2.j : Int) = (↑a_2.j : Int) /\ Jy x = Jy x
 /\ Jz x = Jz x /\ QL x /\ QC x /\ QM x /\ RL x /\ QD x /\ Q5 x /\ Q4 x /\ ALJ x /\ AGL x /\ QF x /\ AT = AT /\ ABU x /\ PS x /\ AEI x /\
 QL x /\ QC x /\ QM x /\ RL x /\ QD x /\ AKZ x /\ AKO x /\ ALB x /\ U0 x /\ QF x /\ AT = AT /\ qO x /\ PS x /\ jR x /\ (((1 : Nat) <= LQ
 x /\ LQ x <= (40 : Nat)) /\ (mZ a_2 /\ (↑a_2.i : Int) < (↑(LQ x) : Int)) /\ (0 : Int) <= (↑a_2.j : Int) /\ (↑a_2.j : Int) < (↑(LQ x) : Int)) /\ Ey x a_2 = lG x a_2 /\ (∀ (i : Nat), i <
 Ey x a_2 -> (oG x a_2 i).lo = (Ez x a_2 i).lo /\ (oG x a_2 i).hi = (Ez x a_2 i).hi) /\ QL x /\ QC x /\ QM x /\ RL x /\ QD x /\ Q5 x /\ Q4 x
 /\ ALJ x /\ AGL x /\ QF x /\ AT = AT /\ ABU x /\ PS x /\ AEI x /\ QL x /\ QC x /\ QM x /\ RL x /\ QD x /\ AKZ x /\ AKO x /\ ALB x /\ U0
 x /\ QF x /\ AT = AT /\ qO x /\ PS x /\ jR x /\ Ey x a_2 = MN x /\ (1 : Nat) <= MN x /\ MN x <= (40 : Nat)) /\ bif (KF (Dk.mk (Cht.mk (AH x.a).c.p (AH x.a).c.base
 (AH x.a).c.scale (AH x.a).c.off (Zr x) (QR x)) (AH x.a).st (AH x.a).sp) (Io x a_2)).all IL then (sM a_2 x /\ tU a_2 x /\ jY a_2 x /\ pB a_2 x /\ sM a_2 x
 /\ tU a_2 x /\ jY a_2 x /\ pB a_2 x /\ Fm a_2 x = Fm a_2 x /\ Fk a_2 x = Fk a_2 x /\ JN x a_2 = JN x a_2 /\ JU x a_2 = JU x a_2 /\ IF x
 a_2 = IF x a_2) /\ ∃ (a_4 : IJ), (SZ a_4 a_2 /\ iX a_4 a_2 /\ Jy x = Jy x /\ Jz x = Jz x /\ Ay x /\ ZS x /\ ZP x /\ Aq x /\ Cb x /\ SZ a_4 a_2 /\ FM /\
 FM /\ JN x a_4 = (tD x a_2).lo /\ JU x a_4 = (tD x a_2).hi /\ IF x a_4 = true /\ ZI x) /\ nO a_4 x a a_2 else ∃ (a_4 : IJ), (SZ a_4 a_2 /\ iX a_4 a_2 /\
 Jy x = Jy x /\ Jz x = Jz x /\ Ay x /\ ZS x /\ ZP x /\ Aq x /\ Cb x /\ SZ a_4 a_2 /\ FM /\ FM /\ JN x a_4 = JN x a_2 /\ JU x a_4 = JU x a_2 /\
 IF x a_4 = IF x a_2 /\ ZI x) /\ nO a_4 x a a_2 else ∃ (a_4 : Nat), (Jy x = Jy x /\ Jz x = Jz x /\ Ay x /\ ZS x /\ ZP x /\ Aq x /\ Cb x /\ (↑a_4 : Int) =
 IntKind.i64.wrap ((↑a_2.i : Int) + (1 : Int)) /\ FM /\ FM /\ (Jx x a_4).s.lo = JN x a_2 /\ (Jx x a_4).s.hi = JU x a_2 /\ (Jx x a_4).m = IF x a_2 /\ ZI x) /\ a_4.le x.a.c.ms.length /\
 dO x a_4 < dO x a else (iK x a /\ jD x a /\ pC x a /\ iK x a /\ jD x a /\ pC x a) /\ (PF x).fst.lo = (mY x a).lo /\ (PF x).fst.hi = (mY x a).hi
 /\ (PF x).snd = (rM x a).snd) := by kernel_rfl
def CDS (x : CZ2) : Prop := AW Try.prog CDR AZN (AK AZN) (xCZ2 x) (AF []) (.tup [.d (BT zSp), .int (AM x.a)]) [] [] []
theorem CJP (x : CZ2) : (CDS x) = ((x.a.c.p.lo = x.a.c.p.lo /\ x.a.c.p.hi = x.a.c.p.hi /\ x.a.c.base = x.a.c.base /\ x.a.c.scale = x.a.c.scale /\ x.a.c.off = x.a.c.off /\ (AE x.a.c.ms.length λ (i : Nat) => gD
 x.a.c.ms i).length = x.a.c.ms.length /\ (∀ (i : Nat), i < (AE x.a.c.ms.length λ (i : Nat) => gD x.a.c.ms i).length -> (gD (AE x.a.c.ms.length λ (i : Nat) => gD x.a.c.ms i) i).pl = (gD x.a.c.ms i).pl /\ (gD (AE
 x.a.c.ms.length λ (i : Nat) => gD x.a.c.ms i) i).ht = (gD x.a.c.ms i).ht) /\ (AE x.a.c.ns.length λ (i : Nat) => gD x.a.c.ns i).length = x.a.c.ns.length /\ (∀ (i : Nat), i < (AE x.a.c.ns.length λ (i : Nat) => gD
 x.a.c.ns i).length -> (gD (AE x.a.c.ns.length λ (i : Nat) => gD x.a.c.ns i) i).mi = (gD x.a.c.ns i).mi /\ (gD (AE x.a.c.ns.length λ (i : Nat) => gD x.a.c.ns i) i).t.lo = (gD x.a.c.ns i).t.lo /\ (gD (AE
 x.a.c.ns.length λ (i : Nat) => gD x.a.c.ns i) i).t.hi = (gD x.a.c.ns i).t.hi /\ (gD (AE x.a.c.ns.length λ (i : Nat) => gD x.a.c.ns i) i).s.lo = (gD x.a.c.ns i).s.lo /\ (gD (AE x.a.c.ns.length λ (i : Nat) => gD
 x.a.c.ns i) i).s.hi = (gD x.a.c.ns i).s.hi) /\ (AE x.a.z.length λ (i : Nat) => gD x.a.z i).length = x.a.z.length /\ (∀ (i : Nat), i < (AE x.a.z.length λ (i : Nat) => gD x.a.z i).length -> gD (AE x.a.z.length λ (i :
 Nat) => gD x.a.z i) i = gD x.a.z i) /\ ((AE x.a.c.ms.length λ (i : Nat) => gD x.a.c.ms i).length < (4611686018427387904 : Nat) /\ (AE x.a.c.ns.length λ (i : Nat) => gD x.a.c.ns i).length < (4611686018427387904 : Nat)
 /\ (AE x.a.z.length λ (i : Nat) => gD x.a.z i).length < (4611686018427387904 : Nat)) /\ AM (CZ.mk (Cht.mk x.a.c.p x.a.c.base x.a.c.scale x.a.c.off (AE x.a.c.ms.length λ (i : Nat) => gD x.a.c.ms i) (AE
 x.a.c.ns.length λ (i : Nat) => gD x.a.c.ns i)) (AE x.a.z.length λ (i : Nat) => gD x.a.z i)) ≠ (0 : Int)) /\ bif AM (CZ.mk (Cht.mk x.a.c.p x.a.c.base x.a.c.scale x.a.c.off (AE x.a.c.ms.length λ (i : Nat) => gD
 x.a.c.ms i) (AE x.a.c.ns.length λ (i : Nat) => gD x.a.c.ns i)) (AE x.a.z.length λ (i : Nat) => gD x.a.z i)) != (0 : Int) then Int.ofNat (0 : Nat) = Int.ofNat (0 : Nat) /\ Int.ofNat (0 : Nat) = Int.ofNat (0 : Nat) /\
 AM x.a = AM (CZ.mk (Cht.mk x.a.c.p x.a.c.base x.a.c.scale x.a.c.off (AE x.a.c.ms.length λ (i : Nat) => gD x.a.c.ms i) (AE x.a.c.ns.length λ (i : Nat) => gD x.a.c.ns i)) (AE x.a.z.length λ (i : Nat) => gD
 x.a.z i)) else bif decide (x.t < x.f) then Int.ofNat (0 : Nat) = Int.ofNat (0 : Nat) /\ Int.ofNat (0 : Nat) = Int.ofNat (0 : Nat) /\ AM x.a = (4 : Int) else False) := by kernel_rfl
theorem BWO (l : List Span) (a b x y : Int) : (winL l a b x y).length = l.length := by unfold winL; rw [Be, Be]
theorem pk1 (x : CZ2) {i j : Nat} (h : Hul) (hij : i <= j) (hw : Ju x i j = true) : pkI x i h (j + 1 - i) = KG (pkI x i h (j - i)) ⟨gLo (IR x i j), gHi (IR x i j)⟩ := by
 rw [show j + 1 - i = (j - i) + 1 by omega]
 show (bif Ju x i (i + (j - i)) then _ else _) = _
 rw [show i + (j - i) = j by omega, hw]; rfl
theorem pk0 (x : CZ2) {i j : Nat} (h : Hul) (hij : i <= j) (hw : Ju x i j = false) : pkI x i h (j + 1 - i) = pkI x i h (j - i) := by
 rw [show j + 1 - i = (j - i) + 1 by omega]
 show (bif Ju x i (i + (j - i)) then _ else _) = _
 rw [show i + (j - i) = j by omega, hw]; rfl
theorem CTO (x : CZ2) (h1 : x.a.c.ms.length < 4611686018427387904 /\ x.a.c.ns.length < 4611686018427387904 /\ x.a.z.length < 4611686018427387904) (c0 : AM x.a = 0) : CHE x := by
 have tl := Fx c0
 have sl := RT x.a.c
 obtain ⟨_, ⟨n1, n2⟩, _⟩ := EB (XD c0).1
 have wo : ∀ a b : Nat, (KF (AH x.a) (winL (CB x.a) (a : Int) (b : Int) (Jy x) (Jz x))).all IL = Ju x a b := λ _ _ => rfl
 have pf : AY x.f (-100000001) = Jy x := rfl
 have pt : DX x.t 100000001 = Jz x := rfl
 have so : ∀ a b : Nat, (AE (b + 1 - a) λ i => gD (stgL x.a.c) (a + i)) = IR x a b := λ _ _ => rfl
 rw [CMO]; delta H6 wW BAA F6 xV xO AZH ATE G2 xG L9 U8 YZ AHU T1 AFV O8 AHH R6 FM NA AAG AAE fC RM ACD QT Ar cN QB fA ACM RN AIR QI R8 QV ADO QA Zx Q3 ACL ABE Ay ZS ZP Aq Cb AJR Yv JN JU IF QL QC QM RL QD QF PS ZI dO cM aZ LQ AFI Zr MN Q5 AFP AMA ADH Q4 QR Zi ALJ eD ALG AFQ ACS AEO S7 ALL ABV AGL AEU ABU cR AET ACB AHF P2 P6 AFU AAA AEI AKZ AKO ALB U0 qO jR mZ lT lG Ez Io Ey oG SX sM lN En TM SA tU mG jY pB Fm Fk SZ iX tD qT nO iK jD pC rM mY; simp only [CC, eq_self, implies_true, forall_const, BH, YR, Xx, TE, Rn, BOZ, CGW]; simp only [tl, sl, wo, BWO, pf, pt]
 refine ⟨⟨h1, c0⟩, λ h4 => ?_, λ h4 => ⟨⟨0, ?_, Nat.zero_le _⟩, λ a ha => ⟨λ hlt => ⟨⟨⟨a, a⟩, ?_, by show a < _; omega, rfl, Nat.le_refl _, by show a <= _; omega, λ h => absurd h (Nat.lt_irrefl _)⟩, λ s ⟨s1, s2, s3, s4, s5⟩ => ⟨λ hc => ?_, λ hc => ?_⟩⟩, λ hge => ?_⟩⟩⟩
 ·unfold PF; rw [decide_eq_true h4]; exact ⟨rfl, rfl, rfl⟩
 ·simp; exact ⟨rfl, rfl, rfl⟩
 ·simp [pkI]
 ·have hj : s.j < x.a.c.ms.length := by
   cases hd : decide ((s.j : Int) < x.a.c.ms.length) with
   | false => rw [hd] at hc; cases hc
   | true => have := of_decide_eq_true hd; omega
  have hft : Jz x >= Jy x := by
   rw [decide_eq_true (show (s.j : Int) < x.a.c.ms.length by omega)] at hc
   exact of_decide_eq_true hc
  have ew : IntKind.i64.wrap ((s.j : Int) + 1) = ((s.j + 1 : Nat) : Int) := FE (by omega)
  simp only [ew, Int.toNat_natCast, so]
  have bound : ∀ i, i < s.j + 1 - s.i -> (gD (IR x s.i s.j) i).lo = (gD (stgL x.a.c) (s.i + i)).lo /\ (gD (IR x s.i s.j) i).hi = (gD (stgL x.a.c) (s.i + i)).hi := λ i hi => by
   unfold IR; rw [BK _ _ _ hi]; exact ⟨rfl, rfl⟩
  refine ⟨?_, λ hw => ⟨?_, ⟨s.i, s.j + 1⟩, ?_, ⟨s1, s2, by show s.i <= s.j + 1; omega, by show s.j + 1 <= _; omega, λ _ => hft⟩, by show x.a.c.ms.length - (s.j + 1) < _; omega⟩, λ hw => ⟨⟨s.i, s.j + 1⟩, ?_, ⟨s1, s2, by show s.i <= s.j + 1; omega, by show s.j + 1 <= _; omega, λ _ => hft⟩, by show x.a.c.ms.length - (s.j + 1) < _; omega⟩⟩
  ·simp; omega
  ·refine ⟨⟨by omega, by omega, by omega⟩, bound, ⟨by omega, by omega⟩, ⟨by omega, by omega, by omega⟩, bound, by omega, by omega⟩
  ·have e := pk1 x (Jx x s.i) s3 hw
   simp only [e]; simp; rfl
  ·have e := pk0 x (Jx x s.i) s3 hw
   simp only [e]; simp
 ·have e : Jx x (s.i + 1) = pkI x s.i (Jx x s.i) (s.j - s.i) := by
   show (bif decide (Jz x >= Jy x) then _ else _) = _
   by_cases hft : Jz x >= Jy x
   ·rw [decide_eq_true hft] at hc ⊢
    have hj : s.j = x.a.c.ms.length := by
     cases hd : decide ((s.j : Int) < x.a.c.ms.length) with
     | true => rw [hd] at hc; cases hc
     | false => have := of_decide_eq_false hd; omega
    rw [hj]; rfl
   ·rw [decide_eq_false hft]
    have : s.j = s.i := by
     rcases Nat.lt_or_ge s.i s.j with h | h
     ·exact absurd (s5 h) hft
     ·omega
    rw [this, Nat.sub_self]; rfl
  refine ⟨s.i + 1, ⟨(FE (by omega)).symm, ?_, ?_, ?_⟩, by omega, by omega⟩ <;> rw [e]
 ·obtain rfl : a = x.a.c.ms.length := by omega
  unfold PF; rw [decide_eq_false h4]; exact ⟨rfl, rfl, rfl⟩
theorem BNQ : AL Try.prog BKY (C_Peak.spec dCZ2) := okT C_Peak (λ (x : CZ2) h => by
 have h1 : x.a.c.ms.length < 4611686018427387904 /\ x.a.c.ns.length < 4611686018427387904 /\ x.a.z.length < 4611686018427387904 := h
 by_cases c0 : AM x.a = 0
 ·have e : C_Peak.val x = .tup [.d (BT (PF x).1), .int (PF x).2] := by
   show AVal.tup [.d (BT (CQ x).1), .int (CQ x).2] = _
   unfold CQ; rw [c0]; rfl
  rw [e]
  exact QX (A := CIJ x) (L := []) (keep := []) (ren := []) (fz := []) CBA (by kernel_rfl) (AD BRL (AD CVW (AD BZY (AD CMC (AD COJ (AD (CLP CWF CWG) (AD BTJ (AD BYM AI)))))))) (CTO x h1 c0)
 ·have c0' : (AM x.a == 0) = false := by simpa using c0
  have e : C_Peak.val x = .tup [.d (BT zSp), .int (AM x.a)] := by
   show AVal.tup [.d (BT (CQ x).1), .int (CQ x).2] = _
   unfold CQ; rw [c0']; rfl
  rw [e]
  refine QX (A := CDR) (L := []) (keep := []) (ren := []) (fz := []) CBA (by kernel_rfl) (AD BQM AI) ?_
  show CDS x; rw [CJP]; simp only [CC, eq_self, implies_true, forall_const, BH, TE]
  exact ⟨⟨h1, c0⟩, λ h => by simp [c0] at h⟩) _
end Go.Bal
