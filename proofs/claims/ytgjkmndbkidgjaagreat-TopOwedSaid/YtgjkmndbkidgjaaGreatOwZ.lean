/- TopOwed: borders, starts and years that are made of numbers. -/
import Derived.Test.YtgjkmndbkidgjaaGreatOwY
set_option linter.unusedVariables false
set_option linter.unusedSimpArgs false
namespace Go.Bal
open Go Go.Sym Go.Proofs
structure MkI where
 s : Stm
 m : Int
structure MT where
 s : Stm
 x : Int
 d : Int
 l : List Pt
 deriving Inhabited
def wF (m : MT) : MT := ⟨BO (YO m.s 1 60) 50, wr (m.x + Fx m.s 1 60), wr (m.d + BP (YO m.s 1 60) 50), m.l ++ [⟨m.x, m.d⟩]⟩
def mkT : Nat -> MT -> MT
 | 0, m => m
 | n + 1, m => mkT n (wF m)
def b1 (s : Stm) : Stm := BO s 60
def b2 (s : Stm) : Stm := BO (b1 s) 50
def b3 (s : Stm) : Stm := BO (b2 s) 20
def b4 (s : Stm) : Stm := YO (b3 s) 2 6
def nB (s : Stm) : Int := Fx (b3 s) 2 6
def mT0 (s : Stm) : MT := ⟨b4 s, BP (b1 s) 50, BP (b2 s) 20, []⟩
def mT (s : Stm) : MT := mkT (nB s).toNat (mT0 s)
def b5 (s : Stm) : Stm := YO (mT s).s (-40) 40
def Yf (s : Stm) : Int := Fx (mT s).s (-40) 40
def b6 (s : Stm) : Stm := BO (b5 s) 20
def gI (s : Stm) : Int := wr (Yf s + BP (b5 s) 20)
structure MY where
 s : Stm
 l : List Yr
 t : List Pt
 deriving Inhabited
def mxG (n : Int) : Int := Yv 0 n
def y1 (s : Stm) : Stm := BO s 20
def y2 (s : Stm) : Stm := BO (y1 s) 20
def y3 (s : Stm) : Stm := BO (y2 s) 9
def y4 (s : Stm) : Stm := BO (y3 s) 9
def y5 (s : Stm) : Stm := BO (y4 s) 9
def yrG (s : Stm) (x d : Int) : Yr := ⟨⟨mxG (wr (x - BP s 20)), wr (x + BP (y1 s) 20)⟩, ⟨mxG (wr (d - BP (y2 s) 9)), wr (d + BP (y3 s) 9)⟩, BP (y4 s) 9 == 0⟩
def ZW (s : Stm) (x d : Int) (l : List Yr) (t : List Pt) : MY := ⟨y5 s, l ++ [yrG s x d], t ++ [⟨x, d⟩]⟩
def stpY (m : MY) : MY := ZW (BO (BO m.s 200) 120) (BP m.s 200) (BP (BO m.s 200) 120) m.l m.t
def mkY : Nat -> MY -> MY
 | 0, m => m
 | n + 1, m => mkY n (stpY m)
def b7 (a : MkI) : Stm := YO (b6 a.s) 1 a.m
def nY (a : MkI) : Int := Fx (b6 a.s) 1 a.m
def mY (a : MkI) : MY := mkY (nY a).toNat ⟨b7 a, [], []⟩
structure PtOk (l : List Pt) (x d : Int) : Prop where
 all : ∀ i, i < l.length -> (0 <= (gD l i).x /\ (gD l i).x < x) /\ 0 <= (gD l i).d /\ (gD l i).d <= d
 ord : ∀ i, i + 1 < l.length -> (gD l i).x < (gD l (i + 1)).x /\ (gD l i).d <= (gD l (i + 1)).d
structure KT where
 k : Nat
 x : MT
 deriving Inhabited
structure KY where
 k : Nat
 x : MY
 p : Pt
 deriving Inhabited
structure I4 (s : Stm) (y : KT) : Prop where
 hk : (y.k : Int) <= nB s
 hs : StmB (4 + 2 * y.k) y.x.s
 hm : mkT ((nB s).toNat - y.k) y.x = mT s
 hn : y.x.l.length = y.k
 hx : 0 <= y.x.x /\ y.x.x <= 50 + 60 * y.k
 hd : 0 <= y.x.d /\ y.x.d <= 20 + 50 * y.k
 hp : PtOk y.x.l y.x.x y.x.d
def IB (s : Stm) : Prop := 2 <= nB s /\ nB s <= 6 /\ I4 s ⟨(nB s).toNat, mT s⟩
def yOk (l : List Yr) : Prop := ∀ i, i < l.length -> YQ (gD l i) = true /\ (gD l i).d.lo <= 200
structure I13 (a : MkI) (k : Nat) (m : MY) : Prop where
 hb : IB a.s
 hk : (k : Int) <= nY a
 hs : StmB (20 + 7 * k) m.s
 hm : mkY ((nY a).toNat - k) m = mY a
 hn : m.l.length = k
 ht : m.t.length = k
 hy : yOk m.l
structure I15 (a : MkI) (y : KY) : Prop where
 hb : IB a.s
 hk : (y.k : Int) < nY a
 hs : StmB (22 + 7 * y.k) y.x.s
 hm : mkY ((nY a).toNat - (y.k + 1)) (ZW y.x.s y.p.x y.p.d y.x.l y.x.t) = mY a
 hn : y.x.l.length = y.k
 ht : y.x.t.length = y.k
 hy : yOk y.x.l
 hx : 0 <= y.p.x /\ y.p.x < 200
 hd : 0 <= y.p.d /\ y.p.d < 120
def zBd : HCell := .live (.box [.d QF, .int 0])
def zSpC : HCell := .live (.box [.int 0, .int 0])
def bdS : List (Nat × AVal) := [(0, .bptr 100 0), (4, .bptr 1000 0), (5, .bptr 1016 0), (8, .bptr 2048 0)]
def bdH (s s0 : Stm) (t : AVal) : List (Nat × HCell) := [(100, stmH s), (1000, zBd), (1016, zSpC), (2048, .live (.box [t, .int (BP s0 60)]))]
def rowP (l : List Pt) : AObj := .row 2 l.length λ i => ePt (gD l i)
def rowY (l : List Yr) : AObj := .row 5 l.length λ i => eYr (gD l i)
def bd4S (a : MkI) (y : KT) : List (Nat × AVal) := bdS ++ [(1, .int a.m), (9, .int y.x.x), (10, .int y.x.d), (24, .int (nB a.s)), (25, .int y.k)]
def bd4n (a : MkI) : Shape := { α := KT, dflt := default, T := λ y => ⟨bd4S a y, bdH y.x.s a.s (.d QF)⟩, inv := λ y => I4 a.s y /\ y.k = 0 /\ 2 <= nB a.s /\ nB a.s <= 6, meas := λ _ => 20 }
def bd4o (a : MkI) : Shape := { α := KT, dflt := default, T := λ y => ⟨bd4S a y, bdH y.x.s a.s (.own 301 2 0 y.x.l.length) ++ [(301, .live (rowP y.x.l))]⟩, inv := λ y => I4 a.s y /\ 1 <= y.k /\ 2 <= nB a.s /\ nB a.s <= 6, meas := λ y => (nB a.s).toNat - y.k, again := [(301, 6096)] }
def bd8 (a : MkI) : Shape := { α := One, dflt := default, T := λ _ => ⟨bdS ++ [(1, .int a.m)], bdH (mT a.s).s a.s (.d (HP (mT a.s).l))⟩, inv := λ _ => IB a.s, meas := λ _ => 0, ffz := [301] }
def bdK (a : MkI) (s : Stm) : List (Nat × HCell) := bdH s a.s (.d (HP (mT a.s).l)) ++ [(10096, .live (.box [.int (Yf a.s), .int (gI a.s)]))]
def bd10 (a : MkI) : Shape := { α := One, dflt := default, T := λ _ => ⟨bdS ++ [(1, .int a.m), (12, .bptr 10096 0)], bdK a (b6 a.s)⟩, inv := λ _ => IB a.s, meas := λ _ => 0 }
def AIA (a : MkI) (k : Nat) (u v : AVal) : List (Nat × AVal) := bdS ++ [(12, .bptr 10096 0), (13, u), (14, v), (54, .int (nY a)), (55, .int k)]
def BJB (a : MkI) : Shape := { α := KY, dflt := default, T := λ y => ⟨AIA a y.k (.d QF) (.d QF), bdK a y.x.s⟩, inv := λ y => I13 a y.k y.x /\ y.k = 0 /\ 1 <= nY a /\ nY a <= 40, meas := λ _ => 60 }
def BIA (a : MkI) : Shape := { α := KY, dflt := default, T := λ y => ⟨AIA a y.k (.own 303 5 0 y.x.l.length) (.own 304 2 0 y.x.t.length), bdK a y.x.s ++ [(303, .live (rowY y.x.l)), (304, .live (rowP y.x.t))]⟩, inv := λ y => I13 a y.k y.x /\ 1 <= y.k /\ nY a <= 40, meas := λ y => (nY a).toNat - y.k, again := [(303, 16480), (304, 17048)] }
def trB (p : Pt) : HCell := .live (.box [.int p.x, .int p.d])
def BGQ (a : MkI) (m : Nat) : Shape := { α := KY, dflt := default, T := λ y => ⟨AIA a y.k (.d QF) (.d QF) ++ [(15, .bptr 205 0)], bdK a y.x.s ++ [(205, trB y.p)]⟩, inv := λ y => I15 a y /\ y.k = 0 /\ nY a <= 40 /\ m = 60, meas := λ _ => 0, first := [(205, 15080)] }
def BGG (a : MkI) (m : Nat) : Shape := { α := KY, dflt := default, T := λ y => ⟨AIA a y.k (.own 303 5 0 y.x.l.length) (.own 304 2 0 y.x.t.length) ++ [(15, .bptr 205 0)], bdK a y.x.s ++ [(205, trB y.p), (303, .live (rowY y.x.l)), (304, .live (rowP y.x.t))]⟩, inv := λ y => I15 a y /\ 1 <= y.k /\ nY a <= 40 /\ m = (nY a).toNat - y.k, meas := λ _ => 0, first := [(205, 15080)] }
def dMkI : List AVal -> Heap -> Option (MkI × List (Nat × Nat) × List Nat)
 | [.bptr p _, .d (.v (.int _ n))], H => match AEI H p with
  | some s => some (⟨s, n⟩, [(100, p)], [])
  | none => none
 | _, _ => none
def uI (a : MkI) : Bd := ⟨(mT a.s).l, BP a.s 60⟩
def C_Bord : Ctr := { α := MkI, xs := λ a => [.bptr 100 0, .int a.m], L := λ a => [(100, stmO a.s)], val := λ a => .tup [.d (eBd (uI a)), .d (Ff ⟨Yf a.s, gI a.s⟩), .d (gL (mY a).l), .d (HP (mY a).t)], keep := λ a => [(100, stmH (mY a).s)], pre := λ a => [StmB 0 a.s /\ 1 <= a.m /\ a.m <= 40] }
def AQJ (a : MkI) : Ann := { ann 102 [(tK, C_Next.spec T4), (qR, C_Within.spec ABV), (AFO, ANE)] with E := [100], mt := λ id => id == 5 || id == 15 || id == 16, loops := λ id => if id = 4 then some [bd4n a, bd4o a] else if id = 13 then some [BJB a, BIA a] else none, cut := λ id => if id = 8 then some [bd8 a] else if id = 10 then some [bd10 a] else none, cutIn := λ gs id => if id = 15 then some [BGQ a (gs.getD 0 0), BGG a (gs.getD 0 0)] else none }
def AMY (a : MkI) : Prop := BB Try.prog (AQJ a) AFJ (AS AFJ) (C_Bord.xs a) (AK (C_Bord.L a)) (C_Bord.val a) (C_Bord.keep a) [] [303, 304]
abbrev sH : Prop := (60 : Int) = Int.ofNat (60 : Nat)
abbrev Ug (a : MkI) : List Int := AJ a.s.bs.length λ (i : Nat) => gD a.s.bs i
abbrev sJ (a : MkI) : Nat := (Ug a).length
abbrev pJ : Prop := (50 : Int) = Int.ofNat (50 : Nat)
abbrev tH (a : MkI) : Stm := Stm.mk (Ug a) a.s.used a.s.mix
abbrev Xw (a : MkI) : Stm := BO (tH a) (60 : Int)
abbrev oC (a : MkI) : List Int := (Xw a).bs
abbrev rM (a : MkI) : Nat := (oC a).length
abbrev vA (a : MkI) (i : Nat) : Int := gD (oC a) i
abbrev Tm (a : MkI) : List Int := AJ (rM a) λ (i : Nat) => vA a i
abbrev cQ (a : MkI) : Nat := (Tm a).length
abbrev SE (a : MkI) : Int := (Xw a).used
abbrev Dv (a : MkI) : Int := (Xw a).mix
abbrev KF : Prop := (20 : Int) = Int.ofNat (20 : Nat)
abbrev bO (a : MkI) : Stm := Stm.mk (Tm a) (SE a) (Dv a)
abbrev Be (a : MkI) : Stm := BO (bO a) (50 : Int)
abbrev bY (a : MkI) : List Int := (Be a).bs
abbrev Yy (a : MkI) : Nat := (bY a).length
abbrev eJ (a : MkI) (i : Nat) : Int := gD (bY a) i
abbrev Cd (a : MkI) : List Int := AJ (Yy a) λ (i : Nat) => eJ a i
abbrev cY (a : MkI) : Nat := (Cd a).length
abbrev RN (a : MkI) : Int := (Be a).used
abbrev Cn (a : MkI) : Int := (Be a).mix
abbrev cJ (a : MkI) : Stm := Stm.mk (Cd a) (RN a) (Cn a)
abbrev Ci (a : MkI) : Stm := BO (cJ a) (20 : Int)
abbrev Yj (a : MkI) : List Int := (Ci a).bs
abbrev cW (a : MkI) : Nat := (Yj a).length
abbrev bX (a : MkI) (i : Nat) : Int := gD (Yj a) i
abbrev Dh (a : MkI) : List Int := AJ (cW a) λ (i : Nat) => bX a i
abbrev dZ (a : MkI) : Nat := (Dh a).length
abbrev SB (a : MkI) : Int := (Ci a).used
abbrev Dk (a : MkI) : Int := (Ci a).mix
abbrev Yi (a : MkI) : Stm := Stm.mk (Dh a) (SB a) (Dk a)
abbrev Du (a : MkI) : Stm := YO (Yi a) (2 : Int) (6 : Int)
abbrev Zy (a : MkI) : List Int := (Du a).bs
abbrev Yp (i : Nat) (a : KT) : Prop := i < a.x.s.bs.length
abbrev BV : Prop := (0 : Nat) = (0 : Nat)
abbrev DC : Prop := ∀ (i : Nat), i < (0 : Nat) -> false = false
abbrev BL : Prop := Int.ofNat (0 : Nat) = Int.ofNat (0 : Nat)
abbrev aB (a : MkI) : Prop := (2 : Int) <= nB a.s
abbrev eD (a : MkI) : Prop := nB a.s <= (6 : Int)
abbrev bC (a : MkI) : Prop := aB a /\ eD a
abbrev eW (a : MkI) (a1 : KT) : Prop := I4 a.s a1 /\ a1.k = (0 : Nat) /\ bC a
abbrev bI (a : KT) (a1 : MkI) : Bool := decide ((↑a.k : Int) < nB a1.s)
abbrev dI : Prop := (0 : Nat) < (0 : Nat)
abbrev dA : Prop := (1 : Nat) <= (1 : Nat)
abbrev RB : Prop := (0 : Nat) < (1 : Nat)
abbrev Ei : Prop := (2 : Nat) = (2 : Nat)
abbrev Dn : Prop := dA /\ (RB -> Ei)
abbrev Zt : Prop := true = true -> RB
abbrev aI : Prop := (1 : Nat) <= (9223372036854775807 : Nat)
abbrev De : Prop := (True /\ (dI -> (0 : Nat) = (2 : Nat))) /\ Dn /\ Zt /\ aI /\ (16 : Nat) <= (140737488355328 : Nat)
abbrev cT : Prop := (1 : Int) = Int.ofNat (1 : Nat)
abbrev Eb (a : KT) : List Int := AJ a.x.s.bs.length λ (i : Nat) => gD a.x.s.bs i
abbrev dR (a : KT) : Nat := (Eb a).length
abbrev bF (a : KT) : Stm := Stm.mk (Eb a) a.x.s.used a.x.s.mix
abbrev Bu (a : KT) : Stm := YO (bF a) (1 : Int) (60 : Int)
abbrev eX (a : KT) : List Int := (Bu a).bs
abbrev bH (a : KT) : Nat := (eX a).length
abbrev aY (a : KT) (i : Nat) : Int := gD (eX a) i
abbrev Dy (a : KT) : List Int := AJ (bH a) λ (i : Nat) => aY a i
abbrev Zn (a : KT) : Nat := (Dy a).length
abbrev RJ (a : KT) : Int := (Bu a).used
abbrev Cm (a : KT) : Int := (Bu a).mix
abbrev Zx (a : KT) : Prop := cT /\ sH /\ dR a = a.x.s.bs.length /\ (∀ (i : Nat), i < dR a -> gD (Eb a) i = gD a.x.s.bs i) /\ a.x.s.used = a.x.s.used /\ a.x.s.mix = a.x.s.mix /\ (0 : Int)
 <= a.x.s.used /\ pJ /\ Zn a = bH a /\ (∀ (i : Nat), i < Zn a -> gD (Dy a) i = aY a i) /\ RJ a = RJ a /\ Cm a = Cm a /\ (RJ a - (0 : Int)).NonNeg
abbrev Yo (a : KT) (a1 : KT) : Prop := a.x.x = IntKind.i64.wrap (a1.x.x + Fx (bF a1) (1 : Int) (60 : Int))
abbrev dF (a : KT) : Stm := Stm.mk (Dy a) (RJ a) (Cm a)
abbrev Za (a : KT) (a1 : KT) : Prop := a.x.d = IntKind.i64.wrap (a1.x.d + BP (dF a1) (50 : Int))
abbrev dW (a : KT) (a1 : KT) : Prop := (↑a.k : Int) = IntKind.i64.wrap ((↑a1.k : Int) + (1 : Int))
abbrev Dt (a : KT) : Stm := BO (dF a) (50 : Int)
abbrev eH (a : KT) : List Int := (Dt a).bs
abbrev dO (a : KT) (a1 : KT) : Prop := a.x.s.bs.length = (eH a1).length
abbrev bN (a : KT) (a1 : KT) : Prop := ∀ (i : Nat), Yp i a -> gD a.x.s.bs i = gD (eH a1) i
abbrev aR (a : KT) (a1 : KT) : Prop := a.x.s.used = (Dt a1).used
abbrev aL (a : KT) (a1 : KT) : Prop := a.x.s.mix = (Dt a1).mix
abbrev eR (a : KT) : Prop := a.x.l.length = (1 : Nat)
abbrev FT (a : MkI) : Prop := BP a.s (60 : Int) = BP a.s (60 : Int)
abbrev Ep (a : MkI) (a1 : KT) : Prop := I4 a.s a1 /\ (1 : Nat) <= a1.k /\ bC a
abbrev Cv (a : MkI) (a1 : KT) : Nat := (nB a.s).toNat - a1.k
abbrev dS (a : MkI) (a1 : KT) : Prop := (mT a.s).s.bs.length = a1.x.s.bs.length
abbrev bB (a : MkI) (a1 : KT) : Prop := ∀ (i : Nat), i < (mT a.s).s.bs.length -> gD (mT a.s).s.bs i = gD a1.x.s.bs i
abbrev aZ (a : MkI) (a1 : KT) : Prop := (mT a.s).s.used = a1.x.s.used
abbrev dU (a : MkI) (a1 : KT) : Prop := (mT a.s).s.mix = a1.x.s.mix
abbrev Zz (a : MkI) : Prop := (mT a.s).l.length = (0 : Nat)
abbrev MR (a : MkI) : Prop := aB a /\ eD a /\ I4 a.s (KT.mk (nB a.s).toNat (mT a.s))
abbrev Bt : Prop := false = true -> RB
abbrev Db (a : KT) : Nat := a.x.l.length + (1 : Nat)
abbrev Yt (a : KT) (a1 : KT) : Prop := a.x.l.length = Db a1
abbrev Zm (i : Nat) (a : KT) : Bool := decide (i < a.x.l.length)
abbrev bT (j : Nat) (a : MkI) : Prop := j < (mT a.s).l.length
abbrev Bj (j : Nat) : Nat := (0 : Nat) + j
abbrev eU (a : KT) (j : Nat) : Pt := gD a.x.l (Bj j)
abbrev Ej (a : MkI) : List Int := AJ (mT a.s).s.bs.length λ (i : Nat) => gD (mT a.s).s.bs i
abbrev Yu (a : MkI) : Nat := (Ej a).length
abbrev aG (a : MkI) : Stm := Stm.mk (Ej a) (mT a.s).s.used (mT a.s).s.mix
abbrev Dc (a : MkI) : Stm := YO (aG a) (-40 : Int) (40 : Int)
abbrev aH (a : MkI) : List Int := (Dc a).bs
abbrev dL (a : MkI) : Nat := (aH a).length
abbrev Zq (a : MkI) (i : Nat) : Int := gD (aH a) i
abbrev Dz (a : MkI) : List Int := AJ (dL a) λ (i : Nat) => Zq a i
abbrev Gj (a : MkI) : Nat := (Dz a).length
abbrev NS (a : MkI) : Int := (Dc a).used
abbrev VP (a : MkI) : Int := (Dc a).mix
abbrev Na (a : MkI) : Stm := Stm.mk (Dz a) (NS a) (VP a)
abbrev XG (a : MkI) : Stm := BO (Na a) (20 : Int)
abbrev Te (a : MkI) : List Int := (XG a).bs
abbrev HW (a : MkI) : Prop := (mT a.s).l.length = (mT a.s).l.length
abbrev HV (a : MkI) : Prop := ∀ (i : Nat), bT i a -> (gD (mT a.s).l i).x = (gD (mT a.s).l i).x /\ (gD (mT a.s).l i).d = (gD (mT a.s).l i).d
abbrev La (a : MkI) : Int := Fx (aG a) (-40 : Int) (40 : Int)
abbrev XT (a : MkI) : List Int := AJ (b6 a.s).bs.length λ (i : Nat) => gD (b6 a.s).bs i
abbrev Gh (a : MkI) : Nat := (XT a).length
abbrev Ks (a : MkI) : Stm := Stm.mk (XT a) (b6 a.s).used (b6 a.s).mix
abbrev UH (a : MkI) : Stm := YO (Ks a) (1 : Int) a.m
abbrev Qf (a : MkI) : List Int := (UH a).bs
abbrev UP (i : Nat) (a : KY) : Prop := i < a.x.s.bs.length
abbrev ID (a : MkI) : Prop := nY a <= (40 : Int)
abbrev Lp (a : MkI) (a1 : KY) : Prop := I13 a a1.k a1.x /\ a1.k = (0 : Nat) /\ (1 : Int) <= nY a /\ ID a
abbrev Jj (a : KY) (a1 : MkI) : Bool := decide ((↑a.k : Int) < nY a1)
abbrev XB (a : KY) : List Int := AJ a.x.s.bs.length λ (i : Nat) => gD a.x.s.bs i
abbrev Qh (a : KY) : Nat := (XB a).length
abbrev VO (a : KY) : Prop := Qh a = a.x.s.bs.length
abbrev TZ (a : KY) : Prop := ∀ (i : Nat), i < Qh a -> gD (XB a) i = gD a.x.s.bs i
abbrev UR (a : KY) : Prop := a.x.s.used = a.x.s.used
abbrev TX (a : KY) : Prop := a.x.s.mix = a.x.s.mix
abbrev SS (a : KY) : Prop := (0 : Int) <= a.x.s.used
abbrev OR (a : KY) : Stm := Stm.mk (XB a) a.x.s.used a.x.s.mix
abbrev TG (a : KY) : Stm := BO (OR a) (200 : Int)
abbrev Hn (a : KY) : List Int := (TG a).bs
abbrev Sd (a : KY) : Nat := (Hn a).length
abbrev Mb (a : KY) (i : Nat) : Int := gD (Hn a) i
abbrev XW (a : KY) : List Int := AJ (Sd a) λ (i : Nat) => Mb a i
abbrev Mp (a : KY) : Nat := (XW a).length
abbrev NA (a : KY) : Int := (TG a).used
abbrev UM (a : KY) : Int := (TG a).mix
abbrev Pg (a : KY) : Prop := (200 : Int) = Int.ofNat (200 : Nat) /\ VO a /\ TZ a /\ UR a /\ TX a /\ SS a /\ (120 : Int) = Int.ofNat (120 : Nat) /\ Mp a = Sd a /\ (∀
 (i : Nat), i < Mp a -> gD (XW a) i = Mb a i) /\ NA a = NA a /\ UM a = UM a /\ (NA a - (0 : Int)).NonNeg
abbrev Qi (a : KY) (a1 : KY) : Prop := (↑a.k : Int) = (↑a1.k : Int)
abbrev Nj (a : KY) : Stm := Stm.mk (XW a) (NA a) (UM a)
abbrev XY (a : KY) : Stm := BO (Nj a) (120 : Int)
abbrev Pz (a : KY) : List Int := (XY a).bs
abbrev Ft (a : KY) (a1 : KY) : Prop := a.x.s.bs.length = (Pz a1).length
abbrev Hj (a : KY) (a1 : KY) : Prop := ∀ (i : Nat), UP i a -> gD a.x.s.bs i = gD (Pz a1) i
abbrev Lz (a : KY) (a1 : KY) : Prop := a.x.s.used = (XY a1).used
abbrev Ri (a : KY) (a1 : KY) : Prop := a.x.s.mix = (XY a1).mix
abbrev Ja (a : KY) (a1 : KY) : Prop := a.p.x = BP (OR a1) (200 : Int)
abbrev Gs (a : KY) (a1 : KY) : Prop := a.p.d = BP (Nj a1) (120 : Int)
abbrev Nb (a : MkI) (a1 : KY) : Prop := I15 a a1 /\ a1.k = (0 : Nat) /\ ID a /\ (60 : Nat) = (60 : Nat)
abbrev TY (a : KY) : Stm := BO (OR a) (20 : Int)
abbrev Jn (a : KY) : List Int := (TY a).bs
abbrev Ld (a : KY) : Nat := (Jn a).length
abbrev So (a : KY) (i : Nat) : Int := gD (Jn a) i
abbrev VM (a : KY) : List Int := AJ (Ld a) λ (i : Nat) => So a i
abbrev Hq (a : KY) : Nat := (VM a).length
abbrev Qb (a : KY) : Prop := Hq a = Ld a
abbrev Jw (a : KY) : Prop := ∀ (i : Nat), i < Hq a -> gD (VM a) i = So a i
abbrev NH (a : KY) : Int := (TY a).used
abbrev Fg (a : KY) : Prop := NH a = NH a
abbrev YC (a : KY) : Int := (TY a).mix
abbrev No (a : KY) : Prop := YC a = YC a
abbrev Mn (a : KY) : Prop := (0 : Int) <= NH a
abbrev HU : Prop := (9 : Int) = Int.ofNat (9 : Nat)
abbrev Md (a : KY) : Stm := Stm.mk (VM a) (NH a) (YC a)
abbrev SL (a : KY) : Stm := BO (Md a) (20 : Int)
abbrev Hu (a : KY) : List Int := (SL a).bs
abbrev Qg (a : KY) : Nat := (Hu a).length
abbrev Lx (a : KY) (i : Nat) : Int := gD (Hu a) i
abbrev WT (a : KY) : List Int := AJ (Qg a) λ (i : Nat) => Lx a i
abbrev Ge (a : KY) : Nat := (WT a).length
abbrev Hf (a : KY) : Prop := Ge a = Qg a
abbrev Ky (a : KY) : Prop := ∀ (i : Nat), i < Ge a -> gD (WT a) i = Lx a i
abbrev OM (a : KY) : Int := (SL a).used
abbrev Nh (a : KY) : Prop := OM a = OM a
abbrev VH (a : KY) : Int := (SL a).mix
abbrev Ii (a : KY) : Prop := VH a = VH a
abbrev Ml (a : KY) : Prop := (0 : Int) <= OM a
abbrev Jf (a : KY) : Stm := Stm.mk (WT a) (OM a) (VH a)
abbrev XR (a : KY) : Stm := BO (Jf a) (9 : Int)
abbrev Ro (a : KY) : List Int := (XR a).bs
abbrev Kj (a : KY) : Nat := (Ro a).length
abbrev Mf (a : KY) (i : Nat) : Int := gD (Ro a) i
abbrev WA (a : KY) : List Int := AJ (Kj a) λ (i : Nat) => Mf a i
abbrev Gz (a : KY) : Nat := (WA a).length
abbrev Kf (a : KY) : Prop := Gz a = Kj a
abbrev Kp (a : KY) : Prop := ∀ (i : Nat), i < Gz a -> gD (WA a) i = Mf a i
abbrev NF (a : KY) : Int := (XR a).used
abbrev Fq (a : KY) : Prop := NF a = NF a
abbrev VV (a : KY) : Int := (XR a).mix
abbrev Rk (a : KY) : Prop := VV a = VV a
abbrev Lu (a : KY) : Prop := (0 : Int) <= NF a
abbrev Kk (a : KY) : Stm := Stm.mk (WA a) (NF a) (VV a)
abbrev WQ (a : KY) : Stm := BO (Kk a) (9 : Int)
abbrev Sv (a : KY) : List Int := (WQ a).bs
abbrev Ik (a : KY) : Nat := (Sv a).length
abbrev Hc (a : KY) (i : Nat) : Int := gD (Sv a) i
abbrev WG (a : KY) : List Int := AJ (Ik a) λ (i : Nat) => Hc a i
abbrev Fy (a : KY) : Nat := (WG a).length
abbrev Ku (a : KY) : Prop := Fy a = Ik a
abbrev Qu (a : KY) : Prop := ∀ (i : Nat), i < Fy a -> gD (WG a) i = Hc a i
abbrev OJ (a : KY) : Int := (WQ a).used
abbrev Oh (a : KY) : Prop := OJ a = OJ a
abbrev XK (a : KY) : Int := (WQ a).mix
abbrev Sc (a : KY) : Prop := XK a = XK a
abbrev Hb (a : KY) : Prop := (0 : Int) <= OJ a
abbrev Lb : Prop := (5 : Nat) = (5 : Nat)
abbrev Kg : Prop := dA /\ (RB -> Lb)
abbrev Oo (a : KY) : Prop := KF /\ VO a /\ TZ a /\ UR a /\ TX a /\ SS a /\ KF /\ Qb a /\ Jw a /\ Fg a /\ No a /\ Mn a /\
 HU /\ Hf a /\ Ky a /\ Nh a /\ Ii a /\ Ml a /\ HU /\ Kf a /\ Kp a /\ Fq a /\ Rk a /\ Lu a /\ HU /\ Ku a /\ Qu a /\
 Oh a /\ Sc a /\ Hb a /\ (True /\ (dI -> (0 : Nat) = (5 : Nat))) /\ Kg /\ Zt /\ aI /\ (40 : Nat) <= (140737488355328 : Nat)
abbrev Nu (a : KY) : Prop := a.x.l.length = (1 : Nat)
abbrev Ie (a : KY) : Prop := a.x.t.length = (1 : Nat)
abbrev Kh (a : KY) (a1 : KY) : Prop := (↑a.k : Int) = IntKind.i64.wrap ((↑a1.k : Int) + (1 : Int))
abbrev Kx (a : KY) : Stm := Stm.mk (WG a) (OJ a) (XK a)
abbrev XV (a : KY) : Stm := BO (Kx a) (9 : Int)
abbrev Mo (a : KY) : List Int := (XV a).bs
abbrev Ms (a : KY) (a1 : KY) : Prop := a.x.s.bs.length = (Mo a1).length
abbrev Jq (a : KY) (a1 : KY) : Prop := ∀ (i : Nat), UP i a -> gD a.x.s.bs i = gD (Mo a1) i
abbrev Od (a : KY) (a1 : KY) : Prop := a.x.s.used = (XV a1).used
abbrev Ot (a : KY) (a1 : KY) : Prop := a.x.s.mix = (XV a1).mix
abbrev Fw (a : KY) : Int := Yv (0 : Int) (IntKind.i64.wrap (a.p.x - BP (OR a) (20 : Int)))
abbrev Jv (a : KY) : Int := IntKind.i64.wrap (a.p.x + BP (Md a) (20 : Int))
abbrev Ph (a : KY) : Int := Yv (0 : Int) (IntKind.i64.wrap (a.p.d - BP (Jf a) (9 : Int)))
abbrev It (a : KY) : Int := IntKind.i64.wrap (a.p.d + BP (Kk a) (9 : Int))
abbrev Ia (a : KY) : Bool := BP (Kx a) (9 : Int) == (0 : Int)
abbrev Ov (a : KY) (a1 : MkI) (a2 : KY) : Prop := BV /\ Nu a /\ BV /\ Ie a /\ nY a1 = nY a1 /\ Kh a a2 /\ Ms a a2 /\ Jq a a2 /\ Od a a2 /\ Ot a a2 /\
 BV /\ DC /\ BL /\ BL /\ BL /\ HW a1 /\ HV a1 /\ FT a1 /\ Yf a1.s = Yf a1.s /\ gI a1.s = gI a1.s /\ Nu a /\ (∀ (i : Nat), i < a.x.l.length -> (gD a.x.l i).i.lo =
 Fw a2 /\ (gD a.x.l i).i.hi = Jv a2 /\ (gD a.x.l i).d.lo = Ph a2 /\ (gD a.x.l i).d.hi = It a2 /\ (gD a.x.l i).sp = Ia a2) /\ Ie a /\ ∀ (i : Nat), i < a.x.t.length -> (gD a.x.t i).x
 = a2.p.x /\ (gD a.x.t i).d = a2.p.d
abbrev TI (a : KY) : Prop := (1 : Nat) <= a.k
abbrev TB (a : MkI) (a1 : KY) : Prop := I13 a a1.k a1.x /\ TI a1 /\ ID a
abbrev GO (a : MkI) (a1 : KY) : Nat := (nY a).toNat - a1.k
abbrev Mg (a : MkI) (a1 : KY) : Prop := TB a a1 /\ GO a a1 < (60 : Nat)
abbrev UO (a : KY) : Nat := a.x.l.length + (1 : Nat)
abbrev Qt (a : KY) : Prop := KF /\ VO a /\ TZ a /\ UR a /\ TX a /\ SS a /\ KF /\ Qb a /\ Jw a /\ Fg a /\ No a /\ Mn a /\
 HU /\ Hf a /\ Ky a /\ Nh a /\ Ii a /\ Ml a /\ HU /\ Kf a /\ Kp a /\ Fq a /\ Rk a /\ Lu a /\ HU /\ Ku a /\ Qu a /\
 Oh a /\ Sc a /\ Hb a /\ (a.x.l.length = a.x.l.length /\ ((0 : Nat) < a.x.l.length -> Lb)) /\ Kg /\ Bt /\ UO a <= (9223372036854775807 : Nat) /\ UO a * (40 : Nat) <=
 (140737488355328 : Nat)
abbrev TH (a : KY) : Nat := a.x.t.length + (1 : Nat)
abbrev Iz (a : KY) : Prop := (a.x.t.length = a.x.t.length /\ ((0 : Nat) < a.x.t.length -> Ei)) /\ Dn /\ Bt /\ TH a <= (9223372036854775807 : Nat) /\ TH a * (16 : Nat) <=
 (140737488355328 : Nat)
abbrev Px (a : KY) (a1 : KY) : Prop := a.x.l.length = UO a1
abbrev Rz (a : KY) (a1 : KY) : Prop := a.x.t.length = TH a1
abbrev KL (i : Nat) (a : KY) : Bool := decide (i < a.x.l.length)
abbrev Qy (i : Nat) (a : KY) : Bool := decide (i < a.x.t.length)
abbrev Jl (a : KY) (a1 : KY) (a2 : MkI) : Prop := BV /\ Px a a1 /\ BV /\ Rz a a1 /\ nY a2 = nY a2 /\ Kh a a1 /\ Ms a a1 /\ Jq a a1 /\ Od a a1 /\ Ot a
 a1 /\ BV /\ DC /\ BL /\ BL /\ BL /\ HW a2 /\ HV a2 /\ FT a2 /\ Yf a2.s = Yf a2.s /\ gI a2.s = gI a2.s /\ Px a a1 /\ (∀ (i : Nat), i < a.x.l.length -> ((gD a.x.l
 i).i.lo = bif KL i a1 then (gD a1.x.l i).i.lo else Fw a1) /\ ((gD a.x.l i).i.hi = bif KL i a1 then (gD a1.x.l i).i.hi else Jv a1) /\ ((gD a.x.l i).d.lo = bif KL i a1 then (gD a1.x.l
 i).d.lo else Ph a1) /\ ((gD a.x.l i).d.hi = bif KL i a1 then (gD a1.x.l i).d.hi else It a1) /\ (gD a.x.l i).sp = bif KL i a1 then (gD a1.x.l i).sp else Ia a1) /\ Rz a a1 /\ ∀
 (i : Nat), i < a.x.t.length -> ((gD a.x.t i).x = bif Qy i a1 then (gD a1.x.t i).x else a1.p.x) /\ (gD a.x.t i).d = bif Qy i a1 then (gD a1.x.t i).d else a1.p.d
abbrev Mm (a : MkI) : Prop := (uI a).t.length = (mT a.s).l.length
abbrev He (a : MkI) : Prop := ∀ (i : Nat), i < (uI a).t.length -> (gD (uI a).t i).x = (gD (mT a.s).l i).x /\ (gD (uI a).t i).d = (gD (mT a.s).l i).d
abbrev Iu (a : MkI) : Prop := (uI a).c = BP a.s (60 : Int)
abbrev Sj (a : MkI) : Prop := (mY a).l.length = (0 : Nat)
abbrev Hs (a : MkI) : Prop := (mY a).t.length = (0 : Nat)
abbrev Io (a : MkI) (a1 : KY) : Prop := (mY a).s.bs.length = a1.x.s.bs.length /\ (∀ (i : Nat), i < (mY a).s.bs.length -> gD (mY a).s.bs i = gD a1.x.s.bs i) /\ (mY a).s.used = a1.x.s.used /\ (mY a).s.mix = a1.x.s.mix
abbrev Tb (a : KY) (a1 : KY) : Prop := a.x.l.length = a1.x.l.length
abbrev Np (a : KY) (a1 : KY) : Prop := a.x.t.length = a1.x.t.length
abbrev Gb (a : MkI) (a1 : KY) (a2 : KY) : Prop := I15 a a1 /\ TI a1 /\ ID a /\ GO a a2 = GO a a1
abbrev Jz (a : MkI) (a1 : KY) (a2 : KY) : Prop := TB a a1 /\ GO a a1 < GO a a2
abbrev TE (a : KY) (j : Nat) : Yr := gD a.x.l (Bj j)
abbrev Hv (a : KY) (j : Nat) : Span := (TE a j).i
abbrev Ni (a : KY) (j : Nat) : Span := (TE a j).d
abbrev Ha (a : KY) (j : Nat) : Pt := gD a.x.t (Bj j)
theorem AUS (a : MkI) : (AMY a) = ((sH /\ sJ a = a.s.bs.length /\ (∀ (i : Nat), i < sJ a -> gD (Ug a) i = gD a.s.bs i) /\ a.s.used = a.s.used /\ a.s.mix = a.s.mix /\ (a.s.used - (0 :
 Int)).NonNeg) /\ (pJ /\ cQ a = rM a /\ (∀ (i : Nat), i < cQ a -> gD (Tm a) i = vA a i) /\ SE a = SE a /\ Dv a = Dv a /\ (0 : Int) <= SE a /\ KF /\
 cY a = Yy a /\ (∀ (i : Nat), i < cY a -> gD (Cd a) i = eJ a i) /\ RN a = RN a /\ Cn a = Cn a /\ (RN a - (0 : Int)).NonNeg) /\ (((2 : Int) = Int.ofNat (2 :
 Nat) /\ (6 : Int) = Int.ofNat (6 : Nat) /\ dZ a = cW a /\ (∀ (i : Nat), i < dZ a -> gD (Dh a) i = bX a i) /\ SB a = SB a /\ Dk a = Dk a /\ (SB a - (0 :
 Int)).NonNeg) /\ (∃ (a_1 : KT), (a.m = a.m /\ a_1.x.x = BP (bO a) (50 : Int) /\ a_1.x.d = BP (cJ a) (20 : Int) /\ nB a.s = Fx (Yi a) (2 : Int) (6 : Int) /\ (↑a_1.k : Int) = (0 : Int) /\
 a_1.x.s.bs.length = (Zy a).length /\ (∀ (i : Nat), Yp i a_1 -> gD a_1.x.s.bs i = gD (Zy a) i) /\ a_1.x.s.used = (Du a).used /\ a_1.x.s.mix = (Du a).mix /\ BV /\ DC /\ BL /\
 BL /\ BL /\ BV /\ DC /\ BP a.s (60 : Int) = BP (tH a) (60 : Int)) /\ eW a a_1) /\ (∀ (a_1 : KT), eW a a_1 -> bif bI a_1 a then De /\ Zx a_1 /\ ∃ (a_3 :
 KT), (a.m = a.m /\ Yo a_3 a_1 /\ Za a_3 a_1 /\ nB a.s = nB a.s /\ dW a_3 a_1 /\ dO a_3 a_1 /\ bN a_3 a_1 /\ aR a_3 a_1 /\ aL a_3 a_1 /\ BV /\ DC /\ BL /\
 BL /\ BL /\ BV /\ eR a_3 /\ FT a /\ eR a_3 /\ ∀ (i : Nat), i < a_3.x.l.length -> (gD a_3.x.l i).x = a_1.x.x /\ (gD a_3.x.l i).d = a_1.x.d) /\ Ep a a_3 /\ Cv a a_3 < (20 :
 Nat) else ∃ (a_3 : One), (a.m = a.m /\ dS a a_1 /\ bB a a_1 /\ aZ a a_1 /\ dU a a_1 /\ BV /\ DC /\ BL /\ BL /\ BL /\ Zz a /\ Zz a /\ FT a) /\
 MR a) /\ ∀ (a_1 : KT), Ep a a_1 -> bif bI a_1 a then ((a_1.x.l.length = a_1.x.l.length /\ ((0 : Nat) < a_1.x.l.length -> Ei)) /\ Dn /\ Bt /\ Db a_1 <= (9223372036854775807 : Nat)
 /\ Db a_1 * (16 : Nat) <= (140737488355328 : Nat)) /\ Zx a_1 /\ ∃ (a_3 : KT), (a.m = a.m /\ Yo a_3 a_1 /\ Za a_3 a_1 /\ nB a.s = nB a.s /\ dW a_3 a_1 /\ dO a_3 a_1 /\ bN a_3 a_1 /\
 aR a_3 a_1 /\ aL a_3 a_1 /\ BV /\ DC /\ BL /\ BL /\ BL /\ BV /\ Yt a_3 a_1 /\ FT a /\ Yt a_3 a_1 /\ ∀ (i : Nat), i < a_3.x.l.length -> ((gD a_3.x.l i).x =
 bif Zm i a_1 then (gD a_1.x.l i).x else a_1.x.x) /\ (gD a_3.x.l i).d = bif Zm i a_1 then (gD a_1.x.l i).d else a_1.x.d) /\ Ep a a_3 /\ Cv a a_3 < Cv a a_1 else ∃ (a_3 : One), (a.m = a.m /\
 dS a a_1 /\ bB a a_1 /\ aZ a a_1 /\ dU a a_1 /\ BV /\ DC /\ BL /\ BL /\ BL /\ (mT a.s).l.length = a_1.x.l.length /\ (0 : Nat) + a_1.x.l.length <= a_1.x.l.length /\ (∀ (j
 : Nat), bT j a -> (gD (mT a.s).l j).x = (eU a_1 j).x /\ (gD (mT a.s).l j).d = (eU a_1 j).d) /\ FT a) /\ MR a) /\ ∀ (a_1 : One), MR a -> ((-40 : Int) = Int.negSucc (39 : Nat) /\ (40 :
 Int) = Int.ofNat (40 : Nat) /\ Yu a = (mT a.s).s.bs.length /\ (∀ (i : Nat), i < Yu a -> gD (Ej a) i = gD (mT a.s).s.bs i) /\ (mT a.s).s.used = (mT a.s).s.used /\ (mT a.s).s.mix = (mT a.s).s.mix /\ ((mT
 a.s).s.used - (0 : Int)).NonNeg) /\ ((KF /\ Gj a = dL a /\ (∀ (i : Nat), i < Gj a -> gD (Dz a) i = Zq a i) /\ NS a = NS a /\ VP a = VP a /\ (NS
 a - (0 : Int)).NonNeg) /\ ∃ (a_3 : One), (a.m = a.m /\ (b6 a.s).bs.length = (Te a).length /\ (∀ (i : Nat), i < (b6 a.s).bs.length -> gD (b6 a.s).bs i = gD (Te a) i) /\ (b6 a.s).used = (XG a).used /\ (b6
 a.s).mix = (XG a).mix /\ BV /\ DC /\ BL /\ BL /\ BL /\ HW a /\ HV a /\ FT a /\ Yf a.s = La a /\ gI a.s = IntKind.i64.wrap (La a + BP
 (Na a) (20 : Int))) /\ MR a) /\ ∀ (a_3 : One), MR a -> (cT /\ a.m = a.m /\ Gh a = (b6 a.s).bs.length /\ (∀ (i : Nat), i < Gh a -> gD (XT a) i = gD (b6 a.s).bs i) /\ (b6
 a.s).used = (b6 a.s).used /\ (b6 a.s).mix = (b6 a.s).mix /\ ((b6 a.s).used - (0 : Int)).NonNeg) /\ (∃ (a_5 : KY), (BV /\ DC /\ BV /\ DC /\ nY a = Fx (Ks a) (1 : Int) a.m /\ (↑a_5.k : Int) =
 (0 : Int) /\ a_5.x.s.bs.length = (Qf a).length /\ (∀ (i : Nat), UP i a_5 -> gD a_5.x.s.bs i = gD (Qf a) i) /\ a_5.x.s.used = (UH a).used /\ a_5.x.s.mix = (UH a).mix /\ BV /\
 DC /\ BL /\ BL /\ BL /\ HW a /\ HV a /\ FT a /\ Yf a.s = Yf a.s /\ gI a.s = gI a.s) /\ Lp a a_5) /\ (∀ (a_5 : KY), Lp a a_5 -> bif Jj a_5 a then
 (Pg a_5 /\ ∃ (a_7 : KY), (BV /\ DC /\ BV /\ DC /\ nY a = nY a /\ Qi a_7 a_5 /\ Ft a_7 a_5 /\ Hj a_7 a_5 /\ Lz a_7 a_5 /\ Ri a_7 a_5 /\ BV /\
 DC /\ BL /\ BL /\ BL /\ HW a /\ HV a /\ FT a /\ Yf a.s = Yf a.s /\ gI a.s = gI a.s /\ Ja a_7 a_5 /\ Gs a_7 a_5) /\ Nb a a_7) /\ (∀ (a_7 : KY), Nb
 a a_7 -> Oo a_7 /\ De /\ ∃ (a_9 : KY), Ov a_9 a a_7 /\ Mg a a_9) /\ ∀ (a_7 : KY), I15 a a_7 /\ TI a_7 /\ ID a /\ (60 : Nat) = GO a a_7 -> Qt a_7 /\ Iz a_7 /\ ∃
 (a_9 : KY), Jl a_9 a_7 a /\ Mg a a_9 else Mm a /\ He a /\ Iu a /\ Yf a.s = Yf a.s /\ gI a.s = gI a.s /\ Sj a /\ Sj a /\ Hs a /\ Hs a /\ Io a a_5)
 /\ ∀ (a_5 : KY), TB a a_5 -> bif Jj a_5 a then (Pg a_5 /\ ∃ (a_7 : KY), (BV /\ Tb a_7 a_5 /\ BV /\ Np a_7 a_5 /\ nY a = nY a /\ Qi a_7 a_5 /\ Ft a_7 a_5 /\
 Hj a_7 a_5 /\ Lz a_7 a_5 /\ Ri a_7 a_5 /\ BV /\ DC /\ BL /\ BL /\ BL /\ HW a /\ HV a /\ FT a /\ Yf a.s = Yf a.s /\ gI a.s = gI a.s /\ Ja
 a_7 a_5 /\ Gs a_7 a_5 /\ Tb a_7 a_5 /\ (∀ (i : Nat), i < a_7.x.l.length -> (gD a_7.x.l i).i.lo = (gD a_5.x.l i).i.lo /\ (gD a_7.x.l i).i.hi = (gD a_5.x.l i).i.hi /\ (gD a_7.x.l i).d.lo = (gD a_5.x.l i).d.lo /\
 (gD a_7.x.l i).d.hi = (gD a_5.x.l i).d.hi /\ (gD a_7.x.l i).sp = (gD a_5.x.l i).sp) /\ Np a_7 a_5 /\ ∀ (i : Nat), i < a_7.x.t.length -> (gD a_7.x.t i).x = (gD a_5.x.t i).x /\ (gD a_7.x.t i).d = (gD a_5.x.t i).d) /\
 Gb a a_7 a_5) /\ (∀ (a_7 : KY), I15 a a_7 /\ a_7.k = (0 : Nat) /\ ID a /\ GO a a_5 = (60 : Nat) -> Oo a_7 /\ De /\ ∃ (a_9 : KY), Ov a_9 a a_7 /\ Jz a a_9 a_5) /\ ∀ (a_7 :
 KY), Gb a a_7 a_5 -> Qt a_7 /\ Iz a_7 /\ ∃ (a_9 : KY), Jl a_9 a_7 a /\ Jz a a_9 a_5 else Mm a /\ He a /\ Iu a /\ Yf a.s = Yf a.s /\ gI a.s = gI a.s /\ (mY
 a).l.length = a_5.x.l.length /\ (0 : Nat) + a_5.x.l.length <= a_5.x.l.length /\ (∀ (j : Nat), j < (mY a).l.length -> (gD (mY a).l j).i.lo = (Hv a_5 j).lo /\ (gD (mY a).l j).i.hi = (Hv a_5 j).hi /\ (gD (mY a).l
 j).d.lo = (Ni a_5 j).lo /\ (gD (mY a).l j).d.hi = (Ni a_5 j).hi /\ (gD (mY a).l j).sp = (TE a_5 j).sp) /\ (mY a).t.length = a_5.x.t.length /\ (0 : Nat) + a_5.x.t.length <= a_5.x.t.length /\ (∀ (j :
 Nat), j < (mY a).t.length -> (gD (mY a).t j).x = (Ha a_5 j).x /\ (gD (mY a).t j).d = (Ha a_5 j).d) /\ Io a a_5) := by kernel_rfl
theorem AHS (s : Stm) : Stm.mk s.bs s.used s.mix = s := rfl
theorem gs1 {α : Type} [Inhabited α] (l : List α) (x : α) {i : Nat} (h : i < l.length) : gD (l ++ [x]) i = gD l i := by
 rw [Cs l x (by omega), decide_eq_true h]; rfl
theorem gs2 {α : Type} [Inhabited α] (l : List α) (x : α) : gD (l ++ [x]) l.length = x := by
 rw [Cs l x (by omega), decide_eq_false (by omega)]; rfl
theorem AWG (l : List Pt) (p : Pt) : ∀ i, i < (l ++ [p]).length -> ((gD (l ++ [p]) i).x = bif decide (i < l.length) then (gD l i).x else p.x) /\ (gD (l ++ [p]) i).d = bif decide (i < l.length) then (gD l i).d else p.d := λ i hi => by
 rw [Cs l p (by simpa using hi)]
 cases decide (i < l.length) <;> exact ⟨rfl, rfl⟩
theorem BIV (l : List Yr) (y : Yr) : ∀ i, i < (l ++ [y]).length -> ((gD (l ++ [y]) i).i.lo = bif decide (i < l.length) then (gD l i).i.lo else y.i.lo) /\ ((gD (l ++ [y]) i).i.hi = bif decide (i < l.length) then (gD l i).i.hi else y.i.hi) /\ ((gD (l ++ [y]) i).d.lo = bif decide (i < l.length) then (gD l i).d.lo else y.d.lo) /\ ((gD (l ++ [y]) i).d.hi = bif decide (i < l.length) then (gD l i).d.hi else y.d.hi) /\ (gD (l ++ [y]) i).sp = bif decide (i < l.length) then (gD l i).sp else y.sp := λ i hi => by
 rw [Cs l y (by simpa using hi)]
 cases decide (i < l.length) <;> exact ⟨rfl, rfl, rfl, rfl, rfl⟩
theorem PtOk.snoc {l : List Pt} {x d x' d' : Int} (h : PtOk l x d) (h1 : 0 <= x) (h2 : x < x') (h3 : 0 <= d) (h4 : d <= d') : PtOk (l ++ [⟨x, d⟩]) x' d' := by
 refine ⟨λ i hi => ?_, λ i hi => ?_⟩
 ·have hi : i < l.length + 1 := by simpa using hi
  by_cases e : i < l.length
  ·rw [gs1 l _ e]; have := h.all i e; omega
  ·obtain rfl : i = l.length := by omega
   rw [gs2]; exact ⟨⟨h1, h2⟩, h3, h4⟩
 ·have hi : i + 1 < l.length + 1 := by simpa using hi
  rw [gs1 l _ (by omega)]
  by_cases e : i + 1 < l.length
  ·rw [gs1 l _ e]; exact h.ord i e
  ·have e2 : i + 1 = l.length := by omega
   have := h.all i (by omega)
   rw [e2, gs2]; exact ⟨this.1.2, this.2.2⟩
theorem IW {K : Int} {s : Stm} (h : StmB K s) (hK : K <= 1000000000000000) (lo hi : Int) : StmB (K + 1) (YO s lo hi) := h.next hK _
theorem ADB {s : Stm} {y : KT} (h : I4 s y) (hk : (y.k : Int) < nB s) (hn : nB s <= 6) : I4 s ⟨y.k + 1, wF y.x⟩ := by
 have hs := h.hs
 have hx := h.hx
 have hd := h.hd
 have hw := Dl hs (by omega) (lo := 1) (hi := 60) (by omega) (by omega) (by omega)
 have hs1 := IW hs (by omega) 1 60
 have hv := EJ hs1 (by omega) 50
 have hv2 := hv.2 (by omega)
 have e1 : wr (y.x.x + Fx y.x.s 1 60) = y.x.x + Fx y.x.s 1 60 := JA (by omega) (by omega)
 have e2 : wr (y.x.d + BP (YO y.x.s 1 60) 50) = y.x.d + BP (YO y.x.s 1 60) 50 := JA (by omega) (by omega)
 refine ⟨by show ((y.k + 1 : Nat) : Int) <= _; omega, (hs1.next (by omega) 50).mono (by show _ <= 4 + 2 * ((y.k + 1 : Nat) : Int); omega), ?_, ?_, ?_, ?_, ?_⟩
 ·obtain ⟨n, en⟩ : ∃ n, (nB s).toNat - y.k = n + 1 := ⟨(nB s).toNat - y.k - 1, by omega⟩
  have hm := h.hm
  rw [en] at hm
  show mkT ((nB s).toNat - (y.k + 1)) (wF y.x) = _
  rw [show (nB s).toNat - (y.k + 1) = n by omega]; exact hm
 ·show (y.x.l ++ [_]).length = y.k + 1
  rw [List.length_append, h.hn]; rfl
 ·show 0 <= wr _ /\ wr _ <= 50 + 60 * ((y.k + 1 : Nat) : Int); rw [e1]; omega
 ·show 0 <= wr _ /\ wr _ <= 20 + 50 * ((y.k + 1 : Nat) : Int); rw [e2]; omega
 ·show PtOk (y.x.l ++ [⟨y.x.x, y.x.d⟩]) (wr _) (wr _)
  rw [e1, e2]; exact h.hp.snoc hx.1 (by omega) hd.1 (by omega)
theorem AWB {s : Stm} {y : KT} (h : I4 s y) (hk : ¬(y.k : Int) < nB s) : y = ⟨(nB s).toNat, mT s⟩ := by
 obtain ⟨k, x⟩ := y
 have h1 : (k : Int) <= nB s := h.hk
 have hk : ¬(k : Int) < nB s := hk
 obtain rfl : k = (nB s).toNat := by omega
 have hm : mkT ((nB s).toNat - (nB s).toNat) x = mT s := h.hm
 rw [Nat.sub_self] at hm
 rw [show x = mT s from hm]
theorem Y_in {a : MkI} {k : Nat} {m : MY} (h : I13 a k m) (hk : (k : Int) < nY a) (hn : nY a <= 40) : I15 a ⟨k, ⟨BO (BO m.s 200) 120, m.l, m.t⟩, ⟨BP m.s 200, BP (BO m.s 200) 120⟩⟩ := by
 have hs := h.hs
 have hs1 := hs.next (by omega) 200
 have hv1 := EJ hs (by omega) 200
 have hv2 := EJ hs1 (by omega) 120
 refine ⟨h.hb, hk, (hs1.next (by omega) 120).mono (by show _ <= 22 + 7 * (k : Int); omega), ?_, h.hn, h.ht, h.hy, ⟨hv1.1, hv1.2 (by omega)⟩, hv2.1, hv2.2 (by omega)⟩
 obtain ⟨n, en⟩ : ∃ n, (nY a).toNat - k = n + 1 := ⟨(nY a).toNat - k - 1, by omega⟩
 have hm := h.hm
 rw [en] at hm
 show mkY ((nY a).toNat - (k + 1)) (stpY m) = _
 rw [show (nY a).toNat - (k + 1) = n by omega]; exact hm
theorem BDV {x d n0 n1 n2 n3 : Int} (b : Bool) (hx : 0 <= x /\ x < 200) (hd : 0 <= d /\ d < 120) (h0 : 0 <= n0 /\ n0 < 20) (h1 : 0 <= n1 /\ n1 < 20) (h2 : 0 <= n2 /\ n2 < 9) (h3 : 0 <= n3 /\ n3 < 9) : YQ ⟨⟨mxG (wr (x - n0)), wr (x + n1)⟩, ⟨mxG (wr (d - n2)), wr (d + n3)⟩, b⟩ = true /\ mxG (wr (d - n2)) <= 200 := by
 have e0 : wr (x - n0) = x - n0 := JA (by omega) (by omega)
 have e1 : wr (x + n1) = x + n1 := JA (by omega) (by omega)
 have e2 : wr (d - n2) = d - n2 := JA (by omega) (by omega)
 have e3 : wr (d + n3) = d + n3 := JA (by omega) (by omega)
 have m : ∀ c : Int, 0 <= mxG c /\ c <= mxG c /\ (mxG c = 0 ∨ mxG c = c) := λ c => by
  unfold mxG Yv; split <;> omega
 have m1 := m (x - n0)
 have m2 := m (d - n2)
 rw [e0, e1, e2, e3]
 simp only [YQ, JF, FW, HO, Bool.and_eq_true, decide_eq_true_eq]
 omega
theorem BII {K : Int} {s : Stm} (h : StmB K s) (hK : K <= 1000) : StmB (K + 5) (y5 s) := by
 have s1 : StmB (K + 1) (y1 s) := h.next (by omega) 20
 have s2 : StmB (K + 1 + 1) (y2 s) := s1.next (by omega) 20
 have s3 : StmB (K + 1 + 1 + 1) (y3 s) := s2.next (by omega) 9
 have s4 : StmB (K + 1 + 1 + 1 + 1) (y4 s) := s3.next (by omega) 9
 have s5 : StmB (K + 1 + 1 + 1 + 1 + 1) (y5 s) := s4.next (by omega) 9
 exact s5.mono (by omega)
theorem Y_o1 {a : MkI} {y : KY} (h : I15 a y) (hn : nY a <= 40) : StmB (20 + 7 * ((y.k + 1 : Nat) : Int)) (ZW y.x.s y.p.x y.p.d y.x.l y.x.t).s := by
 have hk := h.hk
 have s5 := BII h.hs (by omega)
 show StmB _ (y5 y.x.s)
 exact s5.mono (by omega)
theorem Y_o3 {a : MkI} {y : KY} (h : I15 a y) (hn : nY a <= 40) : YQ (yrG y.x.s y.p.x y.p.d) = true /\ (yrG y.x.s y.p.x y.p.d).d.lo <= 200 := by
 have hk := h.hk
 have s0 := h.hs
 have s1 := s0.next (by omega) 20
 have s2 := s1.next (by omega) 20
 have s3 := s2.next (by omega) 9
 have v0 := EJ s0 (by omega) 20
 have v1 := EJ s1 (by omega) 20
 have v2 := EJ s2 (by omega) 9
 have v3 := EJ s3 (by omega) 9
 exact BDV _ h.hx h.hd ⟨v0.1, v0.2 (by omega)⟩ ⟨v1.1, v1.2 (by omega)⟩ ⟨v2.1, v2.2 (by omega)⟩ ⟨v3.1, v3.2 (by omega)⟩
theorem AQE {a : MkI} {y : KY} (h : I15 a y) (hn : nY a <= 40) : I13 a (y.k + 1) (ZW y.x.s y.p.x y.p.d y.x.l y.x.t) := by
 have hk := h.hk
 refine ⟨h.hb, by omega, Y_o1 h hn, h.hm, ?_, ?_, ?_⟩
 ·show (y.x.l ++ [_]).length = _
  rw [List.length_append, h.hn]; rfl
 ·show (y.x.t ++ [_]).length = _
  rw [List.length_append, h.ht]; rfl
 ·intro i hi
  show YQ (gD (y.x.l ++ [yrG y.x.s y.p.x y.p.d]) i) = true /\ (gD (y.x.l ++ [yrG y.x.s y.p.x y.p.d]) i).d.lo <= 200
  have hi : i < y.x.l.length + 1 := by have q : i < (y.x.l ++ [yrG y.x.s y.p.x y.p.d]).length := hi; simpa using q
  by_cases e : i < y.x.l.length
  ·rw [gs1 _ _ e]; exact h.hy i e
  ·obtain rfl : i = y.x.l.length := by omega
   rw [gs2]; exact Y_o3 h hn
theorem AVU {a : MkI} {k : Nat} {m : MY} (h : I13 a k m) (hk : ¬(k : Int) < nY a) : m = mY a := by
 have h1 := h.hk
 obtain rfl : k = (nY a).toNat := by omega
 have hm := h.hm
 rw [Nat.sub_self] at hm; exact hm
theorem BBH (a : MkI) (h : StmB 0 a.s /\ 1 <= a.m /\ a.m <= 40) : AMY a := by
 rw [AUS]; delta sH Ug sJ pJ tH Xw oC rM vA Tm cQ SE Dv KF bO Be bY Yy eJ Cd cY RN Cn cJ Ci Yj cW bX Dh dZ SB Dk Yi Du Zy Yp BV DC BL aB eD bC eW bI dI dA RB Ei Dn Zt aI De cT Eb dR bF Bu eX bH aY Dy Zn RJ Cm Zx Yo dF Za dW Dt eH dO bN aR aL eR FT Ep Cv dS bB aZ dU Zz MR Bt Db Yt Zm bT Bj eU Ej Yu aG Dc aH dL Zq Dz Gj NS VP Na XG Te HW HV La XT Gh Ks UH Qf UP ID Lp Jj XB Qh VO TZ UR TX SS OR TG Hn Sd Mb XW Mp NA UM Pg Qi Nj XY Pz Ft Hj Lz Ri Ja Gs Nb TY Jn Ld So VM Hq Qb Jw NH Fg YC No Mn HU Md SL Hu Qg Lx WT Ge Hf Ky OM Nh VH Ii Ml Jf XR Ro Kj Mf WA Gz Kf Kp NF Fq VV Rk Lu Kk WQ Sv Ik Hc WG Fy Ku Qu OJ Oh XK Sc Hb Lb Kg Oo Nu Ie Kh Kx XV Mo Ms Jq Od Ot Fw Jv Ph It Ia Ov TI TB GO Mg UO Qt TH Iz Px Rz KL Qy Jl Mm He Iu Sj Hs Io Tb Np Gb Jz TE Hv Ni Ha; simp only [BF, eq_self, implies_true, and_self, true_and, and_true, true_implies, forall_const, decide_eq_true_eq, decide_eq_false_iff_not, Int.toNat_natCast, dSpan_eSpan, dInt_eInt, AV, BH, BJ, BC, AZ, AX, AY, Nat.zero_add, Int.zero_sub, Nat.le_eq, Nat.succ_eq_add_one, Nat.add_one_le_iff, Bool.not_eq_true', Bool.not_eq_false', rng_length, AT, AP, AHS, Int.ofNat_lt]
 obtain ⟨hs, hm1, hm2⟩ := h
 have s1 := hs.next (by omega) 60
 have s2 := s1.next (by omega) 50
 have s3 := s2.next (by omega) 20
 have s4 := IW s3 (by omega) 2 6
 have v1 := EJ s1 (by omega) 50
 have v2 := EJ s2 (by omega) 20
 have u1 := v1.2 (by omega)
 have u2 := v2.2 (by omega)
 have hB : 2 <= nB a.s /\ nB a.s <= 6 := Dl s3 (by omega) (lo := 2) (hi := 6) (by omega) (by omega) (by omega)
 have i0 : I4 a.s ⟨0, mT0 a.s⟩ := ⟨by show ((0 : Nat) : Int) <= nB a.s; omega, s4.mono (by show _ <= 4 + 2 * ((0 : Nat) : Int); omega), rfl, rfl, ⟨v1.1, by show BP (BO a.s 60) 50 <= 50 + 60 * ((0 : Nat) : Int); omega⟩, ⟨v2.1, by show BP (BO (BO a.s 60) 50) 20 <= 20 + 50 * ((0 : Nat) : Int); omega⟩, ⟨λ i hi => absurd hi (Nat.not_lt_zero _), λ i hi => absurd hi (Nat.not_lt_zero _)⟩⟩
 have nn : ∀ {K : Int} {s : Stm}, StmB K s -> (s.used - 0).NonNeg := λ h => by have := h.used.1; rw [Int.sub_zero]; exact Int.le_def.1 this |> λ q => by simpa using q
 refine ⟨⟨rfl, nn hs⟩, ⟨rfl, s1.used.1, rfl, nn s2⟩, ⟨⟨rfl, rfl, nn s3⟩, ⟨⟨0, mT0 a.s⟩, ⟨rfl, rfl, rfl, rfl, rfl, λ _ _ => rfl, rfl, rfl⟩, i0, rfl, hB⟩, λ y hy => ⟨λ hk => ?_, λ hk => ?_⟩, λ y hy => ⟨λ hk => ?_, λ hk => ?_⟩⟩, λ hI => ?_⟩
 ·obtain ⟨hy, hy0, _, hn⟩ := hy
  have t0 := hy.hs
  have t1 := IW t0 (by omega) 1 60
  have hl : y.x.l = [] := List.eq_nil_of_length_eq_zero (by rw [hy.hn, hy0])
  have e : (wF y.x).l = [⟨y.x.x, y.x.d⟩] := by show y.x.l ++ [_] = _; rw [hl]; rfl
  refine ⟨⟨by omega, by omega, by omega, by omega, by omega⟩, ⟨rfl, rfl, t0.used.1, rfl, nn t1⟩, ⟨y.k + 1, wF y.x⟩, ⟨rfl, rfl, (CE (by omega)).symm, rfl, λ _ _ => rfl, rfl, rfl, by rw [e]; rfl, by rw [e]; rfl, λ i hi => ?_⟩, ⟨ADB hy hk hn, Nat.succ_pos _, hB⟩, by show (nB a.s).toNat - (y.k + 1) < 20; omega⟩
  have hi : i < (wF y.x).l.length := hi
  show (gD (wF y.x).l i).x = _ /\ (gD (wF y.x).l i).d = _
  rw [e] at hi ⊢
  obtain rfl : i = 0 := by have q : i < 1 := hi; omega
  exact ⟨rfl, rfl⟩
 ·obtain ⟨hy, hy0, _, hn⟩ := hy
  omega
 ·obtain ⟨hy, hy0, _, hn⟩ := hy
  have t0 := hy.hs
  have t1 := IW t0 (by omega) 1 60
  have hl := hy.hn
  refine ⟨⟨by omega, λ h => (by cases h), by omega, by omega⟩, ⟨rfl, rfl, t0.used.1, rfl, nn t1⟩, ⟨y.k + 1, wF y.x⟩, ⟨rfl, rfl, (CE (by omega)).symm, rfl, λ _ _ => rfl, rfl, rfl, List.length_append, List.length_append, AWG _ _⟩, ⟨ADB hy hk hn, Nat.succ_pos _, hB⟩, by show (nB a.s).toNat - (y.k + 1) < _; omega⟩
 ·obtain ⟨hy, hy0, _, hn⟩ := hy
  have e := AWB hy (by omega)
  subst e
  exact ⟨default, ⟨rfl, λ _ _ => rfl, rfl, rfl, rfl, Nat.le_refl _, λ _ _ => ⟨rfl, rfl⟩⟩, hB.1, hB.2, hy⟩
 ·have hIB : IB a.s := hI
  obtain ⟨_, _, hT⟩ := hI
  have hTs : StmB 16 (mT a.s).s := hT.hs.mono (by show 4 + 2 * (((nB a.s).toNat : Nat) : Int) <= 16; omega)
  have t1 := IW hTs (by omega) (-40) 40
  have t2 := t1.next (by omega) 20
  have t3 := IW t2 (by omega) 1 a.m
  have hY : 1 <= nY a /\ nY a <= a.m := Dl t2 (by omega) (lo := 1) (hi := a.m) (by omega) hm1 (by omega)
  have hY2 : nY a <= 40 := by omega
  have i13 : I13 a 0 ⟨b7 a, [], []⟩ := ⟨hIB, by show ((0 : Nat) : Int) <= nY a; omega, t3.mono (by show _ <= 20 + 7 * ((0 : Nat) : Int); omega), rfl, rfl, rfl, λ i hi => absurd hi (Nat.not_lt_zero _)⟩
  have yr5 : ∀ {y : KY}, I15 a y -> StmB (22 + 7 * y.k) y.x.s /\ StmB (22 + 7 * y.k + 1) (BO y.x.s 20) /\ StmB (22 + 7 * y.k + 1 + 1) (BO (BO y.x.s 20) 20) /\ StmB (22 + 7 * y.k + 1 + 1 + 1) (BO (BO (BO y.x.s 20) 20) 9) /\ StmB (22 + 7 * y.k + 1 + 1 + 1 + 1) (BO (BO (BO (BO y.x.s 20) 20) 9) 9) := λ {y} hy => by
   have hk := hy.hk
   have q0 := hy.hs
   have q1 := q0.next (by omega) 20
   have q2 := q1.next (by omega) 20
   have q3 := q2.next (by omega) 9
   exact ⟨q0, q1, q2, q3, q3.next (by omega) 9⟩
  refine ⟨⟨rfl, rfl, nn hTs⟩, ⟨⟨rfl, nn t1⟩, default, ⟨rfl, λ _ _ => rfl, rfl, rfl, rfl, rfl⟩, hIB⟩, λ _ => ⟨⟨rfl, nn t2⟩, ⟨⟨0, ⟨b7 a, [], []⟩, default⟩, ⟨rfl, rfl, rfl, λ _ _ => rfl, rfl, rfl⟩, i13, rfl, hY.1, hY2⟩, λ y hy => ⟨λ hk => ?_, λ hk => ?_⟩, λ y hy => ⟨λ hk => ?_, λ hk => ?_⟩⟩⟩
  ·obtain ⟨hy, hy0, _, _⟩ := hy
   have q0 := hy.hs
   have q1 := q0.next (by omega) 200
   have hl : y.x.l = [] := List.eq_nil_of_length_eq_zero (by rw [hy.hn, hy0])
   have ht : y.x.t = [] := List.eq_nil_of_length_eq_zero (by rw [hy.ht, hy0])
   refine ⟨⟨⟨rfl, q0.used.1, rfl, nn q1⟩, ⟨y.k, ⟨BO (BO y.x.s 200) 120, y.x.l, y.x.t⟩, ⟨BP y.x.s 200, BP (BO y.x.s 200) 120⟩⟩, ⟨rfl, rfl, λ _ _ => rfl, rfl, rfl, rfl, rfl⟩, Y_in hy hk hY2, hy0, hY2⟩, λ z hz => ?_, λ z hz => absurd hz.2.2.2 (by omega)⟩
   obtain ⟨hz, hz0, _⟩ := hz
   obtain ⟨q0, q1, q2, q3, q4⟩ := yr5 hz
   have hl : z.x.l = [] := List.eq_nil_of_length_eq_zero (by rw [hz.hn, hz0])
   have ht : z.x.t = [] := List.eq_nil_of_length_eq_zero (by rw [hz.ht, hz0])
   have e1 : (ZW z.x.s z.p.x z.p.d z.x.l z.x.t).l = [yrG z.x.s z.p.x z.p.d] := by show z.x.l ++ [_] = _; rw [hl]; rfl
   have e2 : (ZW z.x.s z.p.x z.p.d z.x.l z.x.t).t = [z.p] := by show z.x.t ++ [_] = _; rw [ht]; rfl
   refine ⟨⟨rfl, q0.used.1, rfl, q1.used.1, rfl, q2.used.1, rfl, q3.used.1, rfl, q4.used.1, by omega, by omega, by omega, by omega, by omega⟩, ⟨by omega, by omega, by omega, by omega, by omega⟩, ⟨z.k + 1, ZW z.x.s z.p.x z.p.d z.x.l z.x.t, default⟩, ⟨by rw [e1]; rfl, by rw [e2]; rfl, (CE (by omega)).symm, rfl, λ _ _ => rfl, rfl, rfl, by rw [e1]; rfl, λ i hi => ?_, by rw [e2]; rfl, λ i hi => ?_⟩, ⟨AQE hz hY2, Nat.succ_pos _, hY2⟩, by show (nY a).toNat - (z.k + 1) < 60; omega⟩
   ·have hi : i < (ZW z.x.s z.p.x z.p.d z.x.l z.x.t).l.length := hi
    show (gD (ZW z.x.s z.p.x z.p.d z.x.l z.x.t).l i).i.lo = _ /\ (gD (ZW z.x.s z.p.x z.p.d z.x.l z.x.t).l i).i.hi = _ /\ (gD (ZW z.x.s z.p.x z.p.d z.x.l z.x.t).l i).d.lo = _ /\ (gD (ZW z.x.s z.p.x z.p.d z.x.l z.x.t).l i).d.hi = _ /\ (gD (ZW z.x.s z.p.x z.p.d z.x.l z.x.t).l i).sp = _
    rw [e1] at hi ⊢
    obtain rfl : i = 0 := by have q : i < 1 := hi; omega
    exact ⟨rfl, rfl, rfl, rfl, rfl⟩
   ·have hi : i < (ZW z.x.s z.p.x z.p.d z.x.l z.x.t).t.length := hi
    show (gD (ZW z.x.s z.p.x z.p.d z.x.l z.x.t).t i).x = _ /\ (gD (ZW z.x.s z.p.x z.p.d z.x.l z.x.t).t i).d = _
    rw [e2] at hi ⊢
    obtain rfl : i = 0 := by have q : i < 1 := hi; omega
    exact ⟨rfl, rfl⟩
  ·obtain ⟨hy, hy0, h1, _⟩ := hy
   omega
  ·obtain ⟨hy, hy0, _⟩ := hy
   have q0 := hy.hs
   have q1 := q0.next (by omega) 200
   refine ⟨⟨⟨rfl, q0.used.1, rfl, nn q1⟩, ⟨y.k, ⟨BO (BO y.x.s 200) 120, y.x.l, y.x.t⟩, ⟨BP y.x.s 200, BP (BO y.x.s 200) 120⟩⟩, ⟨rfl, rfl, rfl, rfl, λ _ _ => rfl, rfl, rfl, rfl, rfl, rfl, λ _ _ => ⟨rfl, rfl, rfl, rfl, rfl⟩, rfl, λ _ _ => ⟨rfl, rfl⟩⟩, Y_in hy hk hY2, hy0, hY2, rfl⟩, λ z hz => absurd hz.2.2.2 (by omega), λ z hz => ?_⟩
   obtain ⟨hz, hz0, _, hm⟩ := hz
   obtain ⟨q0, q1, q2, q3, q4⟩ := yr5 hz
   have hl := hz.hn
   have ht := hz.ht
   have hkz := hz.hk
   refine ⟨⟨rfl, q0.used.1, rfl, q1.used.1, rfl, q2.used.1, rfl, q3.used.1, rfl, q4.used.1, by omega, λ h => (by cases h), by omega, by omega⟩, ⟨by omega, λ h => (by cases h), by omega, by omega⟩, ⟨z.k + 1, ZW z.x.s z.p.x z.p.d z.x.l z.x.t, default⟩, ⟨List.length_append, List.length_append, (CE (by omega)).symm, rfl, λ _ _ => rfl, rfl, rfl, List.length_append, BIV _ _, List.length_append, AWG _ _⟩, ⟨AQE hz hY2, Nat.succ_pos _, hY2⟩, by show (nY a).toNat - (z.k + 1) < _; omega⟩
  ·obtain ⟨hy, hy0, _⟩ := hy
   have e := AVU hy (by omega)
   rw [e]
   exact ⟨rfl, λ _ _ => ⟨rfl, rfl⟩, rfl, rfl, Nat.le_refl _, λ _ _ => ⟨rfl, rfl, rfl, rfl, rfl⟩, rfl, Nat.le_refl _, λ _ _ => ⟨rfl, rfl⟩, rfl, λ _ _ => rfl, rfl, rfl⟩
theorem AUQ : AR Try.prog ADA (C_Bord.spec dMkI) := EX C_Bord AQJ [] [303, 304] ATK (λ _ => by kernel_rfl) (λ _ => AH V1 (AH AKD (AH AUV AM))) (λ (a : MkI) h => BBH a h) (λ _ => FK rfl rfl) _
end Go.Bal
