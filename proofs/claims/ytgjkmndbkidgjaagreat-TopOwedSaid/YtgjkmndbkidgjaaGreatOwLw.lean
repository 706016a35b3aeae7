/- Law TopOwed: its walk. -/
import Derived.Test.YtgjkmndbkidgjaaGreatOwLa
set_option linter.unusedVariables false
set_option linter.unusedSimpArgs false
namespace Go.Bal
open Go Go.Sym Go.Proofs
structure OwI where
 bs : List Int
 cs : List Int
 w : Int
 f : Nat
def owA (x : OwI) : MkI := ⟨⟨x.bs, 0, 0⟩, 10⟩
def DI (x : OwI) : List Yr := (mY (owA x)).l
def ED (x : OwI) : Nat := (DI x).length
def EN (x : OwI) : Bd := uI (owA x)
def CZ (x : OwI) : Span := ⟨Yf (owA x).s, gI (owA x).s⟩
def HZ (x : OwI) : Nat := x.w.toNat % ED x
def IU (x : OwI) : Stm := ⟨x.cs, 0, 0⟩
def AOO (x : OwI) : Int := wr ((gD (DI x) (HZ x)).d.lo + BP (IU x) 9)
def AYL (x : OwI) : Int := wr (AOO x + BP (BO (IU x) 9) 20)
def newY (x : OwI) : Yr := ⟨(gD (DI x) (HZ x)).i, ⟨AOO x, AYL x⟩, (gD (DI x) (HZ x)).sp⟩
def QG (x : OwI) : List Yr := AJ (ED x) λ i => bif decide (i = HZ x) then newY x else gD (DI x) i
def Ez (L i : Nat) : Wk := ⟨bif decide (i < L) then [] else bif decide (i = L) then [0] else [((i - L : Nat) : Int), ((i - 1 : Nat) : Int)], 0, 1⟩
def HM (L : Nat) : List Wk := AJ (2 * L) (Ez L)
def YP (x : OwI) : List Span := JN ⟨EN x, CZ x, DI x⟩
def YM (x : OwI) : List Span := JN ⟨EN x, CZ x, QG x⟩
def owW (x : OwI) : WI := ⟨HM (ED x), [(HZ x : Int)]⟩
def LU (x : OwI) : List Int := Kn (owW x)
def QC (x : OwI) : List Int := gG (HM (ED x)) (MP (HM (ED x)) [(HZ x : Int)] (HM (ED x)).length)
def X5 (l : List Yr) (k : Nat) : Nat -> Bool
 | 0 => false
 | j + 1 => bif X5 l k j then true else bif decide (k <= j) then (gD l j).sp else false
def eW0 : DVal := .agg [.list 0 0 (λ _ => default) false, BM 0, BM 1]
def owC (x : OwI) : List (Nat × AVal) := [(7, .bptr 2128 0), (8, .bptr 2144 0), (9, .d (gL (DI x)))]
def owH (x : OwI) : List (Nat × HCell) := [(2128, .live (.box [.d (HP (EN x).t), .int (EN x).c])), (2144, .live (.box [.int (CZ x).lo, .int (CZ x).hi]))]
def owH3 (x : OwI) : List (Nat × HCell) := owH x ++ [(3016, stmH (IU x))]
def owS5 (x : OwI) (k : Nat) (v : AVal) : List (Nat × AVal) := owC x ++ [(2, .d (.v (.int .u8 x.w))), (11, .bptr 3016 0), (12, v), (40, .int (ED x)), (41, .int k)]
def ow5n (x : OwI) : Shape := { α := One, dflt := default, T := λ _ => ⟨owS5 x 0 (.d QF), owH3 x⟩, inv := λ _ => True, meas := λ _ => 40 }
def ow5o (x : OwI) : Shape := { α := Nat, dflt := 0, T := λ k => ⟨owS5 x k (.own 301 3 0 k), owH3 x ++ [(301, .live (.row 3 k λ _ => eW0))]⟩, inv := λ k => 1 <= k /\ k <= ED x, meas := λ k => ED x - k, again := [(301, 7048)] }
def rowW (L n : Nat) : HCell := .live (.row 3 n λ i => BK (Ez L i))
def ow8 (x : OwI) : Shape := { α := One, dflt := default, T := λ _ => ⟨owC x ++ [(2, .d (.v (.int .u8 x.w))), (11, .bptr 3016 0), (12, .own 301 3 0 (ED x))], owH3 x ++ [(301, rowW (ED x) (ED x))]⟩, inv := λ _ => True, meas := λ _ => 0 }
def owS9 (x : OwI) (j : Nat) : List (Nat × AVal) := owC x ++ [(2, .d (.v (.int .u8 x.w))), (11, .bptr 3016 0), (12, .own 301 3 0 (ED x + j)), (49, .int (ED x)), (50, .int j)]
def ow9 (x : OwI) : Shape := { α := Nat, dflt := 0, T := λ j => ⟨owS9 x j, owH3 x ++ [(301, rowW (ED x) (ED x + j))]⟩, inv := λ j => j <= ED x, meas := λ j => ED x - j, again := [(301, 15048)] }
def ow14 (x : OwI) (m : Nat) : Shape := { α := Nat, dflt := 0, T := λ j => ⟨owS9 x j ++ [(14, .bptr 205 0)], owH3 x ++ [(301, rowW (ED x) (ED x + j)), (205, .live (.box [.d (AF (Ez (ED x) (ED x + j)).of), .int 0, .int 1]))]⟩, inv := λ j => j < ED x /\ ED x - j = m, meas := λ _ => 0, first := [(205, 12048)] }
def ow16 (x : OwI) : Shape := { α := One, dflt := default, T := λ _ => ⟨owC x ++ [(2, .d (.v (.int .u8 x.w))), (11, .bptr 3016 0), (12, .d (JZ (HM (ED x))))], owH3 x⟩, inv := λ _ => True, meas := λ _ => 0, ffz := [301] }
def ow20 (x : OwI) : Shape := { α := One, dflt := default, T := λ _ => ⟨owC x ++ [(12, .d (JZ (HM (ED x)))), (15, .int (HZ x)), (16, .d (gL (QG x)))], owH x⟩, inv := λ _ => True, meas := λ _ => 0, ffz := [18016] }
def ARU (x : OwI) : List (Nat × AVal) := [(9, .d (gL (DI x))), (12, .d (JZ (HM (ED x)))), (15, .int (HZ x)), (17, .d (ADS (YP x))), (19, .d (ADS (YM x))), (21, .d (AF (LU x))), (23, .d (AF (QC x)))]
def ow24 (x : OwI) : Shape := { α := One, dflt := default, T := λ _ => ⟨ARU x ++ [(18, .int 0), (20, .int 0), (22, .int 0), (24, .int 0)], []⟩, inv := λ _ => True, meas := λ _ => 0 }
def ow26 (x : OwI) : Shape := { α := One, dflt := default, T := λ _ => ⟨ARU x, []⟩, inv := λ _ => True, meas := λ _ => 0 }
def ow28 (x : OwI) : Shape := { α := Nat, dflt := 0, T := λ j => ⟨ARU x ++ [(25, .bool (X5 (DI x) (HZ x) j)), (180, .int (ED x)), (181, .int j)], []⟩, inv := λ j => j <= ED x, meas := λ j => ED x - j }
def ow35 (x : OwI) : Shape := { α := One, dflt := default, T := λ _ => ⟨[(9, .d (gL (DI x))), (12, .d (JZ (HM (ED x)))), (15, .int (HZ x))], []⟩, inv := λ _ => True, meas := λ _ => 0 }
def xOw (x : OwI) : List AVal := [.d (eBys x.bs), .d (eBys x.cs), .d (.v (.int .u8 x.w))]
def A_Ow (x : OwI) : Ann := { ann 274 [(ALT, C_New.spec AVI), (ADA, C_Bord.spec dMkI), (W8, C_cpY.spec AVN), (tK, C_Next.spec T4), (G7, C_Debts.spec AHE), (gX, C_Stale.spec pB), (U2, C_Ready.spec pB), (OO, rK), (Xd, C_FrzX.spec (d_FA x.f)), (N9, C_aware.spec xC)] with mt := λ id => id == 6 || id == 14, md := λ id => if id = 11 then some (λ k => if k = 1 then 4 else 0) else none, loops := λ id => if id = 5 then some [ow5n x, ow5o x] else if id = 9 then some [ow9 x] else if id = 28 then some [ow28 x] else none, cut := λ id => if id = 8 then some [ow8 x] else if id = 16 then some [ow16 x] else if id = 20 then some [ow20 x] else if id = 24 then some [ow24 x] else if id = 26 then some [ow26 x] else if id = 35 then some [ow35 x] else none, cutIn := λ gs id => if id = 14 then some [ow14 x (gs.getD 0 0)] else none }
def V_Ow (x : OwI) : Prop := BB Try.prog (A_Ow x) AEP (AS AEP) (xOw x) (AK []) (.bool true) [] [] []
abbrev ACR (x : OwI) : List Int := AJ x.bs.length λ (i : Nat) => gD x.bs i
abbrev vJ (x : OwI) : Nat := (ACR x).length
abbrev A8 (x : OwI) (i : Nat) : Int := gD (ACR x) i
abbrev yW (x : OwI) : List Int := AJ (vJ x) λ (i : Nat) => A8 x i
abbrev AFX (x : OwI) : Nat := (yW x).length
abbrev ACK : Prop := (0 : Int) = (0 : Int)
abbrev oY (x : OwI) : Stm := Stm.mk (yW x) (0 : Int) (0 : Int)
abbrev ACC (x : OwI) : List Int := AJ x.cs.length λ (i : Nat) => gD x.cs i
abbrev L5 (x : OwI) : Nat := (ACC x).length
abbrev AFU (x : OwI) (i : Nat) : Int := gD (ACC x) i
abbrev zM (x : OwI) : MkI := MkI.mk (oY x) (10 : Int)
abbrev E9 (x : OwI) : List Yr := (mY (zM x)).l
abbrev P5 (x : OwI) : Nat := (E9 x).length
abbrev jK (x : OwI) (i : Nat) : Yr := gD (E9 x) i
abbrev E1 (x : OwI) (i : Nat) : Span := (jK x i).i
abbrev E6 (x : OwI) (i : Nat) : Span := (jK x i).d
abbrev KZ : Prop := (0 : Nat) = (0 : Nat)
abbrev S2 : Prop := ∀ (i : Nat), i < (0 : Nat) -> false = false
abbrev TD : Prop := Int.ofNat (0 : Nat) = Int.ofNat (0 : Nat)
abbrev E0 (x : OwI) : Bd := uI (zM x)
abbrev D9 (x : OwI) : List Pt := (E0 x).t
abbrev zK (x : OwI) (i : Nat) : Pt := gD (D9 x) i
abbrev Ws : Prop := (1 : Nat) <= (1 : Nat)
abbrev Xk : Prop := (0 : Nat) < (1 : Nat)
abbrev jQ : Prop := (3 : Nat) = (3 : Nat)
abbrev kU : Prop := Ws /\ (Xk -> jQ)
abbrev GA (x : OwI) : Prop := (DI x).length = (DI x).length
abbrev GC (x : OwI) : Prop := ∀ (i : Nat), i < (DI x).length -> (gD (DI x) i).i.lo = (gD (DI x) i).i.lo /\ (gD (DI x) i).i.hi = (gD (DI x) i).i.hi /\ (gD (DI x) i).d.lo = (gD (DI x) i).d.lo /\ (gD (DI x)
 i).d.hi = (gD (DI x) i).d.hi /\ (gD (DI x) i).sp = (gD (DI x) i).sp
abbrev VQ (x : OwI) : Prop := (↑(ED x) : Int) = (↑(ED x) : Int)
abbrev KU (x : OwI) : Prop := (EN x).t.length = (EN x).t.length
abbrev KV (x : OwI) : Prop := ∀ (i : Nat), i < (EN x).t.length -> (gD (EN x).t i).x = (gD (EN x).t i).x /\ (gD (EN x).t i).d = (gD (EN x).t i).d
abbrev MB (x : OwI) : Prop := (IU x).bs.length = (IU x).bs.length
abbrev MC (x : OwI) : Prop := ∀ (i : Nat), i < (IU x).bs.length -> gD (IU x).bs i = gD (IU x).bs i
abbrev iT : Prop := TD /\ Int.ofNat (1 : Nat) = Int.ofNat (1 : Nat)
abbrev mU (a : Nat) (x : OwI) : Prop := (1 : Nat) <= a /\ a <= ED x
abbrev Ea (x : OwI) (a : Nat) : Nat := ED x - a
abbrev gU (a : Nat) (x : OwI) : Bool := decide ((↑a : Int) < (↑(ED x) : Int))
abbrev kX : Prop := false = true -> Xk
abbrev lQ (a : Nat) : Nat := a + (1 : Nat)
abbrev zJ (a : Nat) (a1 : Nat) : Prop := a = lQ a1
abbrev gT (a : Nat) (a1 : Nat) : Prop := (↑a : Int) = IntKind.i64.wrap ((↑a1 : Int) + (1 : Int))
abbrev yJ (x : OwI) (a : Nat) (a1 : Nat) : Prop := Ea x a < Ea x a1
abbrev R7 (x : OwI) (i : Nat) : Prop := (Ez (ED x) i).of.length = (0 : Nat)
abbrev GM (x : OwI) (a : Nat) : Nat := ED x + a
abbrev H9 (x : OwI) (a : Nat) : Prop := GM x a = ED x
abbrev K0 (x : OwI) : Prop := (↑(ED x) : Int) = (↑(DI x).length : Int)
abbrev N2 (a : Nat) : Prop := (↑a : Int) = (0 : Int)
abbrev iV (i : Nat) (x : OwI) (a : Nat) : Prop := i < GM x a
abbrev N5 (i : Nat) (x : OwI) (i1 : Nat) : Prop := i < (Ez (ED x) i1).of.length
abbrev lT (x : OwI) (a : Nat) : Prop := ∀ (i : Nat), iV i x a -> (Ez (ED x) i).of.length = (Ez (ED x) i).of.length /\ (∀ (i_1 : Nat), N5 i_1 x i -> gD (Ez (ED x) i).of i_1 = gD (Ez (ED x) i).of i_1) /\
 (Ez (ED x) i).ba = (Ez (ED x) i).ba /\ (Ez (ED x) i).mi = (Ez (ED x) i).mi
abbrev U4 : Prop := Xk -> (1 : Nat) = (1 : Nat)
abbrev Up (x : OwI) (a : Nat) (a1 : Nat) : Prop := GM x a = GM x a1
abbrev zT (a : Nat) (a1 : Nat) : Prop := (↑a : Int) = (↑a1 : Int)
abbrev C7 (x : OwI) (a : Nat) : List Int := (Ez (ED x) (GM x a)).of
abbrev Vv (x : OwI) (a : Nat) : Nat := (C7 x a).length
abbrev O8 (i : Nat) (x : OwI) (a : Nat) : Prop := i < Vv x a
abbrev mE (x : OwI) (a : Nat) (i : Nat) : Int := gD (C7 x a) i
abbrev QA (x : OwI) (a : Nat) : Int := IntKind.i64.wrap ((↑(DI x).length : Int) + (↑a : Int))
abbrev kW (a : Nat) (x : OwI) (a1 : Nat) : Prop := a < ED x /\ Ea x a = Ea x a1
abbrev mA (x : OwI) (a : Nat) : Nat := GM x a + (1 : Nat)
abbrev L0 (x : OwI) (a : Nat) (a1 : Nat) : Prop := GM x a = mA x a1
abbrev Ts (i : Nat) (x : OwI) (a : Nat) : Bool := decide (iV i x a)
abbrev V4 (a : Nat) (x : OwI) (a1 : Nat) : Prop := a.le (ED x) /\ yJ x a a1
abbrev Cx (x : OwI) (j : Nat) : Nat := (gD (HM (ED x)) j).of.length
abbrev iO (j : Nat) : Nat := (0 : Nat) + j
abbrev iB (x : OwI) (j : Nat) : Wk := Ez (ED x) (iO j)
abbrev zZ (x : OwI) (j : Nat) : List Int := (iB x j).of
abbrev B7 (i : Nat) (x : OwI) (j : Nat) : Prop := i < Cx x j
abbrev Ul (x : OwI) (j : Nat) (i : Nat) : Int := gD (gD (HM (ED x)) j).of i
abbrev Cp (x : OwI) : List Yr := AJ (DI x).length λ (i : Nat) => gD (DI x) i
abbrev HS (x : OwI) : Nat := (Cp x).length
abbrev B9 (x : OwI) : Prop := HS x = (DI x).length
abbrev lH (x : OwI) (i : Nat) : Yr := gD (Cp x) i
abbrev O4 (x : OwI) (i : Nat) : Span := (lH x i).i
abbrev A7 (x : OwI) (i : Nat) : Span := (lH x i).d
abbrev yG (x : OwI) : Prop := ∀ (i : Nat), i < HS x -> (O4 x i).lo = (gD (DI x) i).i.lo /\ (O4 x i).hi = (gD (DI x) i).i.hi /\ (A7 x i).lo = (gD (DI x) i).d.lo /\ (A7 x i).hi = (gD (DI
 x) i).d.hi /\ (lH x i).sp = (gD (DI x) i).sp
abbrev Xq (x : OwI) : Int := (IntKind.i64.wrap x.w).tmod (↑(DI x).length : Int)
abbrev hX (x : OwI) : Prop := (0 : Int) <= Xq x /\ Xq x < (↑(HS x) : Int)
abbrev UY (x : OwI) : Nat := (0 : Nat) + (Xq x).toNat
abbrev K6 (x : OwI) : Prop := UY x < HS x
abbrev jX (x : OwI) : List Int := AJ (IU x).bs.length λ (i : Nat) => gD (IU x).bs i
abbrev V7 (x : OwI) : Nat := (jX x).length
abbrev T3 (x : OwI) : Prop := hX x /\ (UY x).succ.le (HS x)
abbrev O0 (x : OwI) : Stm := Stm.mk (jX x) (IU x).used (IU x).mix
abbrev lM (x : OwI) : Stm := BO (O0 x) (9 : Int)
abbrev zV (x : OwI) : List Int := (lM x).bs
abbrev G1 (x : OwI) : Nat := (zV x).length
abbrev N6 (x : OwI) (i : Nat) : Int := gD (zV x) i
abbrev mN (x : OwI) : List Int := AJ (G1 x) λ (i : Nat) => N6 x i
abbrev G5 (x : OwI) : Nat := (mN x).length
abbrev Vi (x : OwI) : Int := (lM x).used
abbrev mF (x : OwI) : Int := (lM x).mix
abbrev XL (x : OwI) : Prop := (HM (ED x)).length = (HM (ED x)).length
abbrev WF (x : OwI) : Prop := ∀ (i : Nat), i < (HM (ED x)).length -> Cx x i = Cx x i /\ (∀ (i_1 : Nat), B7 i_1 x i -> Ul x i i_1 = Ul x i i_1) /\ (gD (HM (ED x)) i).ba = (gD (HM (ED x))
 i).ba /\ (gD (HM (ED x)) i).mi = (gD (HM (ED x)) i).mi
abbrev IT (j : Nat) (x : OwI) : Bool := decide (iO j = UY x)
abbrev Tp (x : OwI) : Bool := decide (UY x = UY x)
abbrev iF (x : OwI) : Yr := gD (Cp x) (UY x)
abbrev S0 (x : OwI) : Span := (iF x).i
abbrev jI (x : OwI) : Int := (S0 x).lo
abbrev jC (x : OwI) (j : Nat) : Yr := gD (Cp x) (iO j)
abbrev uD (x : OwI) (j : Nat) : Span := (jC x j).i
abbrev Xr (x : OwI) : Int := (S0 x).hi
abbrev rD (x : OwI) : Span := (iF x).d
abbrev uT (x : OwI) : Int := (rD x).lo
abbrev qL (x : OwI) : Int := IntKind.i64.wrap (uT x + BP (O0 x) (9 : Int))
abbrev tB (x : OwI) : Int := bif Tp x then qL x else uT x
abbrev pY (x : OwI) (j : Nat) : Span := (jC x j).d
abbrev Vz (x : OwI) : Bool := (iF x).sp
abbrev YX (x : OwI) : Bd := fX (DVal.agg [HP (EN x).t, DVal.v (Value.int IntKind.i64 (EN x).c)])
abbrev uQ (x : OwI) : List Pt := (YX x).t
abbrev pG (x : OwI) : Nat := (uQ x).length
abbrev sS (x : OwI) : Prop := pG x = (EN x).t.length
abbrev vE (x : OwI) (i : Nat) : Pt := gD (uQ x) i
abbrev pK (x : OwI) : Prop := ∀ (i : Nat), i < pG x -> (vE x i).x = (gD (EN x).t i).x /\ (vE x i).d = (gD (EN x).t i).d
abbrev pH (x : OwI) : Prop := (YX x).c = (EN x).c
abbrev oZ (x : OwI) : BSY := BSY.mk (YX x) (CZ x) (Cp x)
abbrev Tr (x : OwI) : List Yr := AJ (QG x).length λ (i : Nat) => gD (QG x) i
abbrev Tn (x : OwI) : Nat := (Tr x).length
abbrev Xa (x : OwI) (i : Nat) : Yr := gD (Tr x) i
abbrev nK (x : OwI) (i : Nat) : Span := (Xa x i).i
abbrev uM (x : OwI) (i : Nat) : Span := (Xa x i).d
abbrev qM (x : OwI) : BSY := BSY.mk (YX x) (CZ x) (Tr x)
abbrev OQ (x : OwI) : List Wk := AJ (HM (ED x)).length λ (i : Nat) => BE (BK (gD (HM (ED x)) i))
abbrev Ap (x : OwI) : Nat := (OQ x).length
abbrev uV (x : OwI) : Prop := Ap x = (HM (ED x)).length
abbrev Xc (x : OwI) (i : Nat) : Wk := gD (OQ x) i
abbrev qW (x : OwI) (i : Nat) : List Int := (Xc x i).of
abbrev nZ (x : OwI) (i : Nat) : Nat := (qW x i).length
abbrev rA (x : OwI) : Prop := ∀ (i : Nat), i < Ap x -> nZ x i = Cx x i /\ (∀ (i_1 : Nat), i_1 < nZ x i -> gD (qW x i) i_1 = Ul x i i_1) /\ (Xc x i).ba = (gD (HM (ED x)) i).ba /\
 (Xc x i).mi = (gD (HM (ED x)) i).mi
abbrev QZ (x : OwI) : List Int := AJ (1 : Nat) λ (i : Nat) => (↑(HZ x) : Int)
abbrev vD (x : OwI) : Nat := (QZ x).length
abbrev oB (x : OwI) : Prop := vD x = (1 : Nat)
abbrev sP (x : OwI) : Prop := ∀ (j : Nat), j < vD x -> gD (QZ x) j = (↑(HZ x) : Int)
abbrev nS (x : OwI) : WI := WI.mk (OQ x) (QZ x)
abbrev tL (x : OwI) : Prop := uV x /\ rA x /\ oB x /\ Ws /\ sP x /\ RvOk (nS x)
abbrev QY (x : OwI) : Prop := (↑(HZ x) : Int) = (↑(HZ x) : Int)
abbrev rQ (x : OwI) : List Span := JN (oZ x)
abbrev oV (x : OwI) (i : Nat) : Span := gD (rQ x) i
abbrev sE (x : OwI) : List Span := JN (qM x)
abbrev pP (x : OwI) (i : Nat) : Span := gD (sE x) i
abbrev pO (x : OwI) : List Int := Kn (nS x)
abbrev nJ (x : OwI) : List Int := gG (OQ x) (MP (OQ x) (QZ x) (Ap x))
abbrev ZQ : Bool := (0 : Int) != (0 : Int)
abbrev Wn (x : OwI) : Prop := (YP x).length = (YP x).length
abbrev Vh (x : OwI) : Prop := ∀ (i : Nat), i < (YP x).length -> (gD (YP x) i).lo = (gD (YP x) i).lo /\ (gD (YP x) i).hi = (gD (YP x) i).hi
abbrev Uu (x : OwI) : Prop := (YM x).length = (YM x).length
abbrev Vk (x : OwI) : Prop := ∀ (i : Nat), i < (YM x).length -> (gD (YM x) i).lo = (gD (YM x) i).lo /\ (gD (YM x) i).hi = (gD (YM x) i).hi
abbrev Va (x : OwI) : Prop := (LU x).length = (LU x).length
abbrev Xz (x : OwI) : Prop := ∀ (i : Nat), i < (LU x).length -> gD (LU x) i = gD (LU x) i
abbrev Xs (x : OwI) : Prop := (QC x).length = (QC x).length
abbrev Vp (x : OwI) : Prop := ∀ (i : Nat), i < (QC x).length -> gD (QC x) i = gD (QC x) i
abbrev Yb (x : OwI) : List Int := AJ (LU x).length λ (i : Nat) => gD (LU x) i
abbrev Xo (x : OwI) : Nat := (Yb x).length
abbrev Un (a : Nat) (x : OwI) : Bool := decide ((↑a : Int) >= (↑(HZ x) : Int))
abbrev Xm (a : Nat) : Prop := (0 : Int) <= (↑a : Int)
abbrev Ae (x : OwI) (a : Nat) : Bool := CK (Yb x) (QA x a)
abbrev pE (x : OwI) (a : Nat) : Bool := !Ae x a == Un a x
abbrev rF (x : OwI) (a : Nat) : Bool := bif X5 (DI x) (HZ x) a then true else bif Un a x then (gD (DI x) a).sp else false
abbrev nV (x : OwI) (a : Nat) : Bool := bif !Ae x a then true else rF x a
abbrev oI (x : OwI) (a : Nat) : Prop := (!pE x a && nV x a) = true
abbrev uA (x : OwI) (a : Nat) : Bool := bif pE x a then true else bif nV x a then !((gD (YP x) a).lo == (gD (YM x) a).lo && ((gD (YP x) a).hi == (gD (YM x) a).hi && true)) else false
abbrev Ve (x : OwI) : FA := FA.mk x.f (OQ x) (QZ x)
abbrev tN (x : OwI) : Int := rP (Ve x)
theorem BGO (x : OwI) : (V_Ow x) = ((vJ x = x.bs.length /\ (∀ (i : Nat), i < vJ x -> A8 x i = gD x.bs i) /\ (10 : Int) = Int.ofNat (10 : Nat) /\ AFX x = vJ x /\ (∀ (i : Nat), i < AFX x -> gD (yW x)
 i = A8 x i) /\ ACK /\ ACK /\ StmB (0 : Int) (oY x) /\ (1 : Int) <= (10 : Int) /\ (10 : Int) <= (40 : Int)) /\ (L5 x = x.cs.length /\ ∀ (i : Nat), i < L5 x -> AFU x i = gD x.cs i) /\ ((∃ (a : One), ((DI
 x).length = P5 x /\ (∀ (i : Nat), i < (DI x).length -> (gD (DI x) i).i.lo = (E1 x i).lo /\ (gD (DI x) i).i.hi = (E1 x i).hi /\ (gD (DI x) i).d.lo = (E6 x i).lo /\ (gD (DI x) i).d.hi = (E6 x
 i).hi /\ (gD (DI x) i).sp = (jK x i).sp) /\ x.w = x.w /\ KZ /\ S2 /\ (↑(ED x) : Int) = (↑(P5 x) : Int) /\ TD /\ (EN x).t.length = (D9 x).length /\ (∀ (i : Nat), i < (EN x).t.length -> (gD
 (EN x).t i).x = (zK x i).x /\ (gD (EN x).t i).d = (zK x i).d) /\ (EN x).c = (E0 x).c /\ (CZ x).lo = Yf (oY x) /\ (CZ x).hi = gI (oY x) /\ (IU x).bs.length = L5 x /\ (∀ (i : Nat), i <
 (IU x).bs.length -> gD (IU x).bs i = AFU x i) /\ (IU x).used = (0 : Int) /\ (IU x).mix = (0 : Int)) /\ True) /\ (∀ (a : One), True -> bif decide ((↑(0 : Nat) : Int) < (↑(ED x) : Int)) then ((True /\ ((0 : Nat) < (0 :
 Nat) -> (0 : Nat) = (3 : Nat))) /\ kU /\ (true = true -> Xk) /\ (1 : Nat) <= (9223372036854775807 : Nat) /\ (40 : Nat) <= (140737488355328 : Nat)) /\ ∃ (a : Nat), (GA x /\ GC x /\ x.w = x.w /\ KZ /\ a = (1 :
 Nat) /\ VQ x /\ (↑a : Int) = IntKind.i64.wrap ((↑(0 : Nat) : Int) + (1 : Int)) /\ KU x /\ KV x /\ (EN x).c = (EN x).c /\ (CZ x).lo = (CZ x).lo /\ (CZ x).hi = (CZ x).hi /\ MB x /\ MC x /\ (IU
 x).used = (IU x).used /\ (IU x).mix = (IU x).mix /\ a = (1 : Nat) /\ ∀ (i : Nat), i < a -> KZ /\ S2 /\ iT) /\ mU a x /\ Ea x a < (40 : Nat) else False) /\ ∀ (a : Nat), mU a x -> bif gU a x
 then ((a = a /\ ((0 : Nat) < a -> jQ)) /\ kU /\ kX /\ lQ a <= (9223372036854775807 : Nat) /\ lQ a * (40 : Nat) <= (140737488355328 : Nat)) /\ ∃ (a_2 : Nat), (GA x /\ GC x /\ x.w = x.w /\ KZ /\
 zJ a_2 a /\ VQ x /\ gT a_2 a /\ KU x /\ KV x /\ (EN x).c = (EN x).c /\ (CZ x).lo = (CZ x).lo /\ (CZ x).hi = (CZ x).hi /\ MB x /\ MC x /\ (IU x).used = (IU x).used /\ (IU x).mix =
 (IU x).mix /\ zJ a_2 a /\ ∀ (i : Nat), i < a_2 -> ((0 : Nat) = bif decide (i < a) then (0 : Nat) else (0 : Nat)) /\ (∀ (i_1 : Nat), i_1 < (0 : Nat) -> false = bif decide (i < a) then default else default) /\ ((0 : Int) =
 bif decide (i < a) then (0 : Int) else (0 : Int)) /\ (1 : Int) = bif decide (i < a) then (1 : Int) else (1 : Int)) /\ mU a_2 x /\ yJ x a_2 a else ∃ (a_2 : One), (GA x /\ GC x /\ x.w = x.w /\ KZ /\ ED x
 = a /\ KU x /\ KV x /\ (EN x).c = (EN x).c /\ (CZ x).lo = (CZ x).lo /\ (CZ x).hi = (CZ x).hi /\ MB x /\ MC x /\ (IU x).used = (IU x).used /\ (IU x).mix = (IU x).mix /\ ED x = a /\ ∀ (i : Nat), i
 < ED x -> R7 x i /\ R7 x i /\ (Ez (ED x) i).ba = (0 : Int) /\ (Ez (ED x) i).mi = (1 : Int)) /\ True) /\ ∀ (a : One), True -> ((∃ (a : Nat), (GA x /\ GC x /\ x.w = x.w /\ KZ /\ H9 x a /\ K0 x /\
 N2 a /\ KU x /\ KV x /\ (EN x).c = (EN x).c /\ (CZ x).lo = (CZ x).lo /\ (CZ x).hi = (CZ x).hi /\ MB x /\ MC x /\ (IU x).used = (IU x).used /\ (IU x).mix = (IU x).mix /\ H9 x a /\
 lT x a) /\ a.le (ED x)) /\ ∀ (a : Nat), a.le (ED x) -> bif gU a x then (bif decide ((↑a : Int) > (0 : Int)) then ((True /\ U4) /\ (Ws /\ U4) /\ kX /\ (2 : Nat) <= (9223372036854775807 : Nat) /\ (16
 : Nat) <= (140737488355328 : Nat)) /\ ∃ (a_2 : Nat), (GA x /\ GC x /\ x.w = x.w /\ KZ /\ Up x a_2 a /\ VQ x /\ zT a_2 a /\ KU x /\ KV x /\ (EN x).c = (EN x).c /\ (CZ x).lo = (CZ x).lo
 /\ (CZ x).hi = (CZ x).hi /\ MB x /\ MC x /\ (IU x).used = (IU x).used /\ (IU x).mix = (IU x).mix /\ Up x a_2 a /\ lT x a_2 /\ Vv x a_2 = (2 : Nat) /\ (∀ (i : Nat), O8 i x a_2 -> mE x a_2
 i = bif decide (i < (1 : Nat)) then (↑a : Int) else IntKind.i64.wrap (QA x a - (1 : Int))) /\ iT) /\ kW a_2 x a else ∃ (a_2 : Nat), (GA x /\ GC x /\ x.w = x.w /\ KZ /\ Up x a_2 a /\ VQ x
 /\ zT a_2 a /\ KU x /\ KV x /\ (EN x).c = (EN x).c /\ (CZ x).lo = (CZ x).lo /\ (CZ x).hi = (CZ x).hi /\ MB x /\ MC x /\ (IU x).used = (IU x).used /\ (IU x).mix = (IU x).mix /\ Up x a_2
 a /\ lT x a_2 /\ Vv x a_2 = (1 : Nat) /\ (∀ (i : Nat), O8 i x a_2 -> mE x a_2 i = (↑a : Int)) /\ iT) /\ kW a_2 x a) /\ ∀ (a_2 : Nat), kW a_2 x a -> ((GM x a_2 = GM x a_2 /\ ((0 : Nat)
 < GM x a_2 -> jQ)) /\ kU /\ kX /\ mA x a_2 <= (9223372036854775807 : Nat) /\ mA x a_2 * (40 : Nat) <= (140737488355328 : Nat)) /\ ∃ (a_4 : Nat), (GA x /\ GC x /\ x.w = x.w /\ KZ /\
 L0 x a_4 a_2 /\ VQ x /\ gT a_4 a_2 /\ KU x /\ KV x /\ (EN x).c = (EN x).c /\ (CZ x).lo = (CZ x).lo /\ (CZ x).hi = (CZ x).hi /\ MB x /\ MC x /\ (IU x).used = (IU x).used /\ (IU
 x).mix = (IU x).mix /\ L0 x a_4 a_2 /\ ∀ (i : Nat), iV i x a_4 -> ((Ez (ED x) i).of.length = bif Ts i x a_2 then (Ez (ED x) i).of.length else Vv x a_2) /\ (∀ (i_1 : Nat), N5 i_1 x i -> gD (Ez
 (ED x) i).of i_1 = bif Ts i x a_2 then gD (Ez (ED x) i).of i_1 else mE x a_2 i_1) /\ ((Ez (ED x) i).ba = bif Ts i x a_2 then (Ez (ED x) i).ba else (0 : Int)) /\ (Ez (ED x) i).mi = bif Ts i x
 a_2 then (Ez (ED x) i).mi else (1 : Int)) /\ V4 a_4 x a else ∃ (a_2 : One), (GA x /\ GC x /\ x.w = x.w /\ (HM (ED x)).length = GM x a /\ (0 : Nat) + GM x a <= GM x a /\ (∀ (j : Nat), j < (HM
 (ED x)).length -> Cx x j = (zZ x j).length /\ (∀ (i : Nat), B7 i x j -> Ul x j i = gD (zZ x j) i) /\ (gD (HM (ED x)) j).ba = (iB x j).ba /\ (gD (HM (ED x)) j).mi = (iB x j).mi) /\
 KU x /\ KV x /\ (EN x).c = (EN x).c /\ (CZ x).lo = (CZ x).lo /\ (CZ x).hi = (CZ x).hi /\ MB x /\ MC x /\ (IU x).used = (IU x).used /\ (IU x).mix = (IU x).mix) /\ True) /\ ∀ (a : One), True ->
 ((↑(DI x).length : Int) = (0 : Int) -> False) /\ (B9 x /\ yG x /\ (0 : Nat) < HS x /\ HS x < (1073741824 : Nat)) /\ (hX x /\ K6 x /\ (9 : Int) = Int.ofNat (9 : Nat) /\ V7 x = (IU x).bs.length
 /\ (∀ (i : Nat), i < V7 x -> gD (jX x) i = gD (IU x).bs i) /\ (IU x).used = (IU x).used /\ (IU x).mix = (IU x).mix /\ (0 : Int) <= (IU x).used /\ T3 x) /\ ((hX x /\ K6 x /\ (20 : Int) = Int.ofNat (20
 : Nat) /\ G5 x = G1 x /\ (∀ (i : Nat), i < G5 x -> gD (mN x) i = N6 x i) /\ Vi x = Vi x /\ mF x = mF x /\ (0 : Int) <= Vi x /\ T3 x) /\ ∃ (a : One), (GA x /\ GC x /\
 XL x /\ WF x /\ (↑(HZ x) : Int) = Xq x /\ (QG x).length = HS x /\ (0 : Nat) + HS x <= HS x /\ (∀ (j : Nat), j < (QG x).length -> ((gD (QG x) j).i.lo = bif IT j x then bif Tp x
 then jI x else jI x else bif IT j x then jI x else (uD x j).lo) /\ ((gD (QG x) j).i.hi = bif IT j x then bif Tp x then Xr x else Xr x else bif IT j x then Xr x
 else (uD x j).hi) /\ ((gD (QG x) j).d.lo = bif IT j x then tB x else bif IT j x then qL x else (pY x j).lo) /\ ((gD (QG x) j).d.hi = bif IT j x then IntKind.i64.wrap (tB x +
 BP (Stm.mk (mN x) (Vi x) (mF x)) (20 : Int)) else bif IT j x then (rD x).hi else (pY x j).hi) /\ (gD (QG x) j).sp = bif IT j x then bif Tp x then Vz x else Vz x
 else bif IT j x then Vz x else (jC x j).sp) /\ KU x /\ KV x /\ (EN x).c = (EN x).c /\ (CZ x).lo = (CZ x).lo /\ (CZ x).hi = (CZ x).hi) /\ True) /\ ∀ (a : One), True -> (sS x /\ pK
 x /\ pH x /\ (CZ x).lo = (CZ x).lo /\ (CZ x).hi = (CZ x).hi /\ B9 x /\ yG x /\ AskOk (oZ x) /\ (1 : Nat) <= HS x) /\ (sS x /\ pK x /\ pH x /\ (CZ x).lo = (CZ x).lo /\ (CZ
 x).hi = (CZ x).hi /\ Tn x = (QG x).length /\ (∀ (i : Nat), i < Tn x -> (nK x i).lo = (gD (QG x) i).i.lo /\ (nK x i).hi = (gD (QG x) i).i.hi /\ (uM x i).lo = (gD (QG x) i).d.lo /\
 (uM x i).hi = (gD (QG x) i).d.hi /\ (Xa x i).sp = (gD (QG x) i).sp) /\ AskOk (qM x) /\ (1 : Nat) <= Tn x) /\ tL x /\ (tL x /\ ∃ (a : One), (GA x /\ GC x /\ XL x /\ WF x /\
 QY x /\ (YP x).length = (rQ x).length /\ (∀ (i : Nat), i < (YP x).length -> (gD (YP x) i).lo = (oV x i).lo /\ (gD (YP x) i).hi = (oV x i).hi) /\ (YM x).length = (sE x).length /\ (∀ (i :
 Nat), i < (YM x).length -> (gD (YM x) i).lo = (pP x i).lo /\ (gD (YM x) i).hi = (pP x i).hi) /\ (LU x).length = (pO x).length /\ (∀ (i : Nat), i < (LU x).length -> gD (LU x) i = gD (pO
 x) i) /\ (QC x).length = (nJ x).length /\ (∀ (i : Nat), i < (QC x).length -> gD (QC x) i = gD (nJ x) i) /\ TD /\ TD /\ TD /\ TD) /\ True) /\ ∀ (a : One), True -> (bif bif bif bif bif bif
 bif bif ZQ then true else ZQ then true else ZQ then true else ZQ then true else (↑(YP x).length : Int) != (↑(DI x).length : Int) then true else (↑(YM x).length : Int) != (↑(DI x).length :
 Int) then true else (↑(QC x).length : Int) != (↑(HM (ED x)).length : Int) then true else (↑(LU x).length : Int) != IntKind.i64.wrap (IntKind.i64.wrap ((1 : Int) + (↑(DI x).length : Int)) - (↑(HZ x) : Int))
 then true = false else ∃ (a : One), (GA x /\ GC x /\ XL x /\ WF x /\ QY x /\ Wn x /\ Vh x /\ Uu x /\ Vk x /\ Va x /\ Xz x /\ Xs x /\ Vp x) /\ True) /\ ∀ (a :
 One), True -> ((∃ (a : Nat), (GA x /\ GC x /\ XL x /\ WF x /\ QY x /\ Wn x /\ Vh x /\ Uu x /\ Vk x /\ Va x /\ Xz x /\ Xs x /\ Vp x /\ X5 (DI x) (HZ x) a =
 false /\ K0 x /\ N2 a) /\ a.le (ED x)) /\ ∀ (a : Nat), a.le (ED x) -> bif gU a x then (Xo x = (LU x).length /\ (∀ (i : Nat), i < Xo x -> gD (Yb x) i = gD (LU x) i) /\ QA x a =
 QA x a /\ (Xo x).succ.le (4611686018427387904 : Nat)) /\ ((!X5 (DI x) (HZ x) a && Un a x) = true -> Xm a /\ (↑a : Int) < (↑(DI x).length : Int)) /\ ((oI x a -> Xm a /\ (↑a : Int) <
 (↑(YP x).length : Int)) /\ (oI x a -> Xm a /\ (↑a : Int) < (↑(YM x).length : Int)) /\ ((!uA x a && Ae x a) = true -> (0 : Int) <= QA x a /\ QA x a < (↑(QC x).length : Int))) /\ bif bif
 uA x a then true else bif Ae x a then gD (QC x) (QA x a).toNat != IntKind.i64.wrap (IntKind.i64.wrap ((2 : Int) + (↑a : Int)) - (↑(HZ x) : Int)) else false then true = false else ∃ (a_2 : Nat),
 (GA x /\ GC x /\ XL x /\ WF x /\ QY x /\ Wn x /\ Vh x /\ Uu x /\ Vk x /\ Va x /\ Xz x /\ Xs x /\ Vp x /\ X5 (DI x) (HZ x) a_2 = rF x a /\ VQ x /\
 gT a_2 a) /\ V4 a_2 x a else ∃ (a : One), (GA x /\ GC x /\ XL x /\ WF x /\ QY x) /\ True) /\ ∀ (a : One), True -> (uV x /\ rA x /\ oB x /\ Ws /\ sP x /\ wr ((↑(Ap
 x) : Int) - (1 : Int)) = IntKind.i64.wrap ((↑(HM (ED x)).length : Int) - (1 : Int)) /\ FrOk (Ve x)) /\ bif (↑(HZ x) : Int) == IntKind.i64.wrap ((↑(DI x).length : Int) - (1 : Int)) then true = bif tN x ==
 (5 : Int) then true else false else true = bif bif tN x == (0 : Int) then (↑(N7 (Ve x)).length : Int) == (1 : Int) else false then true else false) := by kernel_rfl
end Go.Bal
