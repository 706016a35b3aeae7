/- Package chart: Holds. -/
import Derived.Test.YtdbjalgfomknhaaChL
set_option linter.unusedVariables false
set_option linter.unusedSimpArgs false
namespace Go.Bal
open Go Go.Sym Go.Proofs
structure CT where
 c : Cht
 t : Tru
def xCT (x : CT) : List AVal := [.d (XK x.c), .d (eTru x.t)]
def DY (x : CT) : CZ := ⟨x.c, x.t.z⟩
def hd1 (x : CT) (i : Nat) : Bool := DT (gD x.t.t i) (gD (DQ x.c) i).lo (gD (DQ x.c) i).hi && DT (gD x.t.s i) (FN x.c i).lo (FN x.c i).hi
def hdN (x : CT) : Nat -> Bool
 | 0 => true
 | k + 1 => hdN x k && hd1 x k
def hg1 (x : CT) (g : Nat) : Bool := DT (wr (gD x.t.t (g + 1) - gD x.t.t g)) (BM (AB (DY x)) g).lo (BM (AB (DY x)) g).hi
def hgN (x : CT) : Nat -> Bool
 | 0 => true
 | k + 1 => hgN x k && hg1 x k
def inT (l : List Int) : Bool := l.all λ a => DT a (-100000000) 100000000
def hldO (x : CT) : Bool × Int := bif decide (x.t.t.length = x.c.ms.length /\ x.t.s.length = x.c.ms.length) then bif inT x.t.t then (hdN x x.c.ms.length && hgN x (x.c.ms.length - 1), 0) else (false, 4) else (false, 2)
def IK (x : CT) : Bool × Int := bif GD (DY x) == 0 then hldO x else (false, GD (DY x))
def C_hold : Ctr := { α := CT, xs := xCT, val := λ x => .tup [.bool (IK x).1, .int (IK x).2], keep := λ _ => [], pre := λ x => [(x.c.ms.length < 4611686018427387904 /\ x.c.ns.length < 4611686018427387904 /\ x.t.z.length < 4611686018427387904) /\ x.t.t.length < 4611686018427387904 /\ x.t.s.length < 4611686018427387904] }
def hdH (x : CT) : List (Nat × HCell) := [(201, .live (.box [.d (BB x.t.t), .d (BB x.t.s), .d (BB x.t.z)])), (202, .live (.box [.d (.v (.bool false))])), (203, .live (.box [.d (.v (.int .i64 0))])), (204, .live (dkB (AB (DY x)) 205)), (205, .live (dkM (AB (DY x))))]
def hdS : List (Nat × AVal) := [(3, .bptr 201 0), (4, .bptr 202 0), (5, .bptr 203 0), (6, .bptr 204 0)]
def hd11 (x : CT) : Shape := { α := Nat, dflt := 0, T := λ k => ⟨hdS ++ [(9, .d (AT (DQ x.c))), (48, .int x.c.ms.length), (49, .int k)], hdH x⟩, inv := λ k => k <= x.c.ms.length /\ hdN x k = true, meas := λ k => x.c.ms.length - k, first := [(201, 1016), (202, 1032), (203, 1048), (204, 2048), (205, 2049)] }
def hgS (x : CT) (l k : Nat) : List (Nat × AVal) := [(0, .fn (.yield l) [] []), (1, .bptr 18016 0), (12, .int (wr ((x.c.ms.length : Int) - 1))), (13, .int k)]
def hg1s (x : CT) (l : Nat) : Shape := { α := Nat, dflt := 0, T := λ k => ⟨hgS x l k, hdH x ++ [(18016, .live (.box [.bptr 204 0]))]⟩, inv := λ k => k <= x.c.ms.length - 1 /\ hgN x k = true, meas := λ k => 50 - k }
noncomputable def DNC (x : CT) : IterAnn := { fn := RY, code := AL RY, live := [3, 4, 5], ann := { base := λ id => 100000 + 1000 * (id + 1), Γ := Sym.look [], E := [201, 202, 203, 204, 205, 18016], n := 66, inner := λ gs id => if id = 1 then some [hg1s x (gs.getD 0 0)] else none } }
noncomputable def DBP (x : CT) : Ann := { ann 108 [(RZ, C_beg.spec dCZ), (n_eI, C4Ih.spec d4Ih), (AIG, C_not.spec Dh), (Sw, C_stg.spec dDkI), (sZ, s_in), (AWB, C_gaps.spec Dh)] with iter := λ g => if g = LW then some (DNC x) else none, loops := λ id => if id = 11 then some [hd11 x] else none }
def DEE (x : CT) : Prop := BA Try.prog (DBP x) AAE (AL AAE) (xCT x) (AG []) (.tup [.bool (IK x).1, .int (IK x).2]) [] [] []
abbrev AJS (x : CT) : List Mk := AF x.c.ms.length λ (i : Nat) => gD x.c.ms i
abbrev Z1 (x : CT) : Nat := (AJS x).length
abbrev BNH (x : CT) (i : Nat) : Mk := gD (AJS x) i
abbrev AHI (x : CT) : List Nt := AF x.c.ns.length λ (i : Nat) => gD x.c.ns i
abbrev AEA (x : CT) : Nat := (AHI x).length
abbrev AJL (x : CT) (i : Nat) : Nt := gD (AHI x) i
abbrev BVV (x : CT) (i : Nat) : Span := (AJL x i).t
abbrev BRV (x : CT) (i : Nat) : Span := (AJL x i).s
abbrev AIH (x : CT) : List Int := AF x.t.z.length λ (i : Nat) => gD x.t.z i
abbrev AHT (x : CT) : Nat := (AIH x).length
abbrev AWS (x : CT) : Cht := Cht.mk x.c.p x.c.base x.c.scale x.c.off (AJS x) (AHI x)
abbrev AXO (x : CT) : CZ := CZ.mk (AWS x) (AIH x)
abbrev ASO (x : CT) : Int := GD (AXO x)
abbrev kW (x : CT) : List Int := AF x.t.t.length λ (i : Nat) => gD x.t.t i
abbrev qJ (x : CT) : Nat := (kW x).length
abbrev rI (x : CT) : Dk := AB (AXO x)
abbrev NZ (x : CT) : Cht := (rI x).c
abbrev oW (x : CT) : Span := (NZ x).p
abbrev pA (x : CT) : Int := (oW x).lo
abbrev AZX (x : CT) : Prop := pA x = pA x
abbrev qU (x : CT) : Int := (oW x).hi
abbrev AKM (x : CT) : Prop := qU x = qU x
abbrev Hs (x : CT) : Int := (NZ x).base
abbrev BGS (x : CT) : Prop := Hs x = Hs x
abbrev Iv (x : CT) : Int := (NZ x).scale
abbrev ASU (x : CT) : Prop := Iv x = Iv x
abbrev Fc (x : CT) : Int := (NZ x).off
abbrev BGB (x : CT) : Prop := Fc x = Fc x
abbrev BDD (x : CT) : List Mk := (NZ x).ms
abbrev SY (x : CT) : Nat := (BDD x).length
abbrev gY (x : CT) (i : Nat) : Mk := gD (BDD x) i
abbrev qY (x : CT) : List Mk := AF (SY x) λ (i : Nat) => gY x i
abbrev NJ (x : CT) : Nat := (qY x).length
abbrev BCV (x : CT) (i : Nat) : Mk := gD (qY x) i
abbrev BGD (x : CT) (i : Nat) : Int := (BCV x i).pl
abbrev hC (x : CT) (i : Nat) : Int := (gY x i).pl
abbrev AVB (x : CT) (i : Nat) : Int := (BCV x i).ht
abbrev qL (x : CT) (i : Nat) : Int := (gY x i).ht
abbrev Ha (x : CT) : List Nt := (NZ x).ns
abbrev SM (x : CT) : Nat := (Ha x).length
abbrev Fj (x : CT) (i : Nat) : Nt := gD (Ha x) i
abbrev TK (x : CT) : List Nt := AF (SM x) λ (i : Nat) => Fj x i
abbrev nT (x : CT) : Nat := (TK x).length
abbrev mT (x : CT) (i : Nat) : Nt := gD (TK x) i
abbrev BBZ (x : CT) (i : Nat) : Int := (mT x i).mi
abbrev iC (x : CT) (i : Nat) : Int := (Fj x i).mi
abbrev BAG (x : CT) (i : Nat) : Span := (mT x i).t
abbrev BGZ (x : CT) (i : Nat) : Int := (BAG x i).lo
abbrev AQO (x : CT) (i : Nat) : Span := (Fj x i).t
abbrev jI (x : CT) (i : Nat) : Int := (AQO x i).lo
abbrev BDY (x : CT) (i : Nat) : Int := (BAG x i).hi
abbrev rR (x : CT) (i : Nat) : Int := (AQO x i).hi
abbrev ALM (x : CT) (i : Nat) : Span := (mT x i).s
abbrev AUL (x : CT) (i : Nat) : Int := (ALM x i).lo
abbrev APC (x : CT) (i : Nat) : Span := (Fj x i).s
abbrev kJ (x : CT) (i : Nat) : Int := (APC x i).lo
abbrev BBG (x : CT) (i : Nat) : Int := (ALM x i).hi
abbrev iI (x : CT) (i : Nat) : Int := (APC x i).hi
abbrev oT (x : CT) (i : Nat) : Bool := (rI x).sp i
abbrev BEM (x : CT) : Prop := ∀ (i : Nat), i < (40 : Nat) -> oT x i = oT x i
abbrev kK (x : CT) (n : Int) : Bool := hasN (TK x) n
abbrev kN (x : CT) (n : Int) : Bool := hasN (Ha x) n
abbrev pJ (x : CT) (n : Int) : Int := (rI x).st n
abbrev BAW (x : CT) : Prop := ∀ (n : Int), pJ x n = pJ x n
abbrev kY (x : CT) (n : Int) : Nt := ntOf (TK x) n
abbrev AMY (x : CT) (n : Int) : Int := (kY x n).mi
abbrev fR (x : CT) (n : Int) : Nt := ntOf (Ha x) n
abbrev oP (x : CT) (n : Int) : Int := (fR x n).mi
abbrev BBU (x : CT) (n : Int) : Span := (kY x n).t
abbrev AWW (x : CT) (n : Int) : Int := (BBU x n).lo
abbrev BCZ (x : CT) (n : Int) : Span := (fR x n).t
abbrev kF (x : CT) (n : Int) : Int := (BCZ x n).lo
abbrev AOQ (x : CT) (n : Int) : Int := (BBU x n).hi
abbrev gR (x : CT) (n : Int) : Int := (BCZ x n).hi
abbrev AMZ (x : CT) (n : Int) : Span := (kY x n).s
abbrev BDR (x : CT) (n : Int) : Int := (AMZ x n).lo
abbrev APQ (x : CT) (n : Int) : Span := (fR x n).s
abbrev iP (x : CT) (n : Int) : Int := (APQ x n).lo
abbrev APH (x : CT) (n : Int) : Int := (AMZ x n).hi
abbrev pS (x : CT) (n : Int) : Int := (APQ x n).hi
abbrev AUC (x : CT) : List Span := DQ (Cht.mk (oW x) (Hs x) (Iv x) (Fc x) (qY x) (TK x))
abbrev BBI (x : CT) (i : Nat) : Span := gD (AUC x) i
abbrev AZN (x : CT) : Prop := (↑x.c.ms.length : Int) = (↑x.c.ms.length : Int)
abbrev BEO (a : Nat) : Prop := (↑a : Int) = (0 : Int)
abbrev ARY (x : CT) : Prop := x.t.t.length = x.t.t.length
abbrev AOJ (x : CT) : Prop := ∀ (i : Nat), i < x.t.t.length -> gD x.t.t i = gD x.t.t i
abbrev BCQ (x : CT) : Prop := x.t.s.length = x.t.s.length
abbrev BBD (x : CT) : Prop := ∀ (i : Nat), i < x.t.s.length -> gD x.t.s i = gD x.t.s i
abbrev AMP (x : CT) : Prop := x.t.z.length = x.t.z.length
abbrev AST (x : CT) : Prop := ∀ (i : Nat), i < x.t.z.length -> gD x.t.z i = gD x.t.z i
abbrev ASC : Prop := Int.ofNat (0 : Nat) = Int.ofNat (0 : Nat)
abbrev pO (i : Nat) (x : CT) : Prop := i < (AB (DY x)).c.ms.length
abbrev NM (x : CT) (i : Nat) : Int := (gD (AB (DY x)).c.ms i).pl
abbrev TR (x : CT) (i : Nat) : Int := (gD (AB (DY x)).c.ms i).ht
abbrev rB (i : Nat) (x : CT) : Prop := i < (AB (DY x)).c.ns.length
abbrev SP (x : CT) (i : Nat) : Int := (gD (AB (DY x)).c.ns i).mi
abbrev AZF (x : CT) (i : Nat) : Span := (gD (AB (DY x)).c.ns i).t
abbrev TJ (x : CT) (i : Nat) : Int := (AZF x i).lo
abbrev US (x : CT) (i : Nat) : Int := (AZF x i).hi
abbrev ANA (x : CT) (i : Nat) : Span := (gD (AB (DY x)).c.ns i).s
abbrev OD (x : CT) (i : Nat) : Int := (ANA x i).lo
abbrev OA (x : CT) (i : Nat) : Int := (ANA x i).hi
abbrev Ok (a : Nat) (x : CT) : Prop := a <= x.c.ms.length /\ hdN x a = true
abbrev OR (x : CT) : Prop := (AB (DY x)).c.p.lo = (AB (DY x)).c.p.lo
abbrev OH (x : CT) : Prop := (AB (DY x)).c.p.hi = (AB (DY x)).c.p.hi
abbrev MW (x : CT) : Prop := (AB (DY x)).c.base = (AB (DY x)).c.base
abbrev NX (x : CT) : Prop := (AB (DY x)).c.scale = (AB (DY x)).c.scale
abbrev MO (x : CT) : Prop := (AB (DY x)).c.off = (AB (DY x)).c.off
abbrev Qe (x : CT) : List Mk := AF (AB (DY x)).c.ms.length λ (i : Nat) => gD (AB (DY x)).c.ms i
abbrev XM (x : CT) : Nat := (Qe x).length
abbrev A8 (x : CT) : Prop := XM x = (AB (DY x)).c.ms.length
abbrev Y4 (x : CT) (i : Nat) : Mk := gD (Qe x) i
abbrev G2 (x : CT) (i : Nat) : Int := (Y4 x i).pl
abbrev F1 (x : CT) (i : Nat) : Int := (Y4 x i).ht
abbrev S4 (x : CT) : Prop := ∀ (i : Nat), i < XM x -> G2 x i = NM x i /\ F1 x i = TR x i
abbrev OW (x : CT) : List Nt := AF (AB (DY x)).c.ns.length λ (i : Nat) => gD (AB (DY x)).c.ns i
abbrev Qa (x : CT) : Nat := (OW x).length
abbrev wU (x : CT) : Prop := Qa x = (AB (DY x)).c.ns.length
abbrev Jl (x : CT) (i : Nat) : Nt := gD (OW x) i
abbrev tN (x : CT) (i : Nat) : Int := (Jl x i).mi
abbrev N6 (x : CT) (i : Nat) : Span := (Jl x i).t
abbrev N9 (x : CT) (i : Nat) : Int := (N6 x i).lo
abbrev X6 (x : CT) (i : Nat) : Int := (N6 x i).hi
abbrev F0 (x : CT) (i : Nat) : Span := (Jl x i).s
abbrev xV (x : CT) (i : Nat) : Int := (F0 x i).lo
abbrev V8 (x : CT) (i : Nat) : Int := (F0 x i).hi
abbrev O3 (x : CT) : Prop := ∀ (i : Nat), i < Qa x -> tN x i = SP x i /\ N9 x i = TJ x i /\ X6 x i = US x i /\ xV x i = OD x i /\ V8 x i =
 OA x i
abbrev MV (x : CT) : Prop := ∀ (i : Nat), i < (40 : Nat) -> (AB (DY x)).sp i = (AB (DY x)).sp i
abbrev R1 (x : CT) (n : Int) : Bool := hasN (OW x) n
abbrev N8 (x : CT) : Prop := ∀ (n : Int), R1 x n = hasN (AB (DY x)).c.ns n
abbrev NU (x : CT) : Prop := ∀ (n : Int), (AB (DY x)).st n = (AB (DY x)).st n
abbrev Nr (x : CT) (n : Int) : Nt := ntOf (OW x) n
abbrev wT (x : CT) (n : Int) : Int := (Nr x n).mi
abbrev tU (x : CT) (n : Int) : Span := (Nr x n).t
abbrev C7 (x : CT) (n : Int) : Int := (tU x n).lo
abbrev M6 (x : CT) (n : Int) : Int := (tU x n).hi
abbrev P3 (x : CT) (n : Int) : Span := (Nr x n).s
abbrev W9 (x : CT) (n : Int) : Int := (P3 x n).lo
abbrev V1 (x : CT) (n : Int) : Int := (P3 x n).hi
abbrev B5 (x : CT) : Prop := ∀ (n : Int), wT x n = (ntOf (AB (DY x)).c.ns n).mi /\ C7 x n = (ntOf (AB (DY x)).c.ns n).t.lo /\ M6 x n = (ntOf (AB (DY x)).c.ns n).t.hi /\ W9 x
 n = (ntOf (AB (DY x)).c.ns n).s.lo /\ V1 x n = (ntOf (AB (DY x)).c.ns n).s.hi
abbrev U0 (x : CT) : Prop := (AB (DY x)).c.ms.length = XM x
abbrev M7 (x : CT) : Prop := ∀ (i : Nat), pO i x -> NM x i = G2 x i /\ TR x i = F1 x i
abbrev V3 (x : CT) : Prop := (AB (DY x)).c.ns.length = Qa x
abbrev xF (x : CT) : Prop := ∀ (i : Nat), rB i x -> SP x i = tN x i /\ TJ x i = N9 x i /\ US x i = X6 x i /\ OD x i = xV x i /\ OA x i =
 V8 x i
abbrev K8 (x : CT) : Prop := ∀ (n : Int), hasN (AB (DY x)).c.ns n = R1 x n
abbrev U3 (x : CT) : Prop := ∀ (n : Int), (ntOf (AB (DY x)).c.ns n).mi = wT x n /\ (ntOf (AB (DY x)).c.ns n).t.lo = C7 x n /\ (ntOf (AB (DY x)).c.ns n).t.hi = M6 x n /\ (ntOf (AB
 (DY x)).c.ns n).s.lo = W9 x n /\ (ntOf (AB (DY x)).c.ns n).s.hi = V1 x n
abbrev KM (a : Nat) : Prop := (0 : Int) <= (↑a : Int)
abbrev A1 (a : Nat) (x : CT) : Prop := KM a /\ (↑a : Int) < (↑x.t.t.length : Int)
abbrev D5 (a : Nat) (x : CT) : Prop := KM a /\ (↑a : Int) < (↑(DQ x.c).length : Int)
abbrev xU (x : CT) (a : Nat) : Bool := !DT (gD x.t.t a) (gD (DQ x.c) a).lo (gD (DQ x.c) a).hi
abbrev I9 (x : CT) (a : Nat) : Span := FN (Cht.mk (AB (DY x)).c.p (AB (DY x)).c.base (AB (DY x)).c.scale (AB (DY x)).c.off (Qe x) (OW x)) (↑a : Int)
abbrev wX (x : CT) : Prop := (IK x).snd = (0 : Int)
abbrev Oi (x : CT) : Prop := (IK x).fst = false /\ wX x
abbrev NL (a : Nat) : Int := IntKind.i64.wrap ((↑a : Int) + (1 : Int))
abbrev F4 (x : CT) : Prop := ARY x /\ AOJ x /\ BCQ x /\ BBD x /\ AMP x /\ AST x /\ false = false /\ ASC /\ OR x /\ OH x /\ MW x /\ NX x /\ MO
 x /\ (AB (DY x)).c.ms.length = (AB (DY x)).c.ms.length /\ (∀ (i : Nat), pO i x -> NM x i = NM x i /\ TR x i = TR x i) /\ (AB (DY x)).c.ns.length = (AB (DY x)).c.ns.length /\ (∀ (i
 : Nat), rB i x -> SP x i = SP x i /\ TJ x i = TJ x i /\ US x i = US x i /\ OD x i = OD x i /\ OA x i = OA x i) /\ MV x /\ AO = AO /\ (∀
 (n : Int), hasN (AB (DY x)).c.ns n = hasN (AB (DY x)).c.ns n) /\ NU x /\ ∀ (n : Int), (ntOf (AB (DY x)).c.ns n).mi = (ntOf (AB (DY x)).c.ns n).mi /\ (ntOf (AB (DY x)).c.ns n).t.lo = (ntOf (AB (DY
 x)).c.ns n).t.lo /\ (ntOf (AB (DY x)).c.ns n).t.hi = (ntOf (AB (DY x)).c.ns n).t.hi /\ (ntOf (AB (DY x)).c.ns n).s.lo = (ntOf (AB (DY x)).c.ns n).s.lo /\ (ntOf (AB (DY x)).c.ns n).s.hi = (ntOf (AB (DY
 x)).c.ns n).s.hi
abbrev zD (a : Nat) (a1 : Nat) (x : CT) : Prop := (↑a : Int) = NL a1 /\ F4 x
abbrev K9 (x : CT) (a : Nat) : Nat := x.c.ms.length - a
abbrev YT (x : CT) : Int := wr ((↑x.c.ms.length : Int) - (1 : Int))
abbrev Js (a : Nat) (x : CT) : Prop := a <= x.c.ms.length - (1 : Nat) /\ hgN x a = true
abbrev R8 (a : Nat) : Prop := (0 : Int) <= NL a
abbrev S8 (a : Nat) (x : CT) : Prop := (R8 a /\ NL a < (↑x.t.t.length : Int)) /\ A1 a x
abbrev B9 (a : Nat) : Nat := (NL a).toNat
abbrev xE (x : CT) (a : Nat) : Int := IntKind.i64.wrap (gD x.t.t (B9 a) - gD x.t.t a)
abbrev H3 (x : CT) (a : Nat) : Int := IntKind.i64.wrap ((gD (AB (DY x)).c.ms (B9 a)).pl - NM x a)
abbrev O0 (x : CT) (a : Nat) : Int := IntKind.i64.wrap ((AB (DY x)).c.p.lo * H3 x a)
abbrev zC (a : Nat) : Nat := (50 : Nat) - a
abbrev tE (l : Nat) (x : CT) (a : Nat) : Prop := ∃ (a_1 : Nat), (Fn.yield l = Fn.yield l /\ YT x = YT x /\ zD a_1 a x) /\ Js a_1 x /\ zC a_1 < zC a
theorem DLG (x : CT) : (DEE x) = ((x.c.p.lo = x.c.p.lo /\ x.c.p.hi = x.c.p.hi /\ x.c.base = x.c.base /\ x.c.scale = x.c.scale /\ x.c.off = x.c.off /\ Z1 x = x.c.ms.length /\ (∀ (i : Nat), i < Z1 x ->
 (BNH x i).pl = (gD x.c.ms i).pl /\ (BNH x i).ht = (gD x.c.ms i).ht) /\ AEA x = x.c.ns.length /\ (∀ (i : Nat), i < AEA x -> (AJL x i).mi = (gD x.c.ns i).mi /\ (BVV x i).lo = (gD x.c.ns i).t.lo /\
 (BVV x i).hi = (gD x.c.ns i).t.hi /\ (BRV x i).lo = (gD x.c.ns i).s.lo /\ (BRV x i).hi = (gD x.c.ns i).s.hi) /\ AHT x = x.t.z.length /\ (∀ (i : Nat), i < AHT x -> gD (AIH x) i = gD x.t.z i) /\
 (Z1 x < (4611686018427387904 : Nat) /\ AEA x < (4611686018427387904 : Nat) /\ AHT x < (4611686018427387904 : Nat)) /\ AM (AWS x) = (0 : Int)) /\ bif ASO x != (0 : Int) then (IK x).fst =
 false /\ (IK x).snd = ASO x else bif bif (↑x.t.t.length : Int) != (↑x.c.ms.length : Int) then true else (↑x.t.s.length : Int) != (↑x.c.ms.length : Int) then (IK x).fst = false /\ (IK x).snd = (2 : Int) else
 (qJ x = x.t.t.length /\ (∀ (i : Nat), i < qJ x -> gD (kW x) i = gD x.t.t i) /\ qJ x < (4611686018427387904 : Nat) /\ True) /\ bif !(kW x).all λ (x : Int) => DT x (-100000000 : Int)
 (100000000 : Int) then (IK x).fst = false /\ (IK x).snd = (4 : Int) else (AZX x /\ AKM x /\ BGS x /\ ASU x /\ BGB x /\ NJ x = SY x /\ (∀ (i : Nat), i < NJ x -> BGD x i
 = hC x i /\ AVB x i = qL x i) /\ nT x = SM x /\ (∀ (i : Nat), i < nT x -> BBZ x i = iC x i /\ BGZ x i = jI x i /\ BDY x i = rR x i /\ AUL x i
 = kJ x i /\ BBG x i = iI x i) /\ BEM x /\ AO = AO /\ (∀ (n : Int), kK x n = kN x n) /\ BAW x /\ (∀ (n : Int), AMY x n = oP x n /\ AWW x n = kF x n /\
 AOQ x n = gR x n /\ BDR x n = iP x n /\ APH x n = pS x n) /\ AZX x /\ AKM x /\ BGS x /\ ASU x /\ BGB x /\ SY x = NJ x /\ (∀ (i : Nat), i <
 SY x -> hC x i = BGD x i /\ qL x i = AVB x i) /\ SM x = nT x /\ (∀ (i : Nat), i < SM x -> iC x i = BBZ x i /\ jI x i = BGZ x i /\ rR x i =
 BDY x i /\ kJ x i = AUL x i /\ iI x i = BBG x i) /\ BEM x /\ AO = AO /\ (∀ (n : Int), kN x n = kK x n) /\ BAW x /\ (∀ (n : Int), oP x n = AMY x n /\
 kF x n = AWW x n /\ gR x n = AOQ x n /\ iP x n = BDR x n /\ pS x n = APH x n) /\ (1 : Nat) <= NJ x /\ NJ x <= (40 : Nat) /\ ∀ (j : Int), kK x j = true -> (0
 : Int) <= j /\ j < (↑(NJ x) : Int)) /\ (∃ (a : Nat), ((DQ x.c).length = (AUC x).length /\ (∀ (i : Nat), i < (DQ x.c).length -> (gD (DQ x.c) i).lo = (BBI x i).lo /\ (gD (DQ x.c) i).hi = (BBI x
 i).hi) /\ AZN x /\ BEO a /\ ARY x /\ AOJ x /\ BCQ x /\ BBD x /\ AMP x /\ AST x /\ false = false /\ ASC /\ (AB (DY x)).c.p.lo = pA x /\ (AB (DY x)).c.p.hi = qU
 x /\ (AB (DY x)).c.base = Hs x /\ (AB (DY x)).c.scale = Iv x /\ (AB (DY x)).c.off = Fc x /\ (AB (DY x)).c.ms.length = SY x /\ (∀ (i : Nat), pO i x -> NM x i = hC x i
 /\ TR x i = qL x i) /\ (AB (DY x)).c.ns.length = SM x /\ (∀ (i : Nat), rB i x -> SP x i = iC x i /\ TJ x i = jI x i /\ US x i = rR x i /\ OD x i =
 kJ x i /\ OA x i = iI x i) /\ (∀ (i : Nat), i < (40 : Nat) -> (AB (DY x)).sp i = oT x i) /\ AO = AO /\ (∀ (n : Int), hasN (AB (DY x)).c.ns n = kN x n) /\ (∀ (n : Int), (AB (DY
 x)).st n = pJ x n) /\ ∀ (n : Int), (ntOf (AB (DY x)).c.ns n).mi = oP x n /\ (ntOf (AB (DY x)).c.ns n).t.lo = kF x n /\ (ntOf (AB (DY x)).c.ns n).t.hi = gR x n /\ (ntOf (AB (DY x)).c.ns
 n).s.lo = iP x n /\ (ntOf (AB (DY x)).c.ns n).s.hi = pS x n) /\ Ok a x) /\ ∀ (a : Nat), Ok a x -> bif decide ((↑a : Int) < (↑x.c.ms.length : Int)) then ((↑a : Int) = (↑a : Int) /\ OR x
 /\ OH x /\ MW x /\ NX x /\ MO x /\ A8 x /\ S4 x /\ wU x /\ O3 x /\ MV x /\ AO = AO /\ N8 x /\ NU x /\ B5 x /\ OR x /\ OH
 x /\ MW x /\ NX x /\ MO x /\ U0 x /\ M7 x /\ V3 x /\ xF x /\ MV x /\ AO = AO /\ K8 x /\ NU x /\ U3 x /\ KM a /\ (↑a : Int) <
 (↑(XM x) : Int)) /\ (A1 a x /\ D5 a x /\ D5 a x /\ ((!xU x a) = true -> KM a /\ (↑a : Int) < (↑x.t.s.length : Int))) /\ bif bif xU x a then true else !DT (gD x.t.s a)
 (I9 x a).lo (I9 x a).hi then Oi x else ∃ (a_2 : Nat), ((DQ x.c).length = (DQ x.c).length /\ (∀ (i : Nat), i < (DQ x.c).length -> (gD (DQ x.c) i).lo = (gD (DQ x.c) i).lo /\ (gD (DQ x.c)
 i).hi = (gD (DQ x.c) i).hi) /\ AZN x /\ zD a_2 a x) /\ Ok a_2 x /\ K9 x a_2 < K9 x a else (OR x /\ OH x /\ MW x /\ NX x /\ MO x /\ A8 x /\
 S4 x /\ wU x /\ O3 x /\ MV x /\ AO = AO /\ N8 x /\ NU x /\ B5 x /\ OR x /\ OH x /\ MW x /\ NX x /\ MO x /\ U0 x /\ M7 x
 /\ V3 x /\ xF x /\ MV x /\ AO = AO /\ K8 x /\ NU x /\ U3 x) /\ ∀ (l : Nat), (∃ (a : Nat), (Fn.yield l = Fn.yield l /\ YT x = IntKind.i64.wrap ((↑(AB (DY x)).c.ms.length
 : Int) - (1 : Int)) /\ BEO a /\ F4 x) /\ Js a x) /\ ∀ (a : Nat), Js a x -> bif decide ((↑a : Int) < YT x) then ((R8 a /\ NL a < (↑(AB (DY x)).c.ms.length : Int)) /\
 KM a /\ (↑a : Int) < (↑(AB (DY x)).c.ms.length : Int)) /\ (KM a /\ (↑a : Int) < (↑(40 : Nat) : Int)) /\ a.succ.le (40 : Nat) /\ bif (AB (DY x)).sp a then l = l /\ S8 a x /\ bif !DT (xE x
 a) (O0 x a) (200000000 : Int) then Oi x else tE l x a else l = l /\ S8 a x /\ bif !DT (xE x a) (O0 x a) (IntKind.i64.wrap ((AB (DY x)).c.p.hi * H3 x a)) then
 Oi x else tE l x a else (IK x).fst = true /\ wX x) := by kernel_rfl
def CWI : Ann := ann 108 [(RZ, C_begX.spec dCZ)]
def CWJ (x : CT) : Prop := BA Try.prog CWI AAE (AL AAE) (xCT x) (AG []) (.tup [.bool false, .int (GD (DY x))]) [] [] []
theorem DHF (x : CT) : (CWJ x) = ((x.c.p.lo = x.c.p.lo /\ x.c.p.hi = x.c.p.hi /\ x.c.base = x.c.base /\ x.c.scale = x.c.scale /\ x.c.off = x.c.off /\ (AF x.c.ms.length λ (i : Nat) => gD x.c.ms i).length =
 x.c.ms.length /\ (∀ (i : Nat), i < (AF x.c.ms.length λ (i : Nat) => gD x.c.ms i).length -> (gD (AF x.c.ms.length λ (i : Nat) => gD x.c.ms i) i).pl = (gD x.c.ms i).pl /\ (gD (AF x.c.ms.length λ (i : Nat) => gD
 x.c.ms i) i).ht = (gD x.c.ms i).ht) /\ (AF x.c.ns.length λ (i : Nat) => gD x.c.ns i).length = x.c.ns.length /\ (∀ (i : Nat), i < (AF x.c.ns.length λ (i : Nat) => gD x.c.ns i).length -> (gD (AF x.c.ns.length λ (i :
 Nat) => gD x.c.ns i) i).mi = (gD x.c.ns i).mi /\ (gD (AF x.c.ns.length λ (i : Nat) => gD x.c.ns i) i).t.lo = (gD x.c.ns i).t.lo /\ (gD (AF x.c.ns.length λ (i : Nat) => gD x.c.ns i) i).t.hi = (gD x.c.ns i).t.hi /\ (gD
 (AF x.c.ns.length λ (i : Nat) => gD x.c.ns i) i).s.lo = (gD x.c.ns i).s.lo /\ (gD (AF x.c.ns.length λ (i : Nat) => gD x.c.ns i) i).s.hi = (gD x.c.ns i).s.hi) /\ (AF x.t.z.length λ (i : Nat) => gD x.t.z i).length =
 x.t.z.length /\ (∀ (i : Nat), i < (AF x.t.z.length λ (i : Nat) => gD x.t.z i).length -> gD (AF x.t.z.length λ (i : Nat) => gD x.t.z i) i = gD x.t.z i) /\ ((AF x.c.ms.length λ (i : Nat) => gD x.c.ms i).length <
 4611686018427387904 /\ (AF x.c.ns.length λ (i : Nat) => gD x.c.ns i).length < 4611686018427387904 /\ (AF x.t.z.length λ (i : Nat) => gD x.t.z i).length < 4611686018427387904) /\ AM (Cht.mk x.c.p x.c.base x.c.scale
 x.c.off (AF x.c.ms.length λ (i : Nat) => gD x.c.ms i) (AF x.c.ns.length λ (i : Nat) => gD x.c.ns i)) ≠ 0) /\ bif GD (CZ.mk (Cht.mk x.c.p x.c.base x.c.scale x.c.off (AF x.c.ms.length λ (i : Nat) => gD x.c.ms i)
 (AF x.c.ns.length λ (i : Nat) => gD x.c.ns i)) (AF x.t.z.length λ (i : Nat) => gD x.t.z i)) != 0 then false = false /\ GD (DY x) = GD (CZ.mk (Cht.mk x.c.p x.c.base x.c.scale x.c.off (AF x.c.ms.length λ (i :
 Nat) => gD x.c.ms i) (AF x.c.ns.length λ (i : Nat) => gD x.c.ns i)) (AF x.t.z.length λ (i : Nat) => gD x.t.z i)) else bif bif (↑x.t.t.length : Int) != (↑x.c.ms.length : Int) then true else (↑x.t.s.length : Int) !=
 (↑x.c.ms.length : Int) then false = false /\ GD (DY x) = 2 else False) := by kernel_rfl
theorem DME (x : CT) : CZ.mk x.c x.t.z = DY x := rfl
theorem DPE (x : CT) : (DY x).c = x.c := rfl
theorem CTH {f g : Nat -> Bool} (hf : ∀ k, f (k + 1) = (f k && g k)) : ∀ {n k : Nat}, k < n -> g k = false -> f n = false
 | 0, k, h, _ => absurd h (Nat.not_lt_zero _)
 | n + 1, k, h, hg => by
  rw [hf]
  by_cases e : k = n
  ·subst e; rw [hg, Bool.and_false]
  ·rw [CTH hf (show k < n by omega) hg]; rfl
theorem DQU (x : CT) (h1 : (x.c.ms.length < 4611686018427387904 /\ x.c.ns.length < 4611686018427387904 /\ x.t.z.length < 4611686018427387904) /\ x.t.t.length < 4611686018427387904 /\ x.t.s.length < 4611686018427387904) (h0 : AM x.c = 0) : DEE x := by
 have hl := DG h0
 have hs := SB h0
 rw [DLG]; delta AJS Z1 BNH AHI AEA AJL BVV BRV AIH AHT AWS AXO ASO kW qJ rI NZ oW pA AZX qU AKM Hs BGS Iv ASU Fc BGB BDD SY gY qY NJ BCV BGD hC AVB qL Ha SM Fj TK nT mT BBZ iC BAG BGZ AQO jI BDY rR ALM AUL APC kJ BBG iI oT BEM kK kN pJ BAW kY AMY fR oP BBU AWW BCZ kF AOQ gR AMZ BDR APQ iP APH pS AUC BBI AZN BEO ARY AOJ BCQ BBD AMP AST ASC pO NM TR rB SP AZF TJ US ANA OD OA Ok OR OH MW NX MO Qe XM A8 Y4 G2 F1 S4 OW Qa wU Jl tN N6 N9 X6 F0 xV V8 O3 MV R1 N8 NU Nr wT tU C7 M6 P3 W9 V1 B5 U0 M7 V3 xF K8 U3 KM A1 D5 xU I9 wX Oi NL F4 zD K9 YT Js R8 S8 B9 xE H3 O0 zC tE; simp only [AU, eq_self, implies_true, and_self, true_and, and_true, true_implies, forall_const, decide_eq_true_eq, decide_eq_false_iff_not, Int.toNat_natCast, dSpan_eSpan, dInt_eInt, AY, AW, AX, Nat.zero_add, Int.zero_sub, Nat.le_eq, Nat.succ_eq_add_one, Nat.add_one_le_iff, Bool.not_eq_true', Bool.not_eq_false', rng_length, AK, AJ, BI, WH, DME, DPE, QZ, RO]
 have nl := CJ x.c
 have wn : wr ((x.c.ms.length : Int) - 1) = ((x.c.ms.length - 1 : Nat) : Int) := by unfold wr; rw [EN (by omega) (by omega)]; omega
 have ws : ∀ a : Nat, a <= 40 -> IntKind.i64.wrap ((a : Int) + 1) = ((a + 1 : Nat) : Int) := λ a h => by rw [EN (by omega) (by omega)]; rfl
 refine ⟨⟨h1.1, h0⟩, λ he => ?_, λ he => ⟨λ hn => ?_, λ hn => ⟨h1.2.1, λ hr => ?_, λ hr => ⟨⟨hl.2.1.1, hl.2.1.2, hs.1⟩, ⟨0, rfl, Nat.zero_le _, rfl⟩, ?_⟩⟩⟩⟩
 ·have e : (GD (DY x) == 0) = false := by simpa using he
  unfold IK; rw [e]; exact ⟨rfl, rfl⟩
 ·have e : (GD (DY x) == 0) = true := by simpa using he
  have e2 : decide (x.t.t.length = x.c.ms.length /\ x.t.s.length = x.c.ms.length) = false := by
   rw [decide_eq_false_iff_not]; rintro ⟨a1, a2⟩; rw [a1, a2] at hn; simp at hn
  unfold IK hldO; rw [e, e2]; exact ⟨rfl, rfl⟩
 ·have e : (GD (DY x) == 0) = true := by simpa using he
  have e2 : x.t.t.length = x.c.ms.length /\ x.t.s.length = x.c.ms.length := by
   cases hq : ((x.t.t.length : Int) != x.c.ms.length) with
   | true => rw [hq] at hn; cases hn
   | false =>
    rw [hq] at hn
    have hn : ((x.t.s.length : Int) != x.c.ms.length) = false := hn
    simp at hq hn; omega
  have e3 : inT x.t.t = false := hr
  unfold IK hldO; rw [e, decide_eq_true e2, e3]; exact ⟨rfl, rfl⟩
 ·have e : (GD (DY x) == 0) = true := by simpa using he
  have e2 : x.t.t.length = x.c.ms.length /\ x.t.s.length = x.c.ms.length := by
   cases hq : ((x.t.t.length : Int) != x.c.ms.length) with
   | true => rw [hq] at hn; cases hn
   | false =>
    rw [hq] at hn
    have hn : ((x.t.s.length : Int) != x.c.ms.length) = false := hn
    simp at hq hn; omega
  have e3 : inT x.t.t = true := hr
  have hv : IK x = (hdN x x.c.ms.length && hgN x (x.c.ms.length - 1), 0) := by unfold IK hldO; rw [e, decide_eq_true e2, e3]; rfl
  obtain ⟨l1, l2⟩ := e2
  rintro a ⟨ha, hd⟩
  refine ⟨λ hlt => ⟨⟨by omega, by omega⟩, ⟨⟨by omega, by omega⟩, ⟨by omega, by rw [nl]; omega⟩, ⟨by omega, by rw [nl]; omega⟩, λ _ => ⟨by omega, by omega⟩⟩, λ hc => ?_, λ hc => ⟨a + 1, by rw [ws a (by omega)], ⟨by omega, ?_⟩, by omega⟩⟩, λ hge => ?_⟩
  ·have e5 : hd1 x a = false := by
    unfold hd1
    cases hq : DT (gD x.t.t a) (gD (DQ x.c) a).lo (gD (DQ x.c) a).hi with
    | false => rfl
    | true => rw [hq] at hc; simpa using hc
   rw [hv, CTH (f := hdN x) (g := hd1 x) (λ _ => rfl) (show a < x.c.ms.length by omega) e5]; exact ⟨rfl, rfl⟩
  ·have e5 : hd1 x a = true := by
    unfold hd1
    cases hq : DT (gD x.t.t a) (gD (DQ x.c) a).lo (gD (DQ x.c) a).hi with
    | false => rw [hq] at hc; cases hc
    | true => rw [hq] at hc; simpa using hc
   show (hdN x a && hd1 x a) = true
   rw [hd, e5]; rfl
  ·obtain rfl : a = x.c.ms.length := by omega
   refine ⟨⟨0, ⟨rfl, rfl⟩, Nat.zero_le _, rfl⟩, ?_⟩
   rintro g ⟨hg, hgn⟩
   have no : hg1 x g = false -> g < x.c.ms.length - 1 -> (IK x).1 = false /\ (IK x).2 = 0 := λ h h2 => by
    rw [hv, CTH (f := hgN x) (g := hg1 x) (λ _ => rfl) h2 h, Bool.and_false]; exact ⟨rfl, rfl⟩
   rw [wn, ws g (by omega)]
   refine ⟨λ hlt => ⟨⟨⟨by omega, by omega⟩, by omega, by omega⟩, ⟨by omega, by omega⟩, by omega, λ hp => ⟨⟨⟨by omega, by omega⟩, by omega, by omega⟩, λ hc => no ?_ (by omega), λ hc => ⟨g + 1, rfl, ⟨by omega, ?_⟩, by omega⟩⟩, λ hp => ⟨⟨⟨by omega, by omega⟩, by omega, by omega⟩, λ hc => no ?_ (by omega), λ hc => ⟨g + 1, rfl, ⟨by omega, ?_⟩, by omega⟩⟩⟩, λ hge => ?_⟩
   ·unfold hg1 BM; rw [hp]; exact hc
   ·have e5 : hg1 x g = true := by unfold hg1 BM; rw [hp]; exact hc
    show (hgN x g && hg1 x g) = true
    rw [hgn, e5]; rfl
   ·unfold hg1 BM; rw [hp]; exact hc
   ·have e5 : hg1 x g = true := by unfold hg1 BM; rw [hp]; exact hc
    show (hgN x g && hg1 x g) = true
    rw [hgn, e5]; rfl
   ·obtain rfl : g = x.c.ms.length - 1 := by omega
    rw [hv, hd, hgn]; exact ⟨rfl, rfl⟩
theorem DDX (x : CT) (h : BC (C_hold.pre x)) : FnT Try.prog ABY (C_hold.xs x) (AG (C_hold.L x)) (C_hold.val x) (C_hold.keep x) := by
 have h1 : (x.c.ms.length < 4611686018427387904 /\ x.c.ns.length < 4611686018427387904 /\ x.t.z.length < 4611686018427387904) /\ x.t.t.length < 4611686018427387904 /\ x.t.s.length < 4611686018427387904 := h
 by_cases h0 : AM x.c = 0
 ·exact PJ (A := DBP x) (L := []) (keep := []) (ren := []) (fz := []) CRE (by kernel_rfl) (AD BUS (AD DTS (AD CUP (AD CSR (AD rV (AD AEB AI)))))) (DQU x h1 h0) (CQB LW (DNC x) rfl rfl AI cE (by kernel_rfl) (by kernel_rfl))
 ·have h0' : (AM x.c == 0) = false := by simpa using h0
  have e0 : GD (DY x) = AM x.c := by unfold GD; rw [DPE, h0']; rfl
  have e9 : (GD (DY x) == 0) = false := by rw [e0]; exact h0'
  have e : C_hold.val x = .tup [.bool false, .int (GD (DY x))] := by
   show AVal.tup [.bool (IK x).1, .int (IK x).2] = _
   unfold IK; rw [e9]; rfl
  rw [e]
  refine PJ (A := CWI) (L := []) (keep := []) (ren := []) (fz := []) CRE (by kernel_rfl) (AD CYJ AI) ?_
  show CWJ x; rw [DHF]; simp only [AU, eq_self, implies_true, and_self, true_and, and_true, true_implies, forall_const, decide_eq_true_eq, decide_eq_false_iff_not, Int.toNat_natCast, dSpan_eSpan, dInt_eInt, AY, AW, AX, Nat.zero_add, Int.zero_sub, Nat.le_eq, Nat.succ_eq_add_one, Nat.add_one_le_iff, Bool.not_eq_true', Bool.not_eq_false', rng_length, AK, AJ, BI, DME, e0]
  simp [h1, h0]
end Go.Bal
