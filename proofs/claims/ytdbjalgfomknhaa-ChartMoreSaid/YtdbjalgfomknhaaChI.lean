/- Package chart: stages at a time, from a time to another one, and when one is reached. -/
import Derived.Test.YtdbjalgfomknhaaChH
set_option linter.unusedVariables false
set_option linter.unusedSimpArgs false
namespace Go.Bal
open Go Go.Sym Go.Proofs
def zHul : Hul := ⟨⟨0, 0⟩, false⟩
structure CZI where
 a : CZ
 t : Int
def dCZI : List AVal -> Heap -> Option (CZI × List (Nat × Nat) × List Nat)
 | [x, y, .d t], H => match COX x H, CVW y H with
  | some (c, f), some (l, e) => some (⟨⟨c, l⟩, CD t⟩, [], f ++ e)
  | _, _ => none
 | _, _ => none
def xCZI (x : CZI) : List AVal := [.d (VZ x.a.c), .d (CI x.a.z), .int x.t]
def CK (a : CZ) : List Span := (AX (AI a)).1
theorem CGD (h : Hul) : Hul.mk h.s h.m = h := rfl
theorem CZQ (a : CZ) : (AX (AI a)).1 = CK a := rfl
theorem PI {a : CZ} (h : AS a = 0) : (CK a).length = a.c.ms.length := by
 have h3 := (IA h).2.2
 unfold CK
 unfold AX at h3 ⊢
 rw [Rk] at h3 ⊢
 cases hs : HP a.c with
 | false => rw [hs] at h3; cases h3
 | true => show (MN _ _).length = _; unfold MN; rw [rng_length, FR]
theorem Ro (c : Cht) : (BA c).length = c.ms.length := rng_length _ _
def IG (a : CZ) (t : Int) : Nat -> Hul
 | 0 => zHul
 | k + 1 => bif IE t (gD (CK a) k).lo (gD (CK a) k).hi then MJ (IG a t k) (gD (BA a.c) k) else IG a t k
def Yy (a : CZ) (t : Int) (g : Nat) : Bool := (MN (AI a) (Re (CK a) ((g : Int) + 1) (wr (t - 1)) (wr (t + 1)))).all KC
def KH (a : CZ) (t : Int) : Nat -> Hul
 | 0 => IG a t a.c.ms.length
 | g + 1 => bif Yy a t g then MJ (MJ (KH a t g) (gD (BA a.c) g)) (gD (BA a.c) (g + 1)) else KH a t g
def Lk (x : CZI) : Hul := bif IE x.t (-100000000) 100000000 then KH x.a x.t (x.a.c.ms.length - 1) else IG x.a x.t x.a.c.ms.length
def AW (x : CZI) : Span × Int := bif AS x.a == 0 then IF (Lk x) else (⟨0, 0⟩, AS x.a)
def C_Stage : Ctr := { α := CZI, xs := xCZI, val := λ x => .tup [.d (CE (AW x).1), .int (AW x).2], keep := λ _ => [], pre := λ x => [x.a.c.ms.length < 4611686018427387904 /\ x.a.c.ns.length < 4611686018427387904 /\ x.a.z.length < 4611686018427387904] }
def sgH (x : CZI) (h : Hul) : List (Nat × HCell) := [(201, .live (.box [.int x.t])), (202, .live (.box [.int 0, .int 0])), (203, .live (.box [.bptr 208 0])), (204, .live (.box [.d (AV (CK x.a))])), (205, .live (.box [.d (AV (BA x.a.c))])), (206, .live (hlB h)), (207, .live (.box [.fn (.func AYF) [.bptr 206 0] []])), (208, .live (dkB (AI x.a) 209)), (209, .live (dkM (AI x.a)))]
def sg7 (x : CZI) : Shape := { α := Nat, dflt := 0, T := λ k => ⟨[(5, .bptr 201 0), (6, .bptr 202 0), (8, .bptr 203 0), (9, .bptr 204 0), (10, .bptr 205 0), (12, .bptr 206 0), (13, .bptr 207 0), (32, .int x.a.c.ms.length), (33, .int k)], sgH x (IG x.a x.t k)⟩, inv := λ k => k <= x.a.c.ms.length, meas := λ k => x.a.c.ms.length - k, first := [(201, 1016), (202, 1032), (203, 2128), (204, 2144), (205, 2160), (206, 5000), (207, 6016), (208, 2032), (209, 2033)] }
def sg1 (x : CZI) (l : Nat) : Shape := { α := Nat, dflt := 0, T := λ g => ⟨[(0, .fn (.yield l) [] []), (1, .bptr 14016 0), (12, .int (wr ((x.a.c.ms.length : Int) - 1))), (13, .int g)], sgH x (KH x.a x.t g) ++ [(14016, .live (.box [.bptr 208 0]))]⟩, inv := λ g => g <= x.a.c.ms.length - 1, meas := λ g => 50 - g }
noncomputable def itSg (x : CZI) : IterAnn := { fn := AEC, code := AN AEC, live := [5, 6, 8, 9, 10, 12, 13], ann := { base := λ id => 100000 + 1000 * (id + 1), Γ := Sym.look [], E := [201, 202, 203, 204, 205, 206, 207, 208, 209, 14016], n := 66, inner := λ gs id => if id = 1 then some [sg1 x (gs.getD 0 0)] else none } }
noncomputable def CUN (x : CZI) : Ann := { ann 92 [(VV, C_rdO.spec dCZ), (n_in, s_in), (AYF, C_hadd.spec dHuS), (CIP, C_gaps.spec dDk1), (ACV, C_part.spec dDkQ), (UU, C_nar.spec dDkS), (P5, C_who.spec dHu1)] with iter := λ g => if g = pH then some (itSg x) else none, loops := λ id => if id = 7 then some [sg7 x] else none }
def CPA : Ann := ann 92 [(VV, C_rdX.spec dCZ)]
def CUR (x : CZI) : Prop := AZ Try.prog (CUN x) AAI (AN AAI) (xCZI x) (AF []) (.tup [.d (CE (IF (Lk x)).1), .int (IF (Lk x)).2]) [] [] []
abbrev oS (x : CZI) : List Mk := AE x.a.c.ms.length λ (i : Nat) => gD x.a.c.ms i
abbrev dE (x : CZI) : Nat := (oS x).length
abbrev BBK (x : CZI) (i : Nat) : Mk := gD (oS x) i
abbrev oO (x : CZI) : List Nt := AE x.a.c.ns.length λ (i : Nat) => gD x.a.c.ns i
abbrev dO (x : CZI) : Nat := (oO x).length
abbrev dG (x : CZI) (i : Nat) : Nt := gD (oO x) i
abbrev AOI (x : CZI) (i : Nat) : Span := (dG x i).t
abbrev ALN (x : CZI) (i : Nat) : Span := (dG x i).s
abbrev dW (x : CZI) : List Int := AE x.a.z.length λ (i : Nat) => gD x.a.z i
abbrev gM (x : CZI) : Nat := (dW x).length
abbrev G2 (x : CZI) : Cht := Cht.mk x.a.c.p x.a.c.base x.a.c.scale x.a.c.off (oS x) (oO x)
abbrev K5 (x : CZI) : CZ := CZ.mk (G2 x) (dW x)
abbrev VX (x : CZI) : Dk := AI (K5 x)
abbrev wX (x : CZI) : List Span := (AX (VX x)).fst
abbrev H9 (x : CZI) : Nat := (wX x).length
abbrev uF (a : Nat) : Prop := (↑a : Int) = (0 : Int)
abbrev DD : Prop := Int.ofNat (0 : Nat) = Int.ofNat (0 : Nat)
abbrev A6 (x : CZI) (i : Nat) : Span := gD (wX x) i
abbrev J2 (x : CZI) : List Span := BA (G2 x)
abbrev D3 (i : Nat) (x : CZI) : Prop := i < (BA x.a.c).length
abbrev zQ (x : CZI) (i : Nat) : Span := gD (J2 x) i
abbrev KZ (x : CZI) : Cht := (VX x).c
abbrev tF (x : CZI) : Span := (KZ x).p
abbrev xQ (x : CZI) : List Mk := (KZ x).ms
abbrev Kd (i : Nat) (x : CZI) : Prop := i < (AI x.a).c.ms.length
abbrev OW (x : CZI) (i : Nat) : Int := (gD (AI x.a).c.ms i).pl
abbrev xT (x : CZI) (i : Nat) : Mk := gD (xQ x) i
abbrev ON (x : CZI) (i : Nat) : Int := (gD (AI x.a).c.ms i).ht
abbrev VD (x : CZI) : List Nt := (KZ x).ns
abbrev Lt (i : Nat) (x : CZI) : Prop := i < (AI x.a).c.ns.length
abbrev OQ (x : CZI) (i : Nat) : Int := (gD (AI x.a).c.ns i).mi
abbrev Ig (x : CZI) (i : Nat) : Nt := gD (VD x) i
abbrev xH (x : CZI) (i : Nat) : Span := (gD (AI x.a).c.ns i).t
abbrev NG (x : CZI) (i : Nat) : Int := (xH x i).lo
abbrev sR (x : CZI) (i : Nat) : Span := (Ig x i).t
abbrev OB (x : CZI) (i : Nat) : Int := (xH x i).hi
abbrev I1 (x : CZI) (i : Nat) : Span := (gD (AI x.a).c.ns i).s
abbrev NA (x : CZI) (i : Nat) : Int := (I1 x i).lo
abbrev H7 (x : CZI) (i : Nat) : Span := (Ig x i).s
abbrev NN (x : CZI) (i : Nat) : Int := (I1 x i).hi
abbrev Hq (x : CZI) (n : Int) : Nt := ntOf (VD x) n
abbrev uK (x : CZI) (n : Int) : Span := (Hq x n).t
abbrev sN (x : CZI) (n : Int) : Span := (Hq x n).s
abbrev WX (a : Nat) : Prop := (0 : Int) <= (↑a : Int)
abbrev J9 (a : Nat) (x : CZI) : Prop := WX a /\ (↑a : Int) < (↑(CK x.a).length : Int)
abbrev G4 (a : Nat) (x : CZI) : Prop := WX a /\ (↑a : Int) < (↑(BA x.a.c).length : Int)
abbrev It (x : CZI) (a : Nat) : Prop := (gD (BA x.a.c) a).lo = (gD (BA x.a.c) a).lo
abbrev Kk (x : CZI) (a : Nat) : Prop := (gD (BA x.a.c) a).hi = (gD (BA x.a.c) a).hi
abbrev A7 (x : CZI) (a : Nat) : Prop := (IG x.a x.t a).s.lo = (IG x.a x.t a).s.lo
abbrev C6 (x : CZI) (a : Nat) : Prop := (IG x.a x.t a).s.hi = (IG x.a x.t a).s.hi
abbrev tK (x : CZI) (a : Nat) : Prop := (IG x.a x.t a).m = (IG x.a x.t a).m
abbrev D8 (x : CZI) (a : Nat) : Prop := A7 x a /\ C6 x a /\ tK x a
abbrev E3 (x : CZI) : Prop := (↑x.a.c.ms.length : Int) = (↑x.a.c.ms.length : Int)
abbrev GA (a : Nat) : Int := IntKind.i64.wrap ((↑a : Int) + (1 : Int))
abbrev VY (a : Nat) (a1 : Nat) : Prop := (↑a : Int) = GA a1
abbrev OO (x : CZI) : Prop := (CK x.a).length = (CK x.a).length
abbrev NE (x : CZI) : Prop := ∀ (i : Nat), i < (CK x.a).length -> (gD (CK x.a) i).lo = (gD (CK x.a) i).lo /\ (gD (CK x.a) i).hi = (gD (CK x.a) i).hi
abbrev OT (x : CZI) : Prop := (BA x.a.c).length = (BA x.a.c).length
abbrev PA (x : CZI) : Prop := ∀ (i : Nat), D3 i x -> It x i /\ Kk x i
abbrev vL (x : CZI) (a : Nat) : Hul := Hul.mk (IG x.a x.t a).s (IG x.a x.t a).m
abbrev H4 (x : CZI) (a : Nat) : Span := (MJ (vL x a) (gD (BA x.a.c) a)).s
abbrev JM (x : CZI) : Prop := (AI x.a).c.p.lo = (AI x.a).c.p.lo
abbrev IL (x : CZI) : Prop := (AI x.a).c.p.hi = (AI x.a).c.p.hi
abbrev II (x : CZI) : Prop := (AI x.a).c.base = (AI x.a).c.base
abbrev IK (x : CZI) : Prop := (AI x.a).c.scale = (AI x.a).c.scale
abbrev JL (x : CZI) : Prop := (AI x.a).c.off = (AI x.a).c.off
abbrev IM (x : CZI) : Prop := ∀ (i : Nat), i < (40 : Nat) -> (AI x.a).sp i = (AI x.a).sp i
abbrev JF (x : CZI) : Prop := ∀ (n : Int), (AI x.a).st n = (AI x.a).st n
abbrev NU (x : CZI) : Prop := JM x /\ IL x /\ II x /\ IK x /\ JL x /\ (AI x.a).c.ms.length = (AI x.a).c.ms.length /\ (∀ (i : Nat), Kd i x -> OW x i =
 OW x i /\ ON x i = ON x i) /\ (AI x.a).c.ns.length = (AI x.a).c.ns.length /\ (∀ (i : Nat), Lt i x -> OQ x i = OQ x i /\ NG x i = NG x i /\ OB x i =
 OB x i /\ NA x i = NA x i /\ NN x i = NN x i) /\ IM x /\ AU = AU /\ (∀ (n : Int), hasN (AI x.a).c.ns n = hasN (AI x.a).c.ns n) /\ JF x /\ ∀ (n : Int), (ntOf (AI
 x.a).c.ns n).mi = (ntOf (AI x.a).c.ns n).mi /\ (ntOf (AI x.a).c.ns n).t.lo = (ntOf (AI x.a).c.ns n).t.lo /\ (ntOf (AI x.a).c.ns n).t.hi = (ntOf (AI x.a).c.ns n).t.hi /\ (ntOf (AI x.a).c.ns n).s.lo = (ntOf (AI
 x.a).c.ns n).s.lo /\ (ntOf (AI x.a).c.ns n).s.hi = (ntOf (AI x.a).c.ns n).s.hi
abbrev sX (x : CZI) (a : Nat) : Nat := x.a.c.ms.length - a
abbrev wD (a : Nat) (x : CZI) (a1 : Nat) : Prop := a.le x.a.c.ms.length /\ sX x a < sX x a1
abbrev Hu (x : CZI) : List Mk := AE (AI x.a).c.ms.length λ (i : Nat) => gD (AI x.a).c.ms i
abbrev KO (x : CZI) : Nat := (Hu x).length
abbrev Jl (x : CZI) : Prop := KO x = (AI x.a).c.ms.length
abbrev xE (x : CZI) (i : Nat) : Mk := gD (Hu x) i
abbrev J3 (x : CZI) (i : Nat) : Int := (xE x i).pl
abbrev uN (x : CZI) (i : Nat) : Int := (xE x i).ht
abbrev Ls (x : CZI) : Prop := ∀ (i : Nat), i < KO x -> J3 x i = OW x i /\ uN x i = ON x i
abbrev NP (x : CZI) : List Nt := AE (AI x.a).c.ns.length λ (i : Nat) => gD (AI x.a).c.ns i
abbrev Iy (x : CZI) : Nat := (NP x).length
abbrev Lh (x : CZI) : Prop := Iy x = (AI x.a).c.ns.length
abbrev Hk (x : CZI) (i : Nat) : Nt := gD (NP x) i
abbrev xR (x : CZI) (i : Nat) : Int := (Hk x i).mi
abbrev vJ (x : CZI) (i : Nat) : Span := (Hk x i).t
abbrev uP (x : CZI) (i : Nat) : Int := (vJ x i).lo
abbrev tW (x : CZI) (i : Nat) : Int := (vJ x i).hi
abbrev vN (x : CZI) (i : Nat) : Span := (Hk x i).s
abbrev E4 (x : CZI) (i : Nat) : Int := (vN x i).lo
abbrev zI (x : CZI) (i : Nat) : Int := (vN x i).hi
abbrev Ho (x : CZI) : Prop := ∀ (i : Nat), i < Iy x -> xR x i = OQ x i /\ uP x i = NG x i /\ tW x i = OB x i /\ E4 x i = NA x i /\ zI x i
 = NN x i
abbrev F4 (x : CZI) (n : Int) : Bool := hasN (NP x) n
abbrev Ip (x : CZI) : Prop := ∀ (n : Int), F4 x n = hasN (AI x.a).c.ns n
abbrev Hf (x : CZI) (n : Int) : Nt := ntOf (NP x) n
abbrev sW (x : CZI) (n : Int) : Int := (Hf x n).mi
abbrev yD (x : CZI) (n : Int) : Span := (Hf x n).t
abbrev uU (x : CZI) (n : Int) : Int := (yD x n).lo
abbrev sQ (x : CZI) (n : Int) : Int := (yD x n).hi
abbrev A3 (x : CZI) (n : Int) : Span := (Hf x n).s
abbrev sE (x : CZI) (n : Int) : Int := (A3 x n).lo
abbrev wO (x : CZI) (n : Int) : Int := (A3 x n).hi
abbrev Au (x : CZI) : Prop := ∀ (n : Int), sW x n = (ntOf (AI x.a).c.ns n).mi /\ uU x n = (ntOf (AI x.a).c.ns n).t.lo /\ sQ x n = (ntOf (AI x.a).c.ns n).t.hi /\ sE x n = (ntOf
 (AI x.a).c.ns n).s.lo /\ wO x n = (ntOf (AI x.a).c.ns n).s.hi
abbrev XP (x : CZI) : Prop := (AI x.a).c.ms.length = KO x
abbrev ZU (x : CZI) : Prop := ∀ (i : Nat), Kd i x -> OW x i = J3 x i /\ ON x i = uN x i
abbrev YQ (x : CZI) : Prop := (AI x.a).c.ns.length = Iy x
abbrev YX (x : CZI) : Prop := ∀ (i : Nat), Lt i x -> OQ x i = xR x i /\ NG x i = uP x i /\ OB x i = tW x i /\ NA x i = E4 x i /\ NN x i
 = zI x i
abbrev Ap (x : CZI) : Prop := ∀ (n : Int), hasN (AI x.a).c.ns n = F4 x n
abbrev YR (x : CZI) : Prop := ∀ (n : Int), (ntOf (AI x.a).c.ns n).mi = sW x n /\ (ntOf (AI x.a).c.ns n).t.lo = uU x n /\ (ntOf (AI x.a).c.ns n).t.hi = sQ x n /\ (ntOf (AI x.a).c.ns
 n).s.lo = sE x n /\ (ntOf (AI x.a).c.ns n).s.hi = wO x n
abbrev QO (x : CZI) : Int := wr ((↑x.a.c.ms.length : Int) - (1 : Int))
abbrev Ag (a : Nat) (x : CZI) : Prop := a.le (x.a.c.ms.length - (1 : Nat))
abbrev ZT (a : Nat) : Prop := (0 : Int) <= GA a
abbrev Ak (x : CZI) : List Span := AE (CK x.a).length λ (i : Nat) => gD (CK x.a) i
abbrev MB (x : CZI) : Nat := (Ak x).length
abbrev Vv (x : CZI) (i : Nat) : Span := gD (Ak x) i
abbrev Aw (x : CZI) : Int := IntKind.i64.wrap (x.t - (1 : Int))
abbrev ZR (x : CZI) : Int := IntKind.i64.wrap (x.t + (1 : Int))
abbrev Nl (x : CZI) (a : Nat) : List Span := Re (Ak x) (GA a) (Aw x) (ZR x)
abbrev Sd (x : CZI) (a : Nat) : Nat := (Nl x a).length
abbrev XT (x : CZI) (a : Nat) (i : Nat) : Span := gD (Nl x a) i
abbrev Ax (x : CZI) (a : Nat) : List Span := AE (Sd x a) λ (i : Nat) => XT x a i
abbrev Ac (x : CZI) (a : Nat) : Nat := (Ax x a).length
abbrev On (x : CZI) (a : Nat) (i : Nat) : Span := gD (Ax x a) i
abbrev Oc (x : CZI) (a : Nat) : Prop := (KH x.a x.t a).s.lo = (KH x.a x.t a).s.lo
abbrev Od (x : CZI) (a : Nat) : Prop := (KH x.a x.t a).s.hi = (KH x.a x.t a).s.hi
abbrev Oh (x : CZI) (a : Nat) : Prop := (KH x.a x.t a).m = (KH x.a x.t a).m
abbrev bH (x : CZI) (a : Nat) : Prop := Oc x a /\ Od x a /\ Oh x a
abbrev Aq (x : CZI) (a : Nat) : Span := gD (BA x.a.c) (GA a).toNat
abbrev aL (x : CZI) (a : Nat) : Int := (Aq x a).lo
abbrev Xm (x : CZI) (a : Nat) : Int := (Aq x a).hi
abbrev Xu (x : CZI) (a : Nat) : Hul := Hul.mk (KH x.a x.t a).s (KH x.a x.t a).m
abbrev Tz (x : CZI) (a : Nat) : Hul := MJ (Xu x a) (gD (BA x.a.c) a)
abbrev ZE (x : CZI) (a : Nat) : Span := (Tz x a).s
abbrev Yr (x : CZI) (a : Nat) : Int := (ZE x a).lo
abbrev Ua (x : CZI) (a : Nat) : Int := (ZE x a).hi
abbrev Qy (x : CZI) : Prop := QO x = QO x
abbrev Yx (x : CZI) (a : Nat) : Span := (MJ (Hul.mk (ZE x a) (Tz x a).m) (Aq x a)).s
abbrev Ow (a : Nat) : Nat := (50 : Nat) - a
abbrev Qw (a : Nat) (x : CZI) (a1 : Nat) : Prop := Ag a x /\ Ow a < Ow a1
abbrev aZ (l : Nat) (x : CZI) (a : Nat) : Prop := l = l /\ (MB x = (CK x.a).length /\ (∀ (i : Nat), i < MB x -> (Vv x i).lo = (gD (CK x.a) i).lo /\ (Vv x i).hi = (gD (CK x.a)
 i).hi) /\ GA a = GA a /\ Aw x = Aw x /\ ZR x = ZR x /\ JM x /\ IL x /\ II x /\ IK x /\ JL x /\ Jl x /\ Ls x /\ Lh x
 /\ Ho x /\ IM x /\ AU = AU /\ Ip x /\ JF x /\ Au x /\ JM x /\ IL x /\ II x /\ IK x /\ JL x /\ XP x /\ ZU x /\ YQ x /\
 YX x /\ IM x /\ AU = AU /\ Ap x /\ JF x /\ YR x /\ (((1 : Nat) <= MB x /\ MB x <= (40 : Nat)) /\ ZT a /\ GA a <= (↑(MB x) : Int)) /\ Ac
 x a = Sd x a /\ (∀ (i : Nat), i < Ac x a -> (On x a i).lo = (XT x a i).lo /\ (On x a i).hi = (XT x a i).hi) /\ JM x /\ IL x /\ II x /\ IK x /\
 JL x /\ Jl x /\ Ls x /\ Lh x /\ Ho x /\ IM x /\ AU = AU /\ Ip x /\ JF x /\ Au x /\ JM x /\ IL x /\ II x /\ IK x /\ JL x
 /\ XP x /\ ZU x /\ YQ x /\ YX x /\ IM x /\ AU = AU /\ Ap x /\ JF x /\ YR x /\ Ac x a = KO x /\ (1 : Nat) <= KO x /\ KO x <= (40 :
 Nat)) /\ bif (MN (Dk.mk (Cht.mk (AI x.a).c.p (AI x.a).c.base (AI x.a).c.scale (AI x.a).c.off (Hu x) (NP x)) (AI x.a).st (AI x.a).sp) (Ax x a)).all KC then (G4 a x /\
 It x a /\ Kk x a /\ bH x a) /\ ((ZT a /\ GA a < (↑(BA x.a.c).length : Int)) /\ aL x a = aL x a /\ Xm x a = Xm x a /\ Yr x a = Yr
 x a /\ Ua x a = Ua x a /\ true = true) /\ ∃ (a_1 : Nat), (Fn.yield l = Fn.yield l /\ Qy x /\ VY a_1 a /\ x.t = x.t /\ DD /\ DD /\ OO x /\ NE x /\ OT x /\
 PA x /\ (KH x.a x.t a_1).s.lo = (Yx x a).lo /\ (KH x.a x.t a_1).s.hi = (Yx x a).hi /\ (KH x.a x.t a_1).m = true /\ NU x) /\ Qw a_1 x a else ∃ (a_1 : Nat), (Fn.yield l =
 Fn.yield l /\ Qy x /\ VY a_1 a /\ x.t = x.t /\ DD /\ DD /\ OO x /\ NE x /\ OT x /\ PA x /\ (KH x.a x.t a_1).s.lo = (KH x.a x.t a).s.lo /\ (KH x.a x.t a_1).s.hi
 = (KH x.a x.t a).s.hi /\ (KH x.a x.t a_1).m = (KH x.a x.t a).m /\ NU x) /\ Qw a_1 x a
abbrev Qc (x : CZI) (a : Nat) : Span × Int := IF (Xu x a)
abbrev bT (x : CZI) (a : Nat) : Span := (Qc x a).fst
abbrev Rd (x : CZI) (a : Nat) : Span × Int := IF (vL x a)
abbrev Sm (x : CZI) (a : Nat) : Span := (Rd x a).fst
theorem CZT (x : CZI) : (CUR x) = ((x.a.c.p.lo = x.a.c.p.lo /\ x.a.c.p.hi = x.a.c.p.hi /\ x.a.c.base = x.a.c.base /\ x.a.c.scale = x.a.c.scale /\ x.a.c.off = x.a.c.off /\ dE x = x.a.c.ms.length /\ (∀ (i : Nat),
 i < dE x -> (BBK x i).pl = (gD x.a.c.ms i).pl /\ (BBK x i).ht = (gD x.a.c.ms i).ht) /\ dO x = x.a.c.ns.length /\ (∀ (i : Nat), i < dO x -> (dG x i).mi = (gD x.a.c.ns i).mi /\ (AOI
 x i).lo = (gD x.a.c.ns i).t.lo /\ (AOI x i).hi = (gD x.a.c.ns i).t.hi /\ (ALN x i).lo = (gD x.a.c.ns i).s.lo /\ (ALN x i).hi = (gD x.a.c.ns i).s.hi) /\ gM x = x.a.z.length /\ (∀ (i : Nat), i <
 gM x -> gD (dW x) i = gD x.a.z i) /\ (dE x < (4611686018427387904 : Nat) /\ dO x < (4611686018427387904 : Nat) /\ gM x < (4611686018427387904 : Nat)) /\ AS (K5 x) = (0 : Int)) /\
 (∃ (a : Nat), ((↑x.a.c.ms.length : Int) = (↑(H9 x) : Int) /\ uF a /\ x.t = x.t /\ DD /\ DD /\ (CK x.a).length = H9 x /\ (∀ (i : Nat), i < (CK x.a).length -> (gD (CK x.a) i).lo =
 (A6 x i).lo /\ (gD (CK x.a) i).hi = (A6 x i).hi) /\ (BA x.a.c).length = (J2 x).length /\ (∀ (i : Nat), D3 i x -> (gD (BA x.a.c) i).lo = (zQ x i).lo /\ (gD (BA x.a.c) i).hi =
 (zQ x i).hi) /\ (IG x.a x.t a).s.lo = (0 : Int) /\ (IG x.a x.t a).s.hi = (0 : Int) /\ (IG x.a x.t a).m = false /\ (AI x.a).c.p.lo = (tF x).lo /\ (AI x.a).c.p.hi = (tF x).hi /\ (AI
 x.a).c.base = (KZ x).base /\ (AI x.a).c.scale = (KZ x).scale /\ (AI x.a).c.off = (KZ x).off /\ (AI x.a).c.ms.length = (xQ x).length /\ (∀ (i : Nat), Kd i x -> OW x i =
 (xT x i).pl /\ ON x i = (xT x i).ht) /\ (AI x.a).c.ns.length = (VD x).length /\ (∀ (i : Nat), Lt i x -> OQ x i = (Ig x i).mi /\ NG x i = (sR x i).lo /\
 OB x i = (sR x i).hi /\ NA x i = (H7 x i).lo /\ NN x i = (H7 x i).hi) /\ (∀ (i : Nat), i < (40 : Nat) -> (AI x.a).sp i = (VX x).sp i) /\ AU = AU /\ (∀ (n : Int), hasN
 (AI x.a).c.ns n = hasN (VD x) n) /\ (∀ (n : Int), (AI x.a).st n = (VX x).st n) /\ ∀ (n : Int), (ntOf (AI x.a).c.ns n).mi = (Hq x n).mi /\ (ntOf (AI x.a).c.ns n).t.lo = (uK x n).lo /\
 (ntOf (AI x.a).c.ns n).t.hi = (uK x n).hi /\ (ntOf (AI x.a).c.ns n).s.lo = (sN x n).lo /\ (ntOf (AI x.a).c.ns n).s.hi = (sN x n).hi) /\ a.le x.a.c.ms.length) /\ ∀ (a : Nat), a.le x.a.c.ms.length
 -> bif decide ((↑a : Int) < (↑x.a.c.ms.length : Int)) then (J9 a x /\ J9 a x) /\ bif IE x.t (gD (CK x.a) a).lo (gD (CK x.a) a).hi then (G4 a x /\ It x a /\ Kk x a /\ D8 x a) /\
 ∃ (a_2 : Nat), (E3 x /\ VY a_2 a /\ x.t = x.t /\ DD /\ DD /\ OO x /\ NE x /\ OT x /\ PA x /\ (IG x.a x.t a_2).s.lo = (H4 x a).lo /\ (IG x.a x.t a_2).s.hi
 = (H4 x a).hi /\ (IG x.a x.t a_2).m = true /\ NU x) /\ wD a_2 x a else ∃ (a_2 : Nat), (E3 x /\ VY a_2 a /\ x.t = x.t /\ DD /\ DD /\ OO x /\ NE x /\
 OT x /\ PA x /\ (IG x.a x.t a_2).s.lo = (IG x.a x.t a).s.lo /\ (IG x.a x.t a_2).s.hi = (IG x.a x.t a).s.hi /\ (IG x.a x.t a_2).m = (IG x.a x.t a).m /\ NU x) /\ wD a_2 x a else bif
 IE x.t (-100000000 : Int) (100000000 : Int) then (JM x /\ IL x /\ II x /\ IK x /\ JL x /\ Jl x /\ Ls x /\ Lh x /\ Ho x /\ IM x /\ AU = AU /\
 Ip x /\ JF x /\ Au x /\ JM x /\ IL x /\ II x /\ IK x /\ JL x /\ XP x /\ ZU x /\ YQ x /\ YX x /\ IM x /\ AU = AU /\
 Ap x /\ JF x /\ YR x) /\ ∀ (l : Nat), (∃ (a_2 : Nat), (Fn.yield l = Fn.yield l /\ QO x = IntKind.i64.wrap ((↑(AI x.a).c.ms.length : Int) - (1 : Int)) /\ uF a_2 /\ x.t = x.t /\
 DD /\ DD /\ OO x /\ NE x /\ OT x /\ PA x /\ (KH x.a x.t a_2).s.lo = (IG x.a x.t a).s.lo /\ (KH x.a x.t a_2).s.hi = (IG x.a x.t a).s.hi /\ (KH x.a x.t a_2).m = (IG x.a
 x.t a).m /\ NU x) /\ Ag a_2 x) /\ ∀ (a : Nat), Ag a x -> bif decide ((↑a : Int) < QO x) then ((ZT a /\ GA a < (↑(AI x.a).c.ms.length : Int)) /\ WX a /\ (↑a : Int) <
 (↑(AI x.a).c.ms.length : Int)) /\ (WX a /\ (↑a : Int) < (↑(40 : Nat) : Int)) /\ a.succ.le (40 : Nat) /\ bif (AI x.a).sp a then aZ l x a else aZ l x a else (Oc x a /\ Od x a /\
 Oh x a /\ bH x a) /\ (IF (Lk x)).fst.lo = (bT x a).lo /\ (IF (Lk x)).fst.hi = (bT x a).hi /\ (IF (Lk x)).snd = (Qc x a).snd else (A7 x a /\ C6 x a /\
 tK x a /\ D8 x a) /\ (IF (Lk x)).fst.lo = (Sm x a).lo /\ (IF (Lk x)).fst.hi = (Sm x a).hi /\ (IF (Lk x)).snd = (Rd x a).snd) := by kernel_rfl
def CPN (x : CZI) : Prop := AZ Try.prog CPA AAI (AN AAI) (xCZI x) (AF []) (.tup [.d (CE zSp), .int (AS x.a)]) [] [] []
theorem CXA (x : CZI) : (CPN x) = ((x.a.c.p.lo = x.a.c.p.lo /\ x.a.c.p.hi = x.a.c.p.hi /\ x.a.c.base = x.a.c.base /\ x.a.c.scale = x.a.c.scale /\ x.a.c.off = x.a.c.off /\ (AE x.a.c.ms.length λ (i : Nat) => gD
 x.a.c.ms i).length = x.a.c.ms.length /\ (∀ (i : Nat), i < (AE x.a.c.ms.length λ (i : Nat) => gD x.a.c.ms i).length -> (gD (AE x.a.c.ms.length λ (i : Nat) => gD x.a.c.ms i) i).pl = (gD x.a.c.ms i).pl /\ (gD (AE
 x.a.c.ms.length λ (i : Nat) => gD x.a.c.ms i) i).ht = (gD x.a.c.ms i).ht) /\ (AE x.a.c.ns.length λ (i : Nat) => gD x.a.c.ns i).length = x.a.c.ns.length /\ (∀ (i : Nat), i < (AE x.a.c.ns.length λ (i : Nat) => gD
 x.a.c.ns i).length -> (gD (AE x.a.c.ns.length λ (i : Nat) => gD x.a.c.ns i) i).mi = (gD x.a.c.ns i).mi /\ (gD (AE x.a.c.ns.length λ (i : Nat) => gD x.a.c.ns i) i).t.lo = (gD x.a.c.ns i).t.lo /\ (gD (AE
 x.a.c.ns.length λ (i : Nat) => gD x.a.c.ns i) i).t.hi = (gD x.a.c.ns i).t.hi /\ (gD (AE x.a.c.ns.length λ (i : Nat) => gD x.a.c.ns i) i).s.lo = (gD x.a.c.ns i).s.lo /\ (gD (AE x.a.c.ns.length λ (i : Nat) => gD
 x.a.c.ns i) i).s.hi = (gD x.a.c.ns i).s.hi) /\ (AE x.a.z.length λ (i : Nat) => gD x.a.z i).length = x.a.z.length /\ (∀ (i : Nat), i < (AE x.a.z.length λ (i : Nat) => gD x.a.z i).length -> gD (AE x.a.z.length λ (i :
 Nat) => gD x.a.z i) i = gD x.a.z i) /\ ((AE x.a.c.ms.length λ (i : Nat) => gD x.a.c.ms i).length < (4611686018427387904 : Nat) /\ (AE x.a.c.ns.length λ (i : Nat) => gD x.a.c.ns i).length < (4611686018427387904 : Nat)
 /\ (AE x.a.z.length λ (i : Nat) => gD x.a.z i).length < (4611686018427387904 : Nat)) /\ AS (CZ.mk (Cht.mk x.a.c.p x.a.c.base x.a.c.scale x.a.c.off (AE x.a.c.ms.length λ (i : Nat) => gD x.a.c.ms i) (AE
 x.a.c.ns.length λ (i : Nat) => gD x.a.c.ns i)) (AE x.a.z.length λ (i : Nat) => gD x.a.z i)) ≠ (0 : Int)) /\ bif AS (CZ.mk (Cht.mk x.a.c.p x.a.c.base x.a.c.scale x.a.c.off (AE x.a.c.ms.length λ (i : Nat) => gD
 x.a.c.ms i) (AE x.a.c.ns.length λ (i : Nat) => gD x.a.c.ns i)) (AE x.a.z.length λ (i : Nat) => gD x.a.z i)) != (0 : Int) then Int.ofNat (0 : Nat) = Int.ofNat (0 : Nat) /\ Int.ofNat (0 : Nat) = Int.ofNat (0 : Nat) /\
 AS x.a = AS (CZ.mk (Cht.mk x.a.c.p x.a.c.base x.a.c.scale x.a.c.off (AE x.a.c.ms.length λ (i : Nat) => gD x.a.c.ms i) (AE x.a.c.ns.length λ (i : Nat) => gD x.a.c.ns i)) (AE x.a.z.length λ (i : Nat) => gD
 x.a.z i)) else False) := by kernel_rfl
theorem DIB (x : CZI) (h1 : x.a.c.ms.length < 4611686018427387904 /\ x.a.c.ns.length < 4611686018427387904 /\ x.a.z.length < 4611686018427387904) (c0 : AS x.a = 0) : CUR x := by
 have tl := PI c0
 have sl := Ro x.a.c
 have hl := EW (IA c0).1
 obtain ⟨_, ⟨n1, n2⟩, _⟩ := hl
 have w1 : wr ((x.a.c.ms.length : Int) - 1) = ((x.a.c.ms.length - 1 : Nat) : Int) := by unfold wr; rw [EM (by omega) (by omega)]; omega
 have w2 : IntKind.i64.wrap ((x.a.c.ms.length : Int) - 1) = ((x.a.c.ms.length - 1 : Nat) : Int) := w1
 have po : ∀ g : Nat, (MN (AI x.a) (Re (CK x.a) ((g : Int) + 1) (IntKind.i64.wrap (x.t - 1)) (IntKind.i64.wrap (x.t + 1)))).all KC = Yy x.a x.t g := λ _ => rfl
 rw [CZT]; delta oS dE BBK oO dO dG AOI ALN dW gM G2 K5 VX wX H9 uF DD A6 J2 D3 zQ KZ tF xQ Kd OW xT ON VD Lt OQ Ig xH NG sR OB I1 NA H7 NN Hq uK sN WX J9 G4 It Kk A7 C6 tK D8 E3 GA VY OO NE OT PA vL H4 JM IL II IK JL IM JF NU sX wD Hu KO Jl xE J3 uN Ls NP Iy Lh Hk xR vJ uP tW vN E4 zI Ho F4 Ip Hf sW yD uU sQ A3 sE wO Au XP ZU YQ YX Ap YR QO Ag ZT Ak MB Vv Aw ZR Nl Sd XT Ax Ac On Oc Od Oh bH Aq aL Xm Xu Tz ZE Yr Ua Qy Yx Ow Qw aZ Qc bT Rd Sm; simp only [CC, eq_self, implies_true, forall_const, BO, Bf, Rk, WA, Oa, CGD, CZQ]; simp only [tl, sl, w1, w2, Bo]
 have e1 : ∀ k, IE x.t (gD (CK x.a) k).lo (gD (CK x.a) k).hi = true -> IG x.a x.t (k + 1) = MJ (IG x.a x.t k) (gD (BA x.a.c) k) := λ k h => by
  show (bif IE x.t (gD (CK x.a) k).lo (gD (CK x.a) k).hi then _ else _) = _; rw [h]; rfl
 have e0 : ∀ k, IE x.t (gD (CK x.a) k).lo (gD (CK x.a) k).hi = false -> IG x.a x.t (k + 1) = IG x.a x.t k := λ k h => by
  show (bif IE x.t (gD (CK x.a) k).lo (gD (CK x.a) k).hi then _ else _) = _; rw [h]; rfl
 have f1 : ∀ g, Yy x.a x.t g = true -> KH x.a x.t (g + 1) = MJ (MJ (KH x.a x.t g) (gD (BA x.a.c) g)) (gD (BA x.a.c) (g + 1)) := λ g h => by
  show (bif Yy x.a x.t g then _ else _) = _; rw [h]; rfl
 have f0 : ∀ g, Yy x.a x.t g = false -> KH x.a x.t (g + 1) = KH x.a x.t g := λ g h => by
  show (bif Yy x.a x.t g then _ else _) = _; rw [h]; rfl
 refine ⟨⟨h1, c0⟩, ⟨0, ⟨trivial, rfl, rfl, rfl, rfl⟩, Nat.zero_le _⟩, λ k hk => ⟨λ hlt => ⟨by omega, λ hin => ⟨by omega, k + 1, ⟨(GC (by omega)).symm, ?_, ?_, ?_⟩, by omega, by omega⟩, λ hin => ⟨k + 1, ⟨(GC (by omega)).symm, ?_, ?_, ?_⟩, by omega, by omega⟩⟩, λ hge => ⟨λ ht => ⟨⟨0, ⟨trivial, rfl, ?_, ?_, ?_⟩, Nat.zero_le _⟩, λ g hg => ⟨λ hlt => ?_, λ hgg => ?_⟩⟩, λ ht => ?_⟩⟩⟩
 ·rw [e1 k hin]
 ·rw [e1 k hin]
 ·rw [e1 k hin]; rfl
 ·rw [e0 k hin]
 ·rw [e0 k hin]
 ·rw [e0 k hin]
 ·obtain rfl : k = x.a.c.ms.length := by omega
  rfl
 ·obtain rfl : k = x.a.c.ms.length := by omega
  rfl
 ·obtain rfl : k = x.a.c.ms.length := by omega
  rfl
 ·have hlt : g < x.a.c.ms.length - 1 := by omega
  have ew : IntKind.i64.wrap ((g : Int) + 1) = (g : Int) + 1 := by rw [GC (by omega)]; rfl
  have tn : ((g : Int) + 1).toNat = g + 1 := by omega
  have ec : ((g + 1 : Nat) : Int) = (g : Int) + 1 := rfl
  simp only [ew, tn, po]
  have body : ((((0 : Nat) < x.a.c.ms.length /\ x.a.c.ms.length <= 40) /\ 0 <= (g : Int) + 1 /\ (g : Int) + 1 <= x.a.c.ms.length)) := ⟨⟨by omega, by omega⟩, by omega, by omega⟩
  refine ⟨⟨⟨by omega, by omega⟩, by omega, by omega⟩, ⟨by omega, by omega⟩, by omega, λ _ => ?_, λ _ => ?_⟩ <;>
  ·refine ⟨⟨body, trivial, by omega, n2⟩, λ h => ⟨⟨by omega, by omega⟩, ⟨by omega, by omega⟩, g + 1, ⟨ec, ?_, ?_, ?_⟩, by omega, by omega⟩, λ h => ⟨g + 1, ⟨ec, ?_, ?_, ?_⟩, by omega, by omega⟩⟩
   ·rw [f1 g h]
   ·rw [f1 g h]
   ·rw [f1 g h]; rfl
   ·rw [f0 g h]
   ·rw [f0 g h]
   ·rw [f0 g h]
 ·obtain rfl : g = x.a.c.ms.length - 1 := by omega
  have : Lk x = KH x.a x.t (x.a.c.ms.length - 1) := by unfold Lk; rw [ht]; rfl
  rw [this]; exact ⟨rfl, rfl, rfl⟩
 ·obtain rfl : k = x.a.c.ms.length := by omega
  have : Lk x = IG x.a x.t x.a.c.ms.length := by unfold Lk; rw [ht]; rfl
  rw [this]; exact ⟨rfl, rfl, rfl⟩
def RD (x : CZI) : Nat -> Hul × Bool
 | 0 => (zHul, false)
 | k + 1 => bif (RD x k).2 then RD x k else bif decide ((gD (BA x.a.c) k).hi >= x.t) then (MJ (RD x k).1 (gD (CK x.a) k), decide ((gD (BA x.a.c) k).lo >= x.t)) else RD x k
structure FsR where
 s : Span
 b : Bool
 e : Int
def fsV (x : CZI) : FsR := ⟨(IF (RD x x.a.c.ms.length).1).1, bif (RD x x.a.c.ms.length).2 then (IF (RD x x.a.c.ms.length).1).2 == 0 else false, (IF (RD x x.a.c.ms.length).1).2⟩
def UN (x : CZI) : FsR := bif AS x.a == 0 then fsV x else ⟨⟨0, 0⟩, false, AS x.a⟩
def C_First : Ctr := { α := CZI, xs := xCZI, val := λ x => .tup [.d (CE (UN x).s), .bool (UN x).b, .int (UN x).e], keep := λ _ => [], pre := λ x => [x.a.c.ms.length < 4611686018427387904 /\ x.a.c.ns.length < 4611686018427387904 /\ x.a.z.length < 4611686018427387904] }
def fs7 (x : CZI) : Shape := { α := Nat, dflt := 0, T := λ k => ⟨[(2, .int x.t), (6, .bptr 202 0), (10, .d (AV (CK x.a))), (11, .d (AV (BA x.a.c))), (13, .bptr 206 0), (14, .bool (RD x k).2), (15, .int k)], [(202, .live (.box [.int 0, .int 0])), (206, .live (hlB (RD x k).1))]⟩, inv := λ k => k <= x.a.c.ms.length, meas := λ k => x.a.c.ms.length - k, first := [(202, 1016), (206, 5000)] }
def CUS (x : CZI) : Ann := { ann 69 [(VV, C_rdO.spec dCZ), (AYF, C_hadd.spec dHuS), (P5, C_who.spec dHu1)] with loops := λ id => if id = 7 then some [fs7 x] else none }
def COZ : Ann := ann 69 [(VV, C_rdX.spec dCZ)]
def CWH (x : CZI) : Prop := AZ Try.prog (CUS x) ABP (AN ABP) (xCZI x) (AF []) (.tup [.d (CE (fsV x).s), .bool (fsV x).b, .int (fsV x).e]) [] [] []
abbrev cG (x : CZI) : List Mk := AE x.a.c.ms.length λ (i : Nat) => gD x.a.c.ms i
abbrev cC (x : CZI) : Nat := (cG x).length
abbrev AFX (x : CZI) (i : Nat) : Mk := gD (cG x) i
abbrev fP (x : CZI) : List Nt := AE x.a.c.ns.length λ (i : Nat) => gD x.a.c.ns i
abbrev qB (x : CZI) : Nat := (fP x).length
abbrev mG (x : CZI) (i : Nat) : Nt := gD (fP x) i
abbrev AIW (x : CZI) (i : Nat) : Span := (mG x i).t
abbrev BAG (x : CZI) (i : Nat) : Span := (mG x i).s
abbrev iX (x : CZI) : List Int := AE x.a.z.length λ (i : Nat) => gD x.a.z i
abbrev hY (x : CZI) : Nat := (iX x).length
abbrev uE (x : CZI) : Cht := Cht.mk x.a.c.p x.a.c.base x.a.c.scale x.a.c.off (cG x) (fP x)
abbrev tA (x : CZI) : CZ := CZ.mk (uE x) (iX x)
abbrev tG (x : CZI) : List Span := (AX (AI (tA x))).fst
abbrev uO (x : CZI) (i : Nat) : Span := gD (tG x) i
abbrev E5 (x : CZI) : List Span := BA (uE x)
abbrev xK (i : Nat) (x : CZI) : Prop := i < (BA x.a.c).length
abbrev vQ (x : CZI) (i : Nat) : Span := gD (E5 x) i
abbrev KM : Prop := Int.ofNat (0 : Nat) = Int.ofNat (0 : Nat)
abbrev uL (a : Nat) (x : CZI) : Prop := (↑a : Int) < (↑(CK x.a).length : Int)
abbrev tO (a : Nat) : Prop := (0 : Int) <= (↑a : Int)
abbrev yO (a : Nat) (x : CZI) : Prop := tO a /\ (↑a : Int) < (↑(BA x.a.c).length : Int)
abbrev tC (x : CZI) (a : Nat) : Prop := (gD (CK x.a) a).lo = (gD (CK x.a) a).lo
abbrev zJ (x : CZI) (a : Nat) : Prop := (gD (CK x.a) a).hi = (gD (CK x.a) a).hi
abbrev D4 (x : CZI) (a : Nat) : Prop := (RD x a).fst.s.lo = (RD x a).fst.s.lo
abbrev xS (x : CZI) (a : Nat) : Prop := (RD x a).fst.s.hi = (RD x a).fst.s.hi
abbrev G7 (x : CZI) (a : Nat) : Prop := (RD x a).fst.m = (RD x a).fst.m
abbrev xJ (x : CZI) (a : Nat) : Prop := D4 x a /\ xS x a /\ G7 x a
abbrev A4 (x : CZI) : Prop := (CK x.a).length = (CK x.a).length
abbrev uG (x : CZI) : Prop := ∀ (i : Nat), i < (CK x.a).length -> tC x i /\ zJ x i
abbrev zW (x : CZI) : Prop := (BA x.a.c).length = (BA x.a.c).length
abbrev zY (x : CZI) : Prop := ∀ (i : Nat), xK i x -> (gD (BA x.a.c) i).lo = (gD (BA x.a.c) i).lo /\ (gD (BA x.a.c) i).hi = (gD (BA x.a.c) i).hi
abbrev wK (a : Nat) (a1 : Nat) : Prop := (↑a : Int) = IntKind.i64.wrap ((↑a1 : Int) + (1 : Int))
abbrev A1 (x : CZI) (a : Nat) : Hul := Hul.mk (RD x a).fst.s (RD x a).fst.m
abbrev B8 (x : CZI) (a : Nat) : Span := (MJ (A1 x a) (gD (CK x.a) a)).s
abbrev F5 (x : CZI) (a : Nat) : Nat := x.a.c.ms.length - a
abbrev wC (a : Nat) (x : CZI) (a1 : Nat) : Prop := a.le x.a.c.ms.length /\ F5 x a < F5 x a1
abbrev wZ (x : CZI) (a : Nat) : Span × Int := IF (A1 x a)
abbrev zZ (x : CZI) (a : Nat) : Span := (wZ x a).fst
abbrev wG (x : CZI) (a : Nat) : Int := (wZ x a).snd
theorem DBL (x : CZI) : (CWH x) = ((x.a.c.p.lo = x.a.c.p.lo /\ x.a.c.p.hi = x.a.c.p.hi /\ x.a.c.base = x.a.c.base /\ x.a.c.scale = x.a.c.scale /\ x.a.c.off = x.a.c.off /\ cC x = x.a.c.ms.length /\ (∀ (i : Nat),
 i < cC x -> (AFX x i).pl = (gD x.a.c.ms i).pl /\ (AFX x i).ht = (gD x.a.c.ms i).ht) /\ qB x = x.a.c.ns.length /\ (∀ (i : Nat), i < qB x -> (mG x i).mi = (gD x.a.c.ns i).mi /\ (AIW
 x i).lo = (gD x.a.c.ns i).t.lo /\ (AIW x i).hi = (gD x.a.c.ns i).t.hi /\ (BAG x i).lo = (gD x.a.c.ns i).s.lo /\ (BAG x i).hi = (gD x.a.c.ns i).s.hi) /\ hY x = x.a.z.length /\ (∀ (i : Nat), i <
 hY x -> gD (iX x) i = gD x.a.z i) /\ (cC x < (4611686018427387904 : Nat) /\ qB x < (4611686018427387904 : Nat) /\ hY x < (4611686018427387904 : Nat)) /\ AS (tA x) = (0 : Int)) /\
 (∃ (a : Nat), (x.t = x.t /\ (CK x.a).length = (tG x).length /\ (∀ (i : Nat), i < (CK x.a).length -> (gD (CK x.a) i).lo = (uO x i).lo /\ (gD (CK x.a) i).hi = (uO x i).hi) /\ (BA x.a.c).length =
 (E5 x).length /\ (∀ (i : Nat), xK i x -> (gD (BA x.a.c) i).lo = (vQ x i).lo /\ (gD (BA x.a.c) i).hi = (vQ x i).hi) /\ (RD x a).snd = false /\ (↑a : Int) = (0 : Int) /\ KM /\
 KM /\ (RD x a).fst.s.lo = (0 : Int) /\ (RD x a).fst.s.hi = (0 : Int) /\ (RD x a).fst.m = false) /\ a.le x.a.c.ms.length) /\ ∀ (a : Nat), a.le x.a.c.ms.length -> bif bif decide (uL a x) then !(RD x a).snd
 else false then yO a x /\ bif decide ((gD (BA x.a.c) a).hi >= x.t) then ((tO a /\ uL a x) /\ tC x a /\ zJ x a /\ xJ x a) /\ yO a x /\ ∃ (a_2 : Nat), (x.t = x.t /\
 A4 x /\ uG x /\ zW x /\ zY x /\ (RD x a_2).snd = decide ((gD (BA x.a.c) a).lo >= x.t) /\ wK a_2 a /\ KM /\ KM /\ (RD x a_2).fst.s.lo = (B8 x a).lo /\ (RD x
 a_2).fst.s.hi = (B8 x a).hi /\ (RD x a_2).fst.m = true) /\ wC a_2 x a else ∃ (a_2 : Nat), (x.t = x.t /\ A4 x /\ uG x /\ zW x /\ zY x /\ (RD x a_2).snd = (RD x a).snd /\
 wK a_2 a /\ KM /\ KM /\ (RD x a_2).fst.s.lo = (RD x a).fst.s.lo /\ (RD x a_2).fst.s.hi = (RD x a).fst.s.hi /\ (RD x a_2).fst.m = (RD x a).fst.m) /\ wC a_2 x a else (D4 x a /\
 xS x a /\ G7 x a /\ xJ x a) /\ (fsV x).s.lo = (zZ x a).lo /\ (fsV x).s.hi = (zZ x a).hi /\ ((fsV x).b = bif (RD x a).snd then wG x a == (0 : Int) else false) /\ (fsV x).e =
 wG x a) := by kernel_rfl
def CNM (x : CZI) : Prop := AZ Try.prog COZ ABP (AN ABP) (xCZI x) (AF []) (.tup [.d (CE zSp), .bool false, .int (AS x.a)]) [] [] []
theorem CWN (x : CZI) : (CNM x) = ((x.a.c.p.lo = x.a.c.p.lo /\ x.a.c.p.hi = x.a.c.p.hi /\ x.a.c.base = x.a.c.base /\ x.a.c.scale = x.a.c.scale /\ x.a.c.off = x.a.c.off /\ (AE x.a.c.ms.length λ (i : Nat) => gD
 x.a.c.ms i).length = x.a.c.ms.length /\ (∀ (i : Nat), i < (AE x.a.c.ms.length λ (i : Nat) => gD x.a.c.ms i).length -> (gD (AE x.a.c.ms.length λ (i : Nat) => gD x.a.c.ms i) i).pl = (gD x.a.c.ms i).pl /\ (gD (AE
 x.a.c.ms.length λ (i : Nat) => gD x.a.c.ms i) i).ht = (gD x.a.c.ms i).ht) /\ (AE x.a.c.ns.length λ (i : Nat) => gD x.a.c.ns i).length = x.a.c.ns.length /\ (∀ (i : Nat), i < (AE x.a.c.ns.length λ (i : Nat) => gD
 x.a.c.ns i).length -> (gD (AE x.a.c.ns.length λ (i : Nat) => gD x.a.c.ns i) i).mi = (gD x.a.c.ns i).mi /\ (gD (AE x.a.c.ns.length λ (i : Nat) => gD x.a.c.ns i) i).t.lo = (gD x.a.c.ns i).t.lo /\ (gD (AE
 x.a.c.ns.length λ (i : Nat) => gD x.a.c.ns i) i).t.hi = (gD x.a.c.ns i).t.hi /\ (gD (AE x.a.c.ns.length λ (i : Nat) => gD x.a.c.ns i) i).s.lo = (gD x.a.c.ns i).s.lo /\ (gD (AE x.a.c.ns.length λ (i : Nat) => gD
 x.a.c.ns i) i).s.hi = (gD x.a.c.ns i).s.hi) /\ (AE x.a.z.length λ (i : Nat) => gD x.a.z i).length = x.a.z.length /\ (∀ (i : Nat), i < (AE x.a.z.length λ (i : Nat) => gD x.a.z i).length -> gD (AE x.a.z.length λ (i :
 Nat) => gD x.a.z i) i = gD x.a.z i) /\ ((AE x.a.c.ms.length λ (i : Nat) => gD x.a.c.ms i).length < (4611686018427387904 : Nat) /\ (AE x.a.c.ns.length λ (i : Nat) => gD x.a.c.ns i).length < (4611686018427387904 : Nat)
 /\ (AE x.a.z.length λ (i : Nat) => gD x.a.z i).length < (4611686018427387904 : Nat)) /\ AS (CZ.mk (Cht.mk x.a.c.p x.a.c.base x.a.c.scale x.a.c.off (AE x.a.c.ms.length λ (i : Nat) => gD x.a.c.ms i) (AE
 x.a.c.ns.length λ (i : Nat) => gD x.a.c.ns i)) (AE x.a.z.length λ (i : Nat) => gD x.a.z i)) ≠ (0 : Int)) /\ bif AS (CZ.mk (Cht.mk x.a.c.p x.a.c.base x.a.c.scale x.a.c.off (AE x.a.c.ms.length λ (i : Nat) => gD
 x.a.c.ms i) (AE x.a.c.ns.length λ (i : Nat) => gD x.a.c.ns i)) (AE x.a.z.length λ (i : Nat) => gD x.a.z i)) != (0 : Int) then Int.ofNat (0 : Nat) = Int.ofNat (0 : Nat) /\ Int.ofNat (0 : Nat) = Int.ofNat (0 : Nat) /\
 false = false /\ AS x.a = AS (CZ.mk (Cht.mk x.a.c.p x.a.c.base x.a.c.scale x.a.c.off (AE x.a.c.ms.length λ (i : Nat) => gD x.a.c.ms i) (AE x.a.c.ns.length λ (i : Nat) => gD x.a.c.ns i)) (AE x.a.z.length fun
 (i : Nat) => gD x.a.z i)) else False) := by kernel_rfl
theorem BLR : AP Try.prog BJC (C_Stage.spec dCZI) := okT C_Stage (λ (x : CZI) h => by
 have h1 : x.a.c.ms.length < 4611686018427387904 /\ x.a.c.ns.length < 4611686018427387904 /\ x.a.z.length < 4611686018427387904 := h
 by_cases c0 : AS x.a = 0
 ·have e : C_Stage.val x = .tup [.d (CE (IF (Lk x)).1), .int (IF (Lk x)).2] := by
   show AVal.tup [.d (CE (AW x).1), .int (AW x).2] = _
   unfold AW; rw [c0]; rfl
  rw [e]
  exact TV (A := CUN x) (L := []) (keep := []) (ren := []) (fz := []) CNJ (by kernel_rfl) (AD CLJ (AD CCS (AD CLQ (AD CTS (AD CUV (AD CQC (AD CRW AK))))))) (DIB x h1 c0) (DKJ pH (itSg x) rfl rfl AK COC (by kernel_rfl) (by kernel_rfl))
 ·have c0' : (AS x.a == 0) = false := by simpa using c0
  have e : C_Stage.val x = .tup [.d (CE zSp), .int (AS x.a)] := by
   show AVal.tup [.d (CE (AW x).1), .int (AW x).2] = _
   unfold AW; rw [c0']; rfl
  rw [e]
  refine TV (A := CPA) (L := []) (keep := []) (ren := []) (fz := []) CNJ (by kernel_rfl) (AD CHY AK) ?_
  show CPN x; rw [CXA]; simp only [CC, eq_self, implies_true, forall_const, BO, WA]
  exact ⟨⟨h1, c0⟩, λ h => by simp [c0] at h⟩) _
theorem CTP {x : CZI} {k : Nat} (h : (RD x k).2 = true) : ∀ d, RD x (k + d) = RD x k
 | 0 => rfl
 | d + 1 => by
  have ih := CTP h d
  show (bif (RD x (k + d)).2 then RD x (k + d) else _) = _
  rw [ih, h]; rfl
theorem DFX (x : CZI) (h1 : x.a.c.ms.length < 4611686018427387904 /\ x.a.c.ns.length < 4611686018427387904 /\ x.a.z.length < 4611686018427387904) (c0 : AS x.a = 0) : CWH x := by
 have tl := PI c0
 have sl := Ro x.a.c
 obtain ⟨_, ⟨n1, n2⟩, _⟩ := EW (IA c0).1
 rw [DBL]; delta cG cC AFX fP qB mG AIW BAG iX hY uE tA tG uO E5 xK vQ KM uL tO yO tC zJ D4 xS G7 xJ A4 uG zW zY wK A1 B8 F5 wC wZ zZ wG; simp only [CC, eq_self, implies_true, forall_const, BO, Bf, Rk, WA, Oa, CGD, CZQ]; simp only [tl, sl]
 refine ⟨⟨h1, c0⟩, ⟨0, ⟨rfl, rfl, rfl, rfl, rfl⟩, Nat.zero_le _⟩, λ k hk => ⟨λ hc => ?_, λ hc => ?_⟩⟩
 ·have hlt : k < x.a.c.ms.length := by
   cases hd : decide ((k : Int) < x.a.c.ms.length) with
   | false => rw [hd] at hc; cases hc
   | true => have := of_decide_eq_true hd; omega
  have hs : (RD x k).2 = false := by
   rw [decide_eq_true (show (k : Int) < x.a.c.ms.length by omega)] at hc
   cases hq : (RD x k).2 with
   | false => rfl
   | true => rw [hq] at hc; cases hc
  refine ⟨by omega, λ h => ?_, λ h => ?_⟩
  ·have e : RD x (k + 1) = (MJ (RD x k).1 (gD (CK x.a) k), decide ((gD (BA x.a.c) k).lo >= x.t)) := by
    show (bif (RD x k).2 then _ else bif decide _ then _ else _) = _
    rw [hs, decide_eq_true h]; rfl
   refine ⟨by omega, by omega, k + 1, ⟨?_, (GC (by omega)).symm, ?_, ?_, ?_⟩, by omega, by omega⟩ <;> rw [e] <;> rfl
  ·have e : RD x (k + 1) = RD x k := by
    show (bif (RD x k).2 then _ else bif decide _ then _ else _) = _
    rw [hs, decide_eq_false h]; rfl
   refine ⟨k + 1, ⟨?_, (GC (by omega)).symm, ?_, ?_, ?_⟩, by omega, by omega⟩ <;> rw [e]
 ·have e : RD x x.a.c.ms.length = RD x k := by
   cases hq : (RD x k).2 with
   | true =>
    obtain ⟨d, hd⟩ : ∃ d, x.a.c.ms.length = k + d := ⟨x.a.c.ms.length - k, by omega⟩
    rw [hd]; exact CTP hq d
   | false =>
    rw [hq] at hc
    cases hd : decide ((k : Int) < x.a.c.ms.length) with
    | true => rw [hd] at hc; cases hc
    | false =>
     have := of_decide_eq_false hd
     rw [show k = x.a.c.ms.length by omega]
  unfold fsV; rw [e]; exact ⟨rfl, rfl, rfl, rfl⟩
theorem DAY : AP Try.prog CKG (C_First.spec dCZI) := okT C_First (λ (x : CZI) h => by
 have h1 : x.a.c.ms.length < 4611686018427387904 /\ x.a.c.ns.length < 4611686018427387904 /\ x.a.z.length < 4611686018427387904 := h
 by_cases c0 : AS x.a = 0
 ·have e : C_First.val x = .tup [.d (CE (fsV x).s), .bool (fsV x).b, .int (fsV x).e] := by
   show AVal.tup [.d (CE (UN x).s), .bool (UN x).b, .int (UN x).e] = _
   unfold UN; rw [c0]; rfl
  rw [e]
  exact TV (A := CUS x) (L := []) (keep := []) (ren := []) (fz := []) CNN (by kernel_rfl) (AD CLJ (AD CLQ (AD CRW AK))) (DFX x h1 c0)
 ·have c0' : (AS x.a == 0) = false := by simpa using c0
  have e : C_First.val x = .tup [.d (CE zSp), .bool false, .int (AS x.a)] := by
   show AVal.tup [.d (CE (UN x).s), .bool (UN x).b, .int (UN x).e] = _
   unfold UN; rw [c0']; rfl
  rw [e]
  refine TV (A := COZ) (L := []) (keep := []) (ren := []) (fz := []) CNN (by kernel_rfl) (AD CHY AK) ?_
  show CNM x; rw [CWN]; simp only [CC, eq_self, implies_true, forall_const, BO, WA]
  exact ⟨⟨h1, c0⟩, λ h => by simp [c0] at h⟩) _
end Go.Bal
