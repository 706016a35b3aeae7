/- Package chart: stages at a time, from a time to another one, and when one is reached. -/
import Derived.Test.YtdbjalgfomknhaaChH
set_option linter.unusedVariables false
set_option linter.unusedSimpArgs false
namespace Go.Bal
open Go Go.Sym Go.Proofs
def zHul : Hul := ⟨⟨0, 0⟩, false⟩
structure CZI where
 a : CZ
 t : Int
def dCZI : List AVal -> Heap -> Option (CZI × List (Nat × Nat) × List Nat)
 | [x, y, .d t], H => match BWE x H, CDC y H with
  | some (c, f), some (l, e) => some (⟨⟨c, l⟩, CK t⟩, [], f ++ e)
  | _, _ => none
 | _, _ => none
def xCZI (x : CZI) : List AVal := [.d (XX x.a.c), .d (DI x.a.z), .int x.t]
def CI (a : CZ) : List Span := (AU (AI a)).1
theorem BTL (h : Hul) : Hul.mk h.s h.m = h := rfl
theorem CJU (a : CZ) : (AU (AI a)).1 = CI a := rfl
theorem Gh {a : CZ} (h : AR a = 0) : (CI a).length = a.c.ms.length := by
 have h3 := (Fi h).2.2
 unfold CI
 unfold AU at h3 ⊢
 rw [Kh] at h3 ⊢
 cases hs : stgOk a.c with
 | false => rw [hs] at h3; cases h3
 | true => show (KR _ _).length = _; unfold KR; rw [rng_length, FF]
theorem JA (c : Cht) : (stgL c).length = c.ms.length := rng_length _ _
def HH (a : CZ) (t : Int) : Nat -> Hul
 | 0 => zHul
 | k + 1 => bif HG t (gD (CI a) k).lo (gD (CI a) k).hi then LB (HH a t k) (gD (stgL a.c) k) else HH a t k
def Ks (a : CZ) (t : Int) (g : Nat) : Bool := (KR (AI a) (Pj (CI a) ((g : Int) + 1) (wr (t - 1)) (wr (t + 1)))).all IW
def JB (a : CZ) (t : Int) : Nat -> Hul
 | 0 => HH a t a.c.ms.length
 | g + 1 => bif Ks a t g then LB (LB (JB a t g) (gD (stgL a.c) g)) (gD (stgL a.c) (g + 1)) else JB a t g
def Iw (x : CZI) : Hul := bif HG x.t (-100000000) 100000000 then JB x.a x.t (x.a.c.ms.length - 1) else HH x.a x.t x.a.c.ms.length
def CQ (x : CZI) : Span × Int := bif AR x.a == 0 then GU (Iw x) else (⟨0, 0⟩, AR x.a)
def C_Stage : Ctr := { α := CZI, xs := xCZI, val := λ x => .tup [.d (CL (CQ x).1), .int (CQ x).2], keep := λ _ => [], pre := λ x => [x.a.c.ms.length < 4611686018427387904 /\ x.a.c.ns.length < 4611686018427387904 /\ x.a.z.length < 4611686018427387904] }
def sgH (x : CZI) (h : Hul) : List (Nat × HCell) := [(201, .live (.box [.int x.t])), (202, .live (.box [.int 0, .int 0])), (203, .live (.box [.bptr 208 0])), (204, .live (.box [.d (AX (CI x.a))])), (205, .live (.box [.d (AX (stgL x.a.c))])), (206, .live (hlB h)), (207, .live (.box [.fn (.func O1) [.bptr 206 0] []])), (208, .live (dkB (AI x.a) 209)), (209, .live (dkM (AI x.a)))]
def sg7 (x : CZI) : Shape := { α := Nat, dflt := 0, T := λ k => ⟨[(5, .bptr 201 0), (6, .bptr 202 0), (8, .bptr 203 0), (9, .bptr 204 0), (10, .bptr 205 0), (12, .bptr 206 0), (13, .bptr 207 0), (32, .int x.a.c.ms.length), (33, .int k)], sgH x (HH x.a x.t k)⟩, inv := λ k => k <= x.a.c.ms.length, meas := λ k => x.a.c.ms.length - k, first := [(201, 1016), (202, 1032), (203, 2128), (204, 2144), (205, 2160), (206, 5000), (207, 6016), (208, 2032), (209, 2033)] }
def sg1 (x : CZI) (l : Nat) : Shape := { α := Nat, dflt := 0, T := λ g => ⟨[(0, .fn (.yield l) [] []), (1, .bptr 14016 0), (12, .int (wr ((x.a.c.ms.length : Int) - 1))), (13, .int g)], sgH x (JB x.a x.t g) ++ [(14016, .live (.box [.bptr 208 0]))]⟩, inv := λ g => g <= x.a.c.ms.length - 1, meas := λ g => 50 - g }
noncomputable def itSg (x : CZI) : IterAnn := { fn := uB, code := AL uB, live := [5, 6, 8, 9, 10, 12, 13], ann := { base := λ id => 100000 + 1000 * (id + 1), Γ := Sym.look [], E := [201, 202, 203, 204, 205, 206, 207, 208, 209, 14016], n := 66, inner := λ gs id => if id = 1 then some [sg1 x (gs.getD 0 0)] else none } }
noncomputable def CEZ (x : CZI) : Ann := { ann 92 [(RX, C_rdO.spec dCZ), (n_in, s_in), (O1, C_hadd.spec dHuS), (BOV, C_gaps.spec Z1), (yY, C_part.spec dDkQ), (SS, C_nar.spec dDkS), (E4, C_who.spec dHu1)] with iter := λ g => if g = Yk then some (itSg x) else none, loops := λ id => if id = 7 then some [sg7 x] else none }
def BXY : Ann := ann 92 [(RX, C_rdX.spec dCZ)]
def CCX (x : CZI) : Prop := AZ Try.prog (CEZ x) zN (AL zN) (xCZI x) (AG []) (.tup [.d (CL (GU (Iw x)).1), .int (GU (Iw x)).2]) [] [] []
abbrev Xv (x : CZI) : List Mk := AE x.a.c.ms.length λ (i : Nat) => gD x.a.c.ms i
abbrev eM (x : CZI) : Nat := (Xv x).length
abbrev AGS (x : CZI) (i : Nat) : Mk := gD (Xv x) i
abbrev cS (x : CZI) : List Nt := AE x.a.c.ns.length λ (i : Nat) => gD x.a.c.ns i
abbrev bC (x : CZI) : Nat := (cS x).length
abbrev bK (x : CZI) (i : Nat) : Nt := gD (cS x) i
abbrev AAZ (x : CZI) (i : Nat) : Span := (bK x i).t
abbrev S6 (x : CZI) (i : Nat) : Span := (bK x i).s
abbrev aO (x : CZI) : List Int := AE x.a.z.length λ (i : Nat) => gD x.a.z i
abbrev Zp (x : CZI) : Nat := (aO x).length
abbrev sR (x : CZI) : Cht := Cht.mk x.a.c.p x.a.c.base x.a.c.scale x.a.c.off (Xv x) (cS x)
abbrev lX (x : CZI) : CZ := CZ.mk (sR x) (aO x)
abbrev UN (x : CZI) : Dk := AI (lX x)
abbrev rA (x : CZI) : List Span := (AU (UN x)).fst
abbrev jX (x : CZI) : Nat := (rA x).length
abbrev iD (a : Nat) : Prop := (↑a : Int) = (0 : Int)
abbrev DM : Prop := Int.ofNat (0 : Nat) = Int.ofNat (0 : Nat)
abbrev oJ (x : CZI) (i : Nat) : Span := gD (rA x) i
abbrev fW (x : CZI) : List Span := stgL (sR x)
abbrev mW (i : Nat) (x : CZI) : Prop := i < (stgL x.a.c).length
abbrev qH (x : CZI) (i : Nat) : Span := gD (fW x) i
abbrev JN (x : CZI) : Cht := (UN x).c
abbrev nJ (x : CZI) : Span := (JN x).p
abbrev lV (x : CZI) : List Mk := (JN x).ms
abbrev El (i : Nat) (x : CZI) : Prop := i < (AI x.a).c.ms.length
abbrev MC (x : CZI) (i : Nat) : Int := (gD (AI x.a).c.ms i).pl
abbrev iO (x : CZI) (i : Nat) : Mk := gD (lV x) i
abbrev MO (x : CZI) (i : Nat) : Int := (gD (AI x.a).c.ms i).ht
abbrev SV (x : CZI) : List Nt := (JN x).ns
abbrev Ht (i : Nat) (x : CZI) : Prop := i < (AI x.a).c.ns.length
abbrev MK (x : CZI) (i : Nat) : Int := (gD (AI x.a).c.ns i).mi
abbrev Fv (x : CZI) (i : Nat) : Nt := gD (SV x) i
abbrev rT (x : CZI) (i : Nat) : Span := (gD (AI x.a).c.ns i).t
abbrev MU (x : CZI) (i : Nat) : Int := (rT x i).lo
abbrev lD (x : CZI) (i : Nat) : Span := (Fv x i).t
abbrev LW (x : CZI) (i : Nat) : Int := (rT x i).hi
abbrev pJ (x : CZI) (i : Nat) : Span := (gD (AI x.a).c.ns i).s
abbrev LV (x : CZI) (i : Nat) : Int := (pJ x i).lo
abbrev gC (x : CZI) (i : Nat) : Span := (Fv x i).s
abbrev MT (x : CZI) (i : Nat) : Int := (pJ x i).hi
abbrev Ea (x : CZI) (n : Int) : Nt := ntOf (SV x) n
abbrev kH (x : CZI) (n : Int) : Span := (Ea x n).t
abbrev lG (x : CZI) (n : Int) : Span := (Ea x n).s
abbrev SI (a : Nat) : Prop := (0 : Int) <= (↑a : Int)
abbrev qB (a : Nat) (x : CZI) : Prop := SI a /\ (↑a : Int) < (↑(CI x.a).length : Int)
abbrev nV (a : Nat) (x : CZI) : Prop := SI a /\ (↑a : Int) < (↑(stgL x.a.c).length : Int)
abbrev Gq (x : CZI) (a : Nat) : Prop := (gD (stgL x.a.c) a).lo = (gD (stgL x.a.c) a).lo
abbrev Dj (x : CZI) (a : Nat) : Prop := (gD (stgL x.a.c) a).hi = (gD (stgL x.a.c) a).hi
abbrev nI (x : CZI) (a : Nat) : Prop := (HH x.a x.t a).s.lo = (HH x.a x.t a).s.lo
abbrev kO (x : CZI) (a : Nat) : Prop := (HH x.a x.t a).s.hi = (HH x.a x.t a).s.hi
abbrev kD (x : CZI) (a : Nat) : Prop := (HH x.a x.t a).m = (HH x.a x.t a).m
abbrev rD (x : CZI) (a : Nat) : Prop := nI x a /\ kO x a /\ kD x a
abbrev lN (x : CZI) : Prop := (↑x.a.c.ms.length : Int) = (↑x.a.c.ms.length : Int)
abbrev FM (a : Nat) : Int := IntKind.i64.wrap ((↑a : Int) + (1 : Int))
abbrev SQ (a : Nat) (a1 : Nat) : Prop := (↑a : Int) = FM a1
abbrev NK (x : CZI) : Prop := (CI x.a).length = (CI x.a).length
abbrev MZ (x : CZI) : Prop := ∀ (i : Nat), i < (CI x.a).length -> (gD (CI x.a) i).lo = (gD (CI x.a) i).lo /\ (gD (CI x.a) i).hi = (gD (CI x.a) i).hi
abbrev MG (x : CZI) : Prop := (stgL x.a.c).length = (stgL x.a.c).length
abbrev ND (x : CZI) : Prop := ∀ (i : Nat), mW i x -> Gq x i /\ Dj x i
abbrev oK (x : CZI) (a : Nat) : Hul := Hul.mk (HH x.a x.t a).s (HH x.a x.t a).m
abbrev jI (x : CZI) (a : Nat) : Span := (LB (oK x a) (gD (stgL x.a.c) a)).s
abbrev ID (x : CZI) : Prop := (AI x.a).c.p.lo = (AI x.a).c.p.lo
abbrev IE (x : CZI) : Prop := (AI x.a).c.p.hi = (AI x.a).c.p.hi
abbrev II (x : CZI) : Prop := (AI x.a).c.base = (AI x.a).c.base
abbrev HO (x : CZI) : Prop := (AI x.a).c.scale = (AI x.a).c.scale
abbrev IF (x : CZI) : Prop := (AI x.a).c.off = (AI x.a).c.off
abbrev HJ (x : CZI) : Prop := ∀ (i : Nat), i < (40 : Nat) -> (AI x.a).sp i = (AI x.a).sp i
abbrev HM (x : CZI) : Prop := ∀ (n : Int), (AI x.a).st n = (AI x.a).st n
abbrev NH (x : CZI) : Prop := ID x /\ IE x /\ II x /\ HO x /\ IF x /\ (AI x.a).c.ms.length = (AI x.a).c.ms.length /\ (∀ (i : Nat), El i x -> MC x i =
 MC x i /\ MO x i = MO x i) /\ (AI x.a).c.ns.length = (AI x.a).c.ns.length /\ (∀ (i : Nat), Ht i x -> MK x i = MK x i /\ MU x i = MU x i /\ LW x i =
 LW x i /\ LV x i = LV x i /\ MT x i = MT x i) /\ HJ x /\ AT = AT /\ (∀ (n : Int), hasN (AI x.a).c.ns n = hasN (AI x.a).c.ns n) /\ HM x /\ ∀ (n : Int), (ntOf (AI
 x.a).c.ns n).mi = (ntOf (AI x.a).c.ns n).mi /\ (ntOf (AI x.a).c.ns n).t.lo = (ntOf (AI x.a).c.ns n).t.lo /\ (ntOf (AI x.a).c.ns n).t.hi = (ntOf (AI x.a).c.ns n).t.hi /\ (ntOf (AI x.a).c.ns n).s.lo = (ntOf (AI
 x.a).c.ns n).s.lo /\ (ntOf (AI x.a).c.ns n).s.hi = (ntOf (AI x.a).c.ns n).s.hi
abbrev fN (x : CZI) (a : Nat) : Nat := x.a.c.ms.length - a
abbrev iZ (a : Nat) (x : CZI) (a1 : Nat) : Prop := a.le x.a.c.ms.length /\ fN x a < fN x a1
abbrev Du (x : CZI) : List Mk := AE (AI x.a).c.ms.length λ (i : Nat) => gD (AI x.a).c.ms i
abbrev JH (x : CZI) : Nat := (Du x).length
abbrev Iq (x : CZI) : Prop := JH x = (AI x.a).c.ms.length
abbrev iK (x : CZI) (i : Nat) : Mk := gD (Du x) i
abbrev sE (x : CZI) (i : Nat) : Int := (iK x i).pl
abbrev pV (x : CZI) (i : Nat) : Int := (iK x i).ht
abbrev Ew (x : CZI) : Prop := ∀ (i : Nat), i < JH x -> sE x i = MC x i /\ pV x i = MO x i
abbrev MF (x : CZI) : List Nt := AE (AI x.a).c.ns.length λ (i : Nat) => gD (AI x.a).c.ns i
abbrev Df (x : CZI) : Nat := (MF x).length
abbrev Gy (x : CZI) : Prop := Df x = (AI x.a).c.ns.length
abbrev Gx (x : CZI) (i : Nat) : Nt := gD (MF x) i
abbrev pL (x : CZI) (i : Nat) : Int := (Gx x i).mi
abbrev rR (x : CZI) (i : Nat) : Span := (Gx x i).t
abbrev gN (x : CZI) (i : Nat) : Int := (rR x i).lo
abbrev oF (x : CZI) (i : Nat) : Int := (rR x i).hi
abbrev mK (x : CZI) (i : Nat) : Span := (Gx x i).s
abbrev hY (x : CZI) (i : Nat) : Int := (mK x i).lo
abbrev iF (x : CZI) (i : Nat) : Int := (mK x i).hi
abbrev Gg (x : CZI) : Prop := ∀ (i : Nat), i < Df x -> pL x i = MK x i /\ gN x i = MU x i /\ oF x i = LW x i /\ hY x i = LV x i /\ iF x i
 = MT x i
abbrev lL (x : CZI) (n : Int) : Bool := hasN (MF x) n
abbrev Hd (x : CZI) : Prop := ∀ (n : Int), lL x n = hasN (AI x.a).c.ns n
abbrev Dd (x : CZI) (n : Int) : Nt := ntOf (MF x) n
abbrev jT (x : CZI) (n : Int) : Int := (Dd x n).mi
abbrev sJ (x : CZI) (n : Int) : Span := (Dd x n).t
abbrev lH (x : CZI) (n : Int) : Int := (sJ x n).lo
abbrev pI (x : CZI) (n : Int) : Int := (sJ x n).hi
abbrev iW (x : CZI) (n : Int) : Span := (Dd x n).s
abbrev hX (x : CZI) (n : Int) : Int := (iW x n).lo
abbrev nG (x : CZI) (n : Int) : Int := (iW x n).hi
abbrev XS (x : CZI) : Prop := ∀ (n : Int), jT x n = (ntOf (AI x.a).c.ns n).mi /\ lH x n = (ntOf (AI x.a).c.ns n).t.lo /\ pI x n = (ntOf (AI x.a).c.ns n).t.hi /\ hX x n = (ntOf
 (AI x.a).c.ns n).s.lo /\ nG x n = (ntOf (AI x.a).c.ns n).s.hi
abbrev VI (x : CZI) : Prop := (AI x.a).c.ms.length = JH x
abbrev VD (x : CZI) : Prop := ∀ (i : Nat), El i x -> MC x i = sE x i /\ MO x i = pV x i
abbrev WJ (x : CZI) : Prop := (AI x.a).c.ns.length = Df x
abbrev VP (x : CZI) : Prop := ∀ (i : Nat), Ht i x -> MK x i = pL x i /\ MU x i = gN x i /\ LW x i = oF x i /\ LV x i = hY x i /\ MT x i
 = iF x i
abbrev VV (x : CZI) : Prop := ∀ (n : Int), hasN (AI x.a).c.ns n = lL x n
abbrev WZ (x : CZI) : Prop := ∀ (n : Int), (ntOf (AI x.a).c.ns n).mi = jT x n /\ (ntOf (AI x.a).c.ns n).t.lo = lH x n /\ (ntOf (AI x.a).c.ns n).t.hi = pI x n /\ (ntOf (AI x.a).c.ns
 n).s.lo = hX x n /\ (ntOf (AI x.a).c.ns n).s.hi = nG x n
abbrev OO (x : CZI) : Int := wr ((↑x.a.c.ms.length : Int) - (1 : Int))
abbrev UT (a : Nat) (x : CZI) : Prop := a.le (x.a.c.ms.length - (1 : Nat))
abbrev XG (a : Nat) : Prop := (0 : Int) <= FM a
abbrev VW (x : CZI) : List Span := AE (CI x.a).length λ (i : Nat) => gD (CI x.a) i
abbrev JV (x : CZI) : Nat := (VW x).length
abbrev Th (x : CZI) (i : Nat) : Span := gD (VW x) i
abbrev XP (x : CZI) : Int := IntKind.i64.wrap (x.t - (1 : Int))
abbrev WV (x : CZI) : Int := IntKind.i64.wrap (x.t + (1 : Int))
abbrev Jc (x : CZI) (a : Nat) : List Span := Pj (VW x) (FM a) (XP x) (WV x)
abbrev Qp (x : CZI) (a : Nat) : Nat := (Jc x a).length
abbrev WK (x : CZI) (a : Nat) (i : Nat) : Span := gD (Jc x a) i
abbrev XO (x : CZI) (a : Nat) : List Span := AE (Qp x a) λ (i : Nat) => WK x a i
abbrev XL (x : CZI) (a : Nat) : Nat := (XO x a).length
abbrev Tc (x : CZI) (a : Nat) (i : Nat) : Span := gD (XO x a) i
abbrev Og (x : CZI) (a : Nat) : Prop := (JB x.a x.t a).s.lo = (JB x.a x.t a).s.lo
abbrev Ov (x : CZI) (a : Nat) : Prop := (JB x.a x.t a).s.hi = (JB x.a x.t a).s.hi
abbrev Rj (x : CZI) (a : Nat) : Prop := (JB x.a x.t a).m = (JB x.a x.t a).m
abbrev Oh (x : CZI) (a : Nat) : Prop := Og x a /\ Ov x a /\ Rj x a
abbrev WR (x : CZI) (a : Nat) : Span := gD (stgL x.a.c) (FM a).toNat
abbrev Ta (x : CZI) (a : Nat) : Int := (WR x a).lo
abbrev Rx (x : CZI) (a : Nat) : Int := (WR x a).hi
abbrev Vz (x : CZI) (a : Nat) : Hul := Hul.mk (JB x.a x.t a).s (JB x.a x.t a).m
abbrev Ly (x : CZI) (a : Nat) : Hul := LB (Vz x a) (gD (stgL x.a.c) a)
abbrev WM (x : CZI) (a : Nat) : Span := (Ly x a).s
abbrev Sd (x : CZI) (a : Nat) : Int := (WM x a).lo
abbrev Wq (x : CZI) (a : Nat) : Int := (WM x a).hi
abbrev Ti (x : CZI) : Prop := OO x = OO x
abbrev Qy (x : CZI) (a : Nat) : Span := (LB (Hul.mk (WM x a) (Ly x a).m) (WR x a)).s
abbrev Ny (a : Nat) : Nat := (50 : Nat) - a
abbrev Mz (a : Nat) (x : CZI) (a1 : Nat) : Prop := UT a x /\ Ny a < Ny a1
abbrev Uh (l : Nat) (x : CZI) (a : Nat) : Prop := l = l /\ (JV x = (CI x.a).length /\ (∀ (i : Nat), i < JV x -> (Th x i).lo = (gD (CI x.a) i).lo /\ (Th x i).hi = (gD (CI x.a)
 i).hi) /\ FM a = FM a /\ XP x = XP x /\ WV x = WV x /\ ID x /\ IE x /\ II x /\ HO x /\ IF x /\ Iq x /\ Ew x /\ Gy x
 /\ Gg x /\ HJ x /\ AT = AT /\ Hd x /\ HM x /\ XS x /\ ID x /\ IE x /\ II x /\ HO x /\ IF x /\ VI x /\ VD x /\ WJ x /\
 VP x /\ HJ x /\ AT = AT /\ VV x /\ HM x /\ WZ x /\ (((1 : Nat) <= JV x /\ JV x <= (40 : Nat)) /\ XG a /\ FM a <= (↑(JV x) : Int)) /\ XL
 x a = Qp x a /\ (∀ (i : Nat), i < XL x a -> (Tc x a i).lo = (WK x a i).lo /\ (Tc x a i).hi = (WK x a i).hi) /\ ID x /\ IE x /\ II x /\ HO x /\
 IF x /\ Iq x /\ Ew x /\ Gy x /\ Gg x /\ HJ x /\ AT = AT /\ Hd x /\ HM x /\ XS x /\ ID x /\ IE x /\ II x /\ HO x /\ IF x
 /\ VI x /\ VD x /\ WJ x /\ VP x /\ HJ x /\ AT = AT /\ VV x /\ HM x /\ WZ x /\ XL x a = JH x /\ (1 : Nat) <= JH x /\ JH x <= (40 :
 Nat)) /\ bif (KR (Dk.mk (Cht.mk (AI x.a).c.p (AI x.a).c.base (AI x.a).c.scale (AI x.a).c.off (Du x) (MF x)) (AI x.a).st (AI x.a).sp) (XO x a)).all IW then (nV a x /\
 Gq x a /\ Dj x a /\ Oh x a) /\ ((XG a /\ FM a < (↑(stgL x.a.c).length : Int)) /\ Ta x a = Ta x a /\ Rx x a = Rx x a /\ Sd x a = Sd
 x a /\ Wq x a = Wq x a /\ true = true) /\ ∃ (a_1 : Nat), (Fn.yield l = Fn.yield l /\ Ti x /\ SQ a_1 a /\ x.t = x.t /\ DM /\ DM /\ NK x /\ MZ x /\ MG x /\
 ND x /\ (JB x.a x.t a_1).s.lo = (Qy x a).lo /\ (JB x.a x.t a_1).s.hi = (Qy x a).hi /\ (JB x.a x.t a_1).m = true /\ NH x) /\ Mz a_1 x a else ∃ (a_1 : Nat), (Fn.yield l =
 Fn.yield l /\ Ti x /\ SQ a_1 a /\ x.t = x.t /\ DM /\ DM /\ NK x /\ MZ x /\ MG x /\ ND x /\ (JB x.a x.t a_1).s.lo = (JB x.a x.t a).s.lo /\ (JB x.a x.t a_1).s.hi
 = (JB x.a x.t a).s.hi /\ (JB x.a x.t a_1).m = (JB x.a x.t a).m /\ NH x) /\ Mz a_1 x a
abbrev Qh (x : CZI) (a : Nat) : Span × Int := GU (Vz x a)
abbrev Kp (x : CZI) (a : Nat) : Span := (Qh x a).fst
abbrev Wf (x : CZI) (a : Nat) : Span × Int := GU (oK x a)
abbrev Vn (x : CZI) (a : Nat) : Span := (Wf x a).fst
theorem CHM (x : CZI) : (CCX x) = ((x.a.c.p.lo = x.a.c.p.lo /\ x.a.c.p.hi = x.a.c.p.hi /\ x.a.c.base = x.a.c.base /\ x.a.c.scale = x.a.c.scale /\ x.a.c.off = x.a.c.off /\ eM x = x.a.c.ms.length /\ (∀ (i : Nat),
 i < eM x -> (AGS x i).pl = (gD x.a.c.ms i).pl /\ (AGS x i).ht = (gD x.a.c.ms i).ht) /\ bC x = x.a.c.ns.length /\ (∀ (i : Nat), i < bC x -> (bK x i).mi = (gD x.a.c.ns i).mi /\ (AAZ
 x i).lo = (gD x.a.c.ns i).t.lo /\ (AAZ x i).hi = (gD x.a.c.ns i).t.hi /\ (S6 x i).lo = (gD x.a.c.ns i).s.lo /\ (S6 x i).hi = (gD x.a.c.ns i).s.hi) /\ Zp x = x.a.z.length /\ (∀ (i : Nat), i <
 Zp x -> gD (aO x) i = gD x.a.z i) /\ (eM x < (4611686018427387904 : Nat) /\ bC x < (4611686018427387904 : Nat) /\ Zp x < (4611686018427387904 : Nat)) /\ AR (lX x) = (0 : Int)) /\
 (∃ (a : Nat), ((↑x.a.c.ms.length : Int) = (↑(jX x) : Int) /\ iD a /\ x.t = x.t /\ DM /\ DM /\ (CI x.a).length = jX x /\ (∀ (i : Nat), i < (CI x.a).length -> (gD (CI x.a) i).lo =
 (oJ x i).lo /\ (gD (CI x.a) i).hi = (oJ x i).hi) /\ (stgL x.a.c).length = (fW x).length /\ (∀ (i : Nat), mW i x -> (gD (stgL x.a.c) i).lo = (qH x i).lo /\ (gD (stgL x.a.c) i).hi =
 (qH x i).hi) /\ (HH x.a x.t a).s.lo = (0 : Int) /\ (HH x.a x.t a).s.hi = (0 : Int) /\ (HH x.a x.t a).m = false /\ (AI x.a).c.p.lo = (nJ x).lo /\ (AI x.a).c.p.hi = (nJ x).hi /\ (AI
 x.a).c.base = (JN x).base /\ (AI x.a).c.scale = (JN x).scale /\ (AI x.a).c.off = (JN x).off /\ (AI x.a).c.ms.length = (lV x).length /\ (∀ (i : Nat), El i x -> MC x i =
 (iO x i).pl /\ MO x i = (iO x i).ht) /\ (AI x.a).c.ns.length = (SV x).length /\ (∀ (i : Nat), Ht i x -> MK x i = (Fv x i).mi /\ MU x i = (lD x i).lo /\
 LW x i = (lD x i).hi /\ LV x i = (gC x i).lo /\ MT x i = (gC x i).hi) /\ (∀ (i : Nat), i < (40 : Nat) -> (AI x.a).sp i = (UN x).sp i) /\ AT = AT /\ (∀ (n : Int), hasN
 (AI x.a).c.ns n = hasN (SV x) n) /\ (∀ (n : Int), (AI x.a).st n = (UN x).st n) /\ ∀ (n : Int), (ntOf (AI x.a).c.ns n).mi = (Ea x n).mi /\ (ntOf (AI x.a).c.ns n).t.lo = (kH x n).lo /\
 (ntOf (AI x.a).c.ns n).t.hi = (kH x n).hi /\ (ntOf (AI x.a).c.ns n).s.lo = (lG x n).lo /\ (ntOf (AI x.a).c.ns n).s.hi = (lG x n).hi) /\ a.le x.a.c.ms.length) /\ ∀ (a : Nat), a.le x.a.c.ms.length
 -> bif decide ((↑a : Int) < (↑x.a.c.ms.length : Int)) then (qB a x /\ qB a x) /\ bif HG x.t (gD (CI x.a) a).lo (gD (CI x.a) a).hi then (nV a x /\ Gq x a /\ Dj x a /\ rD x a) /\
 ∃ (a_2 : Nat), (lN x /\ SQ a_2 a /\ x.t = x.t /\ DM /\ DM /\ NK x /\ MZ x /\ MG x /\ ND x /\ (HH x.a x.t a_2).s.lo = (jI x a).lo /\ (HH x.a x.t a_2).s.hi
 = (jI x a).hi /\ (HH x.a x.t a_2).m = true /\ NH x) /\ iZ a_2 x a else ∃ (a_2 : Nat), (lN x /\ SQ a_2 a /\ x.t = x.t /\ DM /\ DM /\ NK x /\ MZ x /\
 MG x /\ ND x /\ (HH x.a x.t a_2).s.lo = (HH x.a x.t a).s.lo /\ (HH x.a x.t a_2).s.hi = (HH x.a x.t a).s.hi /\ (HH x.a x.t a_2).m = (HH x.a x.t a).m /\ NH x) /\ iZ a_2 x a else bif
 HG x.t (-100000000 : Int) (100000000 : Int) then (ID x /\ IE x /\ II x /\ HO x /\ IF x /\ Iq x /\ Ew x /\ Gy x /\ Gg x /\ HJ x /\ AT = AT /\
 Hd x /\ HM x /\ XS x /\ ID x /\ IE x /\ II x /\ HO x /\ IF x /\ VI x /\ VD x /\ WJ x /\ VP x /\ HJ x /\ AT = AT /\
 VV x /\ HM x /\ WZ x) /\ ∀ (l : Nat), (∃ (a_2 : Nat), (Fn.yield l = Fn.yield l /\ OO x = IntKind.i64.wrap ((↑(AI x.a).c.ms.length : Int) - (1 : Int)) /\ iD a_2 /\ x.t = x.t /\
 DM /\ DM /\ NK x /\ MZ x /\ MG x /\ ND x /\ (JB x.a x.t a_2).s.lo = (HH x.a x.t a).s.lo /\ (JB x.a x.t a_2).s.hi = (HH x.a x.t a).s.hi /\ (JB x.a x.t a_2).m = (HH x.a
 x.t a).m /\ NH x) /\ UT a_2 x) /\ ∀ (a : Nat), UT a x -> bif decide ((↑a : Int) < OO x) then ((XG a /\ FM a < (↑(AI x.a).c.ms.length : Int)) /\ SI a /\ (↑a : Int) <
 (↑(AI x.a).c.ms.length : Int)) /\ (SI a /\ (↑a : Int) < (↑(40 : Nat) : Int)) /\ a.succ.le (40 : Nat) /\ bif (AI x.a).sp a then Uh l x a else Uh l x a else (Og x a /\ Ov x a /\
 Rj x a /\ Oh x a) /\ (GU (Iw x)).fst.lo = (Kp x a).lo /\ (GU (Iw x)).fst.hi = (Kp x a).hi /\ (GU (Iw x)).snd = (Qh x a).snd else (nI x a /\ kO x a /\
 kD x a /\ rD x a) /\ (GU (Iw x)).fst.lo = (Vn x a).lo /\ (GU (Iw x)).fst.hi = (Vn x a).hi /\ (GU (Iw x)).snd = (Wf x a).snd) := by kernel_rfl
def BWB (x : CZI) : Prop := AZ Try.prog BXY zN (AL zN) (xCZI x) (AG []) (.tup [.d (CL zSp), .int (AR x.a)]) [] [] []
theorem CGX (x : CZI) : (BWB x) = ((x.a.c.p.lo = x.a.c.p.lo /\ x.a.c.p.hi = x.a.c.p.hi /\ x.a.c.base = x.a.c.base /\ x.a.c.scale = x.a.c.scale /\ x.a.c.off = x.a.c.off /\ (AE x.a.c.ms.length λ (i : Nat) => gD
 x.a.c.ms i).length = x.a.c.ms.length /\ (∀ (i : Nat), i < (AE x.a.c.ms.length λ (i : Nat) => gD x.a.c.ms i).length -> (gD (AE x.a.c.ms.length λ (i : Nat) => gD x.a.c.ms i) i).pl = (gD x.a.c.ms i).pl /\ (gD (AE
 x.a.c.ms.length λ (i : Nat) => gD x.a.c.ms i) i).ht = (gD x.a.c.ms i).ht) /\ (AE x.a.c.ns.length λ (i : Nat) => gD x.a.c.ns i).length = x.a.c.ns.length /\ (∀ (i : Nat), i < (AE x.a.c.ns.length λ (i : Nat) => gD
 x.a.c.ns i).length -> (gD (AE x.a.c.ns.length λ (i : Nat) => gD x.a.c.ns i) i).mi = (gD x.a.c.ns i).mi /\ (gD (AE x.a.c.ns.length λ (i : Nat) => gD x.a.c.ns i) i).t.lo = (gD x.a.c.ns i).t.lo /\ (gD (AE
 x.a.c.ns.length λ (i : Nat) => gD x.a.c.ns i) i).t.hi = (gD x.a.c.ns i).t.hi /\ (gD (AE x.a.c.ns.length λ (i : Nat) => gD x.a.c.ns i) i).s.lo = (gD x.a.c.ns i).s.lo /\ (gD (AE x.a.c.ns.length λ (i : Nat) => gD
 x.a.c.ns i) i).s.hi = (gD x.a.c.ns i).s.hi) /\ (AE x.a.z.length λ (i : Nat) => gD x.a.z i).length = x.a.z.length /\ (∀ (i : Nat), i < (AE x.a.z.length λ (i : Nat) => gD x.a.z i).length -> gD (AE x.a.z.length λ (i :
 Nat) => gD x.a.z i) i = gD x.a.z i) /\ ((AE x.a.c.ms.length λ (i : Nat) => gD x.a.c.ms i).length < (4611686018427387904 : Nat) /\ (AE x.a.c.ns.length λ (i : Nat) => gD x.a.c.ns i).length < (4611686018427387904 : Nat)
 /\ (AE x.a.z.length λ (i : Nat) => gD x.a.z i).length < (4611686018427387904 : Nat)) /\ AR (CZ.mk (Cht.mk x.a.c.p x.a.c.base x.a.c.scale x.a.c.off (AE x.a.c.ms.length λ (i : Nat) => gD x.a.c.ms i) (AE
 x.a.c.ns.length λ (i : Nat) => gD x.a.c.ns i)) (AE x.a.z.length λ (i : Nat) => gD x.a.z i)) ≠ (0 : Int)) /\ bif AR (CZ.mk (Cht.mk x.a.c.p x.a.c.base x.a.c.scale x.a.c.off (AE x.a.c.ms.length λ (i : Nat) => gD
 x.a.c.ms i) (AE x.a.c.ns.length λ (i : Nat) => gD x.a.c.ns i)) (AE x.a.z.length λ (i : Nat) => gD x.a.z i)) != (0 : Int) then Int.ofNat (0 : Nat) = Int.ofNat (0 : Nat) /\ Int.ofNat (0 : Nat) = Int.ofNat (0 : Nat) /\
 AR x.a = AR (CZ.mk (Cht.mk x.a.c.p x.a.c.base x.a.c.scale x.a.c.off (AE x.a.c.ms.length λ (i : Nat) => gD x.a.c.ms i) (AE x.a.c.ns.length λ (i : Nat) => gD x.a.c.ns i)) (AE x.a.z.length λ (i : Nat) => gD
 x.a.z i)) else False) := by kernel_rfl
theorem COL (x : CZI) (h1 : x.a.c.ms.length < 4611686018427387904 /\ x.a.c.ns.length < 4611686018427387904 /\ x.a.z.length < 4611686018427387904) (c0 : AR x.a = 0) : CCX x := by
 have tl := Gh c0
 have sl := JA x.a.c
 have hl := ES (Fi c0).1
 obtain ⟨_, ⟨n1, n2⟩, _⟩ := hl
 have w1 : wr ((x.a.c.ms.length : Int) - 1) = ((x.a.c.ms.length - 1 : Nat) : Int) := by unfold wr; rw [FH (by omega) (by omega)]; omega
 have w2 : IntKind.i64.wrap ((x.a.c.ms.length : Int) - 1) = ((x.a.c.ms.length - 1 : Nat) : Int) := w1
 have po : ∀ g : Nat, (KR (AI x.a) (Pj (CI x.a) ((g : Int) + 1) (IntKind.i64.wrap (x.t - 1)) (IntKind.i64.wrap (x.t + 1)))).all IW = Ks x.a x.t g := λ _ => rfl
 rw [CHM]; delta Xv eM AGS cS bC bK AAZ S6 aO Zp sR lX UN rA jX iD DM oJ fW mW qH JN nJ lV El MC iO MO SV Ht MK Fv rT MU lD LW pJ LV gC MT Ea kH lG SI qB nV Gq Dj nI kO kD rD lN FM SQ NK MZ MG ND oK jI ID IE II HO IF HJ HM NH fN iZ Du JH Iq iK sE pV Ew MF Df Gy Gx pL rR gN oF mK hY iF Gg lL Hd Dd jT sJ lH pI iW hX nG XS VI VD WJ VP VV WZ OO UT XG VW JV Th XP WV Jc Qp WK XO XL Tc Og Ov Rj Oh WR Ta Rx Vz Ly WM Sd Wq Ti Qy Ny Mz Uh Qh Kp Wf Vn; simp only [CC, eq_self, implies_true, forall_const, BZ, YA, Kh, RQ, Vj, BTL, CJU]; simp only [tl, sl, w1, w2, Ai]
 have e1 : ∀ k, HG x.t (gD (CI x.a) k).lo (gD (CI x.a) k).hi = true -> HH x.a x.t (k + 1) = LB (HH x.a x.t k) (gD (stgL x.a.c) k) := λ k h => by
  show (bif HG x.t (gD (CI x.a) k).lo (gD (CI x.a) k).hi then _ else _) = _; rw [h]; rfl
 have e0 : ∀ k, HG x.t (gD (CI x.a) k).lo (gD (CI x.a) k).hi = false -> HH x.a x.t (k + 1) = HH x.a x.t k := λ k h => by
  show (bif HG x.t (gD (CI x.a) k).lo (gD (CI x.a) k).hi then _ else _) = _; rw [h]; rfl
 have f1 : ∀ g, Ks x.a x.t g = true -> JB x.a x.t (g + 1) = LB (LB (JB x.a x.t g) (gD (stgL x.a.c) g)) (gD (stgL x.a.c) (g + 1)) := λ g h => by
  show (bif Ks x.a x.t g then _ else _) = _; rw [h]; rfl
 have f0 : ∀ g, Ks x.a x.t g = false -> JB x.a x.t (g + 1) = JB x.a x.t g := λ g h => by
  show (bif Ks x.a x.t g then _ else _) = _; rw [h]; rfl
 refine ⟨⟨h1, c0⟩, ⟨0, ⟨trivial, rfl, rfl, rfl, rfl⟩, Nat.zero_le _⟩, λ k hk => ⟨λ hlt => ⟨by omega, λ hin => ⟨by omega, k + 1, ⟨(GE (by omega)).symm, ?_, ?_, ?_⟩, by omega, by omega⟩, λ hin => ⟨k + 1, ⟨(GE (by omega)).symm, ?_, ?_, ?_⟩, by omega, by omega⟩⟩, λ hge => ⟨λ ht => ⟨⟨0, ⟨trivial, rfl, ?_, ?_, ?_⟩, Nat.zero_le _⟩, λ g hg => ⟨λ hlt => ?_, λ hgg => ?_⟩⟩, λ ht => ?_⟩⟩⟩
 ·rw [e1 k hin]
 ·rw [e1 k hin]
 ·rw [e1 k hin]; rfl
 ·rw [e0 k hin]
 ·rw [e0 k hin]
 ·rw [e0 k hin]
 ·obtain rfl : k = x.a.c.ms.length := by omega
  rfl
 ·obtain rfl : k = x.a.c.ms.length := by omega
  rfl
 ·obtain rfl : k = x.a.c.ms.length := by omega
  rfl
 ·have hlt : g < x.a.c.ms.length - 1 := by omega
  have ew : IntKind.i64.wrap ((g : Int) + 1) = (g : Int) + 1 := by rw [GE (by omega)]; rfl
  have tn : ((g : Int) + 1).toNat = g + 1 := by omega
  have ec : ((g + 1 : Nat) : Int) = (g : Int) + 1 := rfl
  simp only [ew, tn, po]
  have body : ((((0 : Nat) < x.a.c.ms.length /\ x.a.c.ms.length <= 40) /\ 0 <= (g : Int) + 1 /\ (g : Int) + 1 <= x.a.c.ms.length)) := ⟨⟨by omega, by omega⟩, by omega, by omega⟩
  refine ⟨⟨⟨by omega, by omega⟩, by omega, by omega⟩, ⟨by omega, by omega⟩, by omega, λ _ => ?_, λ _ => ?_⟩ <;>
  ·refine ⟨⟨body, trivial, by omega, n2⟩, λ h => ⟨⟨by omega, by omega⟩, ⟨by omega, by omega⟩, g + 1, ⟨ec, ?_, ?_, ?_⟩, by omega, by omega⟩, λ h => ⟨g + 1, ⟨ec, ?_, ?_, ?_⟩, by omega, by omega⟩⟩
   ·rw [f1 g h]
   ·rw [f1 g h]
   ·rw [f1 g h]; rfl
   ·rw [f0 g h]
   ·rw [f0 g h]
   ·rw [f0 g h]
 ·obtain rfl : g = x.a.c.ms.length - 1 := by omega
  have : Iw x = JB x.a x.t (x.a.c.ms.length - 1) := by unfold Iw; rw [ht]; rfl
  rw [this]; exact ⟨rfl, rfl, rfl⟩
 ·obtain rfl : k = x.a.c.ms.length := by omega
  have : Iw x = HH x.a x.t x.a.c.ms.length := by unfold Iw; rw [ht]; rfl
  rw [this]; exact ⟨rfl, rfl, rfl⟩
def PD (x : CZI) : Nat -> Hul × Bool
 | 0 => (zHul, false)
 | k + 1 => bif (PD x k).2 then PD x k else bif decide ((gD (stgL x.a.c) k).hi >= x.t) then (LB (PD x k).1 (gD (CI x.a) k), decide ((gD (stgL x.a.c) k).lo >= x.t)) else PD x k
structure FsR where
 s : Span
 b : Bool
 e : Int
def fsV (x : CZI) : FsR := ⟨(GU (PD x x.a.c.ms.length).1).1, bif (PD x x.a.c.ms.length).2 then (GU (PD x x.a.c.ms.length).1).2 == 0 else false, (GU (PD x x.a.c.ms.length).1).2⟩
def SD (x : CZI) : FsR := bif AR x.a == 0 then fsV x else ⟨⟨0, 0⟩, false, AR x.a⟩
def C_First : Ctr := { α := CZI, xs := xCZI, val := λ x => .tup [.d (CL (SD x).s), .bool (SD x).b, .int (SD x).e], keep := λ _ => [], pre := λ x => [x.a.c.ms.length < 4611686018427387904 /\ x.a.c.ns.length < 4611686018427387904 /\ x.a.z.length < 4611686018427387904] }
def fs7 (x : CZI) : Shape := { α := Nat, dflt := 0, T := λ k => ⟨[(2, .int x.t), (6, .bptr 202 0), (10, .d (AX (CI x.a))), (11, .d (AX (stgL x.a.c))), (13, .bptr 206 0), (14, .bool (PD x k).2), (15, .int k)], [(202, .live (.box [.int 0, .int 0])), (206, .live (hlB (PD x k).1))]⟩, inv := λ k => k <= x.a.c.ms.length, meas := λ k => x.a.c.ms.length - k, first := [(202, 1016), (206, 5000)] }
def CEM (x : CZI) : Ann := { ann 69 [(RX, C_rdO.spec dCZ), (O1, C_hadd.spec dHuS), (E4, C_who.spec dHu1)] with loops := λ id => if id = 7 then some [fs7 x] else none }
def BWW : Ann := ann 69 [(RX, C_rdX.spec dCZ)]
def CEP (x : CZI) : Prop := AZ Try.prog (CEM x) H9 (AL H9) (xCZI x) (AG []) (.tup [.d (CL (fsV x).s), .bool (fsV x).b, .int (fsV x).e]) [] [] []
abbrev bF (x : CZI) : List Mk := AE x.a.c.ms.length λ (i : Nat) => gD x.a.c.ms i
abbrev Yz (x : CZI) : Nat := (bF x).length
abbrev AIN (x : CZI) (i : Nat) : Mk := gD (bF x) i
abbrev Ya (x : CZI) : List Nt := AE x.a.c.ns.length λ (i : Nat) => gD x.a.c.ns i
abbrev Xl (x : CZI) : Nat := (Ya x).length
abbrev aJ (x : CZI) (i : Nat) : Nt := gD (Ya x) i
abbrev AHN (x : CZI) (i : Nat) : Span := (aJ x i).t
abbrev S5 (x : CZI) (i : Nat) : Span := (aJ x i).s
abbrev cJ (x : CZI) : List Int := AE x.a.z.length λ (i : Nat) => gD x.a.z i
abbrev bD (x : CZI) : Nat := (cJ x).length
abbrev gG (x : CZI) : Cht := Cht.mk x.a.c.p x.a.c.base x.a.c.scale x.a.c.off (bF x) (Ya x)
abbrev mH (x : CZI) : CZ := CZ.mk (gG x) (cJ x)
abbrev gO (x : CZI) : List Span := (AU (AI (mH x))).fst
abbrev jU (x : CZI) (i : Nat) : Span := gD (gO x) i
abbrev nZ (x : CZI) : List Span := stgL (gG x)
abbrev sP (i : Nat) (x : CZI) : Prop := i < (stgL x.a.c).length
abbrev kW (x : CZI) (i : Nat) : Span := gD (nZ x) i
abbrev JL : Prop := Int.ofNat (0 : Nat) = Int.ofNat (0 : Nat)
abbrev jA (a : Nat) (x : CZI) : Prop := (↑a : Int) < (↑(CI x.a).length : Int)
abbrev nE (a : Nat) : Prop := (0 : Int) <= (↑a : Int)
abbrev nX (a : Nat) (x : CZI) : Prop := nE a /\ (↑a : Int) < (↑(stgL x.a.c).length : Int)
abbrev iS (x : CZI) (a : Nat) : Prop := (gD (CI x.a) a).lo = (gD (CI x.a) a).lo
abbrev oA (x : CZI) (a : Nat) : Prop := (gD (CI x.a) a).hi = (gD (CI x.a) a).hi
abbrev sT (x : CZI) (a : Nat) : Prop := (PD x a).fst.s.lo = (PD x a).fst.s.lo
abbrev pR (x : CZI) (a : Nat) : Prop := (PD x a).fst.s.hi = (PD x a).fst.s.hi
abbrev mG (x : CZI) (a : Nat) : Prop := (PD x a).fst.m = (PD x a).fst.m
abbrev rU (x : CZI) (a : Nat) : Prop := sT x a /\ pR x a /\ mG x a
abbrev oS (x : CZI) : Prop := (CI x.a).length = (CI x.a).length
abbrev oX (x : CZI) : Prop := ∀ (i : Nat), i < (CI x.a).length -> iS x i /\ oA x i
abbrev nR (x : CZI) : Prop := (stgL x.a.c).length = (stgL x.a.c).length
abbrev qR (x : CZI) : Prop := ∀ (i : Nat), sP i x -> (gD (stgL x.a.c) i).lo = (gD (stgL x.a.c) i).lo /\ (gD (stgL x.a.c) i).hi = (gD (stgL x.a.c) i).hi
abbrev fZ (a : Nat) (a1 : Nat) : Prop := (↑a : Int) = IntKind.i64.wrap ((↑a1 : Int) + (1 : Int))
abbrev nF (x : CZI) (a : Nat) : Hul := Hul.mk (PD x a).fst.s (PD x a).fst.m
abbrev qP (x : CZI) (a : Nat) : Span := (LB (nF x a) (gD (CI x.a) a)).s
abbrev jN (x : CZI) (a : Nat) : Nat := x.a.c.ms.length - a
abbrev pA (a : Nat) (x : CZI) (a1 : Nat) : Prop := a.le x.a.c.ms.length /\ jN x a < jN x a1
abbrev gK (x : CZI) (a : Nat) : Span × Int := GU (nF x a)
abbrev jK (x : CZI) (a : Nat) : Span := (gK x a).fst
abbrev pP (x : CZI) (a : Nat) : Int := (gK x a).snd
theorem CHG (x : CZI) : (CEP x) = ((x.a.c.p.lo = x.a.c.p.lo /\ x.a.c.p.hi = x.a.c.p.hi /\ x.a.c.base = x.a.c.base /\ x.a.c.scale = x.a.c.scale /\ x.a.c.off = x.a.c.off /\ Yz x = x.a.c.ms.length /\ (∀ (i : Nat),
 i < Yz x -> (AIN x i).pl = (gD x.a.c.ms i).pl /\ (AIN x i).ht = (gD x.a.c.ms i).ht) /\ Xl x = x.a.c.ns.length /\ (∀ (i : Nat), i < Xl x -> (aJ x i).mi = (gD x.a.c.ns i).mi /\ (AHN
 x i).lo = (gD x.a.c.ns i).t.lo /\ (AHN x i).hi = (gD x.a.c.ns i).t.hi /\ (S5 x i).lo = (gD x.a.c.ns i).s.lo /\ (S5 x i).hi = (gD x.a.c.ns i).s.hi) /\ bD x = x.a.z.length /\ (∀ (i : Nat), i <
 bD x -> gD (cJ x) i = gD x.a.z i) /\ (Yz x < (4611686018427387904 : Nat) /\ Xl x < (4611686018427387904 : Nat) /\ bD x < (4611686018427387904 : Nat)) /\ AR (mH x) = (0 : Int)) /\
 (∃ (a : Nat), (x.t = x.t /\ (CI x.a).length = (gO x).length /\ (∀ (i : Nat), i < (CI x.a).length -> (gD (CI x.a) i).lo = (jU x i).lo /\ (gD (CI x.a) i).hi = (jU x i).hi) /\ (stgL x.a.c).length =
 (nZ x).length /\ (∀ (i : Nat), sP i x -> (gD (stgL x.a.c) i).lo = (kW x i).lo /\ (gD (stgL x.a.c) i).hi = (kW x i).hi) /\ (PD x a).snd = false /\ (↑a : Int) = (0 : Int) /\ JL /\
 JL /\ (PD x a).fst.s.lo = (0 : Int) /\ (PD x a).fst.s.hi = (0 : Int) /\ (PD x a).fst.m = false) /\ a.le x.a.c.ms.length) /\ ∀ (a : Nat), a.le x.a.c.ms.length -> bif bif decide (jA a x) then !(PD x a).snd
 else false then nX a x /\ bif decide ((gD (stgL x.a.c) a).hi >= x.t) then ((nE a /\ jA a x) /\ iS x a /\ oA x a /\ rU x a) /\ nX a x /\ ∃ (a_2 : Nat), (x.t = x.t /\
 oS x /\ oX x /\ nR x /\ qR x /\ (PD x a_2).snd = decide ((gD (stgL x.a.c) a).lo >= x.t) /\ fZ a_2 a /\ JL /\ JL /\ (PD x a_2).fst.s.lo = (qP x a).lo /\ (PD x
 a_2).fst.s.hi = (qP x a).hi /\ (PD x a_2).fst.m = true) /\ pA a_2 x a else ∃ (a_2 : Nat), (x.t = x.t /\ oS x /\ oX x /\ nR x /\ qR x /\ (PD x a_2).snd = (PD x a).snd /\
 fZ a_2 a /\ JL /\ JL /\ (PD x a_2).fst.s.lo = (PD x a).fst.s.lo /\ (PD x a_2).fst.s.hi = (PD x a).fst.s.hi /\ (PD x a_2).fst.m = (PD x a).fst.m) /\ pA a_2 x a else (sT x a /\
 pR x a /\ mG x a /\ rU x a) /\ (fsV x).s.lo = (jK x a).lo /\ (fsV x).s.hi = (jK x a).hi /\ ((fsV x).b = bif (PD x a).snd then pP x a == (0 : Int) else false) /\ (fsV x).e =
 pP x a) := by kernel_rfl
def BXJ (x : CZI) : Prop := AZ Try.prog BWW H9 (AL H9) (xCZI x) (AG []) (.tup [.d (CL zSp), .bool false, .int (AR x.a)]) [] [] []
theorem CGL (x : CZI) : (BXJ x) = ((x.a.c.p.lo = x.a.c.p.lo /\ x.a.c.p.hi = x.a.c.p.hi /\ x.a.c.base = x.a.c.base /\ x.a.c.scale = x.a.c.scale /\ x.a.c.off = x.a.c.off /\ (AE x.a.c.ms.length λ (i : Nat) => gD
 x.a.c.ms i).length = x.a.c.ms.length /\ (∀ (i : Nat), i < (AE x.a.c.ms.length λ (i : Nat) => gD x.a.c.ms i).length -> (gD (AE x.a.c.ms.length λ (i : Nat) => gD x.a.c.ms i) i).pl = (gD x.a.c.ms i).pl /\ (gD (AE
 x.a.c.ms.length λ (i : Nat) => gD x.a.c.ms i) i).ht = (gD x.a.c.ms i).ht) /\ (AE x.a.c.ns.length λ (i : Nat) => gD x.a.c.ns i).length = x.a.c.ns.length /\ (∀ (i : Nat), i < (AE x.a.c.ns.length λ (i : Nat) => gD
 x.a.c.ns i).length -> (gD (AE x.a.c.ns.length λ (i : Nat) => gD x.a.c.ns i) i).mi = (gD x.a.c.ns i).mi /\ (gD (AE x.a.c.ns.length λ (i : Nat) => gD x.a.c.ns i) i).t.lo = (gD x.a.c.ns i).t.lo /\ (gD (AE
 x.a.c.ns.length λ (i : Nat) => gD x.a.c.ns i) i).t.hi = (gD x.a.c.ns i).t.hi /\ (gD (AE x.a.c.ns.length λ (i : Nat) => gD x.a.c.ns i) i).s.lo = (gD x.a.c.ns i).s.lo /\ (gD (AE x.a.c.ns.length λ (i : Nat) => gD
 x.a.c.ns i) i).s.hi = (gD x.a.c.ns i).s.hi) /\ (AE x.a.z.length λ (i : Nat) => gD x.a.z i).length = x.a.z.length /\ (∀ (i : Nat), i < (AE x.a.z.length λ (i : Nat) => gD x.a.z i).length -> gD (AE x.a.z.length λ (i :
 Nat) => gD x.a.z i) i = gD x.a.z i) /\ ((AE x.a.c.ms.length λ (i : Nat) => gD x.a.c.ms i).length < (4611686018427387904 : Nat) /\ (AE x.a.c.ns.length λ (i : Nat) => gD x.a.c.ns i).length < (4611686018427387904 : Nat)
 /\ (AE x.a.z.length λ (i : Nat) => gD x.a.z i).length < (4611686018427387904 : Nat)) /\ AR (CZ.mk (Cht.mk x.a.c.p x.a.c.base x.a.c.scale x.a.c.off (AE x.a.c.ms.length λ (i : Nat) => gD x.a.c.ms i) (AE
 x.a.c.ns.length λ (i : Nat) => gD x.a.c.ns i)) (AE x.a.z.length λ (i : Nat) => gD x.a.z i)) ≠ (0 : Int)) /\ bif AR (CZ.mk (Cht.mk x.a.c.p x.a.c.base x.a.c.scale x.a.c.off (AE x.a.c.ms.length λ (i : Nat) => gD
 x.a.c.ms i) (AE x.a.c.ns.length λ (i : Nat) => gD x.a.c.ns i)) (AE x.a.z.length λ (i : Nat) => gD x.a.z i)) != (0 : Int) then Int.ofNat (0 : Nat) = Int.ofNat (0 : Nat) /\ Int.ofNat (0 : Nat) = Int.ofNat (0 : Nat) /\
 false = false /\ AR x.a = AR (CZ.mk (Cht.mk x.a.c.p x.a.c.base x.a.c.scale x.a.c.off (AE x.a.c.ms.length λ (i : Nat) => gD x.a.c.ms i) (AE x.a.c.ns.length λ (i : Nat) => gD x.a.c.ns i)) (AE x.a.z.length fun
 (i : Nat) => gD x.a.z i)) else False) := by kernel_rfl
theorem BWL : AM Try.prog AON (C_Stage.spec dCZI) := okT C_Stage (λ (x : CZI) h => by
 have h1 : x.a.c.ms.length < 4611686018427387904 /\ x.a.c.ns.length < 4611686018427387904 /\ x.a.z.length < 4611686018427387904 := h
 by_cases c0 : AR x.a = 0
 ·have e : C_Stage.val x = .tup [.d (CL (GU (Iw x)).1), .int (GU (Iw x)).2] := by
   show AVal.tup [.d (CL (CQ x).1), .int (CQ x).2] = _
   unfold CQ; rw [c0]; rfl
  rw [e]
  exact UO (A := CEZ x) (L := []) (keep := []) (ren := []) (fz := []) BXB (by kernel_rfl) (AC BUX (AC BKK (AC BSB (AC CDT (AC CDW (AC CBQ (AC BZM AJ))))))) (COL x h1 c0) (CSB Yk (itSg x) rfl rfl AJ BXC (by kernel_rfl) (by kernel_rfl))
 ·have c0' : (AR x.a == 0) = false := by simpa using c0
  have e : C_Stage.val x = .tup [.d (CL zSp), .int (AR x.a)] := by
   show AVal.tup [.d (CL (CQ x).1), .int (CQ x).2] = _
   unfold CQ; rw [c0']; rfl
  rw [e]
  refine UO (A := BXY) (L := []) (keep := []) (ren := []) (fz := []) BXB (by kernel_rfl) (AC BSC AJ) ?_
  show BWB x; rw [CGX]; simp only [CC, eq_self, implies_true, forall_const, BZ, RQ]
  exact ⟨⟨h1, c0⟩, λ h => by simp [c0] at h⟩) _
theorem CCT {x : CZI} {k : Nat} (h : (PD x k).2 = true) : ∀ d, PD x (k + d) = PD x k
 | 0 => rfl
 | d + 1 => by
  have ih := CCT h d
  show (bif (PD x (k + d)).2 then PD x (k + d) else _) = _
  rw [ih, h]; rfl
theorem CPB (x : CZI) (h1 : x.a.c.ms.length < 4611686018427387904 /\ x.a.c.ns.length < 4611686018427387904 /\ x.a.z.length < 4611686018427387904) (c0 : AR x.a = 0) : CEP x := by
 have tl := Gh c0
 have sl := JA x.a.c
 obtain ⟨_, ⟨n1, n2⟩, _⟩ := ES (Fi c0).1
 rw [CHG]; delta bF Yz AIN Ya Xl aJ AHN S5 cJ bD gG mH gO jU nZ sP kW JL jA nE nX iS oA sT pR mG rU oS oX nR qR fZ nF qP jN pA gK jK pP; simp only [CC, eq_self, implies_true, forall_const, BZ, YA, Kh, RQ, Vj, BTL, CJU]; simp only [tl, sl]
 refine ⟨⟨h1, c0⟩, ⟨0, ⟨rfl, rfl, rfl, rfl, rfl⟩, Nat.zero_le _⟩, λ k hk => ⟨λ hc => ?_, λ hc => ?_⟩⟩
 ·have hlt : k < x.a.c.ms.length := by
   cases hd : decide ((k : Int) < x.a.c.ms.length) with
   | false => rw [hd] at hc; cases hc
   | true => have := of_decide_eq_true hd; omega
  have hs : (PD x k).2 = false := by
   rw [decide_eq_true (show (k : Int) < x.a.c.ms.length by omega)] at hc
   cases hq : (PD x k).2 with
   | false => rfl
   | true => rw [hq] at hc; cases hc
  refine ⟨by omega, λ h => ?_, λ h => ?_⟩
  ·have e : PD x (k + 1) = (LB (PD x k).1 (gD (CI x.a) k), decide ((gD (stgL x.a.c) k).lo >= x.t)) := by
    show (bif (PD x k).2 then _ else bif decide _ then _ else _) = _
    rw [hs, decide_eq_true h]; rfl
   refine ⟨by omega, by omega, k + 1, ⟨?_, (GE (by omega)).symm, ?_, ?_, ?_⟩, by omega, by omega⟩ <;> rw [e] <;> rfl
  ·have e : PD x (k + 1) = PD x k := by
    show (bif (PD x k).2 then _ else bif decide _ then _ else _) = _
    rw [hs, decide_eq_false h]; rfl
   refine ⟨k + 1, ⟨?_, (GE (by omega)).symm, ?_, ?_, ?_⟩, by omega, by omega⟩ <;> rw [e]
 ·have e : PD x x.a.c.ms.length = PD x k := by
   cases hq : (PD x k).2 with
   | true =>
    obtain ⟨d, hd⟩ : ∃ d, x.a.c.ms.length = k + d := ⟨x.a.c.ms.length - k, by omega⟩
    rw [hd]; exact CCT hq d
   | false =>
    rw [hq] at hc
    cases hd : decide ((k : Int) < x.a.c.ms.length) with
    | true => rw [hd] at hc; cases hc
    | false =>
     have := of_decide_eq_false hd
     rw [show k = x.a.c.ms.length by omega]
  unfold fsV; rw [e]; exact ⟨rfl, rfl, rfl, rfl⟩
theorem CLY : AM Try.prog BLG (C_First.spec dCZI) := okT C_First (λ (x : CZI) h => by
 have h1 : x.a.c.ms.length < 4611686018427387904 /\ x.a.c.ns.length < 4611686018427387904 /\ x.a.z.length < 4611686018427387904 := h
 by_cases c0 : AR x.a = 0
 ·have e : C_First.val x = .tup [.d (CL (fsV x).s), .bool (fsV x).b, .int (fsV x).e] := by
   show AVal.tup [.d (CL (SD x).s), .bool (SD x).b, .int (SD x).e] = _
   unfold SD; rw [c0]; rfl
  rw [e]
  exact UO (A := CEM x) (L := []) (keep := []) (ren := []) (fz := []) BXF (by kernel_rfl) (AC BUX (AC BSB (AC BZM AJ))) (CPB x h1 c0)
 ·have c0' : (AR x.a == 0) = false := by simpa using c0
  have e : C_First.val x = .tup [.d (CL zSp), .bool false, .int (AR x.a)] := by
   show AVal.tup [.d (CL (SD x).s), .bool (SD x).b, .int (SD x).e] = _
   unfold SD; rw [c0']; rfl
  rw [e]
  refine UO (A := BWW) (L := []) (keep := []) (ren := []) (fz := []) BXF (by kernel_rfl) (AC BSC AJ) ?_
  show BXJ x; rw [CGL]; simp only [CC, eq_self, implies_true, forall_const, BZ, RQ]
  exact ⟨⟨h1, c0⟩, λ h => by simp [c0] at h⟩) _
end Go.Bal
