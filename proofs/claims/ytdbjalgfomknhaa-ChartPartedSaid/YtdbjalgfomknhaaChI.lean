/- Package chart: stages at a time, from a time to another one, and when one is reached. -/
import Derived.Test.YtdbjalgfomknhaaChH
set_option linter.unusedVariables false
set_option linter.unusedSimpArgs false
namespace Go.Bal
open Go Go.Sym Go.Proofs
def zHul : Hul := ⟨⟨0, 0⟩, false⟩
structure CZI where
 a : CZ
 t : Int
def dCZI : List AVal -> Heap -> Option (CZI × List (Nat × Nat) × List Nat)
 | [x, y, .d t], H => match BYW x H, CDY y H with
  | some (c, f), some (l, e) => some (⟨⟨c, l⟩, CL t⟩, [], f ++ e)
  | _, _ => none
 | _, _ => none
def xCZI (x : CZI) : List AVal := [.d (YE x.a.c), .d (DK x.a.z), .int x.t]
def CJ (a : CZ) : List Span := (AU (AI a)).1
theorem BMN (h : Hul) : Hul.mk h.s h.m = h := rfl
theorem COB (a : CZ) : (AU (AI a)).1 = CJ a := rfl
theorem Dq {a : CZ} (h : AS a = 0) : (CJ a).length = a.c.ms.length := by
 have h3 := (Dz h).2.2
 unfold CJ
 unfold AU at h3 ⊢
 rw [Oy] at h3 ⊢
 cases hs : stgOk a.c with
 | false => rw [hs] at h3; cases h3
 | true => show (KV _ _).length = _; unfold KV; rw [rng_length, FM]
theorem JG (c : Cht) : (stgL c).length = c.ms.length := rng_length _ _
def HJ (a : CZ) (t : Int) : Nat -> Hul
 | 0 => zHul
 | k + 1 => bif HK t (gD (CJ a) k).lo (gD (CJ a) k).hi then LC (HJ a t k) (gD (stgL a.c) k) else HJ a t k
def Of (a : CZ) (t : Int) (g : Nat) : Bool := (KV (AI a) (Oj (CJ a) ((g : Int) + 1) (wr (t - 1)) (wr (t + 1)))).all JB
def JD (a : CZ) (t : Int) : Nat -> Hul
 | 0 => HJ a t a.c.ms.length
 | g + 1 => bif Of a t g then LC (LC (JD a t g) (gD (stgL a.c) g)) (gD (stgL a.c) (g + 1)) else JD a t g
def Jf (x : CZI) : Hul := bif HK x.t (-100000000) 100000000 then JD x.a x.t (x.a.c.ms.length - 1) else HJ x.a x.t x.a.c.ms.length
def CR (x : CZI) : Span × Int := bif AS x.a == 0 then GY (Jf x) else (⟨0, 0⟩, AS x.a)
def C_Stage : Ctr := { α := CZI, xs := xCZI, val := λ x => .tup [.d (CN (CR x).1), .int (CR x).2], keep := λ _ => [], pre := λ x => [x.a.c.ms.length < 4611686018427387904 /\ x.a.c.ns.length < 4611686018427387904 /\ x.a.z.length < 4611686018427387904] }
def sgH (x : CZI) (h : Hul) : List (Nat × HCell) := [(201, .live (.box [.int x.t])), (202, .live (.box [.int 0, .int 0])), (203, .live (.box [.bptr 208 0])), (204, .live (.box [.d (AX (CJ x.a))])), (205, .live (.box [.d (AX (stgL x.a.c))])), (206, .live (hlB h)), (207, .live (.box [.fn (.func ADF) [.bptr 206 0] []])), (208, .live (dkB (AI x.a) 209)), (209, .live (dkM (AI x.a)))]
def sg7 (x : CZI) : Shape := { α := Nat, dflt := 0, T := λ k => ⟨[(5, .bptr 201 0), (6, .bptr 202 0), (8, .bptr 203 0), (9, .bptr 204 0), (10, .bptr 205 0), (12, .bptr 206 0), (13, .bptr 207 0), (32, .int x.a.c.ms.length), (33, .int k)], sgH x (HJ x.a x.t k)⟩, inv := λ k => k <= x.a.c.ms.length, meas := λ k => x.a.c.ms.length - k, first := [(201, 1016), (202, 1032), (203, 2128), (204, 2144), (205, 2160), (206, 5000), (207, 6016), (208, 2032), (209, 2033)] }
def sg1 (x : CZI) (l : Nat) : Shape := { α := Nat, dflt := 0, T := λ g => ⟨[(0, .fn (.yield l) [] []), (1, .bptr 14016 0), (12, .int (wr ((x.a.c.ms.length : Int) - 1))), (13, .int g)], sgH x (JD x.a x.t g) ++ [(14016, .live (.box [.bptr 208 0]))]⟩, inv := λ g => g <= x.a.c.ms.length - 1, meas := λ g => 50 - g }
noncomputable def itSg (x : CZI) : IterAnn := { fn := F6, code := AL F6, live := [5, 6, 8, 9, 10, 12, 13], ann := { base := λ id => 100000 + 1000 * (id + 1), Γ := Sym.look [], E := [201, 202, 203, 204, 205, 206, 207, 208, 209, 14016], n := 66, inner := λ gs id => if id = 1 then some [sg1 x (gs.getD 0 0)] else none } }
noncomputable def CDM (x : CZI) : Ann := { ann 92 [(UH, C_rdO.spec dCZ), (n_in, s_in), (ADF, C_hadd.spec dHuS), (BNW, C_gaps.spec dDk1), (uQ, C_part.spec dDkQ), (UT, C_nar.spec dDkS), (vN, C_who.spec dHu1)] with iter := λ g => if g = aE then some (itSg x) else none, loops := λ id => if id = 7 then some [sg7 x] else none }
def BXV : Ann := ann 92 [(UH, C_rdX.spec dCZ)]
def CEU (x : CZI) : Prop := BB Try.prog (CDM x) G9 (AL G9) (xCZI x) (AG []) (.tup [.d (CN (GY (Jf x)).1), .int (GY (Jf x)).2]) [] [] []
abbrev bM (x : CZI) : List Mk := AE x.a.c.ms.length λ (i : Nat) => gD x.a.c.ms i
abbrev Zf (x : CZI) : Nat := (bM x).length
abbrev S8 (x : CZI) (i : Nat) : Mk := gD (bM x) i
abbrev dE (x : CZI) : List Nt := AE x.a.c.ns.length λ (i : Nat) => gD x.a.c.ns i
abbrev dU (x : CZI) : Nat := (dE x).length
abbrev Zv (x : CZI) (i : Nat) : Nt := gD (dE x) i
abbrev Q6 (x : CZI) (i : Nat) : Span := (Zv x i).t
abbrev AHO (x : CZI) (i : Nat) : Span := (Zv x i).s
abbrev Zh (x : CZI) : List Int := AE x.a.z.length λ (i : Nat) => gD x.a.z i
abbrev dZ (x : CZI) : Nat := (Zh x).length
abbrev nT (x : CZI) : Cht := Cht.mk x.a.c.p x.a.c.base x.a.c.scale x.a.c.off (bM x) (dE x)
abbrev iZ (x : CZI) : CZ := CZ.mk (nT x) (Zh x)
abbrev TO (x : CZI) : Dk := AI (iZ x)
abbrev pU (x : CZI) : List Span := (AU (TO x)).fst
abbrev lF (x : CZI) : Nat := (pU x).length
abbrev sT (a : Nat) : Prop := (↑a : Int) = (0 : Int)
abbrev DO : Prop := Int.ofNat (0 : Nat) = Int.ofNat (0 : Nat)
abbrev iN (x : CZI) (i : Nat) : Span := gD (pU x) i
abbrev iF (x : CZI) : List Span := stgL (nT x)
abbrev sU (i : Nat) (x : CZI) : Prop := i < (stgL x.a.c).length
abbrev hX (x : CZI) (i : Nat) : Span := gD (iF x) i
abbrev JR (x : CZI) : Cht := (TO x).c
abbrev qT (x : CZI) : Span := (JR x).p
abbrev mG (x : CZI) : List Mk := (JR x).ms
abbrev Hd (i : Nat) (x : CZI) : Prop := i < (AI x.a).c.ms.length
abbrev ML (x : CZI) (i : Nat) : Int := (gD (AI x.a).c.ms i).pl
abbrev pE (x : CZI) (i : Nat) : Mk := gD (mG x) i
abbrev NJ (x : CZI) (i : Nat) : Int := (gD (AI x.a).c.ms i).ht
abbrev SE (x : CZI) : List Nt := (JR x).ns
abbrev It (i : Nat) (x : CZI) : Prop := i < (AI x.a).c.ns.length
abbrev MY (x : CZI) (i : Nat) : Int := (gD (AI x.a).c.ns i).mi
abbrev Ft (x : CZI) (i : Nat) : Nt := gD (SE x) i
abbrev nH (x : CZI) (i : Nat) : Span := (gD (AI x.a).c.ns i).t
abbrev MV (x : CZI) (i : Nat) : Int := (nH x i).lo
abbrev pL (x : CZI) (i : Nat) : Span := (Ft x i).t
abbrev NG (x : CZI) (i : Nat) : Int := (nH x i).hi
abbrev jQ (x : CZI) (i : Nat) : Span := (gD (AI x.a).c.ns i).s
abbrev MO (x : CZI) (i : Nat) : Int := (jQ x i).lo
abbrev mH (x : CZI) (i : Nat) : Span := (Ft x i).s
abbrev MT (x : CZI) (i : Nat) : Int := (jQ x i).hi
abbrev Ix (x : CZI) (n : Int) : Nt := ntOf (SE x) n
abbrev pY (x : CZI) (n : Int) : Span := (Ix x n).t
abbrev lZ (x : CZI) (n : Int) : Span := (Ix x n).s
abbrev TT (a : Nat) : Prop := (0 : Int) <= (↑a : Int)
abbrev nU (a : Nat) (x : CZI) : Prop := TT a /\ (↑a : Int) < (↑(CJ x.a).length : Int)
abbrev nP (a : Nat) (x : CZI) : Prop := TT a /\ (↑a : Int) < (↑(stgL x.a.c).length : Int)
abbrev Eb (x : CZI) (a : Nat) : Prop := (gD (stgL x.a.c) a).lo = (gD (stgL x.a.c) a).lo
abbrev Fd (x : CZI) (a : Nat) : Prop := (gD (stgL x.a.c) a).hi = (gD (stgL x.a.c) a).hi
abbrev iJ (x : CZI) (a : Nat) : Prop := (HJ x.a x.t a).s.lo = (HJ x.a x.t a).s.lo
abbrev qV (x : CZI) (a : Nat) : Prop := (HJ x.a x.t a).s.hi = (HJ x.a x.t a).s.hi
abbrev qI (x : CZI) (a : Nat) : Prop := (HJ x.a x.t a).m = (HJ x.a x.t a).m
abbrev sJ (x : CZI) (a : Nat) : Prop := iJ x a /\ qV x a /\ qI x a
abbrev sH (x : CZI) : Prop := (↑x.a.c.ms.length : Int) = (↑x.a.c.ms.length : Int)
abbrev FO (a : Nat) : Int := IntKind.i64.wrap ((↑a : Int) + (1 : Int))
abbrev SI (a : Nat) (a1 : Nat) : Prop := (↑a : Int) = FO a1
abbrev LW (x : CZI) : Prop := (CJ x.a).length = (CJ x.a).length
abbrev NQ (x : CZI) : Prop := ∀ (i : Nat), i < (CJ x.a).length -> (gD (CJ x.a) i).lo = (gD (CJ x.a) i).lo /\ (gD (CJ x.a) i).hi = (gD (CJ x.a) i).hi
abbrev MN (x : CZI) : Prop := (stgL x.a.c).length = (stgL x.a.c).length
abbrev ND (x : CZI) : Prop := ∀ (i : Nat), sU i x -> Eb x i /\ Fd x i
abbrev jO (x : CZI) (a : Nat) : Hul := Hul.mk (HJ x.a x.t a).s (HJ x.a x.t a).m
abbrev hZ (x : CZI) (a : Nat) : Span := (LC (jO x a) (gD (stgL x.a.c) a)).s
abbrev HR (x : CZI) : Prop := (AI x.a).c.p.lo = (AI x.a).c.p.lo
abbrev IB (x : CZI) : Prop := (AI x.a).c.p.hi = (AI x.a).c.p.hi
abbrev HT (x : CZI) : Prop := (AI x.a).c.base = (AI x.a).c.base
abbrev HL (x : CZI) : Prop := (AI x.a).c.scale = (AI x.a).c.scale
abbrev IK (x : CZI) : Prop := (AI x.a).c.off = (AI x.a).c.off
abbrev HM (x : CZI) : Prop := ∀ (i : Nat), i < (40 : Nat) -> (AI x.a).sp i = (AI x.a).sp i
abbrev HP (x : CZI) : Prop := ∀ (n : Int), (AI x.a).st n = (AI x.a).st n
abbrev NR (x : CZI) : Prop := HR x /\ IB x /\ HT x /\ HL x /\ IK x /\ (AI x.a).c.ms.length = (AI x.a).c.ms.length /\ (∀ (i : Nat), Hd i x -> ML x i =
 ML x i /\ NJ x i = NJ x i) /\ (AI x.a).c.ns.length = (AI x.a).c.ns.length /\ (∀ (i : Nat), It i x -> MY x i = MY x i /\ MV x i = MV x i /\ NG x i =
 NG x i /\ MO x i = MO x i /\ MT x i = MT x i) /\ HM x /\ AT = AT /\ (∀ (n : Int), hasN (AI x.a).c.ns n = hasN (AI x.a).c.ns n) /\ HP x /\ ∀ (n : Int), (ntOf (AI
 x.a).c.ns n).mi = (ntOf (AI x.a).c.ns n).mi /\ (ntOf (AI x.a).c.ns n).t.lo = (ntOf (AI x.a).c.ns n).t.lo /\ (ntOf (AI x.a).c.ns n).t.hi = (ntOf (AI x.a).c.ns n).t.hi /\ (ntOf (AI x.a).c.ns n).s.lo = (ntOf (AI
 x.a).c.ns n).s.lo /\ (ntOf (AI x.a).c.ns n).s.hi = (ntOf (AI x.a).c.ns n).s.hi
abbrev kW (x : CZI) (a : Nat) : Nat := x.a.c.ms.length - a
abbrev jP (a : Nat) (x : CZI) (a1 : Nat) : Prop := a.le x.a.c.ms.length /\ kW x a < kW x a1
abbrev Hx (x : CZI) : List Mk := AE (AI x.a).c.ms.length λ (i : Nat) => gD (AI x.a).c.ms i
abbrev JM (x : CZI) : Nat := (Hx x).length
abbrev Fb (x : CZI) : Prop := JM x = (AI x.a).c.ms.length
abbrev jA (x : CZI) (i : Nat) : Mk := gD (Hx x) i
abbrev sZ (x : CZI) (i : Nat) : Int := (jA x i).pl
abbrev nW (x : CZI) (i : Nat) : Int := (jA x i).ht
abbrev Hu (x : CZI) : Prop := ∀ (i : Nat), i < JM x -> sZ x i = ML x i /\ nW x i = NJ x i
abbrev MH (x : CZI) : List Nt := AE (AI x.a).c.ns.length λ (i : Nat) => gD (AI x.a).c.ns i
abbrev Ha (x : CZI) : Nat := (MH x).length
abbrev Ep (x : CZI) : Prop := Ha x = (AI x.a).c.ns.length
abbrev Iq (x : CZI) (i : Nat) : Nt := gD (MH x) i
abbrev pB (x : CZI) (i : Nat) : Int := (Iq x i).mi
abbrev jG (x : CZI) (i : Nat) : Span := (Iq x i).t
abbrev iA (x : CZI) (i : Nat) : Int := (jG x i).lo
abbrev qC (x : CZI) (i : Nat) : Int := (jG x i).hi
abbrev jK (x : CZI) (i : Nat) : Span := (Iq x i).s
abbrev oP (x : CZI) (i : Nat) : Int := (jK x i).lo
abbrev rO (x : CZI) (i : Nat) : Int := (jK x i).hi
abbrev Dt (x : CZI) : Prop := ∀ (i : Nat), i < Ha x -> pB x i = MY x i /\ iA x i = MV x i /\ qC x i = NG x i /\ oP x i = MO x i /\ rO x i
 = MT x i
abbrev lW (x : CZI) (n : Int) : Bool := hasN (MH x) n
abbrev Fu (x : CZI) : Prop := ∀ (n : Int), lW x n = hasN (AI x.a).c.ns n
abbrev Gg (x : CZI) (n : Int) : Nt := ntOf (MH x) n
abbrev rR (x : CZI) (n : Int) : Int := (Gg x n).mi
abbrev lX (x : CZI) (n : Int) : Span := (Gg x n).t
abbrev oW (x : CZI) (n : Int) : Int := (lX x n).lo
abbrev pW (x : CZI) (n : Int) : Int := (lX x n).hi
abbrev pV (x : CZI) (n : Int) : Span := (Gg x n).s
abbrev fW (x : CZI) (n : Int) : Int := (pV x n).lo
abbrev lN (x : CZI) (n : Int) : Int := (pV x n).hi
abbrev XR (x : CZI) : Prop := ∀ (n : Int), rR x n = (ntOf (AI x.a).c.ns n).mi /\ oW x n = (ntOf (AI x.a).c.ns n).t.lo /\ pW x n = (ntOf (AI x.a).c.ns n).t.hi /\ fW x n = (ntOf
 (AI x.a).c.ns n).s.lo /\ lN x n = (ntOf (AI x.a).c.ns n).s.hi
abbrev WB (x : CZI) : Prop := (AI x.a).c.ms.length = JM x
abbrev WC (x : CZI) : Prop := ∀ (i : Nat), Hd i x -> ML x i = sZ x i /\ NJ x i = nW x i
abbrev XH (x : CZI) : Prop := (AI x.a).c.ns.length = Ha x
abbrev XP (x : CZI) : Prop := ∀ (i : Nat), It i x -> MY x i = pB x i /\ MV x i = iA x i /\ NG x i = qC x i /\ MO x i = oP x i /\ MT x i
 = rO x i
abbrev VW (x : CZI) : Prop := ∀ (n : Int), hasN (AI x.a).c.ns n = lW x n
abbrev UY (x : CZI) : Prop := ∀ (n : Int), (ntOf (AI x.a).c.ns n).mi = rR x n /\ (ntOf (AI x.a).c.ns n).t.lo = oW x n /\ (ntOf (AI x.a).c.ns n).t.hi = pW x n /\ (ntOf (AI x.a).c.ns
 n).s.lo = fW x n /\ (ntOf (AI x.a).c.ns n).s.hi = lN x n
abbrev OW (x : CZI) : Int := wr ((↑x.a.c.ms.length : Int) - (1 : Int))
abbrev XE (a : Nat) (x : CZI) : Prop := a.le (x.a.c.ms.length - (1 : Nat))
abbrev VO (a : Nat) : Prop := (0 : Int) <= FO a
abbrev VS (x : CZI) : List Span := AE (CJ x.a).length λ (i : Nat) => gD (CJ x.a) i
abbrev KG (x : CZI) : Nat := (VS x).length
abbrev To (x : CZI) (i : Nat) : Span := gD (VS x) i
abbrev VZ (x : CZI) : Int := IntKind.i64.wrap (x.t - (1 : Int))
abbrev XA (x : CZI) : Int := IntKind.i64.wrap (x.t + (1 : Int))
abbrev Td (x : CZI) (a : Nat) : List Span := Oj (VS x) (FO a) (VZ x) (XA x)
abbrev Un (x : CZI) (a : Nat) : Nat := (Td x a).length
abbrev VI (x : CZI) (a : Nat) (i : Nat) : Span := gD (Td x a) i
abbrev UZ (x : CZI) (a : Nat) : List Span := AE (Un x a) λ (i : Nat) => VI x a i
abbrev XM (x : CZI) (a : Nat) : Nat := (UZ x a).length
abbrev Kl (x : CZI) (a : Nat) (i : Nat) : Span := gD (UZ x a) i
abbrev Su (x : CZI) (a : Nat) : Prop := (JD x.a x.t a).s.lo = (JD x.a x.t a).s.lo
abbrev Nx (x : CZI) (a : Nat) : Prop := (JD x.a x.t a).s.hi = (JD x.a x.t a).s.hi
abbrev Vn (x : CZI) (a : Nat) : Prop := (JD x.a x.t a).m = (JD x.a x.t a).m
abbrev Oz (x : CZI) (a : Nat) : Prop := Su x a /\ Nx x a /\ Vn x a
abbrev WD (x : CZI) (a : Nat) : Span := gD (stgL x.a.c) (FO a).toNat
abbrev Vu (x : CZI) (a : Nat) : Int := (WD x a).lo
abbrev Qa (x : CZI) (a : Nat) : Int := (WD x a).hi
abbrev Mo (x : CZI) (a : Nat) : Hul := Hul.mk (JD x.a x.t a).s (JD x.a x.t a).m
abbrev Na (x : CZI) (a : Nat) : Hul := LC (Mo x a) (gD (stgL x.a.c) a)
abbrev VY (x : CZI) (a : Nat) : Span := (Na x a).s
abbrev Vd (x : CZI) (a : Nat) : Int := (VY x a).lo
abbrev Qz (x : CZI) (a : Nat) : Int := (VY x a).hi
abbrev Lf (x : CZI) : Prop := OW x = OW x
abbrev Ox (x : CZI) (a : Nat) : Span := (LC (Hul.mk (VY x a) (Na x a).m) (WD x a)).s
abbrev Uc (a : Nat) : Nat := (50 : Nat) - a
abbrev Mc (a : Nat) (x : CZI) (a1 : Nat) : Prop := XE a x /\ Uc a < Uc a1
abbrev Ov (l : Nat) (x : CZI) (a : Nat) : Prop := l = l /\ (KG x = (CJ x.a).length /\ (∀ (i : Nat), i < KG x -> (To x i).lo = (gD (CJ x.a) i).lo /\ (To x i).hi = (gD (CJ x.a)
 i).hi) /\ FO a = FO a /\ VZ x = VZ x /\ XA x = XA x /\ HR x /\ IB x /\ HT x /\ HL x /\ IK x /\ Fb x /\ Hu x /\ Ep x
 /\ Dt x /\ HM x /\ AT = AT /\ Fu x /\ HP x /\ XR x /\ HR x /\ IB x /\ HT x /\ HL x /\ IK x /\ WB x /\ WC x /\ XH x /\
 XP x /\ HM x /\ AT = AT /\ VW x /\ HP x /\ UY x /\ (((1 : Nat) <= KG x /\ KG x <= (40 : Nat)) /\ VO a /\ FO a <= (↑(KG x) : Int)) /\ XM
 x a = Un x a /\ (∀ (i : Nat), i < XM x a -> (Kl x a i).lo = (VI x a i).lo /\ (Kl x a i).hi = (VI x a i).hi) /\ HR x /\ IB x /\ HT x /\ HL x /\
 IK x /\ Fb x /\ Hu x /\ Ep x /\ Dt x /\ HM x /\ AT = AT /\ Fu x /\ HP x /\ XR x /\ HR x /\ IB x /\ HT x /\ HL x /\ IK x
 /\ WB x /\ WC x /\ XH x /\ XP x /\ HM x /\ AT = AT /\ VW x /\ HP x /\ UY x /\ XM x a = JM x /\ (1 : Nat) <= JM x /\ JM x <= (40 :
 Nat)) /\ bif (KV (Dk.mk (Cht.mk (AI x.a).c.p (AI x.a).c.base (AI x.a).c.scale (AI x.a).c.off (Hx x) (MH x)) (AI x.a).st (AI x.a).sp) (UZ x a)).all JB then (nP a x /\
 Eb x a /\ Fd x a /\ Oz x a) /\ ((VO a /\ FO a < (↑(stgL x.a.c).length : Int)) /\ Vu x a = Vu x a /\ Qa x a = Qa x a /\ Vd x a = Vd
 x a /\ Qz x a = Qz x a /\ true = true) /\ ∃ (a_1 : Nat), (Fn.yield l = Fn.yield l /\ Lf x /\ SI a_1 a /\ x.t = x.t /\ DO /\ DO /\ LW x /\ NQ x /\ MN x /\
 ND x /\ (JD x.a x.t a_1).s.lo = (Ox x a).lo /\ (JD x.a x.t a_1).s.hi = (Ox x a).hi /\ (JD x.a x.t a_1).m = true /\ NR x) /\ Mc a_1 x a else ∃ (a_1 : Nat), (Fn.yield l =
 Fn.yield l /\ Lf x /\ SI a_1 a /\ x.t = x.t /\ DO /\ DO /\ LW x /\ NQ x /\ MN x /\ ND x /\ (JD x.a x.t a_1).s.lo = (JD x.a x.t a).s.lo /\ (JD x.a x.t a_1).s.hi
 = (JD x.a x.t a).s.hi /\ (JD x.a x.t a_1).m = (JD x.a x.t a).m /\ NR x) /\ Mc a_1 x a
abbrev Tz (x : CZI) (a : Nat) : Span × Int := GY (Mo x a)
abbrev Ks (x : CZI) (a : Nat) : Span := (Tz x a).fst
abbrev Vr (x : CZI) (a : Nat) : Span × Int := GY (jO x a)
abbrev Jz (x : CZI) (a : Nat) : Span := (Vr x a).fst
theorem CIW (x : CZI) : (CEU x) = ((x.a.c.p.lo = x.a.c.p.lo /\ x.a.c.p.hi = x.a.c.p.hi /\ x.a.c.base = x.a.c.base /\ x.a.c.scale = x.a.c.scale /\ x.a.c.off = x.a.c.off /\ Zf x = x.a.c.ms.length /\ (∀ (i : Nat),
 i < Zf x -> (S8 x i).pl = (gD x.a.c.ms i).pl /\ (S8 x i).ht = (gD x.a.c.ms i).ht) /\ dU x = x.a.c.ns.length /\ (∀ (i : Nat), i < dU x -> (Zv x i).mi = (gD x.a.c.ns i).mi /\ (Q6
 x i).lo = (gD x.a.c.ns i).t.lo /\ (Q6 x i).hi = (gD x.a.c.ns i).t.hi /\ (AHO x i).lo = (gD x.a.c.ns i).s.lo /\ (AHO x i).hi = (gD x.a.c.ns i).s.hi) /\ dZ x = x.a.z.length /\ (∀ (i : Nat), i <
 dZ x -> gD (Zh x) i = gD x.a.z i) /\ (Zf x < (4611686018427387904 : Nat) /\ dU x < (4611686018427387904 : Nat) /\ dZ x < (4611686018427387904 : Nat)) /\ AS (iZ x) = (0 : Int)) /\
 (∃ (a : Nat), ((↑x.a.c.ms.length : Int) = (↑(lF x) : Int) /\ sT a /\ x.t = x.t /\ DO /\ DO /\ (CJ x.a).length = lF x /\ (∀ (i : Nat), i < (CJ x.a).length -> (gD (CJ x.a) i).lo =
 (iN x i).lo /\ (gD (CJ x.a) i).hi = (iN x i).hi) /\ (stgL x.a.c).length = (iF x).length /\ (∀ (i : Nat), sU i x -> (gD (stgL x.a.c) i).lo = (hX x i).lo /\ (gD (stgL x.a.c) i).hi =
 (hX x i).hi) /\ (HJ x.a x.t a).s.lo = (0 : Int) /\ (HJ x.a x.t a).s.hi = (0 : Int) /\ (HJ x.a x.t a).m = false /\ (AI x.a).c.p.lo = (qT x).lo /\ (AI x.a).c.p.hi = (qT x).hi /\ (AI
 x.a).c.base = (JR x).base /\ (AI x.a).c.scale = (JR x).scale /\ (AI x.a).c.off = (JR x).off /\ (AI x.a).c.ms.length = (mG x).length /\ (∀ (i : Nat), Hd i x -> ML x i =
 (pE x i).pl /\ NJ x i = (pE x i).ht) /\ (AI x.a).c.ns.length = (SE x).length /\ (∀ (i : Nat), It i x -> MY x i = (Ft x i).mi /\ MV x i = (pL x i).lo /\
 NG x i = (pL x i).hi /\ MO x i = (mH x i).lo /\ MT x i = (mH x i).hi) /\ (∀ (i : Nat), i < (40 : Nat) -> (AI x.a).sp i = (TO x).sp i) /\ AT = AT /\ (∀ (n : Int), hasN
 (AI x.a).c.ns n = hasN (SE x) n) /\ (∀ (n : Int), (AI x.a).st n = (TO x).st n) /\ ∀ (n : Int), (ntOf (AI x.a).c.ns n).mi = (Ix x n).mi /\ (ntOf (AI x.a).c.ns n).t.lo = (pY x n).lo /\
 (ntOf (AI x.a).c.ns n).t.hi = (pY x n).hi /\ (ntOf (AI x.a).c.ns n).s.lo = (lZ x n).lo /\ (ntOf (AI x.a).c.ns n).s.hi = (lZ x n).hi) /\ a.le x.a.c.ms.length) /\ ∀ (a : Nat), a.le x.a.c.ms.length
 -> bif decide ((↑a : Int) < (↑x.a.c.ms.length : Int)) then (nU a x /\ nU a x) /\ bif HK x.t (gD (CJ x.a) a).lo (gD (CJ x.a) a).hi then (nP a x /\ Eb x a /\ Fd x a /\ sJ x a) /\
 ∃ (a_2 : Nat), (sH x /\ SI a_2 a /\ x.t = x.t /\ DO /\ DO /\ LW x /\ NQ x /\ MN x /\ ND x /\ (HJ x.a x.t a_2).s.lo = (hZ x a).lo /\ (HJ x.a x.t a_2).s.hi
 = (hZ x a).hi /\ (HJ x.a x.t a_2).m = true /\ NR x) /\ jP a_2 x a else ∃ (a_2 : Nat), (sH x /\ SI a_2 a /\ x.t = x.t /\ DO /\ DO /\ LW x /\ NQ x /\
 MN x /\ ND x /\ (HJ x.a x.t a_2).s.lo = (HJ x.a x.t a).s.lo /\ (HJ x.a x.t a_2).s.hi = (HJ x.a x.t a).s.hi /\ (HJ x.a x.t a_2).m = (HJ x.a x.t a).m /\ NR x) /\ jP a_2 x a else bif
 HK x.t (-100000000 : Int) (100000000 : Int) then (HR x /\ IB x /\ HT x /\ HL x /\ IK x /\ Fb x /\ Hu x /\ Ep x /\ Dt x /\ HM x /\ AT = AT /\
 Fu x /\ HP x /\ XR x /\ HR x /\ IB x /\ HT x /\ HL x /\ IK x /\ WB x /\ WC x /\ XH x /\ XP x /\ HM x /\ AT = AT /\
 VW x /\ HP x /\ UY x) /\ ∀ (l : Nat), (∃ (a_2 : Nat), (Fn.yield l = Fn.yield l /\ OW x = IntKind.i64.wrap ((↑(AI x.a).c.ms.length : Int) - (1 : Int)) /\ sT a_2 /\ x.t = x.t /\
 DO /\ DO /\ LW x /\ NQ x /\ MN x /\ ND x /\ (JD x.a x.t a_2).s.lo = (HJ x.a x.t a).s.lo /\ (JD x.a x.t a_2).s.hi = (HJ x.a x.t a).s.hi /\ (JD x.a x.t a_2).m = (HJ x.a
 x.t a).m /\ NR x) /\ XE a_2 x) /\ ∀ (a : Nat), XE a x -> bif decide ((↑a : Int) < OW x) then ((VO a /\ FO a < (↑(AI x.a).c.ms.length : Int)) /\ TT a /\ (↑a : Int) <
 (↑(AI x.a).c.ms.length : Int)) /\ (TT a /\ (↑a : Int) < (↑(40 : Nat) : Int)) /\ a.succ.le (40 : Nat) /\ bif (AI x.a).sp a then Ov l x a else Ov l x a else (Su x a /\ Nx x a /\
 Vn x a /\ Oz x a) /\ (GY (Jf x)).fst.lo = (Ks x a).lo /\ (GY (Jf x)).fst.hi = (Ks x a).hi /\ (GY (Jf x)).snd = (Tz x a).snd else (iJ x a /\ qV x a /\
 qI x a /\ sJ x a) /\ (GY (Jf x)).fst.lo = (Jz x a).lo /\ (GY (Jf x)).fst.hi = (Jz x a).hi /\ (GY (Jf x)).snd = (Vr x a).snd) := by kernel_rfl
def BWH (x : CZI) : Prop := BB Try.prog BXV G9 (AL G9) (xCZI x) (AG []) (.tup [.d (CN zSp), .int (AS x.a)]) [] [] []
theorem CHA (x : CZI) : (BWH x) = ((x.a.c.p.lo = x.a.c.p.lo /\ x.a.c.p.hi = x.a.c.p.hi /\ x.a.c.base = x.a.c.base /\ x.a.c.scale = x.a.c.scale /\ x.a.c.off = x.a.c.off /\ (AE x.a.c.ms.length λ (i : Nat) => gD
 x.a.c.ms i).length = x.a.c.ms.length /\ (∀ (i : Nat), i < (AE x.a.c.ms.length λ (i : Nat) => gD x.a.c.ms i).length -> (gD (AE x.a.c.ms.length λ (i : Nat) => gD x.a.c.ms i) i).pl = (gD x.a.c.ms i).pl /\ (gD (AE
 x.a.c.ms.length λ (i : Nat) => gD x.a.c.ms i) i).ht = (gD x.a.c.ms i).ht) /\ (AE x.a.c.ns.length λ (i : Nat) => gD x.a.c.ns i).length = x.a.c.ns.length /\ (∀ (i : Nat), i < (AE x.a.c.ns.length λ (i : Nat) => gD
 x.a.c.ns i).length -> (gD (AE x.a.c.ns.length λ (i : Nat) => gD x.a.c.ns i) i).mi = (gD x.a.c.ns i).mi /\ (gD (AE x.a.c.ns.length λ (i : Nat) => gD x.a.c.ns i) i).t.lo = (gD x.a.c.ns i).t.lo /\ (gD (AE
 x.a.c.ns.length λ (i : Nat) => gD x.a.c.ns i) i).t.hi = (gD x.a.c.ns i).t.hi /\ (gD (AE x.a.c.ns.length λ (i : Nat) => gD x.a.c.ns i) i).s.lo = (gD x.a.c.ns i).s.lo /\ (gD (AE x.a.c.ns.length λ (i : Nat) => gD
 x.a.c.ns i) i).s.hi = (gD x.a.c.ns i).s.hi) /\ (AE x.a.z.length λ (i : Nat) => gD x.a.z i).length = x.a.z.length /\ (∀ (i : Nat), i < (AE x.a.z.length λ (i : Nat) => gD x.a.z i).length -> gD (AE x.a.z.length λ (i :
 Nat) => gD x.a.z i) i = gD x.a.z i) /\ ((AE x.a.c.ms.length λ (i : Nat) => gD x.a.c.ms i).length < (4611686018427387904 : Nat) /\ (AE x.a.c.ns.length λ (i : Nat) => gD x.a.c.ns i).length < (4611686018427387904 : Nat)
 /\ (AE x.a.z.length λ (i : Nat) => gD x.a.z i).length < (4611686018427387904 : Nat)) /\ AS (CZ.mk (Cht.mk x.a.c.p x.a.c.base x.a.c.scale x.a.c.off (AE x.a.c.ms.length λ (i : Nat) => gD x.a.c.ms i) (AE
 x.a.c.ns.length λ (i : Nat) => gD x.a.c.ns i)) (AE x.a.z.length λ (i : Nat) => gD x.a.z i)) ≠ (0 : Int)) /\ bif AS (CZ.mk (Cht.mk x.a.c.p x.a.c.base x.a.c.scale x.a.c.off (AE x.a.c.ms.length λ (i : Nat) => gD
 x.a.c.ms i) (AE x.a.c.ns.length λ (i : Nat) => gD x.a.c.ns i)) (AE x.a.z.length λ (i : Nat) => gD x.a.z i)) != (0 : Int) then Int.ofNat (0 : Nat) = Int.ofNat (0 : Nat) /\ Int.ofNat (0 : Nat) = Int.ofNat (0 : Nat) /\
 AS x.a = AS (CZ.mk (Cht.mk x.a.c.p x.a.c.base x.a.c.scale x.a.c.off (AE x.a.c.ms.length λ (i : Nat) => gD x.a.c.ms i) (AE x.a.c.ns.length λ (i : Nat) => gD x.a.c.ns i)) (AE x.a.z.length λ (i : Nat) => gD
 x.a.z i)) else False) := by kernel_rfl
theorem CQS (x : CZI) (h1 : x.a.c.ms.length < 4611686018427387904 /\ x.a.c.ns.length < 4611686018427387904 /\ x.a.z.length < 4611686018427387904) (c0 : AS x.a = 0) : CEU x := by
 have tl := Dq c0
 have sl := JG x.a.c
 have hl := ET (Dz c0).1
 obtain ⟨_, ⟨n1, n2⟩, _⟩ := hl
 have w1 : wr ((x.a.c.ms.length : Int) - 1) = ((x.a.c.ms.length - 1 : Nat) : Int) := by unfold wr; rw [FC (by omega) (by omega)]; omega
 have w2 : IntKind.i64.wrap ((x.a.c.ms.length : Int) - 1) = ((x.a.c.ms.length - 1 : Nat) : Int) := w1
 have po : ∀ g : Nat, (KV (AI x.a) (Oj (CJ x.a) ((g : Int) + 1) (IntKind.i64.wrap (x.t - 1)) (IntKind.i64.wrap (x.t + 1)))).all JB = Of x.a x.t g := λ _ => rfl
 rw [CIW]; delta bM Zf S8 dE dU Zv Q6 AHO Zh dZ nT iZ TO pU lF sT DO iN iF sU hX JR qT mG Hd ML pE NJ SE It MY Ft nH MV pL NG jQ MO mH MT Ix pY lZ TT nU nP Eb Fd iJ qV qI sJ sH FO SI LW NQ MN ND jO hZ HR IB HT HL IK HM HP NR kW jP Hx JM Fb jA sZ nW Hu MH Ha Ep Iq pB jG iA qC jK oP rO Dt lW Fu Gg rR lX oW pW pV fW lN XR WB WC XH XP VW UY OW XE VO VS KG To VZ XA Td Un VI UZ XM Kl Su Nx Vn Oz WD Vu Qa Mo Na VY Vd Qz Lf Ox Uc Mc Ov Tz Ks Vr Jz; simp only [CC, eq_self, implies_true, forall_const, CB, YF, Oy, SX, No, BMN, COB]; simp only [tl, sl, w1, w2, Cg]
 have e1 : ∀ k, HK x.t (gD (CJ x.a) k).lo (gD (CJ x.a) k).hi = true -> HJ x.a x.t (k + 1) = LC (HJ x.a x.t k) (gD (stgL x.a.c) k) := λ k h => by
  show (bif HK x.t (gD (CJ x.a) k).lo (gD (CJ x.a) k).hi then _ else _) = _; rw [h]; rfl
 have e0 : ∀ k, HK x.t (gD (CJ x.a) k).lo (gD (CJ x.a) k).hi = false -> HJ x.a x.t (k + 1) = HJ x.a x.t k := λ k h => by
  show (bif HK x.t (gD (CJ x.a) k).lo (gD (CJ x.a) k).hi then _ else _) = _; rw [h]; rfl
 have f1 : ∀ g, Of x.a x.t g = true -> JD x.a x.t (g + 1) = LC (LC (JD x.a x.t g) (gD (stgL x.a.c) g)) (gD (stgL x.a.c) (g + 1)) := λ g h => by
  show (bif Of x.a x.t g then _ else _) = _; rw [h]; rfl
 have f0 : ∀ g, Of x.a x.t g = false -> JD x.a x.t (g + 1) = JD x.a x.t g := λ g h => by
  show (bif Of x.a x.t g then _ else _) = _; rw [h]; rfl
 refine ⟨⟨h1, c0⟩, ⟨0, ⟨trivial, rfl, rfl, rfl, rfl⟩, Nat.zero_le _⟩, λ k hk => ⟨λ hlt => ⟨by omega, λ hin => ⟨by omega, k + 1, ⟨(GK (by omega)).symm, ?_, ?_, ?_⟩, by omega, by omega⟩, λ hin => ⟨k + 1, ⟨(GK (by omega)).symm, ?_, ?_, ?_⟩, by omega, by omega⟩⟩, λ hge => ⟨λ ht => ⟨⟨0, ⟨trivial, rfl, ?_, ?_, ?_⟩, Nat.zero_le _⟩, λ g hg => ⟨λ hlt => ?_, λ hgg => ?_⟩⟩, λ ht => ?_⟩⟩⟩
 ·rw [e1 k hin]
 ·rw [e1 k hin]
 ·rw [e1 k hin]; rfl
 ·rw [e0 k hin]
 ·rw [e0 k hin]
 ·rw [e0 k hin]
 ·obtain rfl : k = x.a.c.ms.length := by omega
  rfl
 ·obtain rfl : k = x.a.c.ms.length := by omega
  rfl
 ·obtain rfl : k = x.a.c.ms.length := by omega
  rfl
 ·have hlt : g < x.a.c.ms.length - 1 := by omega
  have ew : IntKind.i64.wrap ((g : Int) + 1) = (g : Int) + 1 := by rw [GK (by omega)]; rfl
  have tn : ((g : Int) + 1).toNat = g + 1 := by omega
  have ec : ((g + 1 : Nat) : Int) = (g : Int) + 1 := rfl
  simp only [ew, tn, po]
  have body : ((((0 : Nat) < x.a.c.ms.length /\ x.a.c.ms.length <= 40) /\ 0 <= (g : Int) + 1 /\ (g : Int) + 1 <= x.a.c.ms.length)) := ⟨⟨by omega, by omega⟩, by omega, by omega⟩
  refine ⟨⟨⟨by omega, by omega⟩, by omega, by omega⟩, ⟨by omega, by omega⟩, by omega, λ _ => ?_, λ _ => ?_⟩ <;>
  ·refine ⟨⟨body, trivial, by omega, n2⟩, λ h => ⟨⟨by omega, by omega⟩, ⟨by omega, by omega⟩, g + 1, ⟨ec, ?_, ?_, ?_⟩, by omega, by omega⟩, λ h => ⟨g + 1, ⟨ec, ?_, ?_, ?_⟩, by omega, by omega⟩⟩
   ·rw [f1 g h]
   ·rw [f1 g h]
   ·rw [f1 g h]; rfl
   ·rw [f0 g h]
   ·rw [f0 g h]
   ·rw [f0 g h]
 ·obtain rfl : g = x.a.c.ms.length - 1 := by omega
  have : Jf x = JD x.a x.t (x.a.c.ms.length - 1) := by unfold Jf; rw [ht]; rfl
  rw [this]; exact ⟨rfl, rfl, rfl⟩
 ·obtain rfl : k = x.a.c.ms.length := by omega
  have : Jf x = HJ x.a x.t x.a.c.ms.length := by unfold Jf; rw [ht]; rfl
  rw [this]; exact ⟨rfl, rfl, rfl⟩
def PJ (x : CZI) : Nat -> Hul × Bool
 | 0 => (zHul, false)
 | k + 1 => bif (PJ x k).2 then PJ x k else bif decide ((gD (stgL x.a.c) k).hi >= x.t) then (LC (PJ x k).1 (gD (CJ x.a) k), decide ((gD (stgL x.a.c) k).lo >= x.t)) else PJ x k
structure FsR where
 s : Span
 b : Bool
 e : Int
def fsV (x : CZI) : FsR := ⟨(GY (PJ x x.a.c.ms.length).1).1, bif (PJ x x.a.c.ms.length).2 then (GY (PJ x x.a.c.ms.length).1).2 == 0 else false, (GY (PJ x x.a.c.ms.length).1).2⟩
def UU (x : CZI) : FsR := bif AS x.a == 0 then fsV x else ⟨⟨0, 0⟩, false, AS x.a⟩
def C_First : Ctr := { α := CZI, xs := xCZI, val := λ x => .tup [.d (CN (UU x).s), .bool (UU x).b, .int (UU x).e], keep := λ _ => [], pre := λ x => [x.a.c.ms.length < 4611686018427387904 /\ x.a.c.ns.length < 4611686018427387904 /\ x.a.z.length < 4611686018427387904] }
def fs7 (x : CZI) : Shape := { α := Nat, dflt := 0, T := λ k => ⟨[(2, .int x.t), (6, .bptr 202 0), (10, .d (AX (CJ x.a))), (11, .d (AX (stgL x.a.c))), (13, .bptr 206 0), (14, .bool (PJ x k).2), (15, .int k)], [(202, .live (.box [.int 0, .int 0])), (206, .live (hlB (PJ x k).1))]⟩, inv := λ k => k <= x.a.c.ms.length, meas := λ k => x.a.c.ms.length - k, first := [(202, 1016), (206, 5000)] }
def CDB (x : CZI) : Ann := { ann 69 [(UH, C_rdO.spec dCZ), (ADF, C_hadd.spec dHuS), (vN, C_who.spec dHu1)] with loops := λ id => if id = 7 then some [fs7 x] else none }
def BXM : Ann := ann 69 [(UH, C_rdX.spec dCZ)]
def CEM (x : CZI) : Prop := BB Try.prog (CDB x) tN (AL tN) (xCZI x) (AG []) (.tup [.d (CN (fsV x).s), .bool (fsV x).b, .int (fsV x).e]) [] [] []
abbrev Zc (x : CZI) : List Mk := AE x.a.c.ms.length λ (i : Nat) => gD x.a.c.ms i
abbrev Xg (x : CZI) : Nat := (Zc x).length
abbrev AKV (x : CZI) (i : Nat) : Mk := gD (Zc x) i
abbrev Zl (x : CZI) : List Nt := AE x.a.c.ns.length λ (i : Nat) => gD x.a.c.ns i
abbrev Yy (x : CZI) : Nat := (Zl x).length
abbrev eH (x : CZI) (i : Nat) : Nt := gD (Zl x) i
abbrev P9 (x : CZI) (i : Nat) : Span := (eH x i).t
abbrev AFD (x : CZI) (i : Nat) : Span := (eH x i).s
abbrev dN (x : CZI) : List Int := AE x.a.z.length λ (i : Nat) => gD x.a.z i
abbrev eF (x : CZI) : Nat := (dN x).length
abbrev mQ (x : CZI) : Cht := Cht.mk x.a.c.p x.a.c.base x.a.c.scale x.a.c.off (Zc x) (Zl x)
abbrev iX (x : CZI) : CZ := CZ.mk (mQ x) (dN x)
abbrev gH (x : CZI) : List Span := (AU (AI (iX x))).fst
abbrev jM (x : CZI) (i : Nat) : Span := gD (gH x) i
abbrev lP (x : CZI) : List Span := stgL (mQ x)
abbrev gG (i : Nat) (x : CZI) : Prop := i < (stgL x.a.c).length
abbrev kA (x : CZI) (i : Nat) : Span := gD (lP x) i
abbrev JJ : Prop := Int.ofNat (0 : Nat) = Int.ofNat (0 : Nat)
abbrev sE (a : Nat) (x : CZI) : Prop := (↑a : Int) < (↑(CJ x.a).length : Int)
abbrev iE (a : Nat) : Prop := (0 : Int) <= (↑a : Int)
abbrev hY (a : Nat) (x : CZI) : Prop := iE a /\ (↑a : Int) < (↑(stgL x.a.c).length : Int)
abbrev sV (x : CZI) (a : Nat) : Prop := (gD (CJ x.a) a).lo = (gD (CJ x.a) a).lo
abbrev gY (x : CZI) (a : Nat) : Prop := (gD (CJ x.a) a).hi = (gD (CJ x.a) a).hi
abbrev rS (x : CZI) (a : Nat) : Prop := (PJ x a).fst.s.lo = (PJ x a).fst.s.lo
abbrev jW (x : CZI) (a : Nat) : Prop := (PJ x a).fst.s.hi = (PJ x a).fst.s.hi
abbrev kE (x : CZI) (a : Nat) : Prop := (PJ x a).fst.m = (PJ x a).fst.m
abbrev gJ (x : CZI) (a : Nat) : Prop := rS x a /\ jW x a /\ kE x a
abbrev kG (x : CZI) : Prop := (CJ x.a).length = (CJ x.a).length
abbrev jI (x : CZI) : Prop := ∀ (i : Nat), i < (CJ x.a).length -> sV x i /\ gY x i
abbrev pI (x : CZI) : Prop := (stgL x.a.c).length = (stgL x.a.c).length
abbrev pH (x : CZI) : Prop := ∀ (i : Nat), gG i x -> (gD (stgL x.a.c) i).lo = (gD (stgL x.a.c) i).lo /\ (gD (stgL x.a.c) i).hi = (gD (stgL x.a.c) i).hi
abbrev fY (a : Nat) (a1 : Nat) : Prop := (↑a : Int) = IntKind.i64.wrap ((↑a1 : Int) + (1 : Int))
abbrev jJ (x : CZI) (a : Nat) : Hul := Hul.mk (PJ x a).fst.s (PJ x a).fst.m
abbrev rC (x : CZI) (a : Nat) : Span := (LC (jJ x a) (gD (CJ x.a) a)).s
abbrev pX (x : CZI) (a : Nat) : Nat := x.a.c.ms.length - a
abbrev pC (a : Nat) (x : CZI) (a1 : Nat) : Prop := a.le x.a.c.ms.length /\ pX x a < pX x a1
abbrev mV (x : CZI) (a : Nat) : Span × Int := GY (jJ x a)
abbrev mU (x : CZI) (a : Nat) : Span := (mV x a).fst
abbrev qU (x : CZI) (a : Nat) : Int := (mV x a).snd
theorem CHU (x : CZI) : (CEM x) = ((x.a.c.p.lo = x.a.c.p.lo /\ x.a.c.p.hi = x.a.c.p.hi /\ x.a.c.base = x.a.c.base /\ x.a.c.scale = x.a.c.scale /\ x.a.c.off = x.a.c.off /\ Xg x = x.a.c.ms.length /\ (∀ (i : Nat),
 i < Xg x -> (AKV x i).pl = (gD x.a.c.ms i).pl /\ (AKV x i).ht = (gD x.a.c.ms i).ht) /\ Yy x = x.a.c.ns.length /\ (∀ (i : Nat), i < Yy x -> (eH x i).mi = (gD x.a.c.ns i).mi /\ (P9
 x i).lo = (gD x.a.c.ns i).t.lo /\ (P9 x i).hi = (gD x.a.c.ns i).t.hi /\ (AFD x i).lo = (gD x.a.c.ns i).s.lo /\ (AFD x i).hi = (gD x.a.c.ns i).s.hi) /\ eF x = x.a.z.length /\ (∀ (i : Nat), i <
 eF x -> gD (dN x) i = gD x.a.z i) /\ (Xg x < (4611686018427387904 : Nat) /\ Yy x < (4611686018427387904 : Nat) /\ eF x < (4611686018427387904 : Nat)) /\ AS (iX x) = (0 : Int)) /\
 (∃ (a : Nat), (x.t = x.t /\ (CJ x.a).length = (gH x).length /\ (∀ (i : Nat), i < (CJ x.a).length -> (gD (CJ x.a) i).lo = (jM x i).lo /\ (gD (CJ x.a) i).hi = (jM x i).hi) /\ (stgL x.a.c).length =
 (lP x).length /\ (∀ (i : Nat), gG i x -> (gD (stgL x.a.c) i).lo = (kA x i).lo /\ (gD (stgL x.a.c) i).hi = (kA x i).hi) /\ (PJ x a).snd = false /\ (↑a : Int) = (0 : Int) /\ JJ /\
 JJ /\ (PJ x a).fst.s.lo = (0 : Int) /\ (PJ x a).fst.s.hi = (0 : Int) /\ (PJ x a).fst.m = false) /\ a.le x.a.c.ms.length) /\ ∀ (a : Nat), a.le x.a.c.ms.length -> bif bif decide (sE a x) then !(PJ x a).snd
 else false then hY a x /\ bif decide ((gD (stgL x.a.c) a).hi >= x.t) then ((iE a /\ sE a x) /\ sV x a /\ gY x a /\ gJ x a) /\ hY a x /\ ∃ (a_2 : Nat), (x.t = x.t /\
 kG x /\ jI x /\ pI x /\ pH x /\ (PJ x a_2).snd = decide ((gD (stgL x.a.c) a).lo >= x.t) /\ fY a_2 a /\ JJ /\ JJ /\ (PJ x a_2).fst.s.lo = (rC x a).lo /\ (PJ x
 a_2).fst.s.hi = (rC x a).hi /\ (PJ x a_2).fst.m = true) /\ pC a_2 x a else ∃ (a_2 : Nat), (x.t = x.t /\ kG x /\ jI x /\ pI x /\ pH x /\ (PJ x a_2).snd = (PJ x a).snd /\
 fY a_2 a /\ JJ /\ JJ /\ (PJ x a_2).fst.s.lo = (PJ x a).fst.s.lo /\ (PJ x a_2).fst.s.hi = (PJ x a).fst.s.hi /\ (PJ x a_2).fst.m = (PJ x a).fst.m) /\ pC a_2 x a else (rS x a /\
 jW x a /\ kE x a /\ gJ x a) /\ (fsV x).s.lo = (mU x a).lo /\ (fsV x).s.hi = (mU x a).hi /\ ((fsV x).b = bif (PJ x a).snd then qU x a == (0 : Int) else false) /\ (fsV x).e =
 qU x a) := by kernel_rfl
def BYL (x : CZI) : Prop := BB Try.prog BXM tN (AL tN) (xCZI x) (AG []) (.tup [.d (CN zSp), .bool false, .int (AS x.a)]) [] [] []
theorem CGL (x : CZI) : (BYL x) = ((x.a.c.p.lo = x.a.c.p.lo /\ x.a.c.p.hi = x.a.c.p.hi /\ x.a.c.base = x.a.c.base /\ x.a.c.scale = x.a.c.scale /\ x.a.c.off = x.a.c.off /\ (AE x.a.c.ms.length λ (i : Nat) => gD
 x.a.c.ms i).length = x.a.c.ms.length /\ (∀ (i : Nat), i < (AE x.a.c.ms.length λ (i : Nat) => gD x.a.c.ms i).length -> (gD (AE x.a.c.ms.length λ (i : Nat) => gD x.a.c.ms i) i).pl = (gD x.a.c.ms i).pl /\ (gD (AE
 x.a.c.ms.length λ (i : Nat) => gD x.a.c.ms i) i).ht = (gD x.a.c.ms i).ht) /\ (AE x.a.c.ns.length λ (i : Nat) => gD x.a.c.ns i).length = x.a.c.ns.length /\ (∀ (i : Nat), i < (AE x.a.c.ns.length λ (i : Nat) => gD
 x.a.c.ns i).length -> (gD (AE x.a.c.ns.length λ (i : Nat) => gD x.a.c.ns i) i).mi = (gD x.a.c.ns i).mi /\ (gD (AE x.a.c.ns.length λ (i : Nat) => gD x.a.c.ns i) i).t.lo = (gD x.a.c.ns i).t.lo /\ (gD (AE
 x.a.c.ns.length λ (i : Nat) => gD x.a.c.ns i) i).t.hi = (gD x.a.c.ns i).t.hi /\ (gD (AE x.a.c.ns.length λ (i : Nat) => gD x.a.c.ns i) i).s.lo = (gD x.a.c.ns i).s.lo /\ (gD (AE x.a.c.ns.length λ (i : Nat) => gD
 x.a.c.ns i) i).s.hi = (gD x.a.c.ns i).s.hi) /\ (AE x.a.z.length λ (i : Nat) => gD x.a.z i).length = x.a.z.length /\ (∀ (i : Nat), i < (AE x.a.z.length λ (i : Nat) => gD x.a.z i).length -> gD (AE x.a.z.length λ (i :
 Nat) => gD x.a.z i) i = gD x.a.z i) /\ ((AE x.a.c.ms.length λ (i : Nat) => gD x.a.c.ms i).length < (4611686018427387904 : Nat) /\ (AE x.a.c.ns.length λ (i : Nat) => gD x.a.c.ns i).length < (4611686018427387904 : Nat)
 /\ (AE x.a.z.length λ (i : Nat) => gD x.a.z i).length < (4611686018427387904 : Nat)) /\ AS (CZ.mk (Cht.mk x.a.c.p x.a.c.base x.a.c.scale x.a.c.off (AE x.a.c.ms.length λ (i : Nat) => gD x.a.c.ms i) (AE
 x.a.c.ns.length λ (i : Nat) => gD x.a.c.ns i)) (AE x.a.z.length λ (i : Nat) => gD x.a.z i)) ≠ (0 : Int)) /\ bif AS (CZ.mk (Cht.mk x.a.c.p x.a.c.base x.a.c.scale x.a.c.off (AE x.a.c.ms.length λ (i : Nat) => gD
 x.a.c.ms i) (AE x.a.c.ns.length λ (i : Nat) => gD x.a.c.ns i)) (AE x.a.z.length λ (i : Nat) => gD x.a.z i)) != (0 : Int) then Int.ofNat (0 : Nat) = Int.ofNat (0 : Nat) /\ Int.ofNat (0 : Nat) = Int.ofNat (0 : Nat) /\
 false = false /\ AS x.a = AS (CZ.mk (Cht.mk x.a.c.p x.a.c.base x.a.c.scale x.a.c.off (AE x.a.c.ms.length λ (i : Nat) => gD x.a.c.ms i) (AE x.a.c.ns.length λ (i : Nat) => gD x.a.c.ns i)) (AE x.a.z.length fun
 (i : Nat) => gD x.a.z i)) else False) := by kernel_rfl
theorem BYG : AM Try.prog APQ (C_Stage.spec dCZI) := okT C_Stage (λ (x : CZI) h => by
 have h1 : x.a.c.ms.length < 4611686018427387904 /\ x.a.c.ns.length < 4611686018427387904 /\ x.a.z.length < 4611686018427387904 := h
 by_cases c0 : AS x.a = 0
 ·have e : C_Stage.val x = .tup [.d (CN (GY (Jf x)).1), .int (GY (Jf x)).2] := by
   show AVal.tup [.d (CN (CR x).1), .int (CR x).2] = _
   unfold CR; rw [c0]; rfl
  rw [e]
  exact UV (A := CDM x) (L := []) (keep := []) (ren := []) (fz := []) BWI (by kernel_rfl) (AC BNV (AC BKI (AC BOC (AC CEH (AC CFK (AC CAK (AC BZC AJ))))))) (CQS x h1 c0) (CSJ aE (itSg x) rfl rfl AJ BYN (by kernel_rfl) (by kernel_rfl))
 ·have c0' : (AS x.a == 0) = false := by simpa using c0
  have e : C_Stage.val x = .tup [.d (CN zSp), .int (AS x.a)] := by
   show AVal.tup [.d (CN (CR x).1), .int (CR x).2] = _
   unfold CR; rw [c0']; rfl
  rw [e]
  refine UV (A := BXV) (L := []) (keep := []) (ren := []) (fz := []) BWI (by kernel_rfl) (AC BNK AJ) ?_
  show BWH x; rw [CHA]; simp only [CC, eq_self, implies_true, forall_const, CB, SX]
  exact ⟨⟨h1, c0⟩, λ h => by simp [c0] at h⟩) _
theorem CFG {x : CZI} {k : Nat} (h : (PJ x k).2 = true) : ∀ d, PJ x (k + d) = PJ x k
 | 0 => rfl
 | d + 1 => by
  have ih := CFG h d
  show (bif (PJ x (k + d)).2 then PJ x (k + d) else _) = _
  rw [ih, h]; rfl
theorem CQH (x : CZI) (h1 : x.a.c.ms.length < 4611686018427387904 /\ x.a.c.ns.length < 4611686018427387904 /\ x.a.z.length < 4611686018427387904) (c0 : AS x.a = 0) : CEM x := by
 have tl := Dq c0
 have sl := JG x.a.c
 obtain ⟨_, ⟨n1, n2⟩, _⟩ := ET (Dz c0).1
 rw [CHU]; delta Zc Xg AKV Zl Yy eH P9 AFD dN eF mQ iX gH jM lP gG kA JJ sE iE hY sV gY rS jW kE gJ kG jI pI pH fY jJ rC pX pC mV mU qU; simp only [CC, eq_self, implies_true, forall_const, CB, YF, Oy, SX, No, BMN, COB]; simp only [tl, sl]
 refine ⟨⟨h1, c0⟩, ⟨0, ⟨rfl, rfl, rfl, rfl, rfl⟩, Nat.zero_le _⟩, λ k hk => ⟨λ hc => ?_, λ hc => ?_⟩⟩
 ·have hlt : k < x.a.c.ms.length := by
   cases hd : decide ((k : Int) < x.a.c.ms.length) with
   | false => rw [hd] at hc; cases hc
   | true => have := of_decide_eq_true hd; omega
  have hs : (PJ x k).2 = false := by
   rw [decide_eq_true (show (k : Int) < x.a.c.ms.length by omega)] at hc
   cases hq : (PJ x k).2 with
   | false => rfl
   | true => rw [hq] at hc; cases hc
  refine ⟨by omega, λ h => ?_, λ h => ?_⟩
  ·have e : PJ x (k + 1) = (LC (PJ x k).1 (gD (CJ x.a) k), decide ((gD (stgL x.a.c) k).lo >= x.t)) := by
    show (bif (PJ x k).2 then _ else bif decide _ then _ else _) = _
    rw [hs, decide_eq_true h]; rfl
   refine ⟨by omega, by omega, k + 1, ⟨?_, (GK (by omega)).symm, ?_, ?_, ?_⟩, by omega, by omega⟩ <;> rw [e] <;> rfl
  ·have e : PJ x (k + 1) = PJ x k := by
    show (bif (PJ x k).2 then _ else bif decide _ then _ else _) = _
    rw [hs, decide_eq_false h]; rfl
   refine ⟨k + 1, ⟨?_, (GK (by omega)).symm, ?_, ?_, ?_⟩, by omega, by omega⟩ <;> rw [e]
 ·have e : PJ x x.a.c.ms.length = PJ x k := by
   cases hq : (PJ x k).2 with
   | true =>
    obtain ⟨d, hd⟩ : ∃ d, x.a.c.ms.length = k + d := ⟨x.a.c.ms.length - k, by omega⟩
    rw [hd]; exact CFG hq d
   | false =>
    rw [hq] at hc
    cases hd : decide ((k : Int) < x.a.c.ms.length) with
    | true => rw [hd] at hc; cases hc
    | false =>
     have := of_decide_eq_false hd
     rw [show k = x.a.c.ms.length by omega]
  unfold fsV; rw [e]; exact ⟨rfl, rfl, rfl, rfl⟩
theorem CNE : AM Try.prog BPJ (C_First.spec dCZI) := okT C_First (λ (x : CZI) h => by
 have h1 : x.a.c.ms.length < 4611686018427387904 /\ x.a.c.ns.length < 4611686018427387904 /\ x.a.z.length < 4611686018427387904 := h
 by_cases c0 : AS x.a = 0
 ·have e : C_First.val x = .tup [.d (CN (fsV x).s), .bool (fsV x).b, .int (fsV x).e] := by
   show AVal.tup [.d (CN (UU x).s), .bool (UU x).b, .int (UU x).e] = _
   unfold UU; rw [c0]; rfl
  rw [e]
  exact UV (A := CDB x) (L := []) (keep := []) (ren := []) (fz := []) BYF (by kernel_rfl) (AC BNV (AC BOC (AC BZC AJ))) (CQH x h1 c0)
 ·have c0' : (AS x.a == 0) = false := by simpa using c0
  have e : C_First.val x = .tup [.d (CN zSp), .bool false, .int (AS x.a)] := by
   show AVal.tup [.d (CN (UU x).s), .bool (UU x).b, .int (UU x).e] = _
   unfold UU; rw [c0']; rfl
  rw [e]
  refine UV (A := BXM) (L := []) (keep := []) (ren := []) (fz := []) BYF (by kernel_rfl) (AC BNK AJ) ?_
  show BYL x; rw [CGL]; simp only [CC, eq_self, implies_true, forall_const, CB, SX]
  exact ⟨⟨h1, c0⟩, λ h => by simp [c0] at h⟩) _
end Go.Bal
