/- Package chart: stages at a time, from a time to another one, and when one is reached. -/
import Derived.Test.YtdbjalgfomknhaaChH
set_option linter.unusedVariables false
set_option linter.unusedSimpArgs false
namespace Go.Bal
open Go Go.Sym Go.Proofs
def zHul : Hul := ⟨⟨0, 0⟩, false⟩
structure CZI where
 a : CZ
 t : Int
def dCZI : List AVal -> Heap -> Option (CZI × List (Nat × Nat) × List Nat)
 | [x, y, .d t], H => match BVO x H, CBQ y H with
  | some (c, f), some (l, e) => some (⟨⟨c, l⟩, BU t⟩, [], f ++ e)
  | _, _ => none
 | _, _ => none
def xCZI (x : CZI) : List AVal := [.d (YV x.a.c), .d (CO x.a.z), .int x.t]
def CB (a : CZ) : List Span := (AU (AH a)).1
theorem BOZ (h : Hul) : Hul.mk h.s h.m = h := rfl
theorem CGW (a : CZ) : (AU (AH a)).1 = CB a := rfl
theorem Fx {a : CZ} (h : AM a = 0) : (CB a).length = a.c.ms.length := by
 have h3 := (XD h).2.2
 unfold CB
 unfold AU at h3 ⊢
 rw [Xx] at h3 ⊢
 cases hs : stgOk a.c with
 | false => rw [hs] at h3; cases h3
 | true => show (KF _ _).length = _; unfold KF; rw [rng_length, EN]
theorem RT (c : Cht) : (stgL c).length = c.ms.length := rng_length _ _
def GS (a : CZ) (t : Int) : Nat -> Hul
 | 0 => zHul
 | k + 1 => bif GT t (gD (CB a) k).lo (gD (CB a) k).hi then KG (GS a t k) (gD (stgL a.c) k) else GS a t k
def Uv (a : CZ) (t : Int) (g : Nat) : Bool := (KF (AH a) (Fq (CB a) ((g : Int) + 1) (wr (t - 1)) (wr (t + 1)))).all IL
def IS (a : CZ) (t : Int) : Nat -> Hul
 | 0 => GS a t a.c.ms.length
 | g + 1 => bif Uv a t g then KG (KG (IS a t g) (gD (stgL a.c) g)) (gD (stgL a.c) (g + 1)) else IS a t g
def Dd (x : CZI) : Hul := bif GT x.t (-100000000) 100000000 then IS x.a x.t (x.a.c.ms.length - 1) else GS x.a x.t x.a.c.ms.length
def BD (x : CZI) : Span × Int := bif AM x.a == 0 then DS (Dd x) else (⟨0, 0⟩, AM x.a)
def C_Stage : Ctr := { α := CZI, xs := xCZI, val := λ x => .tup [.d (BT (BD x).1), .int (BD x).2], keep := λ _ => [], pre := λ x => [x.a.c.ms.length < 4611686018427387904 /\ x.a.c.ns.length < 4611686018427387904 /\ x.a.z.length < 4611686018427387904] }
def sgH (x : CZI) (h : Hul) : List (Nat × HCell) := [(201, .live (.box [.int x.t])), (202, .live (.box [.int 0, .int 0])), (203, .live (.box [.bptr 208 0])), (204, .live (.box [.d (AV (CB x.a))])), (205, .live (.box [.d (AV (stgL x.a.c))])), (206, .live (hlB h)), (207, .live (.box [.fn (.func AJH) [.bptr 206 0] []])), (208, .live (dkB (AH x.a) 209)), (209, .live (dkM (AH x.a)))]
def sg7 (x : CZI) : Shape := { α := Nat, dflt := 0, T := λ k => ⟨[(5, .bptr 201 0), (6, .bptr 202 0), (8, .bptr 203 0), (9, .bptr 204 0), (10, .bptr 205 0), (12, .bptr 206 0), (13, .bptr 207 0), (32, .int x.a.c.ms.length), (33, .int k)], sgH x (GS x.a x.t k)⟩, inv := λ k => k <= x.a.c.ms.length, meas := λ k => x.a.c.ms.length - k, first := [(201, 1016), (202, 1032), (203, 2128), (204, 2144), (205, 2160), (206, 5000), (207, 6016), (208, 2032), (209, 2033)] }
def sg1 (x : CZI) (l : Nat) : Shape := { α := Nat, dflt := 0, T := λ g => ⟨[(0, .fn (.yield l) [] []), (1, .bptr 14016 0), (12, .int (wr ((x.a.c.ms.length : Int) - 1))), (13, .int g)], sgH x (IS x.a x.t g) ++ [(14016, .live (.box [.bptr 208 0]))]⟩, inv := λ g => g <= x.a.c.ms.length - 1, meas := λ g => 50 - g }
noncomputable def itSg (x : CZI) : IterAnn := { fn := L7, code := AK L7, live := [5, 6, 8, 9, 10, 12, 13], ann := { base := λ id => 100000 + 1000 * (id + 1), Γ := Sym.look [], E := [201, 202, 203, 204, 205, 206, 207, 208, 209, 14016], n := 66, inner := λ gs id => if id = 1 then some [sg1 x (gs.getD 0 0)] else none } }
noncomputable def CDA (x : CZI) : Ann := { ann 92 [(TA, C_rdO.spec dCZ), (n_in, s_in), (AJH, C_hadd.spec dHuS), (BLA, C_gaps.spec dDk1), (C1, C_part.spec dDkQ), (TR, C_nar.spec dDkS), (vG, C_who.spec dHu1)] with iter := λ g => if g = gA then some (itSg x) else none, loops := λ id => if id = 7 then some [sg7 x] else none }
def BWQ : Ann := ann 92 [(TA, C_rdX.spec dCZ)]
def CAO (x : CZI) : Prop := AW Try.prog (CDA x) uY (AK uY) (xCZI x) (AF []) (.tup [.d (BT (DS (Dd x)).1), .int (DS (Dd x)).2]) [] [] []
abbrev dC (x : CZI) : List Mk := AE x.a.c.ms.length λ (i : Nat) => gD x.a.c.ms i
abbrev fS (x : CZI) : Nat := (dC x).length
abbrev ABT (x : CZI) (i : Nat) : Mk := gD (dC x) i
abbrev Yf (x : CZI) : List Nt := AE x.a.c.ns.length λ (i : Nat) => gD x.a.c.ns i
abbrev cY (x : CZI) : Nat := (Yf x).length
abbrev Zo (x : CZI) (i : Nat) : Nt := gD (Yf x) i
abbrev ACV (x : CZI) (i : Nat) : Span := (Zo x i).t
abbrev ABP (x : CZI) (i : Nat) : Span := (Zo x i).s
abbrev dT (x : CZI) : List Int := AE x.a.z.length λ (i : Nat) => gD x.a.z i
abbrev cG (x : CZI) : Nat := (dT x).length
abbrev iH (x : CZI) : Cht := Cht.mk x.a.c.p x.a.c.base x.a.c.scale x.a.c.off (dC x) (Yf x)
abbrev pJ (x : CZI) : CZ := CZ.mk (iH x) (dT x)
abbrev SY (x : CZI) : Dk := AH (pJ x)
abbrev iP (x : CZI) : List Span := (AU (SY x)).fst
abbrev sL (x : CZI) : Nat := (iP x).length
abbrev qJ (a : Nat) : Prop := (↑a : Int) = (0 : Int)
abbrev CR : Prop := Int.ofNat (0 : Nat) = Int.ofNat (0 : Nat)
abbrev sD (x : CZI) (i : Nat) : Span := gD (iP x) i
abbrev lA (x : CZI) : List Span := stgL (iH x)
abbrev kW (i : Nat) (x : CZI) : Prop := i < (stgL x.a.c).length
abbrev qH (x : CZI) (i : Nat) : Span := gD (lA x) i
abbrev IZ (x : CZI) : Cht := (SY x).c
abbrev pT (x : CZI) : Span := (IZ x).p
abbrev oX (x : CZI) : List Mk := (IZ x).ms
abbrev Hg (i : Nat) (x : CZI) : Prop := i < (AH x.a).c.ms.length
abbrev MH (x : CZI) (i : Nat) : Int := (gD (AH x.a).c.ms i).pl
abbrev iB (x : CZI) (i : Nat) : Mk := gD (oX x) i
abbrev MC (x : CZI) (i : Nat) : Int := (gD (AH x.a).c.ms i).ht
abbrev SP (x : CZI) : List Nt := (IZ x).ns
abbrev Ho (i : Nat) (x : CZI) : Prop := i < (AH x.a).c.ns.length
abbrev LU (x : CZI) (i : Nat) : Int := (gD (AH x.a).c.ns i).mi
abbrev Es (x : CZI) (i : Nat) : Nt := gD (SP x) i
abbrev iS (x : CZI) (i : Nat) : Span := (gD (AH x.a).c.ns i).t
abbrev MF (x : CZI) (i : Nat) : Int := (iS x i).lo
abbrev mR (x : CZI) (i : Nat) : Span := (Es x i).t
abbrev MO (x : CZI) (i : Nat) : Int := (iS x i).hi
abbrev lS (x : CZI) (i : Nat) : Span := (gD (AH x.a).c.ns i).s
abbrev MG (x : CZI) (i : Nat) : Int := (lS x i).lo
abbrev tP (x : CZI) (i : Nat) : Span := (Es x i).s
abbrev LH (x : CZI) (i : Nat) : Int := (lS x i).hi
abbrev Jg (x : CZI) (n : Int) : Nt := ntOf (SP x) n
abbrev oO (x : CZI) (n : Int) : Span := (Jg x n).t
abbrev nU (x : CZI) (n : Int) : Span := (Jg x n).s
abbrev RR (a : Nat) : Prop := (0 : Int) <= (↑a : Int)
abbrev qE (a : Nat) (x : CZI) : Prop := RR a /\ (↑a : Int) < (↑(CB x.a).length : Int)
abbrev rP (a : Nat) (x : CZI) : Prop := RR a /\ (↑a : Int) < (↑(stgL x.a.c).length : Int)
abbrev Ip (x : CZI) (a : Nat) : Prop := (gD (stgL x.a.c) a).lo = (gD (stgL x.a.c) a).lo
abbrev Fl (x : CZI) (a : Nat) : Prop := (gD (stgL x.a.c) a).hi = (gD (stgL x.a.c) a).hi
abbrev tM (x : CZI) (a : Nat) : Prop := (GS x.a x.t a).s.lo = (GS x.a x.t a).s.lo
abbrev iA (x : CZI) (a : Nat) : Prop := (GS x.a x.t a).s.hi = (GS x.a x.t a).s.hi
abbrev sI (x : CZI) (a : Nat) : Prop := (GS x.a x.t a).m = (GS x.a x.t a).m
abbrev jU (x : CZI) (a : Nat) : Prop := tM x a /\ iA x a /\ sI x a
abbrev qY (x : CZI) : Prop := (↑x.a.c.ms.length : Int) = (↑x.a.c.ms.length : Int)
abbrev EZ (a : Nat) : Int := IntKind.i64.wrap ((↑a : Int) + (1 : Int))
abbrev RU (a : Nat) (a1 : Nat) : Prop := (↑a : Int) = EZ a1
abbrev MZ (x : CZI) : Prop := (CB x.a).length = (CB x.a).length
abbrev MW (x : CZI) : Prop := ∀ (i : Nat), i < (CB x.a).length -> (gD (CB x.a) i).lo = (gD (CB x.a) i).lo /\ (gD (CB x.a) i).hi = (gD (CB x.a) i).hi
abbrev ML (x : CZI) : Prop := (stgL x.a.c).length = (stgL x.a.c).length
abbrev MI (x : CZI) : Prop := ∀ (i : Nat), kW i x -> Ip x i /\ Fl x i
abbrev mC (x : CZI) (a : Nat) : Hul := Hul.mk (GS x.a x.t a).s (GS x.a x.t a).m
abbrev kL (x : CZI) (a : Nat) : Span := (KG (mC x a) (gD (stgL x.a.c) a)).s
abbrev HX (x : CZI) : Prop := (AH x.a).c.p.lo = (AH x.a).c.p.lo
abbrev HD (x : CZI) : Prop := (AH x.a).c.p.hi = (AH x.a).c.p.hi
abbrev HM (x : CZI) : Prop := (AH x.a).c.base = (AH x.a).c.base
abbrev HK (x : CZI) : Prop := (AH x.a).c.scale = (AH x.a).c.scale
abbrev HU (x : CZI) : Prop := (AH x.a).c.off = (AH x.a).c.off
abbrev HL (x : CZI) : Prop := ∀ (i : Nat), i < (40 : Nat) -> (AH x.a).sp i = (AH x.a).sp i
abbrev HS (x : CZI) : Prop := ∀ (n : Int), (AH x.a).st n = (AH x.a).st n
abbrev ME (x : CZI) : Prop := HX x /\ HD x /\ HM x /\ HK x /\ HU x /\ (AH x.a).c.ms.length = (AH x.a).c.ms.length /\ (∀ (i : Nat), Hg i x -> MH x i =
 MH x i /\ MC x i = MC x i) /\ (AH x.a).c.ns.length = (AH x.a).c.ns.length /\ (∀ (i : Nat), Ho i x -> LU x i = LU x i /\ MF x i = MF x i /\ MO x i =
 MO x i /\ MG x i = MG x i /\ LH x i = LH x i) /\ HL x /\ AT = AT /\ (∀ (n : Int), hasN (AH x.a).c.ns n = hasN (AH x.a).c.ns n) /\ HS x /\ ∀ (n : Int), (ntOf (AH
 x.a).c.ns n).mi = (ntOf (AH x.a).c.ns n).mi /\ (ntOf (AH x.a).c.ns n).t.lo = (ntOf (AH x.a).c.ns n).t.lo /\ (ntOf (AH x.a).c.ns n).t.hi = (ntOf (AH x.a).c.ns n).t.hi /\ (ntOf (AH x.a).c.ns n).s.lo = (ntOf (AH
 x.a).c.ns n).s.lo /\ (ntOf (AH x.a).c.ns n).s.hi = (ntOf (AH x.a).c.ns n).s.hi
abbrev iF (x : CZI) (a : Nat) : Nat := x.a.c.ms.length - a
abbrev jO (a : Nat) (x : CZI) (a1 : Nat) : Prop := a.le x.a.c.ms.length /\ iF x a < iF x a1
abbrev Gx (x : CZI) : List Mk := AE (AH x.a).c.ms.length λ (i : Nat) => gD (AH x.a).c.ms i
abbrev IY (x : CZI) : Nat := (Gx x).length
abbrev Ee (x : CZI) : Prop := IY x = (AH x.a).c.ms.length
abbrev lF (x : CZI) (i : Nat) : Mk := gD (Gx x) i
abbrev pV (x : CZI) (i : Nat) : Int := (lF x i).pl
abbrev iW (x : CZI) (i : Nat) : Int := (lF x i).ht
abbrev Fu (x : CZI) : Prop := ∀ (i : Nat), i < IY x -> pV x i = MH x i /\ iW x i = MC x i
abbrev LL (x : CZI) : List Nt := AE (AH x.a).c.ns.length λ (i : Nat) => gD (AH x.a).c.ns i
abbrev Je (x : CZI) : Nat := (LL x).length
abbrev Eb (x : CZI) : Prop := Je x = (AH x.a).c.ns.length
abbrev Gn (x : CZI) (i : Nat) : Nt := gD (LL x) i
abbrev kM (x : CZI) (i : Nat) : Int := (Gn x i).mi
abbrev mT (x : CZI) (i : Nat) : Span := (Gn x i).t
abbrev jA (x : CZI) (i : Nat) : Int := (mT x i).lo
abbrev pX (x : CZI) (i : Nat) : Int := (mT x i).hi
abbrev jW (x : CZI) (i : Nat) : Span := (Gn x i).s
abbrev qD (x : CZI) (i : Nat) : Int := (jW x i).lo
abbrev lX (x : CZI) (i : Nat) : Int := (jW x i).hi
abbrev Jh (x : CZI) : Prop := ∀ (i : Nat), i < Je x -> kM x i = LU x i /\ jA x i = MF x i /\ pX x i = MO x i /\ qD x i = MG x i /\ lX x i
 = LH x i
abbrev sQ (x : CZI) (n : Int) : Bool := hasN (LL x) n
abbrev Ej (x : CZI) : Prop := ∀ (n : Int), sQ x n = hasN (AH x.a).c.ns n
abbrev Gj (x : CZI) (n : Int) : Nt := ntOf (LL x) n
abbrev oR (x : CZI) (n : Int) : Int := (Gj x n).mi
abbrev tL (x : CZI) (n : Int) : Span := (Gj x n).t
abbrev kP (x : CZI) (n : Int) : Int := (tL x n).lo
abbrev oT (x : CZI) (n : Int) : Int := (tL x n).hi
abbrev kY (x : CZI) (n : Int) : Span := (Gj x n).s
abbrev hJ (x : CZI) (n : Int) : Int := (kY x n).lo
abbrev tH (x : CZI) (n : Int) : Int := (kY x n).hi
abbrev XQ (x : CZI) : Prop := ∀ (n : Int), oR x n = (ntOf (AH x.a).c.ns n).mi /\ kP x n = (ntOf (AH x.a).c.ns n).t.lo /\ oT x n = (ntOf (AH x.a).c.ns n).t.hi /\ hJ x n = (ntOf
 (AH x.a).c.ns n).s.lo /\ tH x n = (ntOf (AH x.a).c.ns n).s.hi
abbrev XF (x : CZI) : Prop := (AH x.a).c.ms.length = IY x
abbrev YE (x : CZI) : Prop := ∀ (i : Nat), Hg i x -> MH x i = pV x i /\ MC x i = iW x i
abbrev VK (x : CZI) : Prop := (AH x.a).c.ns.length = Je x
abbrev UX (x : CZI) : Prop := ∀ (i : Nat), Ho i x -> LU x i = kM x i /\ MF x i = jA x i /\ MO x i = pX x i /\ MG x i = qD x i /\ LH x i
 = lX x i
abbrev VE (x : CZI) : Prop := ∀ (n : Int), hasN (AH x.a).c.ns n = sQ x n
abbrev XK (x : CZI) : Prop := ∀ (n : Int), (ntOf (AH x.a).c.ns n).mi = oR x n /\ (ntOf (AH x.a).c.ns n).t.lo = kP x n /\ (ntOf (AH x.a).c.ns n).t.hi = oT x n /\ (ntOf (AH x.a).c.ns
 n).s.lo = hJ x n /\ (ntOf (AH x.a).c.ns n).s.hi = tH x n
abbrev OF (x : CZI) : Int := wr ((↑x.a.c.ms.length : Int) - (1 : Int))
abbrev YA (a : Nat) (x : CZI) : Prop := a.le (x.a.c.ms.length - (1 : Nat))
abbrev XG (a : Nat) : Prop := (0 : Int) <= EZ a
abbrev YJ (x : CZI) : List Span := AE (CB x.a).length λ (i : Nat) => gD (CB x.a) i
abbrev JI (x : CZI) : Nat := (YJ x).length
abbrev Sm (x : CZI) (i : Nat) : Span := gD (YJ x) i
abbrev WY (x : CZI) : Int := IntKind.i64.wrap (x.t - (1 : Int))
abbrev UO (x : CZI) : Int := IntKind.i64.wrap (x.t + (1 : Int))
abbrev Mf (x : CZI) (a : Nat) : List Span := Fq (YJ x) (EZ a) (WY x) (UO x)
abbrev Tb (x : CZI) (a : Nat) : Nat := (Mf x a).length
abbrev UN (x : CZI) (a : Nat) (i : Nat) : Span := gD (Mf x a) i
abbrev UT (x : CZI) (a : Nat) : List Span := AE (Tb x a) λ (i : Nat) => UN x a i
abbrev WV (x : CZI) (a : Nat) : Nat := (UT x a).length
abbrev So (x : CZI) (a : Nat) (i : Nat) : Span := gD (UT x a) i
abbrev Ox (x : CZI) (a : Nat) : Prop := (IS x.a x.t a).s.lo = (IS x.a x.t a).s.lo
abbrev Qx (x : CZI) (a : Nat) : Prop := (IS x.a x.t a).s.hi = (IS x.a x.t a).s.hi
abbrev Yc (x : CZI) (a : Nat) : Prop := (IS x.a x.t a).m = (IS x.a x.t a).m
abbrev Md (x : CZI) (a : Nat) : Prop := Ox x a /\ Qx x a /\ Yc x a
abbrev WE (x : CZI) (a : Nat) : Span := gD (stgL x.a.c) (EZ a).toNat
abbrev Ph (x : CZI) (a : Nat) : Int := (WE x a).lo
abbrev To (x : CZI) (a : Nat) : Int := (WE x a).hi
abbrev Mn (x : CZI) (a : Nat) : Hul := Hul.mk (IS x.a x.t a).s (IS x.a x.t a).m
abbrev Nq (x : CZI) (a : Nat) : Hul := KG (Mn x a) (gD (stgL x.a.c) a)
abbrev WA (x : CZI) (a : Nat) : Span := (Nq x a).s
abbrev Nj (x : CZI) (a : Nat) : Int := (WA x a).lo
abbrev Og (x : CZI) (a : Nat) : Int := (WA x a).hi
abbrev Od (x : CZI) : Prop := OF x = OF x
abbrev Oq (x : CZI) (a : Nat) : Span := (KG (Hul.mk (WA x a) (Nq x a).m) (WE x a)).s
abbrev We (a : Nat) : Nat := (50 : Nat) - a
abbrev Pf (a : Nat) (x : CZI) (a1 : Nat) : Prop := YA a x /\ We a < We a1
abbrev Xv (l : Nat) (x : CZI) (a : Nat) : Prop := l = l /\ (JI x = (CB x.a).length /\ (∀ (i : Nat), i < JI x -> (Sm x i).lo = (gD (CB x.a) i).lo /\ (Sm x i).hi = (gD (CB x.a)
 i).hi) /\ EZ a = EZ a /\ WY x = WY x /\ UO x = UO x /\ HX x /\ HD x /\ HM x /\ HK x /\ HU x /\ Ee x /\ Fu x /\ Eb x
 /\ Jh x /\ HL x /\ AT = AT /\ Ej x /\ HS x /\ XQ x /\ HX x /\ HD x /\ HM x /\ HK x /\ HU x /\ XF x /\ YE x /\ VK x /\
 UX x /\ HL x /\ AT = AT /\ VE x /\ HS x /\ XK x /\ (((1 : Nat) <= JI x /\ JI x <= (40 : Nat)) /\ XG a /\ EZ a <= (↑(JI x) : Int)) /\ WV
 x a = Tb x a /\ (∀ (i : Nat), i < WV x a -> (So x a i).lo = (UN x a i).lo /\ (So x a i).hi = (UN x a i).hi) /\ HX x /\ HD x /\ HM x /\ HK x /\
 HU x /\ Ee x /\ Fu x /\ Eb x /\ Jh x /\ HL x /\ AT = AT /\ Ej x /\ HS x /\ XQ x /\ HX x /\ HD x /\ HM x /\ HK x /\ HU x
 /\ XF x /\ YE x /\ VK x /\ UX x /\ HL x /\ AT = AT /\ VE x /\ HS x /\ XK x /\ WV x a = IY x /\ (1 : Nat) <= IY x /\ IY x <= (40 :
 Nat)) /\ bif (KF (Dk.mk (Cht.mk (AH x.a).c.p (AH x.a).c.base (AH x.a).c.scale (AH x.a).c.off (Gx x) (LL x)) (AH x.a).st (AH x.a).sp) (UT x a)).all IL then (rP a x /\
 Ip x a /\ Fl x a /\ Md x a) /\ ((XG a /\ EZ a < (↑(stgL x.a.c).length : Int)) /\ Ph x a = Ph x a /\ To x a = To x a /\ Nj x a = Nj
 x a /\ Og x a = Og x a /\ true = true) /\ ∃ (a_1 : Nat), (Fn.yield l = Fn.yield l /\ Od x /\ RU a_1 a /\ x.t = x.t /\ CR /\ CR /\ MZ x /\ MW x /\ ML x /\
 MI x /\ (IS x.a x.t a_1).s.lo = (Oq x a).lo /\ (IS x.a x.t a_1).s.hi = (Oq x a).hi /\ (IS x.a x.t a_1).m = true /\ ME x) /\ Pf a_1 x a else ∃ (a_1 : Nat), (Fn.yield l =
 Fn.yield l /\ Od x /\ RU a_1 a /\ x.t = x.t /\ CR /\ CR /\ MZ x /\ MW x /\ ML x /\ MI x /\ (IS x.a x.t a_1).s.lo = (IS x.a x.t a).s.lo /\ (IS x.a x.t a_1).s.hi
 = (IS x.a x.t a).s.hi /\ (IS x.a x.t a_1).m = (IS x.a x.t a).m /\ ME x) /\ Pf a_1 x a
abbrev La (x : CZI) (a : Nat) : Span × Int := DS (Mn x a)
abbrev Mj (x : CZI) (a : Nat) : Span := (La x a).fst
abbrev Wd (x : CZI) (a : Nat) : Span × Int := DS (mC x a)
abbrev Mx (x : CZI) (a : Nat) : Span := (Wd x a).fst
theorem CJF (x : CZI) : (CAO x) = ((x.a.c.p.lo = x.a.c.p.lo /\ x.a.c.p.hi = x.a.c.p.hi /\ x.a.c.base = x.a.c.base /\ x.a.c.scale = x.a.c.scale /\ x.a.c.off = x.a.c.off /\ fS x = x.a.c.ms.length /\ (∀ (i : Nat),
 i < fS x -> (ABT x i).pl = (gD x.a.c.ms i).pl /\ (ABT x i).ht = (gD x.a.c.ms i).ht) /\ cY x = x.a.c.ns.length /\ (∀ (i : Nat), i < cY x -> (Zo x i).mi = (gD x.a.c.ns i).mi /\ (ACV
 x i).lo = (gD x.a.c.ns i).t.lo /\ (ACV x i).hi = (gD x.a.c.ns i).t.hi /\ (ABP x i).lo = (gD x.a.c.ns i).s.lo /\ (ABP x i).hi = (gD x.a.c.ns i).s.hi) /\ cG x = x.a.z.length /\ (∀ (i : Nat), i <
 cG x -> gD (dT x) i = gD x.a.z i) /\ (fS x < (4611686018427387904 : Nat) /\ cY x < (4611686018427387904 : Nat) /\ cG x < (4611686018427387904 : Nat)) /\ AM (pJ x) = (0 : Int)) /\
 (∃ (a : Nat), ((↑x.a.c.ms.length : Int) = (↑(sL x) : Int) /\ qJ a /\ x.t = x.t /\ CR /\ CR /\ (CB x.a).length = sL x /\ (∀ (i : Nat), i < (CB x.a).length -> (gD (CB x.a) i).lo =
 (sD x i).lo /\ (gD (CB x.a) i).hi = (sD x i).hi) /\ (stgL x.a.c).length = (lA x).length /\ (∀ (i : Nat), kW i x -> (gD (stgL x.a.c) i).lo = (qH x i).lo /\ (gD (stgL x.a.c) i).hi =
 (qH x i).hi) /\ (GS x.a x.t a).s.lo = (0 : Int) /\ (GS x.a x.t a).s.hi = (0 : Int) /\ (GS x.a x.t a).m = false /\ (AH x.a).c.p.lo = (pT x).lo /\ (AH x.a).c.p.hi = (pT x).hi /\ (AH
 x.a).c.base = (IZ x).base /\ (AH x.a).c.scale = (IZ x).scale /\ (AH x.a).c.off = (IZ x).off /\ (AH x.a).c.ms.length = (oX x).length /\ (∀ (i : Nat), Hg i x -> MH x i =
 (iB x i).pl /\ MC x i = (iB x i).ht) /\ (AH x.a).c.ns.length = (SP x).length /\ (∀ (i : Nat), Ho i x -> LU x i = (Es x i).mi /\ MF x i = (mR x i).lo /\
 MO x i = (mR x i).hi /\ MG x i = (tP x i).lo /\ LH x i = (tP x i).hi) /\ (∀ (i : Nat), i < (40 : Nat) -> (AH x.a).sp i = (SY x).sp i) /\ AT = AT /\ (∀ (n : Int), hasN
 (AH x.a).c.ns n = hasN (SP x) n) /\ (∀ (n : Int), (AH x.a).st n = (SY x).st n) /\ ∀ (n : Int), (ntOf (AH x.a).c.ns n).mi = (Jg x n).mi /\ (ntOf (AH x.a).c.ns n).t.lo = (oO x n).lo /\
 (ntOf (AH x.a).c.ns n).t.hi = (oO x n).hi /\ (ntOf (AH x.a).c.ns n).s.lo = (nU x n).lo /\ (ntOf (AH x.a).c.ns n).s.hi = (nU x n).hi) /\ a.le x.a.c.ms.length) /\ ∀ (a : Nat), a.le x.a.c.ms.length
 -> bif decide ((↑a : Int) < (↑x.a.c.ms.length : Int)) then (qE a x /\ qE a x) /\ bif GT x.t (gD (CB x.a) a).lo (gD (CB x.a) a).hi then (rP a x /\ Ip x a /\ Fl x a /\ jU x a) /\
 ∃ (a_2 : Nat), (qY x /\ RU a_2 a /\ x.t = x.t /\ CR /\ CR /\ MZ x /\ MW x /\ ML x /\ MI x /\ (GS x.a x.t a_2).s.lo = (kL x a).lo /\ (GS x.a x.t a_2).s.hi
 = (kL x a).hi /\ (GS x.a x.t a_2).m = true /\ ME x) /\ jO a_2 x a else ∃ (a_2 : Nat), (qY x /\ RU a_2 a /\ x.t = x.t /\ CR /\ CR /\ MZ x /\ MW x /\
 ML x /\ MI x /\ (GS x.a x.t a_2).s.lo = (GS x.a x.t a).s.lo /\ (GS x.a x.t a_2).s.hi = (GS x.a x.t a).s.hi /\ (GS x.a x.t a_2).m = (GS x.a x.t a).m /\ ME x) /\ jO a_2 x a else bif
 GT x.t (-100000000 : Int) (100000000 : Int) then (HX x /\ HD x /\ HM x /\ HK x /\ HU x /\ Ee x /\ Fu x /\ Eb x /\ Jh x /\ HL x /\ AT = AT /\
 Ej x /\ HS x /\ XQ x /\ HX x /\ HD x /\ HM x /\ HK x /\ HU x /\ XF x /\ YE x /\ VK x /\ UX x /\ HL x /\ AT = AT /\
 VE x /\ HS x /\ XK x) /\ ∀ (l : Nat), (∃ (a_2 : Nat), (Fn.yield l = Fn.yield l /\ OF x = IntKind.i64.wrap ((↑(AH x.a).c.ms.length : Int) - (1 : Int)) /\ qJ a_2 /\ x.t = x.t /\
 CR /\ CR /\ MZ x /\ MW x /\ ML x /\ MI x /\ (IS x.a x.t a_2).s.lo = (GS x.a x.t a).s.lo /\ (IS x.a x.t a_2).s.hi = (GS x.a x.t a).s.hi /\ (IS x.a x.t a_2).m = (GS x.a
 x.t a).m /\ ME x) /\ YA a_2 x) /\ ∀ (a : Nat), YA a x -> bif decide ((↑a : Int) < OF x) then ((XG a /\ EZ a < (↑(AH x.a).c.ms.length : Int)) /\ RR a /\ (↑a : Int) <
 (↑(AH x.a).c.ms.length : Int)) /\ (RR a /\ (↑a : Int) < (↑(40 : Nat) : Int)) /\ a.succ.le (40 : Nat) /\ bif (AH x.a).sp a then Xv l x a else Xv l x a else (Ox x a /\ Qx x a /\
 Yc x a /\ Md x a) /\ (DS (Dd x)).fst.lo = (Mj x a).lo /\ (DS (Dd x)).fst.hi = (Mj x a).hi /\ (DS (Dd x)).snd = (La x a).snd else (tM x a /\ iA x a /\
 sI x a /\ jU x a) /\ (DS (Dd x)).fst.lo = (Mx x a).lo /\ (DS (Dd x)).fst.hi = (Mx x a).hi /\ (DS (Dd x)).snd = (Wd x a).snd) := by kernel_rfl
def BUD (x : CZI) : Prop := AW Try.prog BWQ uY (AK uY) (xCZI x) (AF []) (.tup [.d (BT zSp), .int (AM x.a)]) [] [] []
theorem CDU (x : CZI) : (BUD x) = ((x.a.c.p.lo = x.a.c.p.lo /\ x.a.c.p.hi = x.a.c.p.hi /\ x.a.c.base = x.a.c.base /\ x.a.c.scale = x.a.c.scale /\ x.a.c.off = x.a.c.off /\ (AE x.a.c.ms.length λ (i : Nat) => gD
 x.a.c.ms i).length = x.a.c.ms.length /\ (∀ (i : Nat), i < (AE x.a.c.ms.length λ (i : Nat) => gD x.a.c.ms i).length -> (gD (AE x.a.c.ms.length λ (i : Nat) => gD x.a.c.ms i) i).pl = (gD x.a.c.ms i).pl /\ (gD (AE
 x.a.c.ms.length λ (i : Nat) => gD x.a.c.ms i) i).ht = (gD x.a.c.ms i).ht) /\ (AE x.a.c.ns.length λ (i : Nat) => gD x.a.c.ns i).length = x.a.c.ns.length /\ (∀ (i : Nat), i < (AE x.a.c.ns.length λ (i : Nat) => gD
 x.a.c.ns i).length -> (gD (AE x.a.c.ns.length λ (i : Nat) => gD x.a.c.ns i) i).mi = (gD x.a.c.ns i).mi /\ (gD (AE x.a.c.ns.length λ (i : Nat) => gD x.a.c.ns i) i).t.lo = (gD x.a.c.ns i).t.lo /\ (gD (AE
 x.a.c.ns.length λ (i : Nat) => gD x.a.c.ns i) i).t.hi = (gD x.a.c.ns i).t.hi /\ (gD (AE x.a.c.ns.length λ (i : Nat) => gD x.a.c.ns i) i).s.lo = (gD x.a.c.ns i).s.lo /\ (gD (AE x.a.c.ns.length λ (i : Nat) => gD
 x.a.c.ns i) i).s.hi = (gD x.a.c.ns i).s.hi) /\ (AE x.a.z.length λ (i : Nat) => gD x.a.z i).length = x.a.z.length /\ (∀ (i : Nat), i < (AE x.a.z.length λ (i : Nat) => gD x.a.z i).length -> gD (AE x.a.z.length λ (i :
 Nat) => gD x.a.z i) i = gD x.a.z i) /\ ((AE x.a.c.ms.length λ (i : Nat) => gD x.a.c.ms i).length < (4611686018427387904 : Nat) /\ (AE x.a.c.ns.length λ (i : Nat) => gD x.a.c.ns i).length < (4611686018427387904 : Nat)
 /\ (AE x.a.z.length λ (i : Nat) => gD x.a.z i).length < (4611686018427387904 : Nat)) /\ AM (CZ.mk (Cht.mk x.a.c.p x.a.c.base x.a.c.scale x.a.c.off (AE x.a.c.ms.length λ (i : Nat) => gD x.a.c.ms i) (AE
 x.a.c.ns.length λ (i : Nat) => gD x.a.c.ns i)) (AE x.a.z.length λ (i : Nat) => gD x.a.z i)) ≠ (0 : Int)) /\ bif AM (CZ.mk (Cht.mk x.a.c.p x.a.c.base x.a.c.scale x.a.c.off (AE x.a.c.ms.length λ (i : Nat) => gD
 x.a.c.ms i) (AE x.a.c.ns.length λ (i : Nat) => gD x.a.c.ns i)) (AE x.a.z.length λ (i : Nat) => gD x.a.z i)) != (0 : Int) then Int.ofNat (0 : Nat) = Int.ofNat (0 : Nat) /\ Int.ofNat (0 : Nat) = Int.ofNat (0 : Nat) /\
 AM x.a = AM (CZ.mk (Cht.mk x.a.c.p x.a.c.base x.a.c.scale x.a.c.off (AE x.a.c.ms.length λ (i : Nat) => gD x.a.c.ms i) (AE x.a.c.ns.length λ (i : Nat) => gD x.a.c.ns i)) (AE x.a.z.length λ (i : Nat) => gD
 x.a.z i)) else False) := by kernel_rfl
theorem CNO (x : CZI) (h1 : x.a.c.ms.length < 4611686018427387904 /\ x.a.c.ns.length < 4611686018427387904 /\ x.a.z.length < 4611686018427387904) (c0 : AM x.a = 0) : CAO x := by
 have tl := Fx c0
 have sl := RT x.a.c
 have hl := EB (XD c0).1
 obtain ⟨_, ⟨n1, n2⟩, _⟩ := hl
 have w1 : wr ((x.a.c.ms.length : Int) - 1) = ((x.a.c.ms.length - 1 : Nat) : Int) := by unfold wr; rw [CP (by omega) (by omega)]; omega
 have w2 : IntKind.i64.wrap ((x.a.c.ms.length : Int) - 1) = ((x.a.c.ms.length - 1 : Nat) : Int) := w1
 have po : ∀ g : Nat, (KF (AH x.a) (Fq (CB x.a) ((g : Int) + 1) (IntKind.i64.wrap (x.t - 1)) (IntKind.i64.wrap (x.t + 1)))).all IL = Uv x.a x.t g := λ _ => rfl
 rw [CJF]; delta dC fS ABT Yf cY Zo ACV ABP dT cG iH pJ SY iP sL qJ CR sD lA kW qH IZ pT oX Hg MH iB MC SP Ho LU Es iS MF mR MO lS MG tP LH Jg oO nU RR qE rP Ip Fl tM iA sI jU qY EZ RU MZ MW ML MI mC kL HX HD HM HK HU HL HS ME iF jO Gx IY Ee lF pV iW Fu LL Je Eb Gn kM mT jA pX jW qD lX Jh sQ Ej Gj oR tL kP oT kY hJ tH XQ XF YE VK UX VE XK OF YA XG YJ JI Sm WY UO Mf Tb UN UT WV So Ox Qx Yc Md WE Ph To Mn Nq WA Nj Og Od Oq We Pf Xv La Mj Wd Mx; simp only [CC, eq_self, implies_true, forall_const, BH, YR, Xx, TE, Rn, BOZ, CGW]; simp only [tl, sl, w1, w2, Be]
 have e1 : ∀ k, GT x.t (gD (CB x.a) k).lo (gD (CB x.a) k).hi = true -> GS x.a x.t (k + 1) = KG (GS x.a x.t k) (gD (stgL x.a.c) k) := λ k h => by
  show (bif GT x.t (gD (CB x.a) k).lo (gD (CB x.a) k).hi then _ else _) = _; rw [h]; rfl
 have e0 : ∀ k, GT x.t (gD (CB x.a) k).lo (gD (CB x.a) k).hi = false -> GS x.a x.t (k + 1) = GS x.a x.t k := λ k h => by
  show (bif GT x.t (gD (CB x.a) k).lo (gD (CB x.a) k).hi then _ else _) = _; rw [h]; rfl
 have f1 : ∀ g, Uv x.a x.t g = true -> IS x.a x.t (g + 1) = KG (KG (IS x.a x.t g) (gD (stgL x.a.c) g)) (gD (stgL x.a.c) (g + 1)) := λ g h => by
  show (bif Uv x.a x.t g then _ else _) = _; rw [h]; rfl
 have f0 : ∀ g, Uv x.a x.t g = false -> IS x.a x.t (g + 1) = IS x.a x.t g := λ g h => by
  show (bif Uv x.a x.t g then _ else _) = _; rw [h]; rfl
 refine ⟨⟨h1, c0⟩, ⟨0, ⟨trivial, rfl, rfl, rfl, rfl⟩, Nat.zero_le _⟩, λ k hk => ⟨λ hlt => ⟨by omega, λ hin => ⟨by omega, k + 1, ⟨(FE (by omega)).symm, ?_, ?_, ?_⟩, by omega, by omega⟩, λ hin => ⟨k + 1, ⟨(FE (by omega)).symm, ?_, ?_, ?_⟩, by omega, by omega⟩⟩, λ hge => ⟨λ ht => ⟨⟨0, ⟨trivial, rfl, ?_, ?_, ?_⟩, Nat.zero_le _⟩, λ g hg => ⟨λ hlt => ?_, λ hgg => ?_⟩⟩, λ ht => ?_⟩⟩⟩
 ·rw [e1 k hin]
 ·rw [e1 k hin]
 ·rw [e1 k hin]; rfl
 ·rw [e0 k hin]
 ·rw [e0 k hin]
 ·rw [e0 k hin]
 ·obtain rfl : k = x.a.c.ms.length := by omega
  rfl
 ·obtain rfl : k = x.a.c.ms.length := by omega
  rfl
 ·obtain rfl : k = x.a.c.ms.length := by omega
  rfl
 ·have hlt : g < x.a.c.ms.length - 1 := by omega
  have ew : IntKind.i64.wrap ((g : Int) + 1) = (g : Int) + 1 := by rw [FE (by omega)]; rfl
  have tn : ((g : Int) + 1).toNat = g + 1 := by omega
  have ec : ((g + 1 : Nat) : Int) = (g : Int) + 1 := rfl
  simp only [ew, tn, po]
  have body : ((((0 : Nat) < x.a.c.ms.length /\ x.a.c.ms.length <= 40) /\ 0 <= (g : Int) + 1 /\ (g : Int) + 1 <= x.a.c.ms.length)) := ⟨⟨by omega, by omega⟩, by omega, by omega⟩
  refine ⟨⟨⟨by omega, by omega⟩, by omega, by omega⟩, ⟨by omega, by omega⟩, by omega, λ _ => ?_, λ _ => ?_⟩ <;>
  ·refine ⟨⟨body, trivial, by omega, n2⟩, λ h => ⟨⟨by omega, by omega⟩, ⟨by omega, by omega⟩, g + 1, ⟨ec, ?_, ?_, ?_⟩, by omega, by omega⟩, λ h => ⟨g + 1, ⟨ec, ?_, ?_, ?_⟩, by omega, by omega⟩⟩
   ·rw [f1 g h]
   ·rw [f1 g h]
   ·rw [f1 g h]; rfl
   ·rw [f0 g h]
   ·rw [f0 g h]
   ·rw [f0 g h]
 ·obtain rfl : g = x.a.c.ms.length - 1 := by omega
  have : Dd x = IS x.a x.t (x.a.c.ms.length - 1) := by unfold Dd; rw [ht]; rfl
  rw [this]; exact ⟨rfl, rfl, rfl⟩
 ·obtain rfl : k = x.a.c.ms.length := by omega
  have : Dd x = GS x.a x.t x.a.c.ms.length := by unfold Dd; rw [ht]; rfl
  rw [this]; exact ⟨rfl, rfl, rfl⟩
def OZ (x : CZI) : Nat -> Hul × Bool
 | 0 => (zHul, false)
 | k + 1 => bif (OZ x k).2 then OZ x k else bif decide ((gD (stgL x.a.c) k).hi >= x.t) then (KG (OZ x k).1 (gD (CB x.a) k), decide ((gD (stgL x.a.c) k).lo >= x.t)) else OZ x k
structure FsR where
 s : Span
 b : Bool
 e : Int
def fsV (x : CZI) : FsR := ⟨(DS (OZ x x.a.c.ms.length).1).1, bif (OZ x x.a.c.ms.length).2 then (DS (OZ x x.a.c.ms.length).1).2 == 0 else false, (DS (OZ x x.a.c.ms.length).1).2⟩
def UG (x : CZI) : FsR := bif AM x.a == 0 then fsV x else ⟨⟨0, 0⟩, false, AM x.a⟩
def C_First : Ctr := { α := CZI, xs := xCZI, val := λ x => .tup [.d (BT (UG x).s), .bool (UG x).b, .int (UG x).e], keep := λ _ => [], pre := λ x => [x.a.c.ms.length < 4611686018427387904 /\ x.a.c.ns.length < 4611686018427387904 /\ x.a.z.length < 4611686018427387904] }
def fs7 (x : CZI) : Shape := { α := Nat, dflt := 0, T := λ k => ⟨[(2, .int x.t), (6, .bptr 202 0), (10, .d (AV (CB x.a))), (11, .d (AV (stgL x.a.c))), (13, .bptr 206 0), (14, .bool (OZ x k).2), (15, .int k)], [(202, .live (.box [.int 0, .int 0])), (206, .live (hlB (OZ x k).1))]⟩, inv := λ k => k <= x.a.c.ms.length, meas := λ k => x.a.c.ms.length - k, first := [(202, 1016), (206, 5000)] }
def CBR (x : CZI) : Ann := { ann 69 [(TA, C_rdO.spec dCZ), (AJH, C_hadd.spec dHuS), (vG, C_who.spec dHu1)] with loops := λ id => if id = 7 then some [fs7 x] else none }
def BUW : Ann := ann 69 [(TA, C_rdX.spec dCZ)]
def CCW (x : CZI) : Prop := AW Try.prog (CBR x) zL (AK zL) (xCZI x) (AF []) (.tup [.d (BT (fsV x).s), .bool (fsV x).b, .int (fsV x).e]) [] [] []
abbrev fZ (x : CZI) : List Mk := AE x.a.c.ms.length λ (i : Nat) => gD x.a.c.ms i
abbrev bM (x : CZI) : Nat := (fZ x).length
abbrev P7 (x : CZI) (i : Nat) : Mk := gD (fZ x) i
abbrev Yn (x : CZI) : List Nt := AE x.a.c.ns.length λ (i : Nat) => gD x.a.c.ns i
abbrev dE (x : CZI) : Nat := (Yn x).length
abbrev gI (x : CZI) (i : Nat) : Nt := gD (Yn x) i
abbrev ALY (x : CZI) (i : Nat) : Span := (gI x i).t
abbrev P4 (x : CZI) (i : Nat) : Span := (gI x i).s
abbrev bK (x : CZI) : List Int := AE x.a.z.length λ (i : Nat) => gD x.a.z i
abbrev bG (x : CZI) : Nat := (bK x).length
abbrev sG (x : CZI) : Cht := Cht.mk x.a.c.p x.a.c.base x.a.c.scale x.a.c.off (fZ x) (Yn x)
abbrev lE (x : CZI) : CZ := CZ.mk (sG x) (bK x)
abbrev pS (x : CZI) : List Span := (AU (AH (lE x))).fst
abbrev iQ (x : CZI) (i : Nat) : Span := gD (pS x) i
abbrev oZ (x : CZI) : List Span := stgL (sG x)
abbrev hY (i : Nat) (x : CZI) : Prop := i < (stgL x.a.c).length
abbrev lC (x : CZI) (i : Nat) : Span := gD (oZ x) i
abbrev JH : Prop := Int.ofNat (0 : Nat) = Int.ofNat (0 : Nat)
abbrev oY (a : Nat) (x : CZI) : Prop := (↑a : Int) < (↑(CB x.a).length : Int)
abbrev nQ (a : Nat) : Prop := (0 : Int) <= (↑a : Int)
abbrev kT (a : Nat) (x : CZI) : Prop := nQ a /\ (↑a : Int) < (↑(stgL x.a.c).length : Int)
abbrev rC (x : CZI) (a : Nat) : Prop := (gD (CB x.a) a).lo = (gD (CB x.a) a).lo
abbrev qZ (x : CZI) (a : Nat) : Prop := (gD (CB x.a) a).hi = (gD (CB x.a) a).hi
abbrev nY (x : CZI) (a : Nat) : Prop := (OZ x a).fst.s.lo = (OZ x a).fst.s.lo
abbrev lD (x : CZI) (a : Nat) : Prop := (OZ x a).fst.s.hi = (OZ x a).fst.s.hi
abbrev rX (x : CZI) (a : Nat) : Prop := (OZ x a).fst.m = (OZ x a).fst.m
abbrev pR (x : CZI) (a : Nat) : Prop := nY x a /\ lD x a /\ rX x a
abbrev rE (x : CZI) : Prop := (CB x.a).length = (CB x.a).length
abbrev nN (x : CZI) : Prop := ∀ (i : Nat), i < (CB x.a).length -> rC x i /\ qZ x i
abbrev qA (x : CZI) : Prop := (stgL x.a.c).length = (stgL x.a.c).length
abbrev pF (x : CZI) : Prop := ∀ (i : Nat), hY i x -> (gD (stgL x.a.c) i).lo = (gD (stgL x.a.c) i).lo /\ (gD (stgL x.a.c) i).hi = (gD (stgL x.a.c) i).hi
abbrev pE (a : Nat) (a1 : Nat) : Prop := (↑a : Int) = IntKind.i64.wrap ((↑a1 : Int) + (1 : Int))
abbrev mH (x : CZI) (a : Nat) : Hul := Hul.mk (OZ x a).fst.s (OZ x a).fst.m
abbrev kS (x : CZI) (a : Nat) : Span := (KG (mH x a) (gD (CB x.a) a)).s
abbrev hZ (x : CZI) (a : Nat) : Nat := x.a.c.ms.length - a
abbrev sS (a : Nat) (x : CZI) (a1 : Nat) : Prop := a.le x.a.c.ms.length /\ hZ x a < hZ x a1
abbrev pL (x : CZI) (a : Nat) : Span × Int := DS (mH x a)
abbrev lP (x : CZI) (a : Nat) : Span := (pL x a).fst
abbrev rQ (x : CZI) (a : Nat) : Int := (pL x a).snd
theorem CIT (x : CZI) : (CCW x) = ((x.a.c.p.lo = x.a.c.p.lo /\ x.a.c.p.hi = x.a.c.p.hi /\ x.a.c.base = x.a.c.base /\ x.a.c.scale = x.a.c.scale /\ x.a.c.off = x.a.c.off /\ bM x = x.a.c.ms.length /\ (∀ (i : Nat),
 i < bM x -> (P7 x i).pl = (gD x.a.c.ms i).pl /\ (P7 x i).ht = (gD x.a.c.ms i).ht) /\ dE x = x.a.c.ns.length /\ (∀ (i : Nat), i < dE x -> (gI x i).mi = (gD x.a.c.ns i).mi /\ (ALY
 x i).lo = (gD x.a.c.ns i).t.lo /\ (ALY x i).hi = (gD x.a.c.ns i).t.hi /\ (P4 x i).lo = (gD x.a.c.ns i).s.lo /\ (P4 x i).hi = (gD x.a.c.ns i).s.hi) /\ bG x = x.a.z.length /\ (∀ (i : Nat), i <
 bG x -> gD (bK x) i = gD x.a.z i) /\ (bM x < (4611686018427387904 : Nat) /\ dE x < (4611686018427387904 : Nat) /\ bG x < (4611686018427387904 : Nat)) /\ AM (lE x) = (0 : Int)) /\
 (∃ (a : Nat), (x.t = x.t /\ (CB x.a).length = (pS x).length /\ (∀ (i : Nat), i < (CB x.a).length -> (gD (CB x.a) i).lo = (iQ x i).lo /\ (gD (CB x.a) i).hi = (iQ x i).hi) /\ (stgL x.a.c).length =
 (oZ x).length /\ (∀ (i : Nat), hY i x -> (gD (stgL x.a.c) i).lo = (lC x i).lo /\ (gD (stgL x.a.c) i).hi = (lC x i).hi) /\ (OZ x a).snd = false /\ (↑a : Int) = (0 : Int) /\ JH /\
 JH /\ (OZ x a).fst.s.lo = (0 : Int) /\ (OZ x a).fst.s.hi = (0 : Int) /\ (OZ x a).fst.m = false) /\ a.le x.a.c.ms.length) /\ ∀ (a : Nat), a.le x.a.c.ms.length -> bif bif decide (oY a x) then !(OZ x a).snd
 else false then kT a x /\ bif decide ((gD (stgL x.a.c) a).hi >= x.t) then ((nQ a /\ oY a x) /\ rC x a /\ qZ x a /\ pR x a) /\ kT a x /\ ∃ (a_2 : Nat), (x.t = x.t /\
 rE x /\ nN x /\ qA x /\ pF x /\ (OZ x a_2).snd = decide ((gD (stgL x.a.c) a).lo >= x.t) /\ pE a_2 a /\ JH /\ JH /\ (OZ x a_2).fst.s.lo = (kS x a).lo /\ (OZ x
 a_2).fst.s.hi = (kS x a).hi /\ (OZ x a_2).fst.m = true) /\ sS a_2 x a else ∃ (a_2 : Nat), (x.t = x.t /\ rE x /\ nN x /\ qA x /\ pF x /\ (OZ x a_2).snd = (OZ x a).snd /\
 pE a_2 a /\ JH /\ JH /\ (OZ x a_2).fst.s.lo = (OZ x a).fst.s.lo /\ (OZ x a_2).fst.s.hi = (OZ x a).fst.s.hi /\ (OZ x a_2).fst.m = (OZ x a).fst.m) /\ sS a_2 x a else (nY x a /\
 lD x a /\ rX x a /\ pR x a) /\ (fsV x).s.lo = (lP x a).lo /\ (fsV x).s.hi = (lP x a).hi /\ ((fsV x).b = bif (OZ x a).snd then rQ x a == (0 : Int) else false) /\ (fsV x).e =
 rQ x a) := by kernel_rfl
def BUR (x : CZI) : Prop := AW Try.prog BUW zL (AK zL) (xCZI x) (AF []) (.tup [.d (BT zSp), .bool false, .int (AM x.a)]) [] [] []
theorem CDV (x : CZI) : (BUR x) = ((x.a.c.p.lo = x.a.c.p.lo /\ x.a.c.p.hi = x.a.c.p.hi /\ x.a.c.base = x.a.c.base /\ x.a.c.scale = x.a.c.scale /\ x.a.c.off = x.a.c.off /\ (AE x.a.c.ms.length λ (i : Nat) => gD
 x.a.c.ms i).length = x.a.c.ms.length /\ (∀ (i : Nat), i < (AE x.a.c.ms.length λ (i : Nat) => gD x.a.c.ms i).length -> (gD (AE x.a.c.ms.length λ (i : Nat) => gD x.a.c.ms i) i).pl = (gD x.a.c.ms i).pl /\ (gD (AE
 x.a.c.ms.length λ (i : Nat) => gD x.a.c.ms i) i).ht = (gD x.a.c.ms i).ht) /\ (AE x.a.c.ns.length λ (i : Nat) => gD x.a.c.ns i).length = x.a.c.ns.length /\ (∀ (i : Nat), i < (AE x.a.c.ns.length λ (i : Nat) => gD
 x.a.c.ns i).length -> (gD (AE x.a.c.ns.length λ (i : Nat) => gD x.a.c.ns i) i).mi = (gD x.a.c.ns i).mi /\ (gD (AE x.a.c.ns.length λ (i : Nat) => gD x.a.c.ns i) i).t.lo = (gD x.a.c.ns i).t.lo /\ (gD (AE
 x.a.c.ns.length λ (i : Nat) => gD x.a.c.ns i) i).t.hi = (gD x.a.c.ns i).t.hi /\ (gD (AE x.a.c.ns.length λ (i : Nat) => gD x.a.c.ns i) i).s.lo = (gD x.a.c.ns i).s.lo /\ (gD (AE x.a.c.ns.length λ (i : Nat) => gD
 x.a.c.ns i) i).s.hi = (gD x.a.c.ns i).s.hi) /\ (AE x.a.z.length λ (i : Nat) => gD x.a.z i).length = x.a.z.length /\ (∀ (i : Nat), i < (AE x.a.z.length λ (i : Nat) => gD x.a.z i).length -> gD (AE x.a.z.length λ (i :
 Nat) => gD x.a.z i) i = gD x.a.z i) /\ ((AE x.a.c.ms.length λ (i : Nat) => gD x.a.c.ms i).length < (4611686018427387904 : Nat) /\ (AE x.a.c.ns.length λ (i : Nat) => gD x.a.c.ns i).length < (4611686018427387904 : Nat)
 /\ (AE x.a.z.length λ (i : Nat) => gD x.a.z i).length < (4611686018427387904 : Nat)) /\ AM (CZ.mk (Cht.mk x.a.c.p x.a.c.base x.a.c.scale x.a.c.off (AE x.a.c.ms.length λ (i : Nat) => gD x.a.c.ms i) (AE
 x.a.c.ns.length λ (i : Nat) => gD x.a.c.ns i)) (AE x.a.z.length λ (i : Nat) => gD x.a.z i)) ≠ (0 : Int)) /\ bif AM (CZ.mk (Cht.mk x.a.c.p x.a.c.base x.a.c.scale x.a.c.off (AE x.a.c.ms.length λ (i : Nat) => gD
 x.a.c.ms i) (AE x.a.c.ns.length λ (i : Nat) => gD x.a.c.ns i)) (AE x.a.z.length λ (i : Nat) => gD x.a.z i)) != (0 : Int) then Int.ofNat (0 : Nat) = Int.ofNat (0 : Nat) /\ Int.ofNat (0 : Nat) = Int.ofNat (0 : Nat) /\
 false = false /\ AM x.a = AM (CZ.mk (Cht.mk x.a.c.p x.a.c.base x.a.c.scale x.a.c.off (AE x.a.c.ms.length λ (i : Nat) => gD x.a.c.ms i) (AE x.a.c.ns.length λ (i : Nat) => gD x.a.c.ns i)) (AE x.a.z.length fun
 (i : Nat) => gD x.a.z i)) else False) := by kernel_rfl
theorem ATJ : AL Try.prog AOB (C_Stage.spec dCZI) := okT C_Stage (λ (x : CZI) h => by
 have h1 : x.a.c.ms.length < 4611686018427387904 /\ x.a.c.ns.length < 4611686018427387904 /\ x.a.z.length < 4611686018427387904 := h
 by_cases c0 : AM x.a = 0
 ·have e : C_Stage.val x = .tup [.d (BT (DS (Dd x)).1), .int (DS (Dd x)).2] := by
   show AVal.tup [.d (BT (BD x).1), .int (BD x).2] = _
   unfold BD; rw [c0]; rfl
  rw [e]
  exact QX (A := CDA x) (L := []) (keep := []) (ren := []) (fz := []) BVW (by kernel_rfl) (AD BRL (AD BJI (AD BTJ (AD CBK (AD CDJ (AD BZY (AD BYM AI))))))) (CNO x h1 c0) (CQJ gA (itSg x) rfl rfl AI BWV (by kernel_rfl) (by kernel_rfl))
 ·have c0' : (AM x.a == 0) = false := by simpa using c0
  have e : C_Stage.val x = .tup [.d (BT zSp), .int (AM x.a)] := by
   show AVal.tup [.d (BT (BD x).1), .int (BD x).2] = _
   unfold BD; rw [c0']; rfl
  rw [e]
  refine QX (A := BWQ) (L := []) (keep := []) (ren := []) (fz := []) BVW (by kernel_rfl) (AD BQM AI) ?_
  show BUD x; rw [CDU]; simp only [CC, eq_self, implies_true, forall_const, BH, TE]
  exact ⟨⟨h1, c0⟩, λ h => by simp [c0] at h⟩) _
theorem CBP {x : CZI} {k : Nat} (h : (OZ x k).2 = true) : ∀ d, OZ x (k + d) = OZ x k
 | 0 => rfl
 | d + 1 => by
  have ih := CBP h d
  show (bif (OZ x (k + d)).2 then OZ x (k + d) else _) = _
  rw [ih, h]; rfl
theorem CNG (x : CZI) (h1 : x.a.c.ms.length < 4611686018427387904 /\ x.a.c.ns.length < 4611686018427387904 /\ x.a.z.length < 4611686018427387904) (c0 : AM x.a = 0) : CCW x := by
 have tl := Fx c0
 have sl := RT x.a.c
 obtain ⟨_, ⟨n1, n2⟩, _⟩ := EB (XD c0).1
 rw [CIT]; delta fZ bM P7 Yn dE gI ALY P4 bK bG sG lE pS iQ oZ hY lC JH oY nQ kT rC qZ nY lD rX pR rE nN qA pF pE mH kS hZ sS pL lP rQ; simp only [CC, eq_self, implies_true, forall_const, BH, YR, Xx, TE, Rn, BOZ, CGW]; simp only [tl, sl]
 refine ⟨⟨h1, c0⟩, ⟨0, ⟨rfl, rfl, rfl, rfl, rfl⟩, Nat.zero_le _⟩, λ k hk => ⟨λ hc => ?_, λ hc => ?_⟩⟩
 ·have hlt : k < x.a.c.ms.length := by
   cases hd : decide ((k : Int) < x.a.c.ms.length) with
   | false => rw [hd] at hc; cases hc
   | true => have := of_decide_eq_true hd; omega
  have hs : (OZ x k).2 = false := by
   rw [decide_eq_true (show (k : Int) < x.a.c.ms.length by omega)] at hc
   cases hq : (OZ x k).2 with
   | false => rfl
   | true => rw [hq] at hc; cases hc
  refine ⟨by omega, λ h => ?_, λ h => ?_⟩
  ·have e : OZ x (k + 1) = (KG (OZ x k).1 (gD (CB x.a) k), decide ((gD (stgL x.a.c) k).lo >= x.t)) := by
    show (bif (OZ x k).2 then _ else bif decide _ then _ else _) = _
    rw [hs, decide_eq_true h]; rfl
   refine ⟨by omega, by omega, k + 1, ⟨?_, (FE (by omega)).symm, ?_, ?_, ?_⟩, by omega, by omega⟩ <;> rw [e] <;> rfl
  ·have e : OZ x (k + 1) = OZ x k := by
    show (bif (OZ x k).2 then _ else bif decide _ then _ else _) = _
    rw [hs, decide_eq_false h]; rfl
   refine ⟨k + 1, ⟨?_, (FE (by omega)).symm, ?_, ?_, ?_⟩, by omega, by omega⟩ <;> rw [e]
 ·have e : OZ x x.a.c.ms.length = OZ x k := by
   cases hq : (OZ x k).2 with
   | true =>
    obtain ⟨d, hd⟩ : ∃ d, x.a.c.ms.length = k + d := ⟨x.a.c.ms.length - k, by omega⟩
    rw [hd]; exact CBP hq d
   | false =>
    rw [hq] at hc
    cases hd : decide ((k : Int) < x.a.c.ms.length) with
    | true => rw [hd] at hc; cases hc
    | false =>
     have := of_decide_eq_false hd
     rw [show k = x.a.c.ms.length by omega]
  unfold fsV; rw [e]; exact ⟨rfl, rfl, rfl, rfl⟩
theorem CFM : AL Try.prog BRE (C_First.spec dCZI) := okT C_First (λ (x : CZI) h => by
 have h1 : x.a.c.ms.length < 4611686018427387904 /\ x.a.c.ns.length < 4611686018427387904 /\ x.a.z.length < 4611686018427387904 := h
 by_cases c0 : AM x.a = 0
 ·have e : C_First.val x = .tup [.d (BT (fsV x).s), .bool (fsV x).b, .int (fsV x).e] := by
   show AVal.tup [.d (BT (UG x).s), .bool (UG x).b, .int (UG x).e] = _
   unfold UG; rw [c0]; rfl
  rw [e]
  exact QX (A := CBR x) (L := []) (keep := []) (ren := []) (fz := []) BVG (by kernel_rfl) (AD BRL (AD BTJ (AD BYM AI))) (CNG x h1 c0)
 ·have c0' : (AM x.a == 0) = false := by simpa using c0
  have e : C_First.val x = .tup [.d (BT zSp), .bool false, .int (AM x.a)] := by
   show AVal.tup [.d (BT (UG x).s), .bool (UG x).b, .int (UG x).e] = _
   unfold UG; rw [c0']; rfl
  rw [e]
  refine QX (A := BUW) (L := []) (keep := []) (ren := []) (fz := []) BVG (by kernel_rfl) (AD BQM AI) ?_
  show BUR x; rw [CDV]; simp only [CC, eq_self, implies_true, forall_const, BH, TE]
  exact ⟨⟨h1, c0⟩, λ h => by simp [c0] at h⟩) _
end Go.Bal
