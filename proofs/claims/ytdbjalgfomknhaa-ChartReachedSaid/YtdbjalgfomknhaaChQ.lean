/- Package chart: Truths (a truth in which a mark has a time). -/
import Derived.Test.YtdbjalgfomknhaaChQ0
import Derived.Test.YtdbjalgfomknhaaChT4
import Derived.Test.YtdbjalgfomknhaaChT6
set_option linter.unusedVariables false
set_option linter.unusedSimpArgs false
namespace Go.Bal
open Go Go.Sym Go.Proofs
structure TrI where
 a : CZ
 m : Int
 t : Int
def dTrI : List AVal -> Heap -> Option (TrI × List (Nat × Nat) × List Nat)
 | [x, y, .d m, .d t], H => match CAS x H, BZN y H with
  | some (c, g), some (l, e) => some (⟨⟨c, l⟩, BV m, BV t⟩, [], g ++ e)
  | _, _ => none
 | _, _ => none
def xTrI (x : TrI) : List AVal := [.d (XK x.a.c), .d (BB x.a.z), .int x.m, .int x.t]
def UV (a : CZ) : List Span := CR (AB a) (DQ a.c)
def IC (x : TrI) : List Span := AF (UV x.a).length λ i => bif decide (i = x.m.toNat) then Ql (gD (UV x.a) x.m.toNat) ⟨x.t, x.t⟩ else gD (UV x.a) i
def PG (x : TrI) : List Span := CR (AB x.a) (IC x)
def To (x : TrI) : Nat -> Int
 | 0 => (gD (PG x) 0).lo
 | g + 1 => DD (gD (PG x) (g + 1)).lo (wr (To x g + (BM (AB x.a) g).lo))
def trS (x : TrI) (i : Nat) : Int := (FN x.a.c (i : Int)).lo
def CCM (x : TrI) : Prop := (x.a.c.ms.length < 4611686018427387904 /\ x.a.c.ns.length < 4611686018427387904 /\ x.a.z.length < 4611686018427387904) /\ AS x.a = 0 /\ 0 <= x.m /\ x.m < x.a.c.ms.length
def C_TruO : Ctr := { α := TrI, xs := xTrI, val := λ x => .tup [.agg [.own 0 1 0 x.a.c.ms.length, .own 1 1 0 x.a.c.ms.length, .d (BB x.a.z)], .int 0], keep := λ x => [(0, .live (.row 1 x.a.c.ms.length λ i => EU (To x i))), (1, .live (.row 1 x.a.c.ms.length λ i => EU (trS x i)))], pre := λ x => [CCM x /\ (PG x).all DZ = true] }
def C_TruX : Ctr := { α := TrI, xs := xTrI, val := λ x => .tup [.d (.agg [FL, FL, FL]), .int 5], keep := λ _ => [], pre := λ x => [CCM x /\ (PG x).all DZ = false] }
def trH (x : TrI) : List (Nat × HCell) := [(1016, .live (.box [.d FL, .d FL, .d FL])), (2096, .live (.box [.bptr 2032 0])), (2032, .live (dkB (AB x.a) 2033)), (2033, .live (dkM (AB x.a))), (7080, .live (.box [.d (AT (PG x))]))]
def trH0 (x : TrI) (l : List Span) : List (Nat × HCell) := [(1016, .live (.box [.d FL, .d FL, .d FL])), (2096, .live (.box [.bptr 2032 0])), (2032, .live (dkB (AB x.a) 2033)), (2033, .live (dkM (AB x.a))), (7016, .live (rowS l)), (7080, .live (.box [.own 7016 2 0 l.length]))]
def tr7 (x : TrI) : Shape := { α := One, dflt := default, T := λ _ => ⟨[(1, .d (BB x.a.z)), (2, .int x.m), (3, .int x.t), (8, .bptr 1016 0), (10, .bptr 2096 0), (12, .bptr 7080 0), (13, .bool ((UV x.a).all DZ))], trH0 x (UV x.a)⟩, inv := λ _ => True, meas := λ _ => 0 }
def tr10 (x : TrI) : Shape := { α := One, dflt := default, T := λ _ => ⟨[(1, .d (BB x.a.z)), (8, .bptr 1016 0), (10, .bptr 2096 0), (12, .bptr 7080 0)], trH0 x (IC x)⟩, inv := λ _ => True, meas := λ _ => 0 }
def tr13 (x : TrI) : Shape := { α := One, dflt := default, T := λ _ => ⟨[(1, .d (BB x.a.z)), (8, .bptr 1016 0), (10, .bptr 2096 0), (12, .bptr 7080 0)], trH x⟩, inv := λ _ => True, meas := λ _ => 0 }
def tr1 (x : TrI) (l : Nat) : Shape := { α := Nat, dflt := 0, T := λ k => ⟨[(0, .fn (.yield l) [] []), (1, .bptr 15016 0), (12, .int (wr ((x.a.c.ms.length : Int) - 1))), (13, .int k)], trH x ++ [(14192, .live (.box [.own 301 1 0 (k + 1), .own 302 1 0 (k + 1), .d (BB x.a.z)])), (301, .live (.row 1 (k + 1) λ i => EU (To x i))), (302, .live (.row 1 (k + 1) λ i => EU (trS x i))), (15016, .live (.box [.bptr 2032 0]))]⟩, inv := λ k => k <= x.a.c.ms.length - 1, meas := λ k => 50 - k, first := [(301, 14064), (302, 14128)], again := [(301, 18288), (302, 19128)] }
noncomputable def itTr (x : TrI) : IterAnn := { fn := RY, code := AL RY, live := [8, 10, 12, 14], ann := { base := λ id => 100000 + 1000 * (id + 1), Γ := Sym.look [], E := [1016, 2096, 2032, 2033, 7080, 14192, 15016], n := 66, inner := λ gs id => if id = 1 then some [tr1 x (gs.getD 0 0)] else none } }
noncomputable def DPA (x : TrI) : Ann := { ann 113 [(RZ, C_beg.spec dCZ), (sZ, s_in), (Ap, C_timO.spec Dh), (Gx, C_com.spec CRK), (HN, C_nar.spec dDkS), (Sw, C_stg.spec dDkI), (Y9, C_clI.spec dIs1), (AWB, C_gaps.spec Dh)] with mt := λ id => id == 17 || id == 18, iter := λ g => if g = LW then some (itTr x) else none, cut := λ id => if id = 7 then some [tr7 x] else if id = 10 then some [tr10 x] else if id = 13 then some [tr13 x] else none }
def DHL (x : TrI) : Prop := BA Try.prog (DPA x) Qq (AL Qq) (xTrI x) (AG []) (C_TruO.val x) (C_TruO.keep x) [(0, 301), (1, 302)] []
abbrev Z4 (x : TrI) : List Mk := AF x.a.c.ms.length λ (i : Nat) => gD x.a.c.ms i
abbrev AHV (x : TrI) : Nat := (Z4 x).length
abbrev CAM (x : TrI) (i : Nat) : Mk := gD (Z4 x) i
abbrev AIP (x : TrI) : List Nt := AF x.a.c.ns.length λ (i : Nat) => gD x.a.c.ns i
abbrev AAZ (x : TrI) : Nat := (AIP x).length
abbrev AHH (x : TrI) (i : Nat) : Nt := gD (AIP x) i
abbrev BNO (x : TrI) (i : Nat) : Span := (AHH x i).t
abbrev CAQ (x : TrI) (i : Nat) : Span := (AHH x i).s
abbrev AAB (x : TrI) : List Int := AF x.a.z.length λ (i : Nat) => gD x.a.z i
abbrev Er (x : TrI) : Nat := (AAB x).length
abbrev APD (x : TrI) : Prop := Er x = x.a.z.length
abbrev ALH (x : TrI) (i : Nat) : Int := gD (AAB x) i
abbrev ALO (x : TrI) : Prop := ∀ (i : Nat), i < Er x -> ALH x i = gD x.a.z i
abbrev BDC (x : TrI) : Cht := Cht.mk x.a.c.p x.a.c.base x.a.c.scale x.a.c.off (Z4 x) (AIP x)
abbrev AYE (x : TrI) : CZ := CZ.mk (BDC x) (AAB x)
abbrev BCF (x : TrI) : Int := (↑x.a.c.ms.length : Int) - (1 : Int)
abbrev UN (x : TrI) : Dk := AB (AYE x)
abbrev NF (x : TrI) : Cht := (UN x).c
abbrev nX (x : TrI) : Span := (NF x).p
abbrev kU (x : TrI) : Int := (nX x).lo
abbrev BFS (x : TrI) : Prop := kU x = kU x
abbrev qM (x : TrI) : Int := (nX x).hi
abbrev AVD (x : TrI) : Prop := qM x = qM x
abbrev Dz (x : TrI) : Int := (NF x).base
abbrev BDT (x : TrI) : Prop := Dz x = Dz x
abbrev Ic (x : TrI) : Int := (NF x).scale
abbrev AWL (x : TrI) : Prop := Ic x = Ic x
abbrev Hk (x : TrI) : Int := (NF x).off
abbrev AYS (x : TrI) : Prop := Hk x = Hk x
abbrev BGO (x : TrI) : List Mk := (NF x).ms
abbrev VD (x : TrI) : Nat := (BGO x).length
abbrev gI (x : TrI) (i : Nat) : Mk := gD (BGO x) i
abbrev mY (x : TrI) : List Mk := AF (VD x) λ (i : Nat) => gI x i
abbrev MN (x : TrI) : Nat := (mY x).length
abbrev ANY (x : TrI) (i : Nat) : Mk := gD (mY x) i
abbrev ATD (x : TrI) (i : Nat) : Int := (ANY x i).pl
abbrev qX (x : TrI) (i : Nat) : Int := (gI x i).pl
abbrev AZY (x : TrI) (i : Nat) : Int := (ANY x i).ht
abbrev jO (x : TrI) (i : Nat) : Int := (gI x i).ht
abbrev Gq (x : TrI) : List Nt := (NF x).ns
abbrev UW (x : TrI) : Nat := (Gq x).length
abbrev Hq (x : TrI) (i : Nat) : Nt := gD (Gq x) i
abbrev TH (x : TrI) : List Nt := AF (UW x) λ (i : Nat) => Hq x i
abbrev jJ (x : TrI) : Nat := (TH x).length
abbrev pN (x : TrI) (i : Nat) : Nt := gD (TH x) i
abbrev AZJ (x : TrI) (i : Nat) : Int := (pN x i).mi
abbrev nJ (x : TrI) (i : Nat) : Int := (Hq x i).mi
abbrev BFY (x : TrI) (i : Nat) : Span := (pN x i).t
abbrev AYR (x : TrI) (i : Nat) : Int := (BFY x i).lo
abbrev BBC (x : TrI) (i : Nat) : Span := (Hq x i).t
abbrev oX (x : TrI) (i : Nat) : Int := (BBC x i).lo
abbrev AXQ (x : TrI) (i : Nat) : Int := (BFY x i).hi
abbrev fC (x : TrI) (i : Nat) : Int := (BBC x i).hi
abbrev ASR (x : TrI) (i : Nat) : Span := (pN x i).s
abbrev BDV (x : TrI) (i : Nat) : Int := (ASR x i).lo
abbrev ATS (x : TrI) (i : Nat) : Span := (Hq x i).s
abbrev mV (x : TrI) (i : Nat) : Int := (ATS x i).lo
abbrev AQQ (x : TrI) (i : Nat) : Int := (ASR x i).hi
abbrev fY (x : TrI) (i : Nat) : Int := (ATS x i).hi
abbrev eW (x : TrI) (i : Nat) : Bool := (UN x).sp i
abbrev ARS (x : TrI) : Prop := ∀ (i : Nat), i < (40 : Nat) -> eW x i = eW x i
abbrev oO (x : TrI) (n : Int) : Bool := hasN (TH x) n
abbrev lY (x : TrI) (n : Int) : Bool := hasN (Gq x) n
abbrev iN (x : TrI) (n : Int) : Int := (UN x).st n
abbrev AOX (x : TrI) : Prop := ∀ (n : Int), iN x n = iN x n
abbrev pP (x : TrI) (n : Int) : Nt := ntOf (TH x) n
abbrev BEK (x : TrI) (n : Int) : Int := (pP x n).mi
abbrev pX (x : TrI) (n : Int) : Nt := ntOf (Gq x) n
abbrev nQ (x : TrI) (n : Int) : Int := (pX x n).mi
abbrev AMS (x : TrI) (n : Int) : Span := (pP x n).t
abbrev AWR (x : TrI) (n : Int) : Int := (AMS x n).lo
abbrev AYO (x : TrI) (n : Int) : Span := (pX x n).t
abbrev nR (x : TrI) (n : Int) : Int := (AYO x n).lo
abbrev APV (x : TrI) (n : Int) : Int := (AMS x n).hi
abbrev rH (x : TrI) (n : Int) : Int := (AYO x n).hi
abbrev AUA (x : TrI) (n : Int) : Span := (pP x n).s
abbrev AYZ (x : TrI) (n : Int) : Int := (AUA x n).lo
abbrev BBB (x : TrI) (n : Int) : Span := (pX x n).s
abbrev fH (x : TrI) (n : Int) : Int := (BBB x n).lo
abbrev BFM (x : TrI) (n : Int) : Int := (AUA x n).hi
abbrev rP (x : TrI) (n : Int) : Int := (BBB x n).hi
abbrev fP (x : TrI) : Cht := Cht.mk (nX x) (Dz x) (Ic x) (Hk x) (mY x) (TH x)
abbrev SI (x : TrI) : Prop := x.a.z.length = x.a.z.length
abbrev VA (x : TrI) : Prop := ∀ (i : Nat), i < x.a.z.length -> gD x.a.z i = gD x.a.z i
abbrev gO (x : TrI) : List Span := CR (Dk.mk (fP x) (UN x).st (UN x).sp) (DQ (fP x))
abbrev BJ : Prop := (0 : Nat) = (0 : Nat)
abbrev CW : Prop := ∀ (i : Nat), i < (0 : Nat) -> false = false
abbrev pK (i : Nat) (x : TrI) : Prop := i < (AB x.a).c.ms.length
abbrev NP (x : TrI) (i : Nat) : Int := (gD (AB x.a).c.ms i).pl
abbrev UZ (x : TrI) (i : Nat) : Int := (gD (AB x.a).c.ms i).ht
abbrev eR (i : Nat) (x : TrI) : Prop := i < (AB x.a).c.ns.length
abbrev VG (x : TrI) (i : Nat) : Int := (gD (AB x.a).c.ns i).mi
abbrev AKU (x : TrI) (i : Nat) : Span := (gD (AB x.a).c.ns i).t
abbrev TD (x : TrI) (i : Nat) : Int := (AKU x i).lo
abbrev TT (x : TrI) (i : Nat) : Int := (AKU x i).hi
abbrev APY (x : TrI) (i : Nat) : Span := (gD (AB x.a).c.ns i).s
abbrev UD (x : TrI) (i : Nat) : Int := (APY x i).lo
abbrev UQ (x : TrI) (i : Nat) : Int := (APY x i).hi
abbrev AMK (x : TrI) : Prop := (UV x.a).length = (gO x).length
abbrev AWC (x : TrI) (i : Nat) : Span := gD (gO x) i
abbrev wD (x : TrI) : Prop := (0 : Int) <= x.m /\ x.m < (↑(UV x.a).length : Int)
abbrev VK (x : TrI) : Nat := (0 : Nat) + x.m.toNat
abbrev Qf (x : TrI) : Span := gD (UV x.a) (VK x)
abbrev M9 (x : TrI) : Int := (Qf x).lo
abbrev G1 (x : TrI) : Int := (Qf x).hi
abbrev Lg (x : TrI) : List Span := AF (1 : Nat) λ (i : Nat) => Span.mk x.t x.t
abbrev vA (x : TrI) : Nat := (Lg x).length
abbrev P4 : Prop := (1 : Nat) <= (1 : Nat)
abbrev D1 (x : TrI) (j : Nat) : Span := gD (Lg x) j
abbrev DI (x : TrI) : Prop := (AB x.a).c.p.lo = (AB x.a).c.p.lo
abbrev DM (x : TrI) : Prop := (AB x.a).c.p.hi = (AB x.a).c.p.hi
abbrev DR (x : TrI) : Prop := (AB x.a).c.base = (AB x.a).c.base
abbrev DP (x : TrI) : Prop := (AB x.a).c.scale = (AB x.a).c.scale
abbrev DF (x : TrI) : Prop := (AB x.a).c.off = (AB x.a).c.off
abbrev WS (x : TrI) : Prop := (AB x.a).c.ms.length = (AB x.a).c.ms.length
abbrev WE (x : TrI) : Prop := ∀ (i : Nat), pK i x -> NP x i = NP x i /\ UZ x i = UZ x i
abbrev XN (x : TrI) : Prop := (AB x.a).c.ns.length = (AB x.a).c.ns.length
abbrev WI (x : TrI) : Prop := ∀ (i : Nat), eR i x -> VG x i = VG x i /\ TD x i = TD x i /\ TT x i = TT x i /\ UD x i = UD x i /\ UQ x i = UQ
 x i
abbrev DO (x : TrI) : Prop := ∀ (i : Nat), i < (40 : Nat) -> (AB x.a).sp i = (AB x.a).sp i
abbrev WN (x : TrI) : Prop := ∀ (n : Int), hasN (AB x.a).c.ns n = hasN (AB x.a).c.ns n
abbrev DK (x : TrI) : Prop := ∀ (n : Int), (AB x.a).st n = (AB x.a).st n
abbrev YE (x : TrI) : Prop := ∀ (n : Int), (ntOf (AB x.a).c.ns n).mi = (ntOf (AB x.a).c.ns n).mi /\ (ntOf (AB x.a).c.ns n).t.lo = (ntOf (AB x.a).c.ns n).t.lo /\ (ntOf (AB x.a).c.ns n).t.hi = (ntOf (AB
 x.a).c.ns n).t.hi /\ (ntOf (AB x.a).c.ns n).s.lo = (ntOf (AB x.a).c.ns n).s.lo /\ (ntOf (AB x.a).c.ns n).s.hi = (ntOf (AB x.a).c.ns n).s.hi
abbrev C2 (x : TrI) : Prop := (IC x).length = (UV x.a).length
abbrev yB (i : Nat) (x : TrI) : Bool := decide (i = VK x)
abbrev sP (x : TrI) : Span := comM (SL.mk (Qf x) (Lg x))
abbrev Kf (x : TrI) : List Span := AF (IC x).length λ (i : Nat) => gD (IC x) i
abbrev Kc (x : TrI) : Nat := (Kf x).length
abbrev N3 (x : TrI) (j : Nat) : Span := gD (Kf x) j
abbrev Kv (j : Nat) : Nat := (0 : Nat) + j
abbrev xI (x : TrI) (j : Nat) : Span := gD (IC x) (Kv j)
abbrev Ji (x : TrI) : List Mk := AF (AB x.a).c.ms.length λ (i : Nat) => gD (AB x.a).c.ms i
abbrev HM (x : TrI) : Nat := (Ji x).length
abbrev WQ (x : TrI) : Prop := HM x = (AB x.a).c.ms.length
abbrev xN (x : TrI) (i : Nat) : Mk := gD (Ji x) i
abbrev wJ (x : TrI) (i : Nat) : Int := (xN x i).pl
abbrev H6 (x : TrI) (i : Nat) : Int := (xN x i).ht
abbrev VL (x : TrI) : Prop := ∀ (i : Nat), i < HM x -> wJ x i = NP x i /\ H6 x i = UZ x i
abbrev OZ (x : TrI) : List Nt := AF (AB x.a).c.ns.length λ (i : Nat) => gD (AB x.a).c.ns i
abbrev Ks (x : TrI) : Nat := (OZ x).length
abbrev XJ (x : TrI) : Prop := Ks x = (AB x.a).c.ns.length
abbrev Om (x : TrI) (i : Nat) : Nt := gD (OZ x) i
abbrev K5 (x : TrI) (i : Nat) : Int := (Om x i).mi
abbrev C4 (x : TrI) (i : Nat) : Span := (Om x i).t
abbrev J4 (x : TrI) (i : Nat) : Int := (C4 x i).lo
abbrev U5 (x : TrI) (i : Nat) : Int := (C4 x i).hi
abbrev yW (x : TrI) (i : Nat) : Span := (Om x i).s
abbrev M3 (x : TrI) (i : Nat) : Int := (yW x i).lo
abbrev xS (x : TrI) (i : Nat) : Int := (yW x i).hi
abbrev VR (x : TrI) : Prop := ∀ (i : Nat), i < Ks x -> K5 x i = VG x i /\ J4 x i = TD x i /\ U5 x i = TT x i /\ M3 x i = UD x i /\ xS x i =
 UQ x i
abbrev xP (x : TrI) (n : Int) : Bool := hasN (OZ x) n
abbrev WF (x : TrI) : Prop := ∀ (n : Int), xP x n = hasN (AB x.a).c.ns n
abbrev Kw (x : TrI) (n : Int) : Nt := ntOf (OZ x) n
abbrev N5 (x : TrI) (n : Int) : Int := (Kw x n).mi
abbrev E2 (x : TrI) (n : Int) : Span := (Kw x n).t
abbrev W7 (x : TrI) (n : Int) : Int := (E2 x n).lo
abbrev E7 (x : TrI) (n : Int) : Int := (E2 x n).hi
abbrev tH (x : TrI) (n : Int) : Span := (Kw x n).s
abbrev K7 (x : TrI) (n : Int) : Int := (tH x n).lo
abbrev C5 (x : TrI) (n : Int) : Int := (tH x n).hi
abbrev XI (x : TrI) : Prop := ∀ (n : Int), N5 x n = (ntOf (AB x.a).c.ns n).mi /\ W7 x n = (ntOf (AB x.a).c.ns n).t.lo /\ E7 x n = (ntOf (AB x.a).c.ns n).t.hi /\ K7 x n = (ntOf
 (AB x.a).c.ns n).s.lo /\ C5 x n = (ntOf (AB x.a).c.ns n).s.hi
abbrev XH (x : TrI) : Prop := (AB x.a).c.ms.length = HM x
abbrev XO (x : TrI) : Prop := ∀ (i : Nat), pK i x -> NP x i = wJ x i /\ UZ x i = H6 x i
abbrev XA (x : TrI) : Prop := (AB x.a).c.ns.length = Ks x
abbrev WO (x : TrI) : Prop := ∀ (i : Nat), eR i x -> VG x i = K5 x i /\ TD x i = J4 x i /\ TT x i = U5 x i /\ UD x i = M3 x i /\ UQ x i =
 xS x i
abbrev VM (x : TrI) : Prop := ∀ (n : Int), hasN (AB x.a).c.ns n = xP x n
abbrev YD (x : TrI) : Prop := ∀ (n : Int), (ntOf (AB x.a).c.ns n).mi = N5 x n /\ (ntOf (AB x.a).c.ns n).t.lo = W7 x n /\ (ntOf (AB x.a).c.ns n).t.hi = E7 x n /\ (ntOf (AB x.a).c.ns
 n).s.lo = K7 x n /\ (ntOf (AB x.a).c.ns n).s.hi = C5 x n
abbrev Pg (x : TrI) : Cht := Cht.mk (AB x.a).c.p (AB x.a).c.base (AB x.a).c.scale (AB x.a).c.off (Ji x) (OZ x)
abbrev Kh (x : TrI) : List Span := CR (Dk.mk (Pg x) (AB x.a).st (AB x.a).sp) (Kf x)
abbrev wG (x : TrI) (i : Nat) : Span := gD (Kh x) i
abbrev vY : Prop := (0 : Int) <= (0 : Int)
abbrev YP (x : TrI) : Int := wr (BCF x)
abbrev H4 (x : TrI) : Prop := (PG x).length = (PG x).length
abbrev wR (x : TrI) : Prop := ∀ (i : Nat), i < (PG x).length -> (gD (PG x) i).lo = (gD (PG x) i).lo /\ (gD (PG x) i).hi = (gD (PG x) i).hi
abbrev FI (a : Nat) : Nat := a + (1 : Nat)
abbrev YM (a : Nat) : Prop := FI a = (1 : Nat)
abbrev NH (i : Nat) (a : Nat) : Prop := i < FI a
abbrev Pa (a : Nat) (x : TrI) : Prop := a.le (x.a.c.ms.length - (1 : Nat))
abbrev GP (a : Nat) : Int := IntKind.i64.wrap ((↑a : Int) + (1 : Int))
abbrev Qb (a : Nat) : Prop := (0 : Int) <= GP a
abbrev Jv (a : Nat) : Prop := (0 : Int) <= (↑a : Int)
abbrev uO : Prop := (1 : Nat) = (1 : Nat)
abbrev G9 : Prop := (0 : Nat) < (1 : Nat)
abbrev Na (a : Nat) : Nat := FI a + (1 : Nat)
abbrev zI (a : Nat) : Prop := (FI a = FI a /\ ((0 : Nat) < FI a -> uO)) /\ (P4 /\ (G9 -> uO)) /\ (false = true -> G9) /\ Na a <= (9223372036854775807
 : Nat) /\ Na a * (8 : Nat) <= (140737488355328 : Nat)
abbrev VP (a : Nat) (a1 : Nat) : Prop := FI a = Na a1
abbrev V0 (i : Nat) (a : Nat) : Bool := decide (NH i a)
abbrev yI (a : Nat) : Nat := (GP a).toNat
abbrev tC (a : Nat) : Nat := (50 : Nat) - a
abbrev wB (l : Nat) (a : Nat) (x : TrI) : Prop := l = l /\ ((Qb a /\ GP a < (↑(PG x).length : Int)) /\ (Jv a /\ (↑a : Int) < (↑(FI a) : Int)) /\ Kv a < FI a /\
 zI a) /\ (GP a = GP a /\ DI x /\ DM x /\ DR x /\ DP x /\ DF x /\ WQ x /\ VL x /\ XJ x /\ VR x /\ DO x /\ AO = AO /\ WF
 x /\ DK x /\ XI x /\ DI x /\ DM x /\ DR x /\ DP x /\ DF x /\ XH x /\ XO x /\ XA x /\ WO x /\ DO x /\ AO = AO /\ VM x /\
 DK x /\ YD x /\ (Qb a /\ GP a < (↑(HM x) : Int)) /\ zI a) /\ ∃ (a_1 : Nat), (Fn.yield l = Fn.yield l /\ YP x = YP x /\ (↑a_1 : Int) = GP a /\ BJ /\
 CW /\ BJ /\ CW /\ BJ /\ CW /\ DI x /\ DM x /\ DR x /\ DP x /\ DF x /\ WS x /\ WE x /\ XN x /\ WI x /\ DO x /\ AO = AO
 /\ WN x /\ DK x /\ YE x /\ H4 x /\ wR x /\ BJ /\ VP a_1 a /\ BJ /\ VP a_1 a /\ SI x /\ VA x /\ VP a_1 a /\ (∀ (i : Nat), NH i a_1 ->
 To x i = bif V0 i a then To x i else DD (gD (PG x) (yI a)).lo (IntKind.i64.wrap (To x (Kv a) + IntKind.i64.wrap ((AB x.a).c.p.lo * IntKind.i64.wrap ((gD (AB x.a).c.ms (yI a)).pl
 - NP x a))))) /\ VP a_1 a /\ ∀ (i : Nat), NH i a_1 -> trS x i = bif V0 i a then trS x i else (FN (Pg x) (GP a)).lo) /\ Pa a_1 x /\ tC a_1 < tC a
abbrev WA (x : TrI) (a : Nat) : Prop := x.a.c.ms.length = FI a
abbrev U2 (i : Nat) (x : TrI) : Prop := i < x.a.c.ms.length
theorem DIR (x : TrI) : (DHL x) = ((x.a.c.p.lo = x.a.c.p.lo /\ x.a.c.p.hi = x.a.c.p.hi /\ x.a.c.base = x.a.c.base /\ x.a.c.scale = x.a.c.scale /\ x.a.c.off = x.a.c.off /\ AHV x = x.a.c.ms.length /\ (∀ (i : Nat), i
 < AHV x -> (CAM x i).pl = (gD x.a.c.ms i).pl /\ (CAM x i).ht = (gD x.a.c.ms i).ht) /\ AAZ x = x.a.c.ns.length /\ (∀ (i : Nat), i < AAZ x -> (AHH x i).mi = (gD x.a.c.ns i).mi /\ (BNO x i).lo =
 (gD x.a.c.ns i).t.lo /\ (BNO x i).hi = (gD x.a.c.ns i).t.hi /\ (CAQ x i).lo = (gD x.a.c.ns i).s.lo /\ (CAQ x i).hi = (gD x.a.c.ns i).s.hi) /\ APD x /\ ALO x /\ (AHV x < (4611686018427387904 :
 Nat) /\ AAZ x < (4611686018427387904 : Nat) /\ Er x < (4611686018427387904 : Nat)) /\ AM (BDC x) = (0 : Int)) /\ bif GD (AYE x) != (0 : Int) then False else bif !DT x.m (0 : Int)
 (IntKind.i64.wrap (BCF x)) then False else ((BFS x /\ AVD x /\ BDT x /\ AWL x /\ AYS x /\ MN x = VD x /\ (∀ (i : Nat), i < MN x -> ATD x i = qX x i /\
 AZY x i = jO x i) /\ jJ x = UW x /\ (∀ (i : Nat), i < jJ x -> AZJ x i = nJ x i /\ AYR x i = oX x i /\ AXQ x i = fC x i /\ BDV x i = mV x i /\
 AQQ x i = fY x i) /\ ARS x /\ AO = AO /\ (∀ (n : Int), oO x n = lY x n) /\ AOX x /\ (∀ (n : Int), BEK x n = nQ x n /\ AWR x n = nR x n /\ APV x n =
 rH x n /\ AYZ x n = fH x n /\ BFM x n = rP x n) /\ BFS x /\ AVD x /\ BDT x /\ AWL x /\ AYS x /\ VD x = MN x /\ (∀ (i : Nat), i < VD x -> qX
 x i = ATD x i /\ jO x i = AZY x i) /\ UW x = jJ x /\ (∀ (i : Nat), i < UW x -> nJ x i = AZJ x i /\ oX x i = AYR x i /\ fC x i = AXQ x i /\ mV
 x i = BDV x i /\ fY x i = AQQ x i) /\ ARS x /\ AO = AO /\ (∀ (n : Int), lY x n = oO x n) /\ AOX x /\ (∀ (n : Int), nQ x n = BEK x n /\ nR x n = AWR x n /\
 rH x n = APV x n /\ fH x n = AYZ x n /\ rP x n = BFM x n) /\ ((1 : Nat) <= MN x /\ MN x <= (40 : Nat) /\ ∀ (j : Int), oO x j = true -> (0 : Int) <= j /\ j < (↑(MN
 x) : Int)) /\ FG (fP x) = true) /\ ∃ (a : One), (SI x /\ VA x /\ x.m = x.m /\ x.t = x.t /\ (UV x.a).all DZ = (gO x).all DZ /\ BJ /\ CW /\ BJ /\ CW /\ BJ /\
 CW /\ (AB x.a).c.p.lo = kU x /\ (AB x.a).c.p.hi = qM x /\ (AB x.a).c.base = Dz x /\ (AB x.a).c.scale = Ic x /\ (AB x.a).c.off = Hk x /\ (AB x.a).c.ms.length = VD x /\
 (∀ (i : Nat), pK i x -> NP x i = qX x i /\ UZ x i = jO x i) /\ (AB x.a).c.ns.length = UW x /\ (∀ (i : Nat), eR i x -> VG x i = nJ x i /\ TD x i =
 oX x i /\ TT x i = fC x i /\ UD x i = mV x i /\ UQ x i = fY x i) /\ (∀ (i : Nat), i < (40 : Nat) -> (AB x.a).sp i = eW x i) /\ AO = AO /\ (∀ (n : Int), hasN (AB
 x.a).c.ns n = lY x n) /\ (∀ (n : Int), (AB x.a).st n = iN x n) /\ (∀ (n : Int), (ntOf (AB x.a).c.ns n).mi = nQ x n /\ (ntOf (AB x.a).c.ns n).t.lo = nR x n /\ (ntOf (AB x.a).c.ns n).t.hi =
 rH x n /\ (ntOf (AB x.a).c.ns n).s.lo = fH x n /\ (ntOf (AB x.a).c.ns n).s.hi = rP x n) /\ AMK x /\ (∀ (i : Nat), i < (UV x.a).length -> (gD (UV x.a) i).lo = (AWC x i).lo /\ (gD (UV x.a)
 i).hi = (AWC x i).hi) /\ BJ /\ AMK x) /\ True) /\ ∀ (a : One), True -> bif !(UV x.a).all DZ then False else ((wD x /\ VK x < (UV x.a).length /\ M9 x = M9 x /\ G1 x =
 G1 x /\ vA x = (1 : Nat) /\ P4 /\ (∀ (j : Nat), j < vA x -> (D1 x j).lo = x.t /\ (D1 x j).hi = x.t) /\ true = true /\ wD x /\ (VK x).succ.le (UV x.a).length) /\ ∃
 (a : One), (SI x /\ VA x /\ BJ /\ CW /\ BJ /\ CW /\ BJ /\ CW /\ DI x /\ DM x /\ DR x /\ DP x /\ DF x /\ WS x /\ WE x /\
 XN x /\ WI x /\ DO x /\ AO = AO /\ WN x /\ DK x /\ YE x /\ C2 x /\ (∀ (i : Nat), i < (IC x).length -> ((gD (IC x) i).lo = bif yB i x then (sP x).lo
 else (gD (UV x.a) i).lo) /\ (gD (IC x) i).hi = bif yB i x then (sP x).hi else (gD (UV x.a) i).hi) /\ BJ /\ C2 x) /\ True) /\ ∀ (a : One), True -> ((Kc x = (IC x).length /\ (0 : Nat)
 + (IC x).length <= (IC x).length /\ (∀ (j : Nat), j < Kc x -> (N3 x j).lo = (xI x j).lo /\ (N3 x j).hi = (xI x j).hi) /\ DI x /\ DM x /\ DR x /\ DP x /\
 DF x /\ WQ x /\ VL x /\ XJ x /\ VR x /\ DO x /\ AO = AO /\ WF x /\ DK x /\ XI x /\ DI x /\ DM x /\ DR x /\ DP x /\ DF x
 /\ XH x /\ XO x /\ XA x /\ WO x /\ DO x /\ AO = AO /\ VM x /\ DK x /\ YD x /\ Kc x = HM x /\ (1 : Nat) <= HM x /\ HM x <= (40 : Nat)) /\
 bif !(Kh x).all DZ then False else ∃ (a : One), (SI x /\ VA x /\ BJ /\ CW /\ BJ /\ CW /\ BJ /\ CW /\ DI x /\ DM x /\ DR x /\ DP x /\
 DF x /\ WS x /\ WE x /\ XN x /\ WI x /\ DO x /\ AO = AO /\ WN x /\ DK x /\ YE x /\ (PG x).length = (Kh x).length /\ ∀ (i : Nat), i < (PG x).length
 -> (gD (PG x) i).lo = (wG x i).lo /\ (gD (PG x) i).hi = (wG x i).hi) /\ True) /\ ∀ (a : One), True -> ((vY /\ (0 : Int) < (↑(PG x).length : Int)) /\ (0 : Int) = Int.ofNat (0 : Nat) /\ DI x /\
 DM x /\ DR x /\ DP x /\ DF x /\ WQ x /\ VL x /\ XJ x /\ VR x /\ DO x /\ AO = AO /\ WF x /\ DK x /\ XI x /\ DI x /\ DM x
 /\ DR x /\ DP x /\ DF x /\ XH x /\ XO x /\ XA x /\ WO x /\ DO x /\ AO = AO /\ VM x /\ DK x /\ YD x /\ (vY /\ (0 : Int) < (↑(HM
 x) : Int)) /\ APD x /\ ALO x /\ (Er x).succ.le (1000000 : Nat)) /\ (DI x /\ DM x /\ DR x /\ DP x /\ DF x /\ WQ x /\ VL x /\ XJ x /\ VR x /\
 DO x /\ AO = AO /\ WF x /\ DK x /\ XI x /\ DI x /\ DM x /\ DR x /\ DP x /\ DF x /\ XH x /\ XO x /\ XA x /\ WO x /\ DO x
 /\ AO = AO /\ VM x /\ DK x /\ YD x) /\ ∀ (l : Nat), (∃ (a : Nat), (Fn.yield l = Fn.yield l /\ YP x = IntKind.i64.wrap ((↑(AB x.a).c.ms.length : Int) - (1 : Int)) /\ (↑a : Int) = (0 : Int) /\
 BJ /\ CW /\ BJ /\ CW /\ BJ /\ CW /\ DI x /\ DM x /\ DR x /\ DP x /\ DF x /\ WS x /\ WE x /\ XN x /\ WI x /\ DO x
 /\ AO = AO /\ WN x /\ DK x /\ YE x /\ H4 x /\ wR x /\ BJ /\ YM a /\ BJ /\ YM a /\ x.a.z.length = Er x /\ (∀ (i : Nat), i < x.a.z.length -> gD x.a.z i =
 ALH x i) /\ YM a /\ (∀ (i : Nat), NH i a -> To x i = (gD (PG x) (Int.toNat (0 : Int))).lo) /\ YM a /\ ∀ (i : Nat), NH i a -> trS x i = (FN (Pg x) (0 : Int)).lo) /\ Pa a
 x) /\ ∀ (a : Nat), Pa a x -> bif decide ((↑a : Int) < YP x) then ((Qb a /\ GP a < (↑(AB x.a).c.ms.length : Int)) /\ Jv a /\ (↑a : Int) < (↑(AB x.a).c.ms.length : Int)) /\ (Jv
 a /\ (↑a : Int) < (↑(40 : Nat) : Int)) /\ a.succ.le (40 : Nat) /\ bif (AB x.a).sp a then wB l a x else wB l a x else BJ /\ WA x a /\ BJ /\ WA x a /\ SI x /\ VA x /\
 Int.ofNat (0 : Nat) = Int.ofNat (0 : Nat) /\ WA x a /\ (∀ (i : Nat), U2 i x -> To x i = To x i) /\ WA x a /\ ∀ (i : Nat), U2 i x -> trS x i = trS x i) := by kernel_rfl
def DGN (x : TrI) : Ann := { ann 113 [(RZ, C_beg.spec dCZ), (sZ, s_in), (Ap, C_timO.spec Dh), (Gx, C_com.spec CRK), (HN, C_nar.spec dDkS)] with cut := λ id => if id = 7 then some [tr7 x] else if id = 10 then some [tr10 x] else if id = 13 then some [] else none }
def DFK (x : TrI) : Prop := BA Try.prog (DGN x) Qq (AL Qq) (xTrI x) (AG []) (C_TruX.val x) [] [] []
abbrev AJD (x : TrI) : List Mk := AF x.a.c.ms.length λ (i : Nat) => gD x.a.c.ms i
abbrev AEU (x : TrI) : Nat := (AJD x).length
abbrev BPL (x : TrI) (i : Nat) : Mk := gD (AJD x) i
abbrev AAK (x : TrI) : List Nt := AF x.a.c.ns.length λ (i : Nat) => gD x.a.c.ns i
abbrev AIQ (x : TrI) : Nat := (AAK x).length
abbrev Z8 (x : TrI) (i : Nat) : Nt := gD (AAK x) i
abbrev BXK (x : TrI) (i : Nat) : Span := (Z8 x i).t
abbrev BUO (x : TrI) (i : Nat) : Span := (Z8 x i).s
abbrev AHX (x : TrI) : List Int := AF x.a.z.length λ (i : Nat) => gD x.a.z i
abbrev AHB (x : TrI) : Nat := (AHX x).length
abbrev ANR (x : TrI) : Cht := Cht.mk x.a.c.p x.a.c.base x.a.c.scale x.a.c.off (AJD x) (AAK x)
abbrev AOR (x : TrI) : CZ := CZ.mk (ANR x) (AHX x)
abbrev BCX (x : TrI) : Int := GD (AOR x)
abbrev BR : Prop := (0 : Nat) = (0 : Nat)
abbrev CD : Prop := ∀ (i : Nat), i < (0 : Nat) -> false = false
abbrev TP (x : TrI) : Dk := AB (AOR x)
abbrev OC (x : TrI) : Cht := (TP x).c
abbrev qT (x : TrI) : Span := (OC x).p
abbrev oR (x : TrI) : Int := (qT x).lo
abbrev AQZ (x : TrI) : Prop := oR x = oR x
abbrev mR (x : TrI) : Int := (qT x).hi
abbrev ATM (x : TrI) : Prop := mR x = mR x
abbrev Ix (x : TrI) : Int := (OC x).base
abbrev AWX (x : TrI) : Prop := Ix x = Ix x
abbrev Dt (x : TrI) : Int := (OC x).scale
abbrev ATJ (x : TrI) : Prop := Dt x = Dt x
abbrev En (x : TrI) : Int := (OC x).off
abbrev AQS (x : TrI) : Prop := En x = En x
abbrev BEL (x : TrI) : List Mk := (OC x).ms
abbrev UF (x : TrI) : Nat := (BEL x).length
abbrev kZ (x : TrI) (i : Nat) : Mk := gD (BEL x) i
abbrev nL (x : TrI) : List Mk := AF (UF x) λ (i : Nat) => kZ x i
abbrev NB (x : TrI) : Nat := (nL x).length
abbrev ALK (x : TrI) (i : Nat) : Mk := gD (nL x) i
abbrev BGL (x : TrI) (i : Nat) : Int := (ALK x i).pl
abbrev iX (x : TrI) (i : Nat) : Int := (kZ x i).pl
abbrev BBQ (x : TrI) (i : Nat) : Int := (ALK x i).ht
abbrev fB (x : TrI) (i : Nat) : Int := (kZ x i).ht
abbrev Gc (x : TrI) : List Nt := (OC x).ns
abbrev UR (x : TrI) : Nat := (Gc x).length
abbrev Eb (x : TrI) (i : Nat) : Nt := gD (Gc x) i
abbrev UJ (x : TrI) : List Nt := AF (UR x) λ (i : Nat) => Eb x i
abbrev gX (x : TrI) : Nat := (UJ x).length
abbrev oG (x : TrI) (i : Nat) : Nt := gD (UJ x) i
abbrev AXJ (x : TrI) (i : Nat) : Int := (oG x i).mi
abbrev fN (x : TrI) (i : Nat) : Int := (Eb x i).mi
abbrev ASI (x : TrI) (i : Nat) : Span := (oG x i).t
abbrev AMA (x : TrI) (i : Nat) : Int := (ASI x i).lo
abbrev BAP (x : TrI) (i : Nat) : Span := (Eb x i).t
abbrev gC (x : TrI) (i : Nat) : Int := (BAP x i).lo
abbrev BDO (x : TrI) (i : Nat) : Int := (ASI x i).hi
abbrev jN (x : TrI) (i : Nat) : Int := (BAP x i).hi
abbrev APT (x : TrI) (i : Nat) : Span := (oG x i).s
abbrev AQE (x : TrI) (i : Nat) : Int := (APT x i).lo
abbrev AYL (x : TrI) (i : Nat) : Span := (Eb x i).s
abbrev hJ (x : TrI) (i : Nat) : Int := (AYL x i).lo
abbrev BEN (x : TrI) (i : Nat) : Int := (APT x i).hi
abbrev fW (x : TrI) (i : Nat) : Int := (AYL x i).hi
abbrev jY (x : TrI) (i : Nat) : Bool := (TP x).sp i
abbrev AOD (x : TrI) : Prop := ∀ (i : Nat), i < (40 : Nat) -> jY x i = jY x i
abbrev kO (x : TrI) (n : Int) : Bool := hasN (UJ x) n
abbrev rG (x : TrI) (n : Int) : Bool := hasN (Gc x) n
abbrev jE (x : TrI) (n : Int) : Int := (TP x).st n
abbrev AKX (x : TrI) : Prop := ∀ (n : Int), jE x n = jE x n
abbrev jW (x : TrI) (n : Int) : Nt := ntOf (UJ x) n
abbrev BBX (x : TrI) (n : Int) : Int := (jW x n).mi
abbrev lZ (x : TrI) (n : Int) : Nt := ntOf (Gc x) n
abbrev oS (x : TrI) (n : Int) : Int := (lZ x n).mi
abbrev AKC (x : TrI) (n : Int) : Span := (jW x n).t
abbrev AUJ (x : TrI) (n : Int) : Int := (AKC x n).lo
abbrev ASF (x : TrI) (n : Int) : Span := (lZ x n).t
abbrev rA (x : TrI) (n : Int) : Int := (ASF x n).lo
abbrev BFW (x : TrI) (n : Int) : Int := (AKC x n).hi
abbrev eV (x : TrI) (n : Int) : Int := (ASF x n).hi
abbrev AXS (x : TrI) (n : Int) : Span := (jW x n).s
abbrev AYF (x : TrI) (n : Int) : Int := (AXS x n).lo
abbrev AYC (x : TrI) (n : Int) : Span := (lZ x n).s
abbrev mW (x : TrI) (n : Int) : Int := (AYC x n).lo
abbrev AUI (x : TrI) (n : Int) : Int := (AXS x n).hi
abbrev rE (x : TrI) (n : Int) : Int := (AYC x n).hi
abbrev jT (x : TrI) : Cht := Cht.mk (qT x) (Ix x) (Dt x) (En x) (nL x) (UJ x)
abbrev ASD (x : TrI) : Prop := x.a.z.length = x.a.z.length
abbrev BBO (x : TrI) : Prop := ∀ (i : Nat), i < x.a.z.length -> gD x.a.z i = gD x.a.z i
abbrev iG (x : TrI) : List Span := CR (Dk.mk (jT x) (TP x).st (TP x).sp) (DQ (jT x))
abbrev pW (i : Nat) (x : TrI) : Prop := i < (AB x.a).c.ms.length
abbrev SH (x : TrI) (i : Nat) : Int := (gD (AB x.a).c.ms i).pl
abbrev TO (x : TrI) (i : Nat) : Int := (gD (AB x.a).c.ms i).ht
abbrev lD (i : Nat) (x : TrI) : Prop := i < (AB x.a).c.ns.length
abbrev UL (x : TrI) (i : Nat) : Int := (gD (AB x.a).c.ns i).mi
abbrev BDP (x : TrI) (i : Nat) : Span := (gD (AB x.a).c.ns i).t
abbrev TX (x : TrI) (i : Nat) : Int := (BDP x i).lo
abbrev VB (x : TrI) (i : Nat) : Int := (BDP x i).hi
abbrev BGG (x : TrI) (i : Nat) : Span := (gD (AB x.a).c.ns i).s
abbrev UK (x : TrI) (i : Nat) : Int := (BGG x i).lo
abbrev UX (x : TrI) (i : Nat) : Int := (BGG x i).hi
abbrev BER (x : TrI) : Prop := (UV x.a).length = (iG x).length
abbrev AKT (x : TrI) (i : Nat) : Span := gD (iG x) i
abbrev APO (x : TrI) : Prop := (0 : Int) <= x.m /\ x.m < (↑(UV x.a).length : Int)
abbrev Gg (x : TrI) : Nat := (0 : Nat) + x.m.toNat
abbrev kI (x : TrI) : Span := gD (UV x.a) (Gg x)
abbrev Y3 (x : TrI) : Int := (kI x).lo
abbrev Q9 (x : TrI) : Int := (kI x).hi
abbrev Pv (x : TrI) : List Span := AF (1 : Nat) λ (i : Nat) => Span.mk x.t x.t
abbrev E3 (x : TrI) : Nat := (Pv x).length
abbrev zU (x : TrI) (j : Nat) : Span := gD (Pv x) j
abbrev Jq (x : TrI) : Prop := (AB x.a).c.p.lo = (AB x.a).c.p.lo
abbrev Oa (x : TrI) : Prop := (AB x.a).c.p.hi = (AB x.a).c.p.hi
abbrev Ka (x : TrI) : Prop := (AB x.a).c.base = (AB x.a).c.base
abbrev Lt (x : TrI) : Prop := (AB x.a).c.scale = (AB x.a).c.scale
abbrev Kj (x : TrI) : Prop := (AB x.a).c.off = (AB x.a).c.off
abbrev Ld (x : TrI) : Prop := ∀ (i : Nat), i < (40 : Nat) -> (AB x.a).sp i = (AB x.a).sp i
abbrev Jo (x : TrI) : Prop := ∀ (n : Int), (AB x.a).st n = (AB x.a).st n
abbrev xH (x : TrI) : Prop := (IC x).length = (UV x.a).length
abbrev sK (i : Nat) (x : TrI) : Bool := decide (i = Gg x)
abbrev L4 (x : TrI) : Span := comM (SL.mk (kI x) (Pv x))
abbrev Ng (x : TrI) : List Span := AF (IC x).length λ (i : Nat) => gD (IC x) i
abbrev Jn (x : TrI) : Nat := (Ng x).length
abbrev T4 (x : TrI) (j : Nat) : Span := gD (Ng x) j
abbrev P8 (x : TrI) (j : Nat) : Span := gD (IC x) ((0 : Nat) + j)
abbrev Lr (x : TrI) : List Mk := AF (AB x.a).c.ms.length λ (i : Nat) => gD (AB x.a).c.ms i
abbrev KL (x : TrI) : Nat := (Lr x).length
abbrev tW (x : TrI) (i : Nat) : Mk := gD (Lr x) i
abbrev E9 (x : TrI) (i : Nat) : Int := (tW x i).pl
abbrev wA (x : TrI) (i : Nat) : Int := (tW x i).ht
abbrev OE (x : TrI) : List Nt := AF (AB x.a).c.ns.length λ (i : Nat) => gD (AB x.a).c.ns i
abbrev Nu (x : TrI) : Nat := (OE x).length
abbrev Pf (x : TrI) (i : Nat) : Nt := gD (OE x) i
abbrev M1 (x : TrI) (i : Nat) : Int := (Pf x i).mi
abbrev yT (x : TrI) (i : Nat) : Span := (Pf x i).t
abbrev uD (x : TrI) (i : Nat) : Int := (yT x i).lo
abbrev R4 (x : TrI) (i : Nat) : Int := (yT x i).hi
abbrev uW (x : TrI) (i : Nat) : Span := (Pf x i).s
abbrev zO (x : TrI) (i : Nat) : Int := (uW x i).lo
abbrev vB (x : TrI) (i : Nat) : Int := (uW x i).hi
abbrev N4 (x : TrI) (n : Int) : Bool := hasN (OE x) n
abbrev Ke (x : TrI) (n : Int) : Nt := ntOf (OE x) n
abbrev tF (x : TrI) (n : Int) : Int := (Ke x n).mi
abbrev C9 (x : TrI) (n : Int) : Span := (Ke x n).t
abbrev A6 (x : TrI) (n : Int) : Int := (C9 x n).lo
abbrev wM (x : TrI) (n : Int) : Int := (C9 x n).hi
abbrev yY (x : TrI) (n : Int) : Span := (Ke x n).s
abbrev xZ (x : TrI) (n : Int) : Int := (yY x n).lo
abbrev xL (x : TrI) (n : Int) : Int := (yY x n).hi
theorem DLB (x : TrI) : (DFK x) = ((x.a.c.p.lo = x.a.c.p.lo /\ x.a.c.p.hi = x.a.c.p.hi /\ x.a.c.base = x.a.c.base /\ x.a.c.scale = x.a.c.scale /\ x.a.c.off = x.a.c.off /\ AEU x = x.a.c.ms.length /\ (∀ (i : Nat), i
 < AEU x -> (BPL x i).pl = (gD x.a.c.ms i).pl /\ (BPL x i).ht = (gD x.a.c.ms i).ht) /\ AIQ x = x.a.c.ns.length /\ (∀ (i : Nat), i < AIQ x -> (Z8 x i).mi = (gD x.a.c.ns i).mi /\ (BXK x i).lo =
 (gD x.a.c.ns i).t.lo /\ (BXK x i).hi = (gD x.a.c.ns i).t.hi /\ (BUO x i).lo = (gD x.a.c.ns i).s.lo /\ (BUO x i).hi = (gD x.a.c.ns i).s.hi) /\ AHB x = x.a.z.length /\ (∀ (i : Nat), i < AHB x -> gD
 (AHX x) i = gD x.a.z i) /\ (AEU x < (4611686018427387904 : Nat) /\ AIQ x < (4611686018427387904 : Nat) /\ AHB x < (4611686018427387904 : Nat)) /\ AM (ANR x) = (0 : Int)) /\ bif BCX x != (0
 : Int) then BR /\ CD /\ BR /\ CD /\ BR /\ CD /\ (5 : Int) = BCX x else bif !DT x.m (0 : Int) (IntKind.i64.wrap ((↑x.a.c.ms.length : Int) - (1 : Int))) then BR /\ CD
 /\ BR /\ CD /\ BR /\ CD /\ Int.ofNat (5 : Nat) = Int.ofNat (2 : Nat) else ((AQZ x /\ ATM x /\ AWX x /\ ATJ x /\ AQS x /\ NB x = UF x /\ (∀ (i : Nat), i <
 NB x -> BGL x i = iX x i /\ BBQ x i = fB x i) /\ gX x = UR x /\ (∀ (i : Nat), i < gX x -> AXJ x i = fN x i /\ AMA x i = gC x i /\ BDO x i =
 jN x i /\ AQE x i = hJ x i /\ BEN x i = fW x i) /\ AOD x /\ AO = AO /\ (∀ (n : Int), kO x n = rG x n) /\ AKX x /\ (∀ (n : Int), BBX x n = oS x n /\
 AUJ x n = rA x n /\ BFW x n = eV x n /\ AYF x n = mW x n /\ AUI x n = rE x n) /\ AQZ x /\ ATM x /\ AWX x /\ ATJ x /\ AQS x /\ UF x =
 NB x /\ (∀ (i : Nat), i < UF x -> iX x i = BGL x i /\ fB x i = BBQ x i) /\ UR x = gX x /\ (∀ (i : Nat), i < UR x -> fN x i = AXJ x i /\ gC x i =
 AMA x i /\ jN x i = BDO x i /\ hJ x i = AQE x i /\ fW x i = BEN x i) /\ AOD x /\ AO = AO /\ (∀ (n : Int), rG x n = kO x n) /\ AKX x /\ (∀ (n : Int),
 oS x n = BBX x n /\ rA x n = AUJ x n /\ eV x n = BFW x n /\ mW x n = AYF x n /\ rE x n = AUI x n) /\ ((1 : Nat) <= NB x /\ NB x <= (40 : Nat) /\ ∀ (j
 : Int), kO x j = true -> (0 : Int) <= j /\ j < (↑(NB x) : Int)) /\ FG (jT x) = true) /\ ∃ (a : One), (ASD x /\ BBO x /\ x.m = x.m /\ x.t = x.t /\ (UV x.a).all DZ = (iG x).all DZ /\
 BR /\ CD /\ BR /\ CD /\ BR /\ CD /\ (AB x.a).c.p.lo = oR x /\ (AB x.a).c.p.hi = mR x /\ (AB x.a).c.base = Ix x /\ (AB x.a).c.scale = Dt x /\ (AB
 x.a).c.off = En x /\ (AB x.a).c.ms.length = UF x /\ (∀ (i : Nat), pW i x -> SH x i = iX x i /\ TO x i = fB x i) /\ (AB x.a).c.ns.length = UR x /\ (∀ (i : Nat),
 lD i x -> UL x i = fN x i /\ TX x i = gC x i /\ VB x i = jN x i /\ UK x i = hJ x i /\ UX x i = fW x i) /\ (∀ (i : Nat), i < (40 : Nat) -> (AB
 x.a).sp i = jY x i) /\ AO = AO /\ (∀ (n : Int), hasN (AB x.a).c.ns n = rG x n) /\ (∀ (n : Int), (AB x.a).st n = jE x n) /\ (∀ (n : Int), (ntOf (AB x.a).c.ns n).mi = oS x n /\ (ntOf (AB
 x.a).c.ns n).t.lo = rA x n /\ (ntOf (AB x.a).c.ns n).t.hi = eV x n /\ (ntOf (AB x.a).c.ns n).s.lo = mW x n /\ (ntOf (AB x.a).c.ns n).s.hi = rE x n) /\ BER x /\ (∀ (i : Nat), i < (UV
 x.a).length -> (gD (UV x.a) i).lo = (AKT x i).lo /\ (gD (UV x.a) i).hi = (AKT x i).hi) /\ BR /\ BER x) /\ True) /\ ∀ (a : One), True -> bif !(UV x.a).all DZ then BR /\ CD /\ BR /\
 CD /\ BR /\ CD /\ Int.ofNat (5 : Nat) = Int.ofNat (6 : Nat) else ((APO x /\ Gg x < (UV x.a).length /\ Y3 x = Y3 x /\ Q9 x = Q9 x /\ E3 x = (1 : Nat) /\
 (1 : Nat) <= (1 : Nat) /\ (∀ (j : Nat), j < E3 x -> (zU x j).lo = x.t /\ (zU x j).hi = x.t) /\ true = true /\ APO x /\ (Gg x).succ.le (UV x.a).length) /\ ∃ (a : One), (ASD x /\
 BBO x /\ BR /\ CD /\ BR /\ CD /\ BR /\ CD /\ Jq x /\ Oa x /\ Ka x /\ Lt x /\ Kj x /\ (AB x.a).c.ms.length = (AB x.a).c.ms.length /\ (∀ (i :
 Nat), pW i x -> SH x i = SH x i /\ TO x i = TO x i) /\ (AB x.a).c.ns.length = (AB x.a).c.ns.length /\ (∀ (i : Nat), lD i x -> UL x i = UL x i /\ TX x i =
 TX x i /\ VB x i = VB x i /\ UK x i = UK x i /\ UX x i = UX x i) /\ Ld x /\ AO = AO /\ (∀ (n : Int), hasN (AB x.a).c.ns n = hasN (AB x.a).c.ns n) /\ Jo x /\
 (∀ (n : Int), (ntOf (AB x.a).c.ns n).mi = (ntOf (AB x.a).c.ns n).mi /\ (ntOf (AB x.a).c.ns n).t.lo = (ntOf (AB x.a).c.ns n).t.lo /\ (ntOf (AB x.a).c.ns n).t.hi = (ntOf (AB x.a).c.ns n).t.hi /\ (ntOf (AB
 x.a).c.ns n).s.lo = (ntOf (AB x.a).c.ns n).s.lo /\ (ntOf (AB x.a).c.ns n).s.hi = (ntOf (AB x.a).c.ns n).s.hi) /\ xH x /\ (∀ (i : Nat), i < (IC x).length -> ((gD (IC x) i).lo = bif sK i x then
 (L4 x).lo else (gD (UV x.a) i).lo) /\ (gD (IC x) i).hi = bif sK i x then (L4 x).hi else (gD (UV x.a) i).hi) /\ BR /\ xH x) /\ True) /\ ∀ (a : One), True -> ((Jn x = (IC
 x).length /\ (0 : Nat) + (IC x).length <= (IC x).length /\ (∀ (j : Nat), j < Jn x -> (T4 x j).lo = (P8 x j).lo /\ (T4 x j).hi = (P8 x j).hi) /\ Jq x /\ Oa x /\
 Ka x /\ Lt x /\ Kj x /\ KL x = (AB x.a).c.ms.length /\ (∀ (i : Nat), i < KL x -> E9 x i = SH x i /\ wA x i = TO x i) /\ Nu x = (AB
 x.a).c.ns.length /\ (∀ (i : Nat), i < Nu x -> M1 x i = UL x i /\ uD x i = TX x i /\ R4 x i = VB x i /\ zO x i = UK x i /\ vB x i = UX x i) /\
 Ld x /\ AO = AO /\ (∀ (n : Int), N4 x n = hasN (AB x.a).c.ns n) /\ Jo x /\ (∀ (n : Int), tF x n = (ntOf (AB x.a).c.ns n).mi /\ A6 x n = (ntOf (AB x.a).c.ns n).t.lo /\ wM
 x n = (ntOf (AB x.a).c.ns n).t.hi /\ xZ x n = (ntOf (AB x.a).c.ns n).s.lo /\ xL x n = (ntOf (AB x.a).c.ns n).s.hi) /\ Jq x /\ Oa x /\ Ka x /\ Lt x /\ Kj x /\ (AB
 x.a).c.ms.length = KL x /\ (∀ (i : Nat), pW i x -> SH x i = E9 x i /\ TO x i = wA x i) /\ (AB x.a).c.ns.length = Nu x /\ (∀ (i : Nat), lD i x -> UL x i =
 M1 x i /\ TX x i = uD x i /\ VB x i = R4 x i /\ UK x i = zO x i /\ UX x i = vB x i) /\ Ld x /\ AO = AO /\ (∀ (n : Int), hasN (AB x.a).c.ns n =
 N4 x n) /\ Jo x /\ (∀ (n : Int), (ntOf (AB x.a).c.ns n).mi = tF x n /\ (ntOf (AB x.a).c.ns n).t.lo = A6 x n /\ (ntOf (AB x.a).c.ns n).t.hi = wM x n /\ (ntOf (AB x.a).c.ns
 n).s.lo = xZ x n /\ (ntOf (AB x.a).c.ns n).s.hi = xL x n) /\ Jn x = KL x /\ (1 : Nat) <= KL x /\ KL x <= (40 : Nat)) /\ bif !(CR (Dk.mk (Cht.mk (AB x.a).c.p (AB
 x.a).c.base (AB x.a).c.scale (AB x.a).c.off (Lr x) (OE x)) (AB x.a).st (AB x.a).sp) (Ng x)).all DZ then BR /\ CD /\ BR /\ CD /\ BR /\ CD /\ Int.ofNat
 (5 : Nat) = Int.ofNat (5 : Nat) else False) /\ True) := by kernel_rfl
theorem Bj {a : CZ} (h : AS a = 0) : AM a.c = 0 /\ okZ a = true /\ FG a.c = true /\ (UV a).all DZ = true /\ GV a = UV a := by
 obtain ⟨h1, h2, h3⟩ := PO h
 unfold AZ at h3
 cases hs : FG (AB a).c with
 | false => rw [hs] at h3; cases h3
 | true =>
  rw [hs] at h3
  refine ⟨h1, h2, hs, h3, ?_⟩
  unfold GV AZ
  rw [hs]; rfl
theorem CWD : ∀ {z : List Int} {a b : Int}, z.Pairwise (· < ·) -> (∀ g ∈ z, a <= g /\ g < b) -> (z.length : Int) <= b - a ∨ z = []
 | [], _, _, _, _ => .inr rfl
 | g :: r, a, b, hp, hb => by
  rw [List.pairwise_cons] at hp
  have h0 := hb g (List.mem_cons_self ..)
  rcases CWD (a := g + 1) (b := b) hp.2 (λ x hx => by have := hp.1 x hx; have := hb x (List.mem_cons_of_mem _ hx); omega) with h | h
  ·left; rw [List.length_cons]; omega
  ·subst h; left; show ((1 : Nat) : Int) <= _; omega
theorem DOQ (a s : Span) : comM ⟨a, AF 1 λ _ => s⟩ = Ql a s := rfl
theorem Si (x : TrI) : (IC x).length = x.a.c.ms.length := by unfold IC UV; rw [rng_length, PW, CJ]
theorem CJB (x : TrI) : (PG x).length = x.a.c.ms.length := by unfold PG; rw [PW, Si]
theorem DQI (x : TrI) (h : CCM x) (hk : (PG x).all DZ = true) : DHL x := by
 obtain ⟨⟨l1, l2, l3⟩, hr, m1, m2⟩ := h
 obtain ⟨c0, zo, so, no, _⟩ := Bj hr
 have nl : (UV x.a).length = x.a.c.ms.length := by unfold UV; rw [PW, CJ]
 have tl1 := Si x
 have tl := CJB x
 obtain ⟨_, hm, _⟩ := DG c0
 have ni := (SB c0).1
 have e0 : GD x.a = 0 := by unfold GD; rw [c0, zo]; rfl
 have ws : ∀ a : Nat, a <= 40 -> IntKind.i64.wrap ((a : Int) + 1) = ((a + 1 : Nat) : Int) := λ a h => FM (by omega)
 have wn : IntKind.i64.wrap ((x.a.c.ms.length : Int) - 1) = ((x.a.c.ms.length - 1 : Nat) : Int) := by rw [EN (by omega) (by omega)]; omega
 have wn2 : wr ((x.a.c.ms.length : Int) - 1) = ((x.a.c.ms.length - 1 : Nat) : Int) := wn
 have lo : ∀ k, (BM (AB x.a) k).lo = IntKind.i64.wrap (x.a.c.p.lo * IntKind.i64.wrap ((gD x.a.c.ms (k + 1)).pl - (gD x.a.c.ms k).pl)) := λ _ => rfl
 rw [DIR]; delta Z4 AHV CAM AIP AAZ AHH BNO CAQ AAB Er APD ALH ALO BDC AYE BCF UN NF nX kU BFS qM AVD Dz BDT Ic AWL Hk AYS BGO VD gI mY MN ANY ATD qX AZY jO Gq UW Hq TH jJ pN AZJ nJ BFY AYR BBC oX AXQ fC ASR BDV ATS mV AQQ fY eW ARS oO lY iN AOX pP BEK pX nQ AMS AWR AYO nR APV rH AUA AYZ BBB fH BFM rP fP SI VA gO BJ CW pK NP UZ eR VG AKU TD TT APY UD UQ AMK AWC wD VK Qf M9 G1 Lg vA P4 D1 DI DM DR DP DF WS WE XN WI DO WN DK YE C2 yB sP Kf Kc N3 Kv xI Ji HM WQ xN wJ H6 VL OZ Ks XJ Om K5 C4 J4 U5 yW M3 xS VR xP WF Kw N5 E2 W7 E7 tH K7 C5 XI XH XO XA WO VM YD Pg Kh wG vY YP H4 wR FI YM NH Pa GP Qb Jv uO G9 Na zI VP V0 yI tC wB WA U2; simp only [AU, eq_self, implies_true, and_self, true_and, and_true, true_implies, forall_const, decide_eq_true_eq, decide_eq_false_iff_not, Int.toNat_natCast, dSpan_eSpan, dInt_eInt, AY, AW, AX, Nat.zero_add, Int.zero_sub, Nat.le_eq, Nat.succ_eq_add_one, Nat.add_one_le_iff, Bool.not_eq_true', Bool.not_eq_false', rng_length, AK, AJ, BI, NE, WH, QZ, show CR (AB x.a) (DQ x.a.c) = UV x.a from rfl, show CR (AB x.a) (IC x) = PG x from rfl, e0, DOQ]; simp only [nl, tl1, tl, wn, wn2]
 have z9 : x.a.z.length < 1000000 := by
  obtain ⟨q1, q2⟩ := (CKI (a := x.a) hm).1 zo
  rcases CWD q2 (a := 0) (b := 40) (λ g hg => by have := q1 g hg; omega) with h | h
  ·omega
  ·rw [h]; decide
 have step : ∀ k, k < x.a.c.ms.length - 1 -> ∀ i, i < k + 1 + 1 -> To x i = bif decide (i < k + 1) then To x i else DD (gD (PG x) (IntKind.i64.wrap ((k : Int) + 1)).toNat).lo (IntKind.i64.wrap (To x k + IntKind.i64.wrap (x.a.c.p.lo * IntKind.i64.wrap ((gD x.a.c.ms (IntKind.i64.wrap ((k : Int) + 1)).toNat).pl - (gD x.a.c.ms k).pl)))) := λ k hk i hi => by
  rw [ws k (by omega), Int.toNat_natCast]
  by_cases q : i < k + 1
  ·rw [decide_eq_true q]; rfl
  ·obtain rfl : i = k + 1 := by omega
   rw [decide_eq_false q]; rfl
 have step2 : ∀ k, k < x.a.c.ms.length - 1 -> ∀ i, i < k + 1 + 1 -> trS x i = bif decide (i < k + 1) then trS x i else (FN x.a.c (IntKind.i64.wrap ((k : Int) + 1))).lo := λ k hk i hi => by
  rw [ws k (by omega)]
  by_cases q : i < k + 1
  ·rw [decide_eq_true q]; rfl
  ·obtain rfl : i = k + 1 := by omega
   rw [decide_eq_false q]; rfl
 have bd : ∀ k : Nat, k < x.a.c.ms.length - 1 -> 0 <= IntKind.i64.wrap ((k : Int) + 1) /\ IntKind.i64.wrap ((k : Int) + 1) < x.a.c.ms.length := λ k hk => by rw [ws k (by omega)]; omega
 have bk := bd
 refine ⟨⟨⟨l1, l2, l3⟩, c0⟩, (λ h => by simp at h), λ _ => ⟨λ hf => ?_, λ _ => ⟨⟨⟨⟨hm.1, hm.2, ni⟩, so⟩, default, trivial⟩, (λ hf => by rw [no] at hf; cases hf), λ _ => ⟨⟨⟨⟨m1, m2⟩, by omega, Nat.one_pos, λ j hj => ?_, ⟨m1, m2⟩, by omega⟩, default, trivial, λ i hi => ?_, trivial⟩, ⟨⟨Nat.le_refl _, trivial, hm.1, hm.2⟩, (λ hf => by rw [hk] at hf; cases hf), λ _ => ⟨default, trivial⟩⟩, ⟨⟨Int.le_refl _, by omega⟩, rfl, ⟨Int.le_refl _, by omega⟩, z9⟩, ⟨0, ⟨trivial, rfl, rfl, rfl, rfl, λ i hi => ?_, rfl, λ i hi => ?_⟩, Nat.zero_le _⟩, λ k hk => ⟨λ hlt => ⟨⟨bd k (by omega), by omega, by omega⟩, ⟨by omega, by omega⟩, by omega, λ hs => ?_, λ hs => ?_⟩, λ hge => by omega⟩⟩⟩⟩⟩
 ·have : DT x.m 0 ((x.a.c.ms.length - 1 : Nat) : Int) = true := CK.2 (by omega)
  rw [this] at hf; cases hf
 ·obtain rfl : j = 0 := by omega
  exact ⟨rfl, rfl⟩
 ·unfold IC
  rw [BD _ _ _ (by omega)]
  cases decide (i = x.m.toNat) <;> exact ⟨rfl, rfl⟩
 ·obtain rfl : i = 0 := by omega
  rfl
 ·obtain rfl : i = 0 := by omega
  rfl
 ·exact ⟨⟨bd k (by omega), ⟨by omega, by omega⟩, by omega, Nat.one_pos, (λ h => by cases h), by omega, by omega⟩, ⟨bd k (by omega), Nat.one_pos, (λ h => by cases h), by omega, by omega⟩, k + 1, ⟨(ws k (by omega)).symm, rfl, rfl, rfl, step k (by omega), rfl, step2 k (by omega)⟩, by omega, by omega⟩
 ·exact ⟨⟨bd k (by omega), ⟨by omega, by omega⟩, by omega, Nat.one_pos, (λ h => by cases h), by omega, by omega⟩, ⟨bd k (by omega), Nat.one_pos, (λ h => by cases h), by omega, by omega⟩, k + 1, ⟨(ws k (by omega)).symm, rfl, rfl, rfl, step k (by omega), rfl, step2 k (by omega)⟩, by omega, by omega⟩
theorem DRN (x : TrI) (h : CCM x) (hk : (PG x).all DZ = false) : DFK x := by
 obtain ⟨⟨l1, l2, l3⟩, hr, m1, m2⟩ := h
 obtain ⟨c0, zo, so, no, _⟩ := Bj hr
 have nl : (UV x.a).length = x.a.c.ms.length := by unfold UV; rw [PW, CJ]
 have tl1 := Si x
 have tl := CJB x
 obtain ⟨_, hm, _⟩ := DG c0
 have ni := (SB c0).1
 have e0 : GD x.a = 0 := by unfold GD; rw [c0, zo]; rfl
 have wn : IntKind.i64.wrap ((x.a.c.ms.length : Int) - 1) = ((x.a.c.ms.length - 1 : Nat) : Int) := by rw [EN (by omega) (by omega)]; omega
 rw [DLB]; delta AJD AEU BPL AAK AIQ Z8 BXK BUO AHX AHB ANR AOR BCX BR CD TP OC qT oR AQZ mR ATM Ix AWX Dt ATJ En AQS BEL UF kZ nL NB ALK BGL iX BBQ fB Gc UR Eb UJ gX oG AXJ fN ASI AMA BAP gC BDO jN APT AQE AYL hJ BEN fW jY AOD kO rG jE AKX jW BBX lZ oS AKC AUJ ASF rA BFW eV AXS AYF AYC mW AUI rE jT ASD BBO iG pW SH TO lD UL BDP TX VB BGG UK UX BER AKT APO Gg kI Y3 Q9 Pv E3 zU Jq Oa Ka Lt Kj Ld Jo xH sK L4 Ng Jn T4 P8 Lr KL tW E9 wA OE Nu Pf M1 yT uD R4 uW zO vB N4 Ke tF C9 A6 wM yY xZ xL; simp only [AU, eq_self, implies_true, and_self, true_and, and_true, true_implies, forall_const, decide_eq_true_eq, decide_eq_false_iff_not, Int.toNat_natCast, dSpan_eSpan, dInt_eInt, AY, AW, AX, Nat.zero_add, Int.zero_sub, Nat.le_eq, Nat.succ_eq_add_one, Nat.add_one_le_iff, Bool.not_eq_true', Bool.not_eq_false', rng_length, AK, AJ, BI, NE, WH, QZ, show CR (AB x.a) (DQ x.a.c) = UV x.a from rfl, show CR (AB x.a) (IC x) = PG x from rfl, e0, DOQ]; simp only [nl, tl1, tl, wn]
 refine ⟨⟨⟨l1, l2, l3⟩, c0⟩, (λ h => by simp at h), λ _ => ⟨λ hf => ?_, λ _ => ⟨⟨⟨⟨hm.1, hm.2, ni⟩, so⟩, default, trivial⟩, (λ hf => by rw [no] at hf; cases hf), λ _ => ⟨⟨⟨⟨m1, m2⟩, by omega, Nat.one_pos, λ j hj => ?_, ⟨m1, m2⟩, by omega⟩, default, trivial, λ i hi => ?_, trivial⟩, ⟨Nat.le_refl _, trivial, hm.1, hm.2⟩, (λ hf => by rw [hk] at hf; cases hf)⟩⟩⟩⟩
 ·have : DT x.m 0 ((x.a.c.ms.length - 1 : Nat) : Int) = true := CK.2 (by omega)
  rw [this] at hf; cases hf
 ·obtain rfl : j = 0 := by omega
  exact ⟨rfl, rfl⟩
 ·unfold IC
  rw [BD _ _ _ (by omega)]
  cases decide (i = x.m.toNat) <;> exact ⟨rfl, rfl⟩
theorem DLP : AN Try.prog AFM (C_TruO.spec dTrI) := okT C_TruO (λ (x : TrI) h => by
 obtain ⟨h1, h2⟩ : CCM x /\ (PG x).all DZ = true := h
 exact PJ (A := DPA x) (L := []) (ren := [(0, 301), (1, 302)]) (fz := []) CDY (by kernel_rfl) (AD BUS (AD rV (AD CXR (AD CGC (AD BYL (AD CSR (AD DRG (AD AEB AI)))))))) (DQI x h1 h2) (CQB LW (itTr x) rfl rfl AI cE (by kernel_rfl) (by kernel_rfl))) _
theorem DKA : AN Try.prog AFM (C_TruX.spec dTrI) := MB C_TruX DGN [] [] CDY (λ _ => by kernel_rfl) (λ _ => AD BUS (AD rV (AD CXR (AD CGC (AD BYL AI))))) (λ (x : TrI) h => DRN x (show CCM x /\ (PG x).all DZ = false from h).1 (show CCM x /\ (PG x).all DZ = false from h).2) (λ _ => OS rfl rfl) _
end Go.Bal
