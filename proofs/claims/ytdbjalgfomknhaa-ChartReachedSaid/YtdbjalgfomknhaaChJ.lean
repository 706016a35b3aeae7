/- Package chart: the greatest stages from a time to another one. -/
import Derived.Test.YtdbjalgfomknhaaChI
set_option linter.unusedVariables false
set_option linter.unusedSimpArgs false
namespace Go.Bal
open Go Go.Sym Go.Proofs
structure CZ2 where
 a : CZ
 f : Int
 t : Int
structure IJ where
 i : Nat
 j : Nat
 deriving Inhabited
def dCZ2 : List AVal -> Heap -> Option (CZ2 × List (Nat × Nat) × List Nat)
 | [x, y, .d f, .d t], H => match CAS x H, BZN y H with
  | some (c, g), some (l, e) => some (⟨⟨c, l⟩, BV f, BV t⟩, [], g ++ e)
  | _, _ => none
 | _, _ => none
def xCZ2 (x : CZ2) : List AVal := [.d (XK x.a.c), .d (BB x.a.z), .int x.f, .int x.t]
def pkF (x : CZ2) : Int := DD x.f (-100000001)
def pkT (x : CZ2) : Int := RN x.t 100000001
def CEB (x : CZ2) (a b : Nat) : Bool := (CR (AB x.a) (winL (GV x.a) (a : Int) (b : Int) (pkF x) (pkT x))).all DZ
def sliS (x : CZ2) (a b : Nat) : List Span := AF (b + 1 - a) λ i => gD (BE x.a.c) (a + i)
def pkI (x : CZ2) (a : Nat) (h : Hul) : Nat -> Hul
 | 0 => h
 | k + 1 => bif CEB x a (a + k) then RC (pkI x a h k) ⟨gLo (sliS x a (a + k)), gHi (sliS x a (a + k))⟩ else pkI x a h k
def pkO (x : CZ2) : Nat -> Hul
 | 0 => zHul
 | a + 1 => bif decide (pkT x >= pkF x) then pkI x a (pkO x a) (x.a.c.ms.length - a) else pkO x a
def Fl (x : CZ2) : Span × Int := bif decide (x.t < x.f) then (⟨0, 0⟩, 4) else MG (pkO x x.a.c.ms.length)
def BIA (x : CZ2) : Span × Int := bif AS x.a == 0 then Fl x else (⟨0, 0⟩, AS x.a)
def C_Peak : Ctr := { α := CZ2, xs := xCZ2, val := λ x => .tup [.d (CH (BIA x).1), .int (BIA x).2], keep := λ _ => [], pre := λ x => [x.a.c.ms.length < 4611686018427387904 /\ x.a.c.ns.length < 4611686018427387904 /\ x.a.z.length < 4611686018427387904] }
def pkS (x : CZ2) (a : Nat) : List (Nat × AVal) := [(2, .int (pkF x)), (3, .int (pkT x)), (8, .bptr 202 0), (10, .bptr 208 0), (11, .d (AT (GV x.a))), (12, .d (AT (BE x.a.c))), (14, .bptr 206 0), (42, .int x.a.c.ms.length), (43, .int a)]
def pkH (x : CZ2) (h : Hul) : List (Nat × HCell) := [(202, .live (.box [.int 0, .int 0])), (206, .live (hlB h)), (208, .live (dkB (AB x.a) 209)), (209, .live (dkM (AB x.a)))]
def pk9 (x : CZ2) : Shape := { α := Nat, dflt := 0, T := λ a => ⟨pkS x a, pkH x (pkO x a)⟩, inv := λ a => a <= x.a.c.ms.length, meas := λ a => x.a.c.ms.length - a, first := [(202, 1016), (206, 8000), (208, 2032), (209, 2033)] }
def pk12 (x : CZ2) (m : Nat) : Shape := { α := IJ, dflt := default, T := λ s => ⟨[(15, .int s.i), (16, .int s.j)] ++ pkS x s.i, pkH x (pkI x s.i (pkO x s.i) (s.j - s.i))⟩, inv := λ s => s.i < x.a.c.ms.length /\ x.a.c.ms.length - s.i = m /\ s.i <= s.j /\ s.j <= x.a.c.ms.length /\ (s.i < s.j -> pkT x >= pkF x), meas := λ s => x.a.c.ms.length - s.j }
def DGR (x : CZ2) : Ann := { ann 91 [(WL, C_rdO.spec dCZ), (CBR, C_win.spec dDkW), (HN, C_nar.spec dDkS), (CIS, C_least.spec dN0c), (CTS, C_most.spec dN0c), (Pd, orS (C_grL.spec DNP) (C_grH.spec DOF)), (AMH, C_hadd.spec dHuS), (AEO, C_who.spec dHu1)] with loops := λ id => if id = 9 then some [pk9 x] else none, inner := λ gs id => if id = 12 then some [pk12 x (gs.getD 0 0)] else none }
def CXI : Ann := ann 91 [(WL, C_rdX.spec dCZ)]
def DEY (x : CZ2) : Prop := BA Try.prog (DGR x) CBT (AL CBT) (xCZ2 x) (AG []) (.tup [.d (CH (Fl x).1), .int (Fl x).2]) [] [] []
abbrev AGI (x : CZ2) : List Mk := AF x.a.c.ms.length λ (i : Nat) => gD x.a.c.ms i
abbrev AJE (x : CZ2) : Nat := (AGI x).length
abbrev BWK (x : CZ2) (i : Nat) : Mk := gD (AGI x) i
abbrev AJX (x : CZ2) : List Nt := AF x.a.c.ns.length λ (i : Nat) => gD x.a.c.ns i
abbrev AGB (x : CZ2) : Nat := (AJX x).length
abbrev AFE (x : CZ2) (i : Nat) : Nt := gD (AJX x) i
abbrev BOO (x : CZ2) (i : Nat) : Span := (AFE x i).t
abbrev BWQ (x : CZ2) (i : Nat) : Span := (AFE x i).s
abbrev AIL (x : CZ2) : List Int := AF x.a.z.length λ (i : Nat) => gD x.a.z i
abbrev AIB (x : CZ2) : Nat := (AIL x).length
abbrev ANV (x : CZ2) : Cht := Cht.mk x.a.c.p x.a.c.base x.a.c.scale x.a.c.off (AGI x) (AJX x)
abbrev AWH (x : CZ2) : CZ := CZ.mk (ANV x) (AIL x)
abbrev Ey (x : CZ2) : Dk := AB (AWH x)
abbrev ATK (x : CZ2) : List Span := (AZ (Ey x)).fst
abbrev ANF (x : CZ2) : Nat := (ATK x).length
abbrev AXN (x : CZ2) (i : Nat) : Span := gD (ATK x) i
abbrev APW (x : CZ2) : List Span := BE (ANV x)
abbrev BGN (i : Nat) (x : CZ2) : Prop := i < (BE x.a.c).length
abbrev ANB (x : CZ2) (i : Nat) : Span := gD (APW x) i
abbrev HD : Prop := Int.ofNat (0 : Nat) = Int.ofNat (0 : Nat)
abbrev OG (x : CZ2) : Cht := (Ey x).c
abbrev AZD (x : CZ2) : Span := (OG x).p
abbrev AQH (x : CZ2) : List Mk := (OG x).ms
abbrev pL (i : Nat) (x : CZ2) : Prop := i < (AB x.a).c.ms.length
abbrev TL (x : CZ2) (i : Nat) : Int := (gD (AB x.a).c.ms i).pl
abbrev BFV (x : CZ2) (i : Nat) : Mk := gD (AQH x) i
abbrev UT (x : CZ2) (i : Nat) : Int := (gD (AB x.a).c.ms i).ht
abbrev Fd (x : CZ2) : List Nt := (OG x).ns
abbrev kV (i : Nat) (x : CZ2) : Prop := i < (AB x.a).c.ns.length
abbrev SS (x : CZ2) (i : Nat) : Int := (gD (AB x.a).c.ns i).mi
abbrev hX (x : CZ2) (i : Nat) : Nt := gD (Fd x) i
abbrev AXV (x : CZ2) (i : Nat) : Span := (gD (AB x.a).c.ns i).t
abbrev TU (x : CZ2) (i : Nat) : Int := (AXV x i).lo
abbrev BAA (x : CZ2) (i : Nat) : Span := (hX x i).t
abbrev UU (x : CZ2) (i : Nat) : Int := (AXV x i).hi
abbrev BBN (x : CZ2) (i : Nat) : Span := (gD (AB x.a).c.ns i).s
abbrev VE (x : CZ2) (i : Nat) : Int := (BBN x i).lo
abbrev BGQ (x : CZ2) (i : Nat) : Span := (hX x i).s
abbrev TV (x : CZ2) (i : Nat) : Int := (BBN x i).hi
abbrev nG (x : CZ2) (n : Int) : Nt := ntOf (Fd x) n
abbrev BDQ (x : CZ2) (n : Int) : Span := (nG x n).t
abbrev BAY (x : CZ2) (n : Int) : Span := (nG x n).s
abbrev AXX (a : IJ) (a1 : Nat) : Prop := (↑a.i : Int) = (↑a1 : Int)
abbrev Gk (x : CZ2) : Prop := (GV x.a).length = (GV x.a).length
abbrev Gp (x : CZ2) : Prop := ∀ (i : Nat), i < (GV x.a).length -> (gD (GV x.a) i).lo = (gD (GV x.a) i).lo /\ (gD (GV x.a) i).hi = (gD (GV x.a) i).hi
abbrev Ef (x : CZ2) : Prop := (BE x.a.c).length = (BE x.a.c).length
abbrev Dr (x : CZ2) : Prop := ∀ (i : Nat), BGN i x -> (gD (BE x.a.c) i).lo = (gD (BE x.a.c) i).lo /\ (gD (BE x.a.c) i).hi = (gD (BE x.a.c) i).hi
abbrev Ib (x : CZ2) : Prop := (↑x.a.c.ms.length : Int) = (↑x.a.c.ms.length : Int)
abbrev BCU (x : CZ2) (a : IJ) : Hul := pkI x a.i (pkO x a.i) (a.j - a.i)
abbrev oY (x : CZ2) (a : IJ) : Span := (BCU x a).s
abbrev LO (x : CZ2) (a : IJ) : Int := (oY x a).lo
abbrev LJ (x : CZ2) (a : IJ) : Int := (oY x a).hi
abbrev JG (x : CZ2) (a : IJ) : Bool := (BCU x a).m
abbrev UO (x : CZ2) : Prop := (AB x.a).c.p.lo = (AB x.a).c.p.lo
abbrev TB (x : CZ2) : Prop := (AB x.a).c.p.hi = (AB x.a).c.p.hi
abbrev TQ (x : CZ2) : Prop := (AB x.a).c.base = (AB x.a).c.base
abbrev SG (x : CZ2) : Prop := (AB x.a).c.scale = (AB x.a).c.scale
abbrev UB (x : CZ2) : Prop := (AB x.a).c.off = (AB x.a).c.off
abbrev UI (x : CZ2) : Prop := ∀ (i : Nat), i < (40 : Nat) -> (AB x.a).sp i = (AB x.a).sp i
abbrev TI (x : CZ2) : Prop := ∀ (n : Int), (AB x.a).st n = (AB x.a).st n
abbrev Fo (x : CZ2) : Prop := UO x /\ TB x /\ TQ x /\ SG x /\ UB x /\ (AB x.a).c.ms.length = (AB x.a).c.ms.length /\ (∀ (i : Nat), pL i x -> TL x i = TL x i /\
 UT x i = UT x i) /\ (AB x.a).c.ns.length = (AB x.a).c.ns.length /\ (∀ (i : Nat), kV i x -> SS x i = SS x i /\ TU x i = TU x i /\ UU x i = UU x i /\ VE x
 i = VE x i /\ TV x i = TV x i) /\ UI x /\ AO = AO /\ (∀ (n : Int), hasN (AB x.a).c.ns n = hasN (AB x.a).c.ns n) /\ TI x /\ ∀ (n : Int), (ntOf (AB x.a).c.ns n).mi = (ntOf (AB
 x.a).c.ns n).mi /\ (ntOf (AB x.a).c.ns n).t.lo = (ntOf (AB x.a).c.ns n).t.lo /\ (ntOf (AB x.a).c.ns n).t.hi = (ntOf (AB x.a).c.ns n).t.hi /\ (ntOf (AB x.a).c.ns n).s.lo = (ntOf (AB x.a).c.ns n).s.lo /\ (ntOf
 (AB x.a).c.ns n).s.hi = (ntOf (AB x.a).c.ns n).s.hi
abbrev eU (x : CZ2) (a : Nat) : Nat := x.a.c.ms.length - a
abbrev jM (a : IJ) (x : CZ2) (a1 : Nat) : Prop := a.i < x.a.c.ms.length /\ x.a.c.ms.length - a.i = eU x a1 /\ a.i <= a.j /\ a.j <= x.a.c.ms.length /\ (a.i < a.j -> pkT x >= pkF x)
abbrev kD (x : CZ2) : List Span := AF (GV x.a).length λ (i : Nat) => gD (GV x.a) i
abbrev OM (x : CZ2) : Nat := (kD x).length
abbrev AVS (x : CZ2) (i : Nat) : Span := gD (kD x) i
abbrev iO (x : CZ2) : List Mk := AF (AB x.a).c.ms.length λ (i : Nat) => gD (AB x.a).c.ms i
abbrev OB (x : CZ2) : Nat := (iO x).length
abbrev BAE (x : CZ2) : Prop := OB x = (AB x.a).c.ms.length
abbrev AWA (x : CZ2) (i : Nat) : Mk := gD (iO x) i
abbrev AXM (x : CZ2) (i : Nat) : Int := (AWA x i).pl
abbrev ALD (x : CZ2) (i : Nat) : Int := (AWA x i).ht
abbrev AYG (x : CZ2) : Prop := ∀ (i : Nat), i < OB x -> AXM x i = TL x i /\ ALD x i = UT x i
abbrev SJ (x : CZ2) : List Nt := AF (AB x.a).c.ns.length λ (i : Nat) => gD (AB x.a).c.ns i
abbrev iF (x : CZ2) : Nat := (SJ x).length
abbrev BCG (x : CZ2) : Prop := iF x = (AB x.a).c.ns.length
abbrev eZ (x : CZ2) (i : Nat) : Nt := gD (SJ x) i
abbrev ATY (x : CZ2) (i : Nat) : Int := (eZ x i).mi
abbrev ARP (x : CZ2) (i : Nat) : Span := (eZ x i).t
abbrev ASW (x : CZ2) (i : Nat) : Int := (ARP x i).lo
abbrev AWU (x : CZ2) (i : Nat) : Int := (ARP x i).hi
abbrev BGU (x : CZ2) (i : Nat) : Span := (eZ x i).s
abbrev BBF (x : CZ2) (i : Nat) : Int := (BGU x i).lo
abbrev BCC (x : CZ2) (i : Nat) : Int := (BGU x i).hi
abbrev BGK (x : CZ2) : Prop := ∀ (i : Nat), i < iF x -> ATY x i = SS x i /\ ASW x i = TU x i /\ AWU x i = UU x i /\ BBF x i = VE x i /\ BCC x i =
 TV x i
abbrev BEE (x : CZ2) (n : Int) : Bool := hasN (SJ x) n
abbrev BBH (x : CZ2) : Prop := ∀ (n : Int), BEE x n = hasN (AB x.a).c.ns n
abbrev kQ (x : CZ2) (n : Int) : Nt := ntOf (SJ x) n
abbrev ALR (x : CZ2) (n : Int) : Int := (kQ x n).mi
abbrev BBR (x : CZ2) (n : Int) : Span := (kQ x n).t
abbrev AMV (x : CZ2) (n : Int) : Int := (BBR x n).lo
abbrev AYH (x : CZ2) (n : Int) : Int := (BBR x n).hi
abbrev BFZ (x : CZ2) (n : Int) : Span := (kQ x n).s
abbrev AXI (x : CZ2) (n : Int) : Int := (BFZ x n).lo
abbrev BAI (x : CZ2) (n : Int) : Int := (BFZ x n).hi
abbrev AMU (x : CZ2) : Prop := ∀ (n : Int), ALR x n = (ntOf (AB x.a).c.ns n).mi /\ AMV x n = (ntOf (AB x.a).c.ns n).t.lo /\ AYH x n = (ntOf (AB x.a).c.ns n).t.hi /\ AXI x n = (ntOf (AB
 x.a).c.ns n).s.lo /\ BAI x n = (ntOf (AB x.a).c.ns n).s.hi
abbrev ARV (x : CZ2) : Prop := (AB x.a).c.ms.length = OB x
abbrev ANJ (x : CZ2) : Prop := ∀ (i : Nat), pL i x -> TL x i = AXM x i /\ UT x i = ALD x i
abbrev AYB (x : CZ2) : Prop := (AB x.a).c.ns.length = iF x
abbrev BAC (x : CZ2) : Prop := ∀ (i : Nat), kV i x -> SS x i = ATY x i /\ TU x i = ASW x i /\ UU x i = AWU x i /\ VE x i = BBF x i /\ TV x i = BCC
 x i
abbrev vJ (x : CZ2) : Prop := ∀ (n : Int), hasN (AB x.a).c.ns n = BEE x n
abbrev S6 (x : CZ2) : Prop := ∀ (n : Int), (ntOf (AB x.a).c.ns n).mi = ALR x n /\ (ntOf (AB x.a).c.ns n).t.lo = AMV x n /\ (ntOf (AB x.a).c.ns n).t.hi = AYH x n /\ (ntOf (AB x.a).c.ns
 n).s.lo = AXI x n /\ (ntOf (AB x.a).c.ns n).s.hi = BAI x n
abbrev zG (a : IJ) : Prop := (0 : Int) <= (↑a.i : Int)
abbrev S1 (x : CZ2) (a : IJ) : List Span := winL (kD x) (↑a.i : Int) (↑a.j : Int) (pkF x) (pkT x)
abbrev I0 (x : CZ2) (a : IJ) : Nat := (S1 x a).length
abbrev Lp (x : CZ2) (a : IJ) (i : Nat) : Span := gD (S1 x a) i
abbrev Me (x : CZ2) (a : IJ) : List Span := AF (I0 x a) λ (i : Nat) => Lp x a i
abbrev Oq (x : CZ2) (a : IJ) : Nat := (Me x a).length
abbrev sU (x : CZ2) (a : IJ) (i : Nat) : Span := gD (Me x a) i
abbrev XV (a : IJ) : Int := IntKind.i64.wrap ((↑a.j : Int) + (1 : Int))
abbrev U9 (a : IJ) (x : CZ2) : Prop := zG a /\ (↑a.i : Int) <= XV a /\ XV a <= (↑(BE x.a.c).length : Int)
abbrev F5 (a : IJ) : Nat := (XV a).toNat - a.i
abbrev Lz (x : CZ2) (a : IJ) (i : Nat) : Span := gD (BE x.a.c) (a.i + i)
abbrev YC (a : IJ) (x : CZ2) : List Span := AF (F5 a) λ (i : Nat) => Lz x a i
abbrev XR (a : IJ) (x : CZ2) : Nat := (YC a x).length
abbrev G7 (a : IJ) (x : CZ2) : Prop := XR a x = F5 a
abbrev S3 (a : IJ) (x : CZ2) (i : Nat) : Span := gD (YC a x) i
abbrev I8 (a : IJ) (x : CZ2) : Prop := ∀ (i : Nat), i < XR a x -> (S3 a x i).lo = (Lz x a i).lo /\ (S3 a x i).hi = (Lz x a i).hi
abbrev I5 (a : IJ) (x : CZ2) : Prop := (0 : Nat) < XR a x /\ XR a x < (1073741824 : Nat)
abbrev Li (a : IJ) (x : CZ2) : Int := gLo (YC a x)
abbrev Mp (a : IJ) (x : CZ2) : Int := gHi (YC a x)
abbrev XW (a : IJ) (a1 : IJ) : Prop := (↑a.i : Int) = (↑a1.i : Int)
abbrev tA (a : IJ) (a1 : IJ) : Prop := (↑a.j : Int) = XV a1
abbrev wV (x : CZ2) (a : IJ) : Span := (RC (Hul.mk (oY x a) (JG x a)) (Span.mk (Li a x) (Mp a x))).s
abbrev yC (x : CZ2) (a : IJ) : Nat := x.a.c.ms.length - a.j
abbrev uV (a : IJ) (x : CZ2) (a1 : Nat) (a2 : IJ) : Prop := jM a x a1 /\ yC x a < yC x a2
abbrev vN (x : CZ2) (a : Nat) : Prop := (pkO x a).s.lo = (pkO x a).s.lo
abbrev S7 (x : CZ2) (a : Nat) : Prop := (pkO x a).s.hi = (pkO x a).s.hi
abbrev xQ (x : CZ2) (a : Nat) : Prop := (pkO x a).m = (pkO x a).m
abbrev uB (x : CZ2) (a : Nat) : Span × Int := MG (Hul.mk (pkO x a).s (pkO x a).m)
abbrev X8 (x : CZ2) (a : Nat) : Span := (uB x a).fst
theorem DLK (x : CZ2) : (DEY x) = ((x.a.c.p.lo = x.a.c.p.lo /\ x.a.c.p.hi = x.a.c.p.hi /\ x.a.c.base = x.a.c.base /\ x.a.c.scale = x.a.c.scale /\ x.a.c.off = x.a.c.off /\ AJE x = x.a.c.ms.length /\ (∀ (i : Nat), i
 < AJE x -> (BWK x i).pl = (gD x.a.c.ms i).pl /\ (BWK x i).ht = (gD x.a.c.ms i).ht) /\ AGB x = x.a.c.ns.length /\ (∀ (i : Nat), i < AGB x -> (AFE x i).mi = (gD x.a.c.ns i).mi /\ (BOO x i).lo =
 (gD x.a.c.ns i).t.lo /\ (BOO x i).hi = (gD x.a.c.ns i).t.hi /\ (BWQ x i).lo = (gD x.a.c.ns i).s.lo /\ (BWQ x i).hi = (gD x.a.c.ns i).s.hi) /\ AIB x = x.a.z.length /\ (∀ (i : Nat), i < AIB x -> gD
 (AIL x) i = gD x.a.z i) /\ (AJE x < (4611686018427387904 : Nat) /\ AGB x < (4611686018427387904 : Nat) /\ AIB x < (4611686018427387904 : Nat)) /\ AS (AWH x) = (0 : Int)) /\ bif decide (x.t < x.f)
 then (Fl x).fst.lo = (0 : Int) /\ (Fl x).fst.hi = (0 : Int) /\ (Fl x).snd = (4 : Int) else (∃ (a : Nat), (pkF x = DD x.f (-100000001 : Int) /\ pkT x = RN x.t (100000001 : Int) /\ (GV x.a).length = ANF x /\
 (∀ (i : Nat), i < (GV x.a).length -> (gD (GV x.a) i).lo = (AXN x i).lo /\ (gD (GV x.a) i).hi = (AXN x i).hi) /\ (BE x.a.c).length = (APW x).length /\ (∀ (i : Nat), BGN i x -> (gD (BE x.a.c)
 i).lo = (ANB x i).lo /\ (gD (BE x.a.c) i).hi = (ANB x i).hi) /\ (↑x.a.c.ms.length : Int) = (↑(ANF x) : Int) /\ (↑a : Int) = (0 : Int) /\ HD /\ HD /\ (pkO x a).s.lo = (0 : Int) /\ (pkO x a).s.hi
 = (0 : Int) /\ (pkO x a).m = false /\ (AB x.a).c.p.lo = (AZD x).lo /\ (AB x.a).c.p.hi = (AZD x).hi /\ (AB x.a).c.base = (OG x).base /\ (AB x.a).c.scale = (OG x).scale /\ (AB x.a).c.off =
 (OG x).off /\ (AB x.a).c.ms.length = (AQH x).length /\ (∀ (i : Nat), pL i x -> TL x i = (BFV x i).pl /\ UT x i = (BFV x i).ht) /\ (AB x.a).c.ns.length = (Fd x).length /\
 (∀ (i : Nat), kV i x -> SS x i = (hX x i).mi /\ TU x i = (BAA x i).lo /\ UU x i = (BAA x i).hi /\ VE x i = (BGQ x i).lo /\ TV x i = (BGQ x i).hi) /\ (∀
 (i : Nat), i < (40 : Nat) -> (AB x.a).sp i = (Ey x).sp i) /\ AO = AO /\ (∀ (n : Int), hasN (AB x.a).c.ns n = hasN (Fd x) n) /\ (∀ (n : Int), (AB x.a).st n = (Ey x).st n) /\ ∀ (n : Int), (ntOf
 (AB x.a).c.ns n).mi = (nG x n).mi /\ (ntOf (AB x.a).c.ns n).t.lo = (BDQ x n).lo /\ (ntOf (AB x.a).c.ns n).t.hi = (BDQ x n).hi /\ (ntOf (AB x.a).c.ns n).s.lo = (BAY x n).lo /\ (ntOf (AB
 x.a).c.ns n).s.hi = (BAY x n).hi) /\ a.le x.a.c.ms.length) /\ ∀ (a : Nat), a.le x.a.c.ms.length -> bif decide ((↑a : Int) < (↑x.a.c.ms.length : Int)) then (∃ (a_2 : IJ), (AXX a_2 a /\ (↑a_2.j : Int) = (↑a : Int)
 /\ pkF x = pkF x /\ pkT x = pkT x /\ Gk x /\ Gp x /\ Ef x /\ Dr x /\ Ib x /\ AXX a_2 a /\ HD /\ HD /\ LO x a_2 = (pkO x a).s.lo /\ LJ x a_2 = (pkO x a).s.hi /\
 JG x a_2 = (pkO x a).m /\ Fo x) /\ jM a_2 x a) /\ ∀ (a_2 : IJ), jM a_2 x a -> bif bif decide ((↑a_2.j : Int) < (↑(GV x.a).length : Int)) then decide (pkT x >= pkF x) else false then (OM x =
 (GV x.a).length /\ (∀ (i : Nat), i < OM x -> (AVS x i).lo = (gD (GV x.a) i).lo /\ (AVS x i).hi = (gD (GV x.a) i).hi) /\ (↑a_2.i : Int) = (↑a_2.i : Int) /\ (↑a_2.j : Int) = (↑a_2.j : Int) /\ pkF x = pkF x
 /\ pkT x = pkT x /\ UO x /\ TB x /\ TQ x /\ SG x /\ UB x /\ BAE x /\ AYG x /\ BCG x /\ BGK x /\ UI x /\ AO = AO /\ BBH x /\ TI x /\ AMU x /\
 UO x /\ TB x /\ TQ x /\ SG x /\ UB x /\ ARV x /\ ANJ x /\ AYB x /\ BAC x /\ UI x /\ AO = AO /\ vJ x /\ TI x /\ S6 x /\ (((1 : Nat) <= OM
 x /\ OM x <= (40 : Nat)) /\ (zG a_2 /\ (↑a_2.i : Int) < (↑(OM x) : Int)) /\ (0 : Int) <= (↑a_2.j : Int) /\ (↑a_2.j : Int) < (↑(OM x) : Int)) /\ Oq x a_2 = I0 x a_2 /\ (∀ (i : Nat), i <
 Oq x a_2 -> (sU x a_2 i).lo = (Lp x a_2 i).lo /\ (sU x a_2 i).hi = (Lp x a_2 i).hi) /\ UO x /\ TB x /\ TQ x /\ SG x /\ UB x /\ BAE x /\ AYG x
 /\ BCG x /\ BGK x /\ UI x /\ AO = AO /\ BBH x /\ TI x /\ AMU x /\ UO x /\ TB x /\ TQ x /\ SG x /\ UB x /\ ARV x /\ ANJ x /\ AYB x /\ BAC
 x /\ UI x /\ AO = AO /\ vJ x /\ TI x /\ S6 x /\ Oq x a_2 = OB x /\ (1 : Nat) <= OB x /\ OB x <= (40 : Nat)) /\ bif (CR (Dk.mk (Cht.mk (AB x.a).c.p (AB x.a).c.base
 (AB x.a).c.scale (AB x.a).c.off (iO x) (SJ x)) (AB x.a).st (AB x.a).sp) (Me x a_2)).all DZ then (U9 a_2 x /\ G7 a_2 x /\ I8 a_2 x /\ I5 a_2 x /\ U9 a_2 x
 /\ G7 a_2 x /\ I8 a_2 x /\ I5 a_2 x /\ Li a_2 x = Li a_2 x /\ Mp a_2 x = Mp a_2 x /\ LO x a_2 = LO x a_2 /\ LJ x a_2 = LJ x a_2 /\ JG x
 a_2 = JG x a_2) /\ ∃ (a_4 : IJ), (XW a_4 a_2 /\ tA a_4 a_2 /\ pkF x = pkF x /\ pkT x = pkT x /\ Gk x /\ Gp x /\ Ef x /\ Dr x /\ Ib x /\ XW a_4 a_2 /\ HD /\
 HD /\ LO x a_4 = (wV x a_2).lo /\ LJ x a_4 = (wV x a_2).hi /\ JG x a_4 = true /\ Fo x) /\ uV a_4 x a a_2 else ∃ (a_4 : IJ), (XW a_4 a_2 /\ tA a_4 a_2 /\
 pkF x = pkF x /\ pkT x = pkT x /\ Gk x /\ Gp x /\ Ef x /\ Dr x /\ Ib x /\ XW a_4 a_2 /\ HD /\ HD /\ LO x a_4 = LO x a_2 /\ LJ x a_4 = LJ x a_2 /\
 JG x a_4 = JG x a_2 /\ Fo x) /\ uV a_4 x a a_2 else ∃ (a_4 : Nat), (pkF x = pkF x /\ pkT x = pkT x /\ Gk x /\ Gp x /\ Ef x /\ Dr x /\ Ib x /\ (↑a_4 : Int) =
 IntKind.i64.wrap ((↑a_2.i : Int) + (1 : Int)) /\ HD /\ HD /\ (pkO x a_4).s.lo = LO x a_2 /\ (pkO x a_4).s.hi = LJ x a_2 /\ (pkO x a_4).m = JG x a_2 /\ Fo x) /\ a_4.le x.a.c.ms.length /\
 eU x a_4 < eU x a else (vN x a /\ S7 x a /\ xQ x a /\ vN x a /\ S7 x a /\ xQ x a) /\ (Fl x).fst.lo = (X8 x a).lo /\ (Fl x).fst.hi = (X8 x a).hi
 /\ (Fl x).snd = (uB x a).snd) := by kernel_rfl
def CXH (x : CZ2) : Prop := BA Try.prog CXI CBT (AL CBT) (xCZ2 x) (AG []) (.tup [.d (CH zSp), .int (AS x.a)]) [] [] []
theorem DGV (x : CZ2) : (CXH x) = ((x.a.c.p.lo = x.a.c.p.lo /\ x.a.c.p.hi = x.a.c.p.hi /\ x.a.c.base = x.a.c.base /\ x.a.c.scale = x.a.c.scale /\ x.a.c.off = x.a.c.off /\ (AF x.a.c.ms.length λ (i : Nat) => gD
 x.a.c.ms i).length = x.a.c.ms.length /\ (∀ (i : Nat), i < (AF x.a.c.ms.length λ (i : Nat) => gD x.a.c.ms i).length -> (gD (AF x.a.c.ms.length λ (i : Nat) => gD x.a.c.ms i) i).pl = (gD x.a.c.ms i).pl /\ (gD (AF
 x.a.c.ms.length λ (i : Nat) => gD x.a.c.ms i) i).ht = (gD x.a.c.ms i).ht) /\ (AF x.a.c.ns.length λ (i : Nat) => gD x.a.c.ns i).length = x.a.c.ns.length /\ (∀ (i : Nat), i < (AF x.a.c.ns.length λ (i : Nat) => gD
 x.a.c.ns i).length -> (gD (AF x.a.c.ns.length λ (i : Nat) => gD x.a.c.ns i) i).mi = (gD x.a.c.ns i).mi /\ (gD (AF x.a.c.ns.length λ (i : Nat) => gD x.a.c.ns i) i).t.lo = (gD x.a.c.ns i).t.lo /\ (gD (AF
 x.a.c.ns.length λ (i : Nat) => gD x.a.c.ns i) i).t.hi = (gD x.a.c.ns i).t.hi /\ (gD (AF x.a.c.ns.length λ (i : Nat) => gD x.a.c.ns i) i).s.lo = (gD x.a.c.ns i).s.lo /\ (gD (AF x.a.c.ns.length λ (i : Nat) => gD
 x.a.c.ns i) i).s.hi = (gD x.a.c.ns i).s.hi) /\ (AF x.a.z.length λ (i : Nat) => gD x.a.z i).length = x.a.z.length /\ (∀ (i : Nat), i < (AF x.a.z.length λ (i : Nat) => gD x.a.z i).length -> gD (AF x.a.z.length λ (i :
 Nat) => gD x.a.z i) i = gD x.a.z i) /\ ((AF x.a.c.ms.length λ (i : Nat) => gD x.a.c.ms i).length < (4611686018427387904 : Nat) /\ (AF x.a.c.ns.length λ (i : Nat) => gD x.a.c.ns i).length < (4611686018427387904 : Nat)
 /\ (AF x.a.z.length λ (i : Nat) => gD x.a.z i).length < (4611686018427387904 : Nat)) /\ AS (CZ.mk (Cht.mk x.a.c.p x.a.c.base x.a.c.scale x.a.c.off (AF x.a.c.ms.length λ (i : Nat) => gD x.a.c.ms i) (AF
 x.a.c.ns.length λ (i : Nat) => gD x.a.c.ns i)) (AF x.a.z.length λ (i : Nat) => gD x.a.z i)) ≠ (0 : Int)) /\ bif AS (CZ.mk (Cht.mk x.a.c.p x.a.c.base x.a.c.scale x.a.c.off (AF x.a.c.ms.length λ (i : Nat) => gD
 x.a.c.ms i) (AF x.a.c.ns.length λ (i : Nat) => gD x.a.c.ns i)) (AF x.a.z.length λ (i : Nat) => gD x.a.z i)) != (0 : Int) then Int.ofNat (0 : Nat) = Int.ofNat (0 : Nat) /\ Int.ofNat (0 : Nat) = Int.ofNat (0 : Nat) /\
 AS x.a = AS (CZ.mk (Cht.mk x.a.c.p x.a.c.base x.a.c.scale x.a.c.off (AF x.a.c.ms.length λ (i : Nat) => gD x.a.c.ms i) (AF x.a.c.ns.length λ (i : Nat) => gD x.a.c.ns i)) (AF x.a.z.length λ (i : Nat) => gD
 x.a.z i)) else bif decide (x.t < x.f) then Int.ofNat (0 : Nat) = Int.ofNat (0 : Nat) /\ Int.ofNat (0 : Nat) = Int.ofNat (0 : Nat) /\ AS x.a = (4 : Int) else False) := by kernel_rfl
theorem DFY (l : List Span) (a b x y : Int) : (winL l a b x y).length = l.length := by unfold winL; rw [Hv, Hv]
theorem pk1 (x : CZ2) {i j : Nat} (h : Hul) (hij : i <= j) (hw : CEB x i j = true) : pkI x i h (j + 1 - i) = RC (pkI x i h (j - i)) ⟨gLo (sliS x i j), gHi (sliS x i j)⟩ := by
 rw [show j + 1 - i = (j - i) + 1 by omega]
 show (bif CEB x i (i + (j - i)) then _ else _) = _
 rw [show i + (j - i) = j by omega, hw]; rfl
theorem pk0 (x : CZ2) {i j : Nat} (h : Hul) (hij : i <= j) (hw : CEB x i j = false) : pkI x i h (j + 1 - i) = pkI x i h (j - i) := by
 rw [show j + 1 - i = (j - i) + 1 by omega]
 show (bif CEB x i (i + (j - i)) then _ else _) = _
 rw [show i + (j - i) = j by omega, hw]; rfl
theorem DRV (x : CZ2) (h1 : x.a.c.ms.length < 4611686018427387904 /\ x.a.c.ns.length < 4611686018427387904 /\ x.a.z.length < 4611686018427387904) (c0 : AS x.a = 0) : DEY x := by
 have tl := BIX c0
 have sl := Eo x.a.c
 obtain ⟨_, ⟨n1, n2⟩, _⟩ := DG (PO c0).1
 have wo : ∀ a b : Nat, (CR (AB x.a) (winL (GV x.a) (a : Int) (b : Int) (pkF x) (pkT x))).all DZ = CEB x a b := λ _ _ => rfl
 have pf : DD x.f (-100000001) = pkF x := rfl
 have pt : RN x.t 100000001 = pkT x := rfl
 have so : ∀ a b : Nat, (AF (b + 1 - a) λ i => gD (BE x.a.c) (a + i)) = sliS x a b := λ _ _ => rfl
 rw [DLK]; delta AGI AJE BWK AJX AGB AFE BOO BWQ AIL AIB ANV AWH Ey ATK ANF AXN APW BGN ANB HD OG AZD AQH pL TL BFV UT Fd kV SS hX AXV TU BAA UU BBN VE BGQ TV nG BDQ BAY AXX Gk Gp Ef Dr Ib BCU oY LO LJ JG UO TB TQ SG UB UI TI Fo eU jM kD OM AVS iO OB BAE AWA AXM ALD AYG SJ iF BCG eZ ATY ARP ASW AWU BGU BBF BCC BGK BEE BBH kQ ALR BBR AMV AYH BFZ AXI BAI AMU ARV ANJ AYB BAC vJ S6 zG S1 I0 Lp Me Oq sU XV U9 F5 Lz YC XR G7 S3 I8 I5 Li Mp XW tA wV yC uV vN S7 xQ uB X8; simp only [AU, eq_self, implies_true, and_self, true_and, and_true, true_implies, forall_const, decide_eq_true_eq, decide_eq_false_iff_not, Int.toNat_natCast, dSpan_eSpan, dInt_eInt, AY, AW, AX, Nat.zero_add, Int.zero_sub, Nat.le_eq, Nat.succ_eq_add_one, Nat.add_one_le_iff, Bool.not_eq_true', Bool.not_eq_false', rng_length, AK, AJ, BI, RO, WH, NE, QZ, CPG, DHW]; simp only [tl, sl, wo, DFY, pf, pt]
 refine ⟨⟨h1, c0⟩, λ h4 => ?_, λ h4 => ⟨⟨0, ?_, Nat.zero_le _⟩, λ a ha => ⟨λ hlt => ⟨⟨⟨a, a⟩, ?_, by show a < _; omega, rfl, Nat.le_refl _, by show a <= _; omega, λ h => absurd h (Nat.lt_irrefl _)⟩, λ s ⟨s1, s2, s3, s4, s5⟩ => ⟨λ hc => ?_, λ hc => ?_⟩⟩, λ hge => ?_⟩⟩⟩
 ·unfold Fl; rw [decide_eq_true h4]; exact ⟨rfl, rfl, rfl⟩
 ·simp; exact ⟨rfl, rfl, rfl⟩
 ·simp [pkI]
 ·have hj : s.j < x.a.c.ms.length := by
   cases hd : decide ((s.j : Int) < x.a.c.ms.length) with
   | false => rw [hd] at hc; cases hc
   | true => have := of_decide_eq_true hd; omega
  have hft : pkT x >= pkF x := by
   rw [decide_eq_true (show (s.j : Int) < x.a.c.ms.length by omega)] at hc
   exact of_decide_eq_true hc
  have ew : IntKind.i64.wrap ((s.j : Int) + 1) = ((s.j + 1 : Nat) : Int) := FM (by omega)
  simp only [ew, Int.toNat_natCast, so]
  have bound : ∀ i, i < s.j + 1 - s.i -> (gD (sliS x s.i s.j) i).lo = (gD (BE x.a.c) (s.i + i)).lo /\ (gD (sliS x s.i s.j) i).hi = (gD (BE x.a.c) (s.i + i)).hi := λ i hi => by
   unfold sliS; rw [BD _ _ _ hi]; exact ⟨rfl, rfl⟩
  refine ⟨?_, λ hw => ⟨?_, ⟨s.i, s.j + 1⟩, ?_, ⟨s1, s2, by show s.i <= s.j + 1; omega, by show s.j + 1 <= _; omega, λ _ => hft⟩, by show x.a.c.ms.length - (s.j + 1) < _; omega⟩, λ hw => ⟨⟨s.i, s.j + 1⟩, ?_, ⟨s1, s2, by show s.i <= s.j + 1; omega, by show s.j + 1 <= _; omega, λ _ => hft⟩, by show x.a.c.ms.length - (s.j + 1) < _; omega⟩⟩
  ·simp; omega
  ·refine ⟨⟨by omega, by omega, by omega⟩, bound, ⟨by omega, by omega⟩, ⟨by omega, by omega, by omega⟩, bound, by omega, by omega⟩
  ·have e := pk1 x (pkO x s.i) s3 hw
   simp only [e]; simp; rfl
  ·have e := pk0 x (pkO x s.i) s3 hw
   simp only [e]; simp
 ·have e : pkO x (s.i + 1) = pkI x s.i (pkO x s.i) (s.j - s.i) := by
   show (bif decide (pkT x >= pkF x) then _ else _) = _
   by_cases hft : pkT x >= pkF x
   ·rw [decide_eq_true hft] at hc ⊢
    have hj : s.j = x.a.c.ms.length := by
     cases hd : decide ((s.j : Int) < x.a.c.ms.length) with
     | true => rw [hd] at hc; cases hc
     | false => have := of_decide_eq_false hd; omega
    rw [hj]; rfl
   ·rw [decide_eq_false hft]
    have : s.j = s.i := by
     rcases Nat.lt_or_ge s.i s.j with h | h
     ·exact absurd (s5 h) hft
     ·omega
    rw [this, Nat.sub_self]; rfl
  refine ⟨s.i + 1, ⟨(FM (by omega)).symm, ?_, ?_, ?_⟩, by omega, by omega⟩ <;> rw [e]
 ·obtain rfl : a = x.a.c.ms.length := by omega
  unfold Fl; rw [decide_eq_false h4]; exact ⟨rfl, rfl, rfl⟩
theorem DJT : AN Try.prog CUA (C_Peak.spec dCZ2) := okT C_Peak (λ (x : CZ2) h => by
 have h1 : x.a.c.ms.length < 4611686018427387904 /\ x.a.c.ns.length < 4611686018427387904 /\ x.a.z.length < 4611686018427387904 := h
 by_cases c0 : AS x.a = 0
 ·have e : C_Peak.val x = .tup [.d (CH (Fl x).1), .int (Fl x).2] := by
   show AVal.tup [.d (CH (BIA x).1), .int (BIA x).2] = _
   unfold BIA; rw [c0]; rfl
  rw [e]
  exact PJ (A := DGR x) (L := []) (keep := []) (ren := []) (fz := []) CYY (by kernel_rfl) (AD CMO (AD DRZ (AD BYL (AD DHK (AD DIY (AD (DEZ DPQ DPV) (AD CJS (AD CWA AI)))))))) (DRV x h1 c0)
 ·have c0' : (AS x.a == 0) = false := by simpa using c0
  have e : C_Peak.val x = .tup [.d (CH zSp), .int (AS x.a)] := by
   show AVal.tup [.d (CH (BIA x).1), .int (BIA x).2] = _
   unfold BIA; rw [c0']; rfl
  rw [e]
  refine PJ (A := CXI) (L := []) (keep := []) (ren := []) (fz := []) CYY (by kernel_rfl) (AD CJW AI) ?_
  show CXH x; rw [DGV]; simp only [AU, eq_self, implies_true, and_self, true_and, and_true, true_implies, forall_const, decide_eq_true_eq, decide_eq_false_iff_not, Int.toNat_natCast, dSpan_eSpan, dInt_eInt, AY, AW, AX, Nat.zero_add, Int.zero_sub, Nat.le_eq, Nat.succ_eq_add_one, Nat.add_one_le_iff, Bool.not_eq_true', Bool.not_eq_false', rng_length, AK, AJ, BI, NE]
  exact ⟨⟨h1, c0⟩, λ h => by simp [c0] at h⟩) _
end Go.Bal
