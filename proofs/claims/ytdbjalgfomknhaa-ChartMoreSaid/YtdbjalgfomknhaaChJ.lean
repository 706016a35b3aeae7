/- Package chart: the greatest stages from a time to another one. -/
import Derived.Test.YtdbjalgfomknhaaChI
set_option linter.unusedVariables false
set_option linter.unusedSimpArgs false
namespace Go.Bal
open Go Go.Sym Go.Proofs
structure CZ2 where
 a : CZ
 f : Int
 t : Int
structure IJ where
 i : Nat
 j : Nat
 deriving Inhabited
def dCZ2 : List AVal -> Heap -> Option (CZ2 × List (Nat × Nat) × List Nat)
 | [x, y, .d f, .d t], H => match COX x H, CVW y H with
  | some (c, g), some (l, e) => some (⟨⟨c, l⟩, CD f, CD t⟩, [], g ++ e)
  | _, _ => none
 | _, _ => none
def xCZ2 (x : CZ2) : List AVal := [.d (VZ x.a.c), .d (CI x.a.z), .int x.f, .int x.t]
def pkF (x : CZ2) : Int := BJ x.f (-100000001)
def pkT (x : CZ2) : Int := IC x.t 100000001
def CBV (x : CZ2) (a b : Nat) : Bool := (MN (AI x.a) (winL (CK x.a) (a : Int) (b : Int) (pkF x) (pkT x))).all KC
def sliS (x : CZ2) (a b : Nat) : List Span := AE (b + 1 - a) λ i => gD (BA x.a.c) (a + i)
def pkI (x : CZ2) (a : Nat) (h : Hul) : Nat -> Hul
 | 0 => h
 | k + 1 => bif CBV x a (a + k) then MJ (pkI x a h k) ⟨gLo (sliS x a (a + k)), gHi (sliS x a (a + k))⟩ else pkI x a h k
def pkO (x : CZ2) : Nat -> Hul
 | 0 => zHul
 | a + 1 => bif decide (pkT x >= pkF x) then pkI x a (pkO x a) (x.a.c.ms.length - a) else pkO x a
def Fv (x : CZ2) : Span × Int := bif decide (x.t < x.f) then (⟨0, 0⟩, 4) else IF (pkO x x.a.c.ms.length)
def BEZ (x : CZ2) : Span × Int := bif AS x.a == 0 then Fv x else (⟨0, 0⟩, AS x.a)
def C_Peak : Ctr := { α := CZ2, xs := xCZ2, val := λ x => .tup [.d (CE (BEZ x).1), .int (BEZ x).2], keep := λ _ => [], pre := λ x => [x.a.c.ms.length < 4611686018427387904 /\ x.a.c.ns.length < 4611686018427387904 /\ x.a.z.length < 4611686018427387904] }
def pkS (x : CZ2) (a : Nat) : List (Nat × AVal) := [(2, .int (pkF x)), (3, .int (pkT x)), (8, .bptr 202 0), (10, .bptr 208 0), (11, .d (AV (CK x.a))), (12, .d (AV (BA x.a.c))), (14, .bptr 206 0), (42, .int x.a.c.ms.length), (43, .int a)]
def pkH (x : CZ2) (h : Hul) : List (Nat × HCell) := [(202, .live (.box [.int 0, .int 0])), (206, .live (hlB h)), (208, .live (dkB (AI x.a) 209)), (209, .live (dkM (AI x.a)))]
def pk9 (x : CZ2) : Shape := { α := Nat, dflt := 0, T := λ a => ⟨pkS x a, pkH x (pkO x a)⟩, inv := λ a => a <= x.a.c.ms.length, meas := λ a => x.a.c.ms.length - a, first := [(202, 1016), (206, 8000), (208, 2032), (209, 2033)] }
def pk12 (x : CZ2) (m : Nat) : Shape := { α := IJ, dflt := default, T := λ s => ⟨[(15, .int s.i), (16, .int s.j)] ++ pkS x s.i, pkH x (pkI x s.i (pkO x s.i) (s.j - s.i))⟩, inv := λ s => s.i < x.a.c.ms.length /\ x.a.c.ms.length - s.i = m /\ s.i <= s.j /\ s.j <= x.a.c.ms.length /\ (s.i < s.j -> pkT x >= pkF x), meas := λ s => x.a.c.ms.length - s.j }
def DBC (x : CZ2) : Ann := { ann 91 [(VV, C_rdO.spec dCZ), (BOM, C_win.spec dDkW), (UU, C_nar.spec dDkS), (CME, C_least.spec dN0c), (CQH, C_most.spec dN0c), (Jp, orS (C_grL.spec DJY) (C_grH.spec DMI)), (AYF, C_hadd.spec dHuS), (P5, C_who.spec dHu1)] with loops := λ id => if id = 9 then some [pk9 x] else none, inner := λ gs id => if id = 12 then some [pk12 x (gs.getD 0 0)] else none }
def CVI : Ann := ann 91 [(VV, C_rdX.spec dCZ)]
def CZZ (x : CZ2) : Prop := AZ Try.prog (DBC x) BRG (AN BRG) (xCZ2 x) (AF []) (.tup [.d (CE (Fv x).1), .int (Fv x).2]) [] [] []
abbrev W6 (x : CZ2) : List Mk := AE x.a.c.ms.length λ (i : Nat) => gD x.a.c.ms i
abbrev ADP (x : CZ2) : Nat := (W6 x).length
abbrev BYP (x : CZ2) (i : Nat) : Mk := gD (W6 x) i
abbrev ABC (x : CZ2) : List Nt := AE x.a.c.ns.length λ (i : Nat) => gD x.a.c.ns i
abbrev ADT (x : CZ2) : Nat := (ABC x).length
abbrev AAP (x : CZ2) (i : Nat) : Nt := gD (ABC x) i
abbrev BQR (x : CZ2) (i : Nat) : Span := (AAP x i).t
abbrev BUO (x : CZ2) (i : Nat) : Span := (AAP x i).s
abbrev AAG (x : CZ2) : List Int := AE x.a.z.length λ (i : Nat) => gD x.a.z i
abbrev V0 (x : CZ2) : Nat := (AAG x).length
abbrev ASO (x : CZ2) : Cht := Cht.mk x.a.c.p x.a.c.base x.a.c.scale x.a.c.off (W6 x) (ABC x)
abbrev BDX (x : CZ2) : CZ := CZ.mk (ASO x) (AAG x)
abbrev Gh (x : CZ2) : Dk := AI (BDX x)
abbrev AJS (x : CZ2) : List Span := (AX (Gh x)).fst
abbrev AJU (x : CZ2) : Nat := (AJS x).length
abbrev BBX (x : CZ2) (i : Nat) : Span := gD (AJS x) i
abbrev ANU (x : CZ2) : List Span := BA (ASO x)
abbrev AQT (i : Nat) (x : CZ2) : Prop := i < (BA x.a.c).length
abbrev AWE (x : CZ2) (i : Nat) : Span := gD (ANU x) i
abbrev GT : Prop := Int.ofNat (0 : Nat) = Int.ofNat (0 : Nat)
abbrev OF (x : CZ2) : Cht := (Gh x).c
abbrev AMO (x : CZ2) : Span := (OF x).p
abbrev AHC (x : CZ2) : List Mk := (OF x).ms
abbrev eH (i : Nat) (x : CZ2) : Prop := i < (AI x.a).c.ms.length
abbrev TR (x : CZ2) (i : Nat) : Int := (gD (AI x.a).c.ms i).pl
abbrev AYI (x : CZ2) (i : Nat) : Mk := gD (AHC x) i
abbrev UL (x : CZ2) (i : Nat) : Int := (gD (AI x.a).c.ms i).ht
abbrev Gg (x : CZ2) : List Nt := (OF x).ns
abbrev qH (i : Nat) (x : CZ2) : Prop := i < (AI x.a).c.ns.length
abbrev TU (x : CZ2) (i : Nat) : Int := (gD (AI x.a).c.ns i).mi
abbrev cH (x : CZ2) (i : Nat) : Nt := gD (Gg x) i
abbrev ALT (x : CZ2) (i : Nat) : Span := (gD (AI x.a).c.ns i).t
abbrev SX (x : CZ2) (i : Nat) : Int := (ALT x i).lo
abbrev AWO (x : CZ2) (i : Nat) : Span := (cH x i).t
abbrev UK (x : CZ2) (i : Nat) : Int := (ALT x i).hi
abbrev ATV (x : CZ2) (i : Nat) : Span := (gD (AI x.a).c.ns i).s
abbrev UJ (x : CZ2) (i : Nat) : Int := (ATV x i).lo
abbrev ALA (x : CZ2) (i : Nat) : Span := (cH x i).s
abbrev TH (x : CZ2) (i : Nat) : Int := (ATV x i).hi
abbrev oQ (x : CZ2) (n : Int) : Nt := ntOf (Gg x) n
abbrev AXA (x : CZ2) (n : Int) : Span := (oQ x n).t
abbrev AYQ (x : CZ2) (n : Int) : Span := (oQ x n).s
abbrev BDK (a : IJ) (a1 : Nat) : Prop := (↑a.i : Int) = (↑a1 : Int)
abbrev Cg (x : CZ2) : Prop := (CK x.a).length = (CK x.a).length
abbrev Fr (x : CZ2) : Prop := ∀ (i : Nat), i < (CK x.a).length -> (gD (CK x.a) i).lo = (gD (CK x.a) i).lo /\ (gD (CK x.a) i).hi = (gD (CK x.a) i).hi
abbrev Fl (x : CZ2) : Prop := (BA x.a.c).length = (BA x.a.c).length
abbrev Cp (x : CZ2) : Prop := ∀ (i : Nat), AQT i x -> (gD (BA x.a.c) i).lo = (gD (BA x.a.c) i).lo /\ (gD (BA x.a.c) i).hi = (gD (BA x.a.c) i).hi
abbrev Fk (x : CZ2) : Prop := (↑x.a.c.ms.length : Int) = (↑x.a.c.ms.length : Int)
abbrev ANZ (x : CZ2) (a : IJ) : Hul := pkI x a.i (pkO x a.i) (a.j - a.i)
abbrev pR (x : CZ2) (a : IJ) : Span := (ANZ x a).s
abbrev LP (x : CZ2) (a : IJ) : Int := (pR x a).lo
abbrev LW (x : CZ2) (a : IJ) : Int := (pR x a).hi
abbrev JW (x : CZ2) (a : IJ) : Bool := (ANZ x a).m
abbrev TN (x : CZ2) : Prop := (AI x.a).c.p.lo = (AI x.a).c.p.lo
abbrev UA (x : CZ2) : Prop := (AI x.a).c.p.hi = (AI x.a).c.p.hi
abbrev RW (x : CZ2) : Prop := (AI x.a).c.base = (AI x.a).c.base
abbrev SP (x : CZ2) : Prop := (AI x.a).c.scale = (AI x.a).c.scale
abbrev SJ (x : CZ2) : Prop := (AI x.a).c.off = (AI x.a).c.off
abbrev SE (x : CZ2) : Prop := ∀ (i : Nat), i < (40 : Nat) -> (AI x.a).sp i = (AI x.a).sp i
abbrev UI (x : CZ2) : Prop := ∀ (n : Int), (AI x.a).st n = (AI x.a).st n
abbrev Do (x : CZ2) : Prop := TN x /\ UA x /\ RW x /\ SP x /\ SJ x /\ (AI x.a).c.ms.length = (AI x.a).c.ms.length /\ (∀ (i : Nat), eH i x -> TR x i = TR x i /\
 UL x i = UL x i) /\ (AI x.a).c.ns.length = (AI x.a).c.ns.length /\ (∀ (i : Nat), qH i x -> TU x i = TU x i /\ SX x i = SX x i /\ UK x i = UK x i /\ UJ x
 i = UJ x i /\ TH x i = TH x i) /\ SE x /\ AU = AU /\ (∀ (n : Int), hasN (AI x.a).c.ns n = hasN (AI x.a).c.ns n) /\ UI x /\ ∀ (n : Int), (ntOf (AI x.a).c.ns n).mi = (ntOf (AI
 x.a).c.ns n).mi /\ (ntOf (AI x.a).c.ns n).t.lo = (ntOf (AI x.a).c.ns n).t.lo /\ (ntOf (AI x.a).c.ns n).t.hi = (ntOf (AI x.a).c.ns n).t.hi /\ (ntOf (AI x.a).c.ns n).s.lo = (ntOf (AI x.a).c.ns n).s.lo /\ (ntOf
 (AI x.a).c.ns n).s.hi = (ntOf (AI x.a).c.ns n).s.hi
abbrev kJ (x : CZ2) (a : Nat) : Nat := x.a.c.ms.length - a
abbrev qD (a : IJ) (x : CZ2) (a1 : Nat) : Prop := a.i < x.a.c.ms.length /\ x.a.c.ms.length - a.i = kJ x a1 /\ a.i <= a.j /\ a.j <= x.a.c.ms.length /\ (a.i < a.j -> pkT x >= pkF x)
abbrev gT (x : CZ2) : List Span := AE (CK x.a).length λ (i : Nat) => gD (CK x.a) i
abbrev OV (x : CZ2) : Nat := (gT x).length
abbrev AOY (x : CZ2) (i : Nat) : Span := gD (gT x) i
abbrev dT (x : CZ2) : List Mk := AE (AI x.a).c.ms.length λ (i : Nat) => gD (AI x.a).c.ms i
abbrev NV (x : CZ2) : Nat := (dT x).length
abbrev BDS (x : CZ2) : Prop := NV x = (AI x.a).c.ms.length
abbrev ATR (x : CZ2) (i : Nat) : Mk := gD (dT x) i
abbrev BDF (x : CZ2) (i : Nat) : Int := (ATR x i).pl
abbrev AZR (x : CZ2) (i : Nat) : Int := (ATR x i).ht
abbrev BEI (x : CZ2) : Prop := ∀ (i : Nat), i < NV x -> BDF x i = TR x i /\ AZR x i = UL x i
abbrev TJ (x : CZ2) : List Nt := AE (AI x.a).c.ns.length λ (i : Nat) => gD (AI x.a).c.ns i
abbrev kM (x : CZ2) : Nat := (TJ x).length
abbrev ATX (x : CZ2) : Prop := kM x = (AI x.a).c.ns.length
abbrev qG (x : CZ2) (i : Nat) : Nt := gD (TJ x) i
abbrev ATI (x : CZ2) (i : Nat) : Int := (qG x i).mi
abbrev ATM (x : CZ2) (i : Nat) : Span := (qG x i).t
abbrev ASF (x : CZ2) (i : Nat) : Int := (ATM x i).lo
abbrev AHU (x : CZ2) (i : Nat) : Int := (ATM x i).hi
abbrev ASW (x : CZ2) (i : Nat) : Span := (qG x i).s
abbrev BBV (x : CZ2) (i : Nat) : Int := (ASW x i).lo
abbrev AMH (x : CZ2) (i : Nat) : Int := (ASW x i).hi
abbrev ASD (x : CZ2) : Prop := ∀ (i : Nat), i < kM x -> ATI x i = TU x i /\ ASF x i = SX x i /\ AHU x i = UK x i /\ BBV x i = UJ x i /\ AMH x i =
 TH x i
abbrev AVK (x : CZ2) (n : Int) : Bool := hasN (TJ x) n
abbrev AGE (x : CZ2) : Prop := ∀ (n : Int), AVK x n = hasN (AI x.a).c.ns n
abbrev jP (x : CZ2) (n : Int) : Nt := ntOf (TJ x) n
abbrev AZN (x : CZ2) (n : Int) : Int := (jP x n).mi
abbrev APW (x : CZ2) (n : Int) : Span := (jP x n).t
abbrev AUU (x : CZ2) (n : Int) : Int := (APW x n).lo
abbrev AUY (x : CZ2) (n : Int) : Int := (APW x n).hi
abbrev AIY (x : CZ2) (n : Int) : Span := (jP x n).s
abbrev BCM (x : CZ2) (n : Int) : Int := (AIY x n).lo
abbrev AVQ (x : CZ2) (n : Int) : Int := (AIY x n).hi
abbrev AYE (x : CZ2) : Prop := ∀ (n : Int), AZN x n = (ntOf (AI x.a).c.ns n).mi /\ AUU x n = (ntOf (AI x.a).c.ns n).t.lo /\ AUY x n = (ntOf (AI x.a).c.ns n).t.hi /\ BCM x n = (ntOf (AI
 x.a).c.ns n).s.lo /\ AVQ x n = (ntOf (AI x.a).c.ns n).s.hi
abbrev AVW (x : CZ2) : Prop := (AI x.a).c.ms.length = NV x
abbrev API (x : CZ2) : Prop := ∀ (i : Nat), eH i x -> TR x i = BDF x i /\ UL x i = AZR x i
abbrev AVR (x : CZ2) : Prop := (AI x.a).c.ns.length = kM x
abbrev ASZ (x : CZ2) : Prop := ∀ (i : Nat), qH i x -> TU x i = ATI x i /\ SX x i = ASF x i /\ UK x i = AHU x i /\ UJ x i = BBV x i /\ TH x i = AMH
 x i
abbrev vC (x : CZ2) : Prop := ∀ (n : Int), hasN (AI x.a).c.ns n = AVK x n
abbrev yX (x : CZ2) : Prop := ∀ (n : Int), (ntOf (AI x.a).c.ns n).mi = AZN x n /\ (ntOf (AI x.a).c.ns n).t.lo = AUU x n /\ (ntOf (AI x.a).c.ns n).t.hi = AUY x n /\ (ntOf (AI x.a).c.ns
 n).s.lo = BCM x n /\ (ntOf (AI x.a).c.ns n).s.hi = AVQ x n
abbrev tT (a : IJ) : Prop := (0 : Int) <= (↑a.i : Int)
abbrev zH (x : CZ2) (a : IJ) : List Span := winL (gT x) (↑a.i : Int) (↑a.j : Int) (pkF x) (pkT x)
abbrev sL (x : CZ2) (a : IJ) : Nat := (zH x a).length
abbrev Mg (x : CZ2) (a : IJ) (i : Nat) : Span := gD (zH x a) i
abbrev Lv (x : CZ2) (a : IJ) : List Span := AE (sL x a) λ (i : Nat) => Mg x a i
abbrev Ke (x : CZ2) (a : IJ) : Nat := (Lv x a).length
abbrev uX (x : CZ2) (a : IJ) (i : Nat) : Span := gD (Lv x a) i
abbrev VG (a : IJ) : Int := IntKind.i64.wrap ((↑a.j : Int) + (1 : Int))
abbrev tX (a : IJ) (x : CZ2) : Prop := tT a /\ (↑a.i : Int) <= VG a /\ VG a <= (↑(BA x.a.c).length : Int)
abbrev yA (a : IJ) : Nat := (VG a).toNat - a.i
abbrev Md (x : CZ2) (a : IJ) (i : Nat) : Span := gD (BA x.a.c) (a.i + i)
abbrev VW (a : IJ) (x : CZ2) : List Span := AE (yA a) λ (i : Nat) => Md x a i
abbrev WM (a : IJ) (x : CZ2) : Nat := (VW a x).length
abbrev tE (a : IJ) (x : CZ2) : Prop := WM a x = yA a
abbrev yG (a : IJ) (x : CZ2) (i : Nat) : Span := gD (VW a x) i
abbrev xX (a : IJ) (x : CZ2) : Prop := ∀ (i : Nat), i < WM a x -> (yG a x i).lo = (Md x a i).lo /\ (yG a x i).hi = (Md x a i).hi
abbrev zC (a : IJ) (x : CZ2) : Prop := (0 : Nat) < WM a x /\ WM a x < (1073741824 : Nat)
abbrev Kx (a : IJ) (x : CZ2) : Int := gLo (VW a x)
abbrev Ka (a : IJ) (x : CZ2) : Int := gHi (VW a x)
abbrev WV (a : IJ) (a1 : IJ) : Prop := (↑a.i : Int) = (↑a1.i : Int)
abbrev I6 (a : IJ) (a1 : IJ) : Prop := (↑a.j : Int) = VG a1
abbrev yL (x : CZ2) (a : IJ) : Span := (MJ (Hul.mk (pR x a) (JW x a)) (Span.mk (Kx a x) (Ka a x))).s
abbrev H8 (x : CZ2) (a : IJ) : Nat := x.a.c.ms.length - a.j
abbrev xF (a : IJ) (x : CZ2) (a1 : Nat) (a2 : IJ) : Prop := qD a x a1 /\ H8 x a < H8 x a2
abbrev D9 (x : CZ2) (a : Nat) : Prop := (pkO x a).s.lo = (pkO x a).s.lo
abbrev E7 (x : CZ2) (a : Nat) : Prop := (pkO x a).s.hi = (pkO x a).s.hi
abbrev zM (x : CZ2) (a : Nat) : Prop := (pkO x a).m = (pkO x a).m
abbrev B6 (x : CZ2) (a : Nat) : Span × Int := IF (Hul.mk (pkO x a).s (pkO x a).m)
abbrev J5 (x : CZ2) (a : Nat) : Span := (B6 x a).fst
theorem DIK (x : CZ2) : (CZZ x) = ((x.a.c.p.lo = x.a.c.p.lo /\ x.a.c.p.hi = x.a.c.p.hi /\ x.a.c.base = x.a.c.base /\ x.a.c.scale = x.a.c.scale /\ x.a.c.off = x.a.c.off /\ ADP x = x.a.c.ms.length /\ (∀ (i : Nat), i
 < ADP x -> (BYP x i).pl = (gD x.a.c.ms i).pl /\ (BYP x i).ht = (gD x.a.c.ms i).ht) /\ ADT x = x.a.c.ns.length /\ (∀ (i : Nat), i < ADT x -> (AAP x i).mi = (gD x.a.c.ns i).mi /\ (BQR x i).lo =
 (gD x.a.c.ns i).t.lo /\ (BQR x i).hi = (gD x.a.c.ns i).t.hi /\ (BUO x i).lo = (gD x.a.c.ns i).s.lo /\ (BUO x i).hi = (gD x.a.c.ns i).s.hi) /\ V0 x = x.a.z.length /\ (∀ (i : Nat), i < V0 x -> gD
 (AAG x) i = gD x.a.z i) /\ (ADP x < (4611686018427387904 : Nat) /\ ADT x < (4611686018427387904 : Nat) /\ V0 x < (4611686018427387904 : Nat)) /\ AS (BDX x) = (0 : Int)) /\ bif decide (x.t < x.f)
 then (Fv x).fst.lo = (0 : Int) /\ (Fv x).fst.hi = (0 : Int) /\ (Fv x).snd = (4 : Int) else (∃ (a : Nat), (pkF x = BJ x.f (-100000001 : Int) /\ pkT x = IC x.t (100000001 : Int) /\ (CK x.a).length = AJU x /\
 (∀ (i : Nat), i < (CK x.a).length -> (gD (CK x.a) i).lo = (BBX x i).lo /\ (gD (CK x.a) i).hi = (BBX x i).hi) /\ (BA x.a.c).length = (ANU x).length /\ (∀ (i : Nat), AQT i x -> (gD (BA x.a.c)
 i).lo = (AWE x i).lo /\ (gD (BA x.a.c) i).hi = (AWE x i).hi) /\ (↑x.a.c.ms.length : Int) = (↑(AJU x) : Int) /\ (↑a : Int) = (0 : Int) /\ GT /\ GT /\ (pkO x a).s.lo = (0 : Int) /\ (pkO x a).s.hi
 = (0 : Int) /\ (pkO x a).m = false /\ (AI x.a).c.p.lo = (AMO x).lo /\ (AI x.a).c.p.hi = (AMO x).hi /\ (AI x.a).c.base = (OF x).base /\ (AI x.a).c.scale = (OF x).scale /\ (AI x.a).c.off =
 (OF x).off /\ (AI x.a).c.ms.length = (AHC x).length /\ (∀ (i : Nat), eH i x -> TR x i = (AYI x i).pl /\ UL x i = (AYI x i).ht) /\ (AI x.a).c.ns.length = (Gg x).length /\
 (∀ (i : Nat), qH i x -> TU x i = (cH x i).mi /\ SX x i = (AWO x i).lo /\ UK x i = (AWO x i).hi /\ UJ x i = (ALA x i).lo /\ TH x i = (ALA x i).hi) /\ (∀
 (i : Nat), i < (40 : Nat) -> (AI x.a).sp i = (Gh x).sp i) /\ AU = AU /\ (∀ (n : Int), hasN (AI x.a).c.ns n = hasN (Gg x) n) /\ (∀ (n : Int), (AI x.a).st n = (Gh x).st n) /\ ∀ (n : Int), (ntOf
 (AI x.a).c.ns n).mi = (oQ x n).mi /\ (ntOf (AI x.a).c.ns n).t.lo = (AXA x n).lo /\ (ntOf (AI x.a).c.ns n).t.hi = (AXA x n).hi /\ (ntOf (AI x.a).c.ns n).s.lo = (AYQ x n).lo /\ (ntOf (AI
 x.a).c.ns n).s.hi = (AYQ x n).hi) /\ a.le x.a.c.ms.length) /\ ∀ (a : Nat), a.le x.a.c.ms.length -> bif decide ((↑a : Int) < (↑x.a.c.ms.length : Int)) then (∃ (a_2 : IJ), (BDK a_2 a /\ (↑a_2.j : Int) = (↑a : Int)
 /\ pkF x = pkF x /\ pkT x = pkT x /\ Cg x /\ Fr x /\ Fl x /\ Cp x /\ Fk x /\ BDK a_2 a /\ GT /\ GT /\ LP x a_2 = (pkO x a).s.lo /\ LW x a_2 = (pkO x a).s.hi /\
 JW x a_2 = (pkO x a).m /\ Do x) /\ qD a_2 x a) /\ ∀ (a_2 : IJ), qD a_2 x a -> bif bif decide ((↑a_2.j : Int) < (↑(CK x.a).length : Int)) then decide (pkT x >= pkF x) else false then (OV x =
 (CK x.a).length /\ (∀ (i : Nat), i < OV x -> (AOY x i).lo = (gD (CK x.a) i).lo /\ (AOY x i).hi = (gD (CK x.a) i).hi) /\ (↑a_2.i : Int) = (↑a_2.i : Int) /\ (↑a_2.j : Int) = (↑a_2.j : Int) /\ pkF x = pkF x
 /\ pkT x = pkT x /\ TN x /\ UA x /\ RW x /\ SP x /\ SJ x /\ BDS x /\ BEI x /\ ATX x /\ ASD x /\ SE x /\ AU = AU /\ AGE x /\ UI x /\ AYE x /\
 TN x /\ UA x /\ RW x /\ SP x /\ SJ x /\ AVW x /\ API x /\ AVR x /\ ASZ x /\ SE x /\ AU = AU /\ vC x /\ UI x /\ yX x /\ (((1 : Nat) <= OV
 x /\ OV x <= (40 : Nat)) /\ (tT a_2 /\ (↑a_2.i : Int) < (↑(OV x) : Int)) /\ (0 : Int) <= (↑a_2.j : Int) /\ (↑a_2.j : Int) < (↑(OV x) : Int)) /\ Ke x a_2 = sL x a_2 /\ (∀ (i : Nat), i <
 Ke x a_2 -> (uX x a_2 i).lo = (Mg x a_2 i).lo /\ (uX x a_2 i).hi = (Mg x a_2 i).hi) /\ TN x /\ UA x /\ RW x /\ SP x /\ SJ x /\ BDS x /\ BEI x
 /\ ATX x /\ ASD x /\ SE x /\ AU = AU /\ AGE x /\ UI x /\ AYE x /\ TN x /\ UA x /\ RW x /\ SP x /\ SJ x /\ AVW x /\ API x /\ AVR x /\ ASZ
 x /\ SE x /\ AU = AU /\ vC x /\ UI x /\ yX x /\ Ke x a_2 = NV x /\ (1 : Nat) <= NV x /\ NV x <= (40 : Nat)) /\ bif (MN (Dk.mk (Cht.mk (AI x.a).c.p (AI x.a).c.base
 (AI x.a).c.scale (AI x.a).c.off (dT x) (TJ x)) (AI x.a).st (AI x.a).sp) (Lv x a_2)).all KC then (tX a_2 x /\ tE a_2 x /\ xX a_2 x /\ zC a_2 x /\ tX a_2 x
 /\ tE a_2 x /\ xX a_2 x /\ zC a_2 x /\ Kx a_2 x = Kx a_2 x /\ Ka a_2 x = Ka a_2 x /\ LP x a_2 = LP x a_2 /\ LW x a_2 = LW x a_2 /\ JW x
 a_2 = JW x a_2) /\ ∃ (a_4 : IJ), (WV a_4 a_2 /\ I6 a_4 a_2 /\ pkF x = pkF x /\ pkT x = pkT x /\ Cg x /\ Fr x /\ Fl x /\ Cp x /\ Fk x /\ WV a_4 a_2 /\ GT /\
 GT /\ LP x a_4 = (yL x a_2).lo /\ LW x a_4 = (yL x a_2).hi /\ JW x a_4 = true /\ Do x) /\ xF a_4 x a a_2 else ∃ (a_4 : IJ), (WV a_4 a_2 /\ I6 a_4 a_2 /\
 pkF x = pkF x /\ pkT x = pkT x /\ Cg x /\ Fr x /\ Fl x /\ Cp x /\ Fk x /\ WV a_4 a_2 /\ GT /\ GT /\ LP x a_4 = LP x a_2 /\ LW x a_4 = LW x a_2 /\
 JW x a_4 = JW x a_2 /\ Do x) /\ xF a_4 x a a_2 else ∃ (a_4 : Nat), (pkF x = pkF x /\ pkT x = pkT x /\ Cg x /\ Fr x /\ Fl x /\ Cp x /\ Fk x /\ (↑a_4 : Int) =
 IntKind.i64.wrap ((↑a_2.i : Int) + (1 : Int)) /\ GT /\ GT /\ (pkO x a_4).s.lo = LP x a_2 /\ (pkO x a_4).s.hi = LW x a_2 /\ (pkO x a_4).m = JW x a_2 /\ Do x) /\ a_4.le x.a.c.ms.length /\
 kJ x a_4 < kJ x a else (D9 x a /\ E7 x a /\ zM x a /\ D9 x a /\ E7 x a /\ zM x a) /\ (Fv x).fst.lo = (J5 x a).lo /\ (Fv x).fst.hi = (J5 x a).hi
 /\ (Fv x).snd = (B6 x a).snd) := by kernel_rfl
def CUM (x : CZ2) : Prop := AZ Try.prog CVI BRG (AN BRG) (xCZ2 x) (AF []) (.tup [.d (CE zSp), .int (AS x.a)]) [] [] []
theorem DCK (x : CZ2) : (CUM x) = ((x.a.c.p.lo = x.a.c.p.lo /\ x.a.c.p.hi = x.a.c.p.hi /\ x.a.c.base = x.a.c.base /\ x.a.c.scale = x.a.c.scale /\ x.a.c.off = x.a.c.off /\ (AE x.a.c.ms.length λ (i : Nat) => gD
 x.a.c.ms i).length = x.a.c.ms.length /\ (∀ (i : Nat), i < (AE x.a.c.ms.length λ (i : Nat) => gD x.a.c.ms i).length -> (gD (AE x.a.c.ms.length λ (i : Nat) => gD x.a.c.ms i) i).pl = (gD x.a.c.ms i).pl /\ (gD (AE
 x.a.c.ms.length λ (i : Nat) => gD x.a.c.ms i) i).ht = (gD x.a.c.ms i).ht) /\ (AE x.a.c.ns.length λ (i : Nat) => gD x.a.c.ns i).length = x.a.c.ns.length /\ (∀ (i : Nat), i < (AE x.a.c.ns.length λ (i : Nat) => gD
 x.a.c.ns i).length -> (gD (AE x.a.c.ns.length λ (i : Nat) => gD x.a.c.ns i) i).mi = (gD x.a.c.ns i).mi /\ (gD (AE x.a.c.ns.length λ (i : Nat) => gD x.a.c.ns i) i).t.lo = (gD x.a.c.ns i).t.lo /\ (gD (AE
 x.a.c.ns.length λ (i : Nat) => gD x.a.c.ns i) i).t.hi = (gD x.a.c.ns i).t.hi /\ (gD (AE x.a.c.ns.length λ (i : Nat) => gD x.a.c.ns i) i).s.lo = (gD x.a.c.ns i).s.lo /\ (gD (AE x.a.c.ns.length λ (i : Nat) => gD
 x.a.c.ns i) i).s.hi = (gD x.a.c.ns i).s.hi) /\ (AE x.a.z.length λ (i : Nat) => gD x.a.z i).length = x.a.z.length /\ (∀ (i : Nat), i < (AE x.a.z.length λ (i : Nat) => gD x.a.z i).length -> gD (AE x.a.z.length λ (i :
 Nat) => gD x.a.z i) i = gD x.a.z i) /\ ((AE x.a.c.ms.length λ (i : Nat) => gD x.a.c.ms i).length < (4611686018427387904 : Nat) /\ (AE x.a.c.ns.length λ (i : Nat) => gD x.a.c.ns i).length < (4611686018427387904 : Nat)
 /\ (AE x.a.z.length λ (i : Nat) => gD x.a.z i).length < (4611686018427387904 : Nat)) /\ AS (CZ.mk (Cht.mk x.a.c.p x.a.c.base x.a.c.scale x.a.c.off (AE x.a.c.ms.length λ (i : Nat) => gD x.a.c.ms i) (AE
 x.a.c.ns.length λ (i : Nat) => gD x.a.c.ns i)) (AE x.a.z.length λ (i : Nat) => gD x.a.z i)) ≠ (0 : Int)) /\ bif AS (CZ.mk (Cht.mk x.a.c.p x.a.c.base x.a.c.scale x.a.c.off (AE x.a.c.ms.length λ (i : Nat) => gD
 x.a.c.ms i) (AE x.a.c.ns.length λ (i : Nat) => gD x.a.c.ns i)) (AE x.a.z.length λ (i : Nat) => gD x.a.z i)) != (0 : Int) then Int.ofNat (0 : Nat) = Int.ofNat (0 : Nat) /\ Int.ofNat (0 : Nat) = Int.ofNat (0 : Nat) /\
 AS x.a = AS (CZ.mk (Cht.mk x.a.c.p x.a.c.base x.a.c.scale x.a.c.off (AE x.a.c.ms.length λ (i : Nat) => gD x.a.c.ms i) (AE x.a.c.ns.length λ (i : Nat) => gD x.a.c.ns i)) (AE x.a.z.length λ (i : Nat) => gD
 x.a.z i)) else bif decide (x.t < x.f) then Int.ofNat (0 : Nat) = Int.ofNat (0 : Nat) /\ Int.ofNat (0 : Nat) = Int.ofNat (0 : Nat) /\ AS x.a = (4 : Int) else False) := by kernel_rfl
theorem CYY (l : List Span) (a b x y : Int) : (winL l a b x y).length = l.length := by unfold winL; rw [Bo, Bo]
theorem pk1 (x : CZ2) {i j : Nat} (h : Hul) (hij : i <= j) (hw : CBV x i j = true) : pkI x i h (j + 1 - i) = MJ (pkI x i h (j - i)) ⟨gLo (sliS x i j), gHi (sliS x i j)⟩ := by
 rw [show j + 1 - i = (j - i) + 1 by omega]
 show (bif CBV x i (i + (j - i)) then _ else _) = _
 rw [show i + (j - i) = j by omega, hw]; rfl
theorem pk0 (x : CZ2) {i j : Nat} (h : Hul) (hij : i <= j) (hw : CBV x i j = false) : pkI x i h (j + 1 - i) = pkI x i h (j - i) := by
 rw [show j + 1 - i = (j - i) + 1 by omega]
 show (bif CBV x i (i + (j - i)) then _ else _) = _
 rw [show i + (j - i) = j by omega, hw]; rfl
theorem DOX (x : CZ2) (h1 : x.a.c.ms.length < 4611686018427387904 /\ x.a.c.ns.length < 4611686018427387904 /\ x.a.z.length < 4611686018427387904) (c0 : AS x.a = 0) : CZZ x := by
 have tl := PI c0
 have sl := Ro x.a.c
 obtain ⟨_, ⟨n1, n2⟩, _⟩ := EW (IA c0).1
 have wo : ∀ a b : Nat, (MN (AI x.a) (winL (CK x.a) (a : Int) (b : Int) (pkF x) (pkT x))).all KC = CBV x a b := λ _ _ => rfl
 have pf : BJ x.f (-100000001) = pkF x := rfl
 have pt : IC x.t 100000001 = pkT x := rfl
 have so : ∀ a b : Nat, (AE (b + 1 - a) λ i => gD (BA x.a.c) (a + i)) = sliS x a b := λ _ _ => rfl
 rw [DIK]; delta W6 ADP BYP ABC ADT AAP BQR BUO AAG V0 ASO BDX Gh AJS AJU BBX ANU AQT AWE GT OF AMO AHC eH TR AYI UL Gg qH TU cH ALT SX AWO UK ATV UJ ALA TH oQ AXA AYQ BDK Cg Fr Fl Cp Fk ANZ pR LP LW JW TN UA RW SP SJ SE UI Do kJ qD gT OV AOY dT NV BDS ATR BDF AZR BEI TJ kM ATX qG ATI ATM ASF AHU ASW BBV AMH ASD AVK AGE jP AZN APW AUU AUY AIY BCM AVQ AYE AVW API AVR ASZ vC yX tT zH sL Mg Lv Ke uX VG tX yA Md VW WM tE yG xX zC Kx Ka WV I6 yL H8 xF D9 E7 zM B6 J5; simp only [CC, eq_self, implies_true, forall_const, BO, Bf, Rk, WA, Oa, CGD, CZQ]; simp only [tl, sl, wo, CYY, pf, pt]
 refine ⟨⟨h1, c0⟩, λ h4 => ?_, λ h4 => ⟨⟨0, ?_, Nat.zero_le _⟩, λ a ha => ⟨λ hlt => ⟨⟨⟨a, a⟩, ?_, by show a < _; omega, rfl, Nat.le_refl _, by show a <= _; omega, λ h => absurd h (Nat.lt_irrefl _)⟩, λ s ⟨s1, s2, s3, s4, s5⟩ => ⟨λ hc => ?_, λ hc => ?_⟩⟩, λ hge => ?_⟩⟩⟩
 ·unfold Fv; rw [decide_eq_true h4]; exact ⟨rfl, rfl, rfl⟩
 ·simp; exact ⟨rfl, rfl, rfl⟩
 ·simp [pkI]
 ·have hj : s.j < x.a.c.ms.length := by
   cases hd : decide ((s.j : Int) < x.a.c.ms.length) with
   | false => rw [hd] at hc; cases hc
   | true => have := of_decide_eq_true hd; omega
  have hft : pkT x >= pkF x := by
   rw [decide_eq_true (show (s.j : Int) < x.a.c.ms.length by omega)] at hc
   exact of_decide_eq_true hc
  have ew : IntKind.i64.wrap ((s.j : Int) + 1) = ((s.j + 1 : Nat) : Int) := GC (by omega)
  simp only [ew, Int.toNat_natCast, so]
  have bound : ∀ i, i < s.j + 1 - s.i -> (gD (sliS x s.i s.j) i).lo = (gD (BA x.a.c) (s.i + i)).lo /\ (gD (sliS x s.i s.j) i).hi = (gD (BA x.a.c) (s.i + i)).hi := λ i hi => by
   unfold sliS; rw [CB _ _ _ hi]; exact ⟨rfl, rfl⟩
  refine ⟨?_, λ hw => ⟨?_, ⟨s.i, s.j + 1⟩, ?_, ⟨s1, s2, by show s.i <= s.j + 1; omega, by show s.j + 1 <= _; omega, λ _ => hft⟩, by show x.a.c.ms.length - (s.j + 1) < _; omega⟩, λ hw => ⟨⟨s.i, s.j + 1⟩, ?_, ⟨s1, s2, by show s.i <= s.j + 1; omega, by show s.j + 1 <= _; omega, λ _ => hft⟩, by show x.a.c.ms.length - (s.j + 1) < _; omega⟩⟩
  ·simp; omega
  ·refine ⟨⟨by omega, by omega, by omega⟩, bound, ⟨by omega, by omega⟩, ⟨by omega, by omega, by omega⟩, bound, by omega, by omega⟩
  ·have e := pk1 x (pkO x s.i) s3 hw
   simp only [e]; simp; rfl
  ·have e := pk0 x (pkO x s.i) s3 hw
   simp only [e]; simp
 ·have e : pkO x (s.i + 1) = pkI x s.i (pkO x s.i) (s.j - s.i) := by
   show (bif decide (pkT x >= pkF x) then _ else _) = _
   by_cases hft : pkT x >= pkF x
   ·rw [decide_eq_true hft] at hc ⊢
    have hj : s.j = x.a.c.ms.length := by
     cases hd : decide ((s.j : Int) < x.a.c.ms.length) with
     | true => rw [hd] at hc; cases hc
     | false => have := of_decide_eq_false hd; omega
    rw [hj]; rfl
   ·rw [decide_eq_false hft]
    have : s.j = s.i := by
     rcases Nat.lt_or_ge s.i s.j with h | h
     ·exact absurd (s5 h) hft
     ·omega
    rw [this, Nat.sub_self]; rfl
  refine ⟨s.i + 1, ⟨(GC (by omega)).symm, ?_, ?_, ?_⟩, by omega, by omega⟩ <;> rw [e]
 ·obtain rfl : a = x.a.c.ms.length := by omega
  unfold Fv; rw [decide_eq_false h4]; exact ⟨rfl, rfl, rfl⟩
theorem DGT : AP Try.prog CSM (C_Peak.spec dCZ2) := okT C_Peak (λ (x : CZ2) h => by
 have h1 : x.a.c.ms.length < 4611686018427387904 /\ x.a.c.ns.length < 4611686018427387904 /\ x.a.z.length < 4611686018427387904 := h
 by_cases c0 : AS x.a = 0
 ·have e : C_Peak.val x = .tup [.d (CE (Fv x).1), .int (Fv x).2] := by
   show AVal.tup [.d (CE (BEZ x).1), .int (BEZ x).2] = _
   unfold BEZ; rw [c0]; rfl
  rw [e]
  exact TV (A := DBC x) (L := []) (keep := []) (ren := []) (fz := []) CUE (by kernel_rfl) (AD CLJ (AD DPE (AD CQC (AD DAO (AD DGK (AD (DBA DNT DOG) (AD CLQ (AD CRW AK)))))))) (DOX x h1 c0)
 ·have c0' : (AS x.a == 0) = false := by simpa using c0
  have e : C_Peak.val x = .tup [.d (CE zSp), .int (AS x.a)] := by
   show AVal.tup [.d (CE (BEZ x).1), .int (BEZ x).2] = _
   unfold BEZ; rw [c0']; rfl
  rw [e]
  refine TV (A := CVI) (L := []) (keep := []) (ren := []) (fz := []) CUE (by kernel_rfl) (AD CHY AK) ?_
  show CUM x; rw [DCK]; simp only [CC, eq_self, implies_true, forall_const, BO, WA]
  exact ⟨⟨h1, c0⟩, λ h => by simp [c0] at h⟩) _
end Go.Bal
