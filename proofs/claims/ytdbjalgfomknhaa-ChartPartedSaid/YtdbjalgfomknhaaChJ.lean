/- Package chart: the greatest stages from a time to another one. -/
import Derived.Test.YtdbjalgfomknhaaChI
set_option linter.unusedVariables false
set_option linter.unusedSimpArgs false
namespace Go.Bal
open Go Go.Sym Go.Proofs
structure CZ2 where
 a : CZ
 f : Int
 t : Int
structure IJ where
 i : Nat
 j : Nat
 deriving Inhabited
def dCZ2 : List AVal -> Heap -> Option (CZ2 × List (Nat × Nat) × List Nat)
 | [x, y, .d f, .d t], H => match BWE x H, CDC y H with
  | some (c, g), some (l, e) => some (⟨⟨c, l⟩, CK f, CK t⟩, [], g ++ e)
  | _, _ => none
 | _, _ => none
def xCZ2 (x : CZ2) : List AVal := [.d (XX x.a.c), .d (DI x.a.z), .int x.f, .int x.t]
def pkF (x : CZ2) : Int := DJ x.f (-100000001)
def pkT (x : CZ2) : Int := JK x.t 100000001
def BJM (x : CZ2) (a b : Nat) : Bool := (KR (AI x.a) (winL (CI x.a) (a : Int) (b : Int) (pkF x) (pkT x))).all IW
def sliS (x : CZ2) (a b : Nat) : List Span := AE (b + 1 - a) λ i => gD (stgL x.a.c) (a + i)
def pkI (x : CZ2) (a : Nat) (h : Hul) : Nat -> Hul
 | 0 => h
 | k + 1 => bif BJM x a (a + k) then LB (pkI x a h k) ⟨gLo (sliS x a (a + k)), gHi (sliS x a (a + k))⟩ else pkI x a h k
def pkO (x : CZ2) : Nat -> Hul
 | 0 => zHul
 | a + 1 => bif decide (pkT x >= pkF x) then pkI x a (pkO x a) (x.a.c.ms.length - a) else pkO x a
def Bc (x : CZ2) : Span × Int := bif decide (x.t < x.f) then (⟨0, 0⟩, 4) else GU (pkO x x.a.c.ms.length)
def AMB (x : CZ2) : Span × Int := bif AR x.a == 0 then Bc x else (⟨0, 0⟩, AR x.a)
def C_Peak : Ctr := { α := CZ2, xs := xCZ2, val := λ x => .tup [.d (CL (AMB x).1), .int (AMB x).2], keep := λ _ => [], pre := λ x => [x.a.c.ms.length < 4611686018427387904 /\ x.a.c.ns.length < 4611686018427387904 /\ x.a.z.length < 4611686018427387904] }
def pkS (x : CZ2) (a : Nat) : List (Nat × AVal) := [(2, .int (pkF x)), (3, .int (pkT x)), (8, .bptr 202 0), (10, .bptr 208 0), (11, .d (AX (CI x.a))), (12, .d (AX (stgL x.a.c))), (14, .bptr 206 0), (42, .int x.a.c.ms.length), (43, .int a)]
def pkH (x : CZ2) (h : Hul) : List (Nat × HCell) := [(202, .live (.box [.int 0, .int 0])), (206, .live (hlB h)), (208, .live (dkB (AI x.a) 209)), (209, .live (dkM (AI x.a)))]
def pk9 (x : CZ2) : Shape := { α := Nat, dflt := 0, T := λ a => ⟨pkS x a, pkH x (pkO x a)⟩, inv := λ a => a <= x.a.c.ms.length, meas := λ a => x.a.c.ms.length - a, first := [(202, 1016), (206, 8000), (208, 2032), (209, 2033)] }
def pk12 (x : CZ2) (m : Nat) : Shape := { α := IJ, dflt := default, T := λ s => ⟨[(15, .int s.i), (16, .int s.j)] ++ pkS x s.i, pkH x (pkI x s.i (pkO x s.i) (s.j - s.i))⟩, inv := λ s => s.i < x.a.c.ms.length /\ x.a.c.ms.length - s.i = m /\ s.i <= s.j /\ s.j <= x.a.c.ms.length /\ (s.i < s.j -> pkT x >= pkF x), meas := λ s => x.a.c.ms.length - s.j }
def CMJ (x : CZ2) : Ann := { ann 91 [(RX, C_rdO.spec dCZ), (ARP, C_win.spec dDkW), (SS, C_nar.spec dDkS), (BTG, C_least.spec dN0c), (BZC, C_most.spec dN0c), (Gi, orS (C_grL.spec CUG) (C_grH.spec CSJ)), (O1, C_hadd.spec dHuS), (E4, C_who.spec dHu1)] with loops := λ id => if id = 9 then some [pk9 x] else none, inner := λ gs id => if id = 12 then some [pk12 x (gs.getD 0 0)] else none }
def CFF : Ann := ann 91 [(RX, C_rdX.spec dCZ)]
def CHH (x : CZ2) : Prop := AZ Try.prog (CMJ x) BDZ (AL BDZ) (xCZ2 x) (AG []) (.tup [.d (CL (Bc x).1), .int (Bc x).2]) [] [] []
abbrev vM (x : CZ2) : List Mk := AE x.a.c.ms.length λ (i : Nat) => gD x.a.c.ms i
abbrev C2 (x : CZ2) : Nat := (vM x).length
abbrev BAF (x : CZ2) (i : Nat) : Mk := gD (vM x) i
abbrev yQ (x : CZ2) : List Nt := AE x.a.c.ns.length λ (i : Nat) => gD x.a.c.ns i
abbrev xT (x : CZ2) : Nat := (yQ x).length
abbrev N1 (x : CZ2) (i : Nat) : Nt := gD (yQ x) i
abbrev AQS (x : CZ2) (i : Nat) : Span := (N1 x i).t
abbrev BAM (x : CZ2) (i : Nat) : Span := (N1 x i).s
abbrev tE (x : CZ2) : List Int := AE x.a.z.length λ (i : Nat) => gD x.a.z i
abbrev E1 (x : CZ2) : Nat := (tE x).length
abbrev ADZ (x : CZ2) : Cht := Cht.mk x.a.c.p x.a.c.base x.a.c.scale x.a.c.off (vM x) (yQ x)
abbrev O9 (x : CZ2) : CZ := CZ.mk (ADZ x) (tE x)
abbrev Az (x : CZ2) : Dk := AI (O9 x)
abbrev AIZ (x : CZ2) : List Span := (AU (Az x)).fst
abbrev P5 (x : CZ2) : Nat := (AIZ x).length
abbrev AIJ (x : CZ2) (i : Nat) : Span := gD (AIZ x) i
abbrev ACG (x : CZ2) : List Span := stgL (ADZ x)
abbrev AGM (i : Nat) (x : CZ2) : Prop := i < (stgL x.a.c).length
abbrev AHD (x : CZ2) (i : Nat) : Span := gD (ACG x) i
abbrev GC : Prop := Int.ofNat (0 : Nat) = Int.ofNat (0 : Nat)
abbrev NC (x : CZ2) : Cht := (Az x).c
abbrev AKF (x : CZ2) : Span := (NC x).p
abbrev AFP (x : CZ2) : List Mk := (NC x).ms
abbrev Xz (i : Nat) (x : CZ2) : Prop := i < (AI x.a).c.ms.length
abbrev QR (x : CZ2) (i : Nat) : Int := (gD (AI x.a).c.ms i).pl
abbrev ADV (x : CZ2) (i : Nat) : Mk := gD (AFP x) i
abbrev RH (x : CZ2) (i : Nat) : Int := (gD (AI x.a).c.ms i).ht
abbrev Bw (x : CZ2) : List Nt := (NC x).ns
abbrev Zi (i : Nat) (x : CZ2) : Prop := i < (AI x.a).c.ns.length
abbrev QK (x : CZ2) (i : Nat) : Int := (gD (AI x.a).c.ns i).mi
abbrev cZ (x : CZ2) (i : Nat) : Nt := gD (Bw x) i
abbrev S9 (x : CZ2) (i : Nat) : Span := (gD (AI x.a).c.ns i).t
abbrev QN (x : CZ2) (i : Nat) : Int := (S9 x i).lo
abbrev AHQ (x : CZ2) (i : Nat) : Span := (cZ x i).t
abbrev RE (x : CZ2) (i : Nat) : Int := (S9 x i).hi
abbrev AJR (x : CZ2) (i : Nat) : Span := (gD (AI x.a).c.ns i).s
abbrev QI (x : CZ2) (i : Nat) : Int := (AJR x i).lo
abbrev AJG (x : CZ2) (i : Nat) : Span := (cZ x i).s
abbrev RG (x : CZ2) (i : Nat) : Int := (AJR x i).hi
abbrev Xc (x : CZ2) (n : Int) : Nt := ntOf (Bw x) n
abbrev T1 (x : CZ2) (n : Int) : Span := (Xc x n).t
abbrev P9 (x : CZ2) (n : Int) : Span := (Xc x n).s
abbrev ACI (a : IJ) (a1 : Nat) : Prop := (↑a.i : Int) = (↑a1 : Int)
abbrev ZX (x : CZ2) : Prop := (CI x.a).length = (CI x.a).length
abbrev Ce (x : CZ2) : Prop := ∀ (i : Nat), i < (CI x.a).length -> (gD (CI x.a) i).lo = (gD (CI x.a) i).lo /\ (gD (CI x.a) i).hi = (gD (CI x.a) i).hi
abbrev Ap (x : CZ2) : Prop := (stgL x.a.c).length = (stgL x.a.c).length
abbrev Co (x : CZ2) : Prop := ∀ (i : Nat), AGM i x -> (gD (stgL x.a.c) i).lo = (gD (stgL x.a.c) i).lo /\ (gD (stgL x.a.c) i).hi = (gD (stgL x.a.c) i).hi
abbrev Ba (x : CZ2) : Prop := (↑x.a.c.ms.length : Int) = (↑x.a.c.ms.length : Int)
abbrev AEG (x : CZ2) (a : IJ) : Hul := pkI x a.i (pkO x a.i) (a.j - a.i)
abbrev Yw (x : CZ2) (a : IJ) : Span := (AEG x a).s
abbrev JP (x : CZ2) (a : IJ) : Int := (Yw x a).lo
abbrev KD (x : CZ2) (a : IJ) : Int := (Yw x a).hi
abbrev IS (x : CZ2) (a : IJ) : Bool := (AEG x a).m
abbrev RN (x : CZ2) : Prop := (AI x.a).c.p.lo = (AI x.a).c.p.lo
abbrev RF (x : CZ2) : Prop := (AI x.a).c.p.hi = (AI x.a).c.p.hi
abbrev QB (x : CZ2) : Prop := (AI x.a).c.base = (AI x.a).c.base
abbrev RB (x : CZ2) : Prop := (AI x.a).c.scale = (AI x.a).c.scale
abbrev RJ (x : CZ2) : Prop := (AI x.a).c.off = (AI x.a).c.off
abbrev QQ (x : CZ2) : Prop := ∀ (i : Nat), i < (40 : Nat) -> (AI x.a).sp i = (AI x.a).sp i
abbrev QC (x : CZ2) : Prop := ∀ (n : Int), (AI x.a).st n = (AI x.a).st n
abbrev An (x : CZ2) : Prop := RN x /\ RF x /\ QB x /\ RB x /\ RJ x /\ (AI x.a).c.ms.length = (AI x.a).c.ms.length /\ (∀ (i : Nat), Xz i x -> QR x i = QR x i /\
 RH x i = RH x i) /\ (AI x.a).c.ns.length = (AI x.a).c.ns.length /\ (∀ (i : Nat), Zi i x -> QK x i = QK x i /\ QN x i = QN x i /\ RE x i = RE x i /\ QI x
 i = QI x i /\ RG x i = RG x i) /\ QQ x /\ AT = AT /\ (∀ (n : Int), hasN (AI x.a).c.ns n = hasN (AI x.a).c.ns n) /\ QC x /\ ∀ (n : Int), (ntOf (AI x.a).c.ns n).mi = (ntOf (AI
 x.a).c.ns n).mi /\ (ntOf (AI x.a).c.ns n).t.lo = (ntOf (AI x.a).c.ns n).t.lo /\ (ntOf (AI x.a).c.ns n).t.hi = (ntOf (AI x.a).c.ns n).t.hi /\ (ntOf (AI x.a).c.ns n).s.lo = (ntOf (AI x.a).c.ns n).s.lo /\ (ntOf
 (AI x.a).c.ns n).s.hi = (ntOf (AI x.a).c.ns n).s.hi
abbrev Zu (x : CZ2) (a : Nat) : Nat := x.a.c.ms.length - a
abbrev dX (a : IJ) (x : CZ2) (a1 : Nat) : Prop := a.i < x.a.c.ms.length /\ x.a.c.ms.length - a.i = Zu x a1 /\ a.i <= a.j /\ a.j <= x.a.c.ms.length /\ (a.i < a.j -> pkT x >= pkF x)
abbrev aY (x : CZ2) : List Span := AE (CI x.a).length λ (i : Nat) => gD (CI x.a) i
abbrev NG (x : CZ2) : Nat := (aY x).length
abbrev AAB (x : CZ2) (i : Nat) : Span := gD (aY x) i
abbrev Xr (x : CZ2) : List Mk := AE (AI x.a).c.ms.length λ (i : Nat) => gD (AI x.a).c.ms i
abbrev MI (x : CZ2) : Nat := (Xr x).length
abbrev AFG (x : CZ2) : Prop := MI x = (AI x.a).c.ms.length
abbrev AIE (x : CZ2) (i : Nat) : Mk := gD (Xr x) i
abbrev W2 (x : CZ2) (i : Nat) : Int := (AIE x i).pl
abbrev Q5 (x : CZ2) (i : Nat) : Int := (AIE x i).ht
abbrev U1 (x : CZ2) : Prop := ∀ (i : Nat), i < MI x -> W2 x i = QR x i /\ Q5 x i = RH x i
abbrev QH (x : CZ2) : List Nt := AE (AI x.a).c.ns.length λ (i : Nat) => gD (AI x.a).c.ns i
abbrev Xg (x : CZ2) : Nat := (QH x).length
abbrev AEE (x : CZ2) : Prop := Xg x = (AI x.a).c.ns.length
abbrev aT (x : CZ2) (i : Nat) : Nt := gD (QH x) i
abbrev AGZ (x : CZ2) (i : Nat) : Int := (aT x i).mi
abbrev AEN (x : CZ2) (i : Nat) : Span := (aT x i).t
abbrev AKK (x : CZ2) (i : Nat) : Int := (AEN x i).lo
abbrev AII (x : CZ2) (i : Nat) : Int := (AEN x i).hi
abbrev AKH (x : CZ2) (i : Nat) : Span := (aT x i).s
abbrev AFB (x : CZ2) (i : Nat) : Int := (AKH x i).lo
abbrev AGK (x : CZ2) (i : Nat) : Int := (AKH x i).hi
abbrev AAA (x : CZ2) : Prop := ∀ (i : Nat), i < Xg x -> AGZ x i = QK x i /\ AKK x i = QN x i /\ AII x i = RE x i /\ AFB x i = QI x i /\ AGK x i =
 RG x i
abbrev AHL (x : CZ2) (n : Int) : Bool := hasN (QH x) n
abbrev AAV (x : CZ2) : Prop := ∀ (n : Int), AHL x n = hasN (AI x.a).c.ns n
abbrev Yc (x : CZ2) (n : Int) : Nt := ntOf (QH x) n
abbrev AAH (x : CZ2) (n : Int) : Int := (Yc x n).mi
abbrev AAX (x : CZ2) (n : Int) : Span := (Yc x n).t
abbrev ADD (x : CZ2) (n : Int) : Int := (AAX x n).lo
abbrev AAU (x : CZ2) (n : Int) : Int := (AAX x n).hi
abbrev AKX (x : CZ2) (n : Int) : Span := (Yc x n).s
abbrev AIY (x : CZ2) (n : Int) : Int := (AKX x n).lo
abbrev AJH (x : CZ2) (n : Int) : Int := (AKX x n).hi
abbrev AFT (x : CZ2) : Prop := ∀ (n : Int), AAH x n = (ntOf (AI x.a).c.ns n).mi /\ ADD x n = (ntOf (AI x.a).c.ns n).t.lo /\ AAU x n = (ntOf (AI x.a).c.ns n).t.hi /\ AIY x n = (ntOf (AI
 x.a).c.ns n).s.lo /\ AJH x n = (ntOf (AI x.a).c.ns n).s.hi
abbrev AEX (x : CZ2) : Prop := (AI x.a).c.ms.length = MI x
abbrev ALB (x : CZ2) : Prop := ∀ (i : Nat), Xz i x -> QR x i = W2 x i /\ RH x i = Q5 x i
abbrev ACA (x : CZ2) : Prop := (AI x.a).c.ns.length = Xg x
abbrev AHI (x : CZ2) : Prop := ∀ (i : Nat), Zi i x -> QK x i = AGZ x i /\ QN x i = AKK x i /\ RE x i = AII x i /\ QI x i = AFB x i /\ RG x i = AGK
 x i
abbrev kB (x : CZ2) : Prop := ∀ (n : Int), hasN (AI x.a).c.ns n = AHL x n
abbrev oM (x : CZ2) : Prop := ∀ (n : Int), (ntOf (AI x.a).c.ns n).mi = AAH x n /\ (ntOf (AI x.a).c.ns n).t.lo = ADD x n /\ (ntOf (AI x.a).c.ns n).t.hi = AAU x n /\ (ntOf (AI x.a).c.ns
 n).s.lo = AIY x n /\ (ntOf (AI x.a).c.ns n).s.hi = AJH x n
abbrev fQ (a : IJ) : Prop := (0 : Int) <= (↑a.i : Int)
abbrev oR (x : CZ2) (a : IJ) : List Span := winL (aY x) (↑a.i : Int) (↑a.j : Int) (pkF x) (pkT x)
abbrev pY (x : CZ2) (a : IJ) : Nat := (oR x a).length
abbrev Dp (x : CZ2) (a : IJ) (i : Nat) : Span := gD (oR x a) i
abbrev Et (x : CZ2) (a : IJ) : List Span := AE (pY x a) λ (i : Nat) => Dp x a i
abbrev Gu (x : CZ2) (a : IJ) : Nat := (Et x a).length
abbrev qV (x : CZ2) (a : IJ) (i : Nat) : Span := gD (Et x a) i
abbrev UB (a : IJ) : Int := IntKind.i64.wrap ((↑a.j : Int) + (1 : Int))
abbrev qD (a : IJ) (x : CZ2) : Prop := fQ a /\ (↑a.i : Int) <= UB a /\ UB a <= (↑(stgL x.a.c).length : Int)
abbrev sO (a : IJ) : Nat := (UB a).toNat - a.i
abbrev Fs (x : CZ2) (a : IJ) (i : Nat) : Span := gD (stgL x.a.c) (a.i + i)
abbrev RY (a : IJ) (x : CZ2) : List Span := AE (sO a) λ (i : Nat) => Fs x a i
abbrev RW (a : IJ) (x : CZ2) : Nat := (RY a x).length
abbrev pT (a : IJ) (x : CZ2) : Prop := RW a x = sO a
abbrev gY (a : IJ) (x : CZ2) (i : Nat) : Span := gD (RY a x) i
abbrev lE (a : IJ) (x : CZ2) : Prop := ∀ (i : Nat), i < RW a x -> (gY a x i).lo = (Fs x a i).lo /\ (gY a x i).hi = (Fs x a i).hi
abbrev iE (a : IJ) (x : CZ2) : Prop := (0 : Nat) < RW a x /\ RW a x < (1073741824 : Nat)
abbrev Fg (a : IJ) (x : CZ2) : Int := gLo (RY a x)
abbrev Dy (a : IJ) (x : CZ2) : Int := gHi (RY a x)
abbrev RR (a : IJ) (a1 : IJ) : Prop := (↑a.i : Int) = (↑a1.i : Int)
abbrev jF (a : IJ) (a1 : IJ) : Prop := (↑a.j : Int) = UB a1
abbrev mP (x : CZ2) (a : IJ) : Span := (LB (Hul.mk (Yw x a) (IS x a)) (Span.mk (Fg a x) (Dy a x))).s
abbrev lS (x : CZ2) (a : IJ) : Nat := x.a.c.ms.length - a.j
abbrev nM (a : IJ) (x : CZ2) (a1 : Nat) (a2 : IJ) : Prop := dX a x a1 /\ lS x a < lS x a2
abbrev rC (x : CZ2) (a : Nat) : Prop := (pkO x a).s.lo = (pkO x a).s.lo
abbrev oN (x : CZ2) (a : Nat) : Prop := (pkO x a).s.hi = (pkO x a).s.hi
abbrev jC (x : CZ2) (a : Nat) : Prop := (pkO x a).m = (pkO x a).m
abbrev pX (x : CZ2) (a : Nat) : Span × Int := GU (Hul.mk (pkO x a).s (pkO x a).m)
abbrev qS (x : CZ2) (a : Nat) : Span := (pX x a).fst
theorem CQH (x : CZ2) : (CHH x) = ((x.a.c.p.lo = x.a.c.p.lo /\ x.a.c.p.hi = x.a.c.p.hi /\ x.a.c.base = x.a.c.base /\ x.a.c.scale = x.a.c.scale /\ x.a.c.off = x.a.c.off /\ C2 x = x.a.c.ms.length /\ (∀ (i : Nat), i
 < C2 x -> (BAF x i).pl = (gD x.a.c.ms i).pl /\ (BAF x i).ht = (gD x.a.c.ms i).ht) /\ xT x = x.a.c.ns.length /\ (∀ (i : Nat), i < xT x -> (N1 x i).mi = (gD x.a.c.ns i).mi /\ (AQS x i).lo =
 (gD x.a.c.ns i).t.lo /\ (AQS x i).hi = (gD x.a.c.ns i).t.hi /\ (BAM x i).lo = (gD x.a.c.ns i).s.lo /\ (BAM x i).hi = (gD x.a.c.ns i).s.hi) /\ E1 x = x.a.z.length /\ (∀ (i : Nat), i < E1 x -> gD
 (tE x) i = gD x.a.z i) /\ (C2 x < (4611686018427387904 : Nat) /\ xT x < (4611686018427387904 : Nat) /\ E1 x < (4611686018427387904 : Nat)) /\ AR (O9 x) = (0 : Int)) /\ bif decide (x.t < x.f)
 then (Bc x).fst.lo = (0 : Int) /\ (Bc x).fst.hi = (0 : Int) /\ (Bc x).snd = (4 : Int) else (∃ (a : Nat), (pkF x = DJ x.f (-100000001 : Int) /\ pkT x = JK x.t (100000001 : Int) /\ (CI x.a).length = P5 x /\
 (∀ (i : Nat), i < (CI x.a).length -> (gD (CI x.a) i).lo = (AIJ x i).lo /\ (gD (CI x.a) i).hi = (AIJ x i).hi) /\ (stgL x.a.c).length = (ACG x).length /\ (∀ (i : Nat), AGM i x -> (gD (stgL x.a.c)
 i).lo = (AHD x i).lo /\ (gD (stgL x.a.c) i).hi = (AHD x i).hi) /\ (↑x.a.c.ms.length : Int) = (↑(P5 x) : Int) /\ (↑a : Int) = (0 : Int) /\ GC /\ GC /\ (pkO x a).s.lo = (0 : Int) /\ (pkO x a).s.hi
 = (0 : Int) /\ (pkO x a).m = false /\ (AI x.a).c.p.lo = (AKF x).lo /\ (AI x.a).c.p.hi = (AKF x).hi /\ (AI x.a).c.base = (NC x).base /\ (AI x.a).c.scale = (NC x).scale /\ (AI x.a).c.off =
 (NC x).off /\ (AI x.a).c.ms.length = (AFP x).length /\ (∀ (i : Nat), Xz i x -> QR x i = (ADV x i).pl /\ RH x i = (ADV x i).ht) /\ (AI x.a).c.ns.length = (Bw x).length /\
 (∀ (i : Nat), Zi i x -> QK x i = (cZ x i).mi /\ QN x i = (AHQ x i).lo /\ RE x i = (AHQ x i).hi /\ QI x i = (AJG x i).lo /\ RG x i = (AJG x i).hi) /\ (∀
 (i : Nat), i < (40 : Nat) -> (AI x.a).sp i = (Az x).sp i) /\ AT = AT /\ (∀ (n : Int), hasN (AI x.a).c.ns n = hasN (Bw x) n) /\ (∀ (n : Int), (AI x.a).st n = (Az x).st n) /\ ∀ (n : Int), (ntOf
 (AI x.a).c.ns n).mi = (Xc x n).mi /\ (ntOf (AI x.a).c.ns n).t.lo = (T1 x n).lo /\ (ntOf (AI x.a).c.ns n).t.hi = (T1 x n).hi /\ (ntOf (AI x.a).c.ns n).s.lo = (P9 x n).lo /\ (ntOf (AI
 x.a).c.ns n).s.hi = (P9 x n).hi) /\ a.le x.a.c.ms.length) /\ ∀ (a : Nat), a.le x.a.c.ms.length -> bif decide ((↑a : Int) < (↑x.a.c.ms.length : Int)) then (∃ (a_2 : IJ), (ACI a_2 a /\ (↑a_2.j : Int) = (↑a : Int)
 /\ pkF x = pkF x /\ pkT x = pkT x /\ ZX x /\ Ce x /\ Ap x /\ Co x /\ Ba x /\ ACI a_2 a /\ GC /\ GC /\ JP x a_2 = (pkO x a).s.lo /\ KD x a_2 = (pkO x a).s.hi /\
 IS x a_2 = (pkO x a).m /\ An x) /\ dX a_2 x a) /\ ∀ (a_2 : IJ), dX a_2 x a -> bif bif decide ((↑a_2.j : Int) < (↑(CI x.a).length : Int)) then decide (pkT x >= pkF x) else false then (NG x =
 (CI x.a).length /\ (∀ (i : Nat), i < NG x -> (AAB x i).lo = (gD (CI x.a) i).lo /\ (AAB x i).hi = (gD (CI x.a) i).hi) /\ (↑a_2.i : Int) = (↑a_2.i : Int) /\ (↑a_2.j : Int) = (↑a_2.j : Int) /\ pkF x = pkF x
 /\ pkT x = pkT x /\ RN x /\ RF x /\ QB x /\ RB x /\ RJ x /\ AFG x /\ U1 x /\ AEE x /\ AAA x /\ QQ x /\ AT = AT /\ AAV x /\ QC x /\ AFT x /\
 RN x /\ RF x /\ QB x /\ RB x /\ RJ x /\ AEX x /\ ALB x /\ ACA x /\ AHI x /\ QQ x /\ AT = AT /\ kB x /\ QC x /\ oM x /\ (((1 : Nat) <= NG
 x /\ NG x <= (40 : Nat)) /\ (fQ a_2 /\ (↑a_2.i : Int) < (↑(NG x) : Int)) /\ (0 : Int) <= (↑a_2.j : Int) /\ (↑a_2.j : Int) < (↑(NG x) : Int)) /\ Gu x a_2 = pY x a_2 /\ (∀ (i : Nat), i <
 Gu x a_2 -> (qV x a_2 i).lo = (Dp x a_2 i).lo /\ (qV x a_2 i).hi = (Dp x a_2 i).hi) /\ RN x /\ RF x /\ QB x /\ RB x /\ RJ x /\ AFG x /\ U1 x
 /\ AEE x /\ AAA x /\ QQ x /\ AT = AT /\ AAV x /\ QC x /\ AFT x /\ RN x /\ RF x /\ QB x /\ RB x /\ RJ x /\ AEX x /\ ALB x /\ ACA x /\ AHI
 x /\ QQ x /\ AT = AT /\ kB x /\ QC x /\ oM x /\ Gu x a_2 = MI x /\ (1 : Nat) <= MI x /\ MI x <= (40 : Nat)) /\ bif (KR (Dk.mk (Cht.mk (AI x.a).c.p (AI x.a).c.base
 (AI x.a).c.scale (AI x.a).c.off (Xr x) (QH x)) (AI x.a).st (AI x.a).sp) (Et x a_2)).all IW then (qD a_2 x /\ pT a_2 x /\ lE a_2 x /\ iE a_2 x /\ qD a_2 x
 /\ pT a_2 x /\ lE a_2 x /\ iE a_2 x /\ Fg a_2 x = Fg a_2 x /\ Dy a_2 x = Dy a_2 x /\ JP x a_2 = JP x a_2 /\ KD x a_2 = KD x a_2 /\ IS x
 a_2 = IS x a_2) /\ ∃ (a_4 : IJ), (RR a_4 a_2 /\ jF a_4 a_2 /\ pkF x = pkF x /\ pkT x = pkT x /\ ZX x /\ Ce x /\ Ap x /\ Co x /\ Ba x /\ RR a_4 a_2 /\ GC /\
 GC /\ JP x a_4 = (mP x a_2).lo /\ KD x a_4 = (mP x a_2).hi /\ IS x a_4 = true /\ An x) /\ nM a_4 x a a_2 else ∃ (a_4 : IJ), (RR a_4 a_2 /\ jF a_4 a_2 /\
 pkF x = pkF x /\ pkT x = pkT x /\ ZX x /\ Ce x /\ Ap x /\ Co x /\ Ba x /\ RR a_4 a_2 /\ GC /\ GC /\ JP x a_4 = JP x a_2 /\ KD x a_4 = KD x a_2 /\
 IS x a_4 = IS x a_2 /\ An x) /\ nM a_4 x a a_2 else ∃ (a_4 : Nat), (pkF x = pkF x /\ pkT x = pkT x /\ ZX x /\ Ce x /\ Ap x /\ Co x /\ Ba x /\ (↑a_4 : Int) =
 IntKind.i64.wrap ((↑a_2.i : Int) + (1 : Int)) /\ GC /\ GC /\ (pkO x a_4).s.lo = JP x a_2 /\ (pkO x a_4).s.hi = KD x a_2 /\ (pkO x a_4).m = IS x a_2 /\ An x) /\ a_4.le x.a.c.ms.length /\
 Zu x a_4 < Zu x a else (rC x a /\ oN x a /\ jC x a /\ rC x a /\ oN x a /\ jC x a) /\ (Bc x).fst.lo = (qS x a).lo /\ (Bc x).fst.hi = (qS x a).hi
 /\ (Bc x).snd = (pX x a).snd) := by kernel_rfl
def CCS (x : CZ2) : Prop := AZ Try.prog CFF BDZ (AL BDZ) (xCZ2 x) (AG []) (.tup [.d (CL zSp), .int (AR x.a)]) [] [] []
theorem CJC (x : CZ2) : (CCS x) = ((x.a.c.p.lo = x.a.c.p.lo /\ x.a.c.p.hi = x.a.c.p.hi /\ x.a.c.base = x.a.c.base /\ x.a.c.scale = x.a.c.scale /\ x.a.c.off = x.a.c.off /\ (AE x.a.c.ms.length λ (i : Nat) => gD
 x.a.c.ms i).length = x.a.c.ms.length /\ (∀ (i : Nat), i < (AE x.a.c.ms.length λ (i : Nat) => gD x.a.c.ms i).length -> (gD (AE x.a.c.ms.length λ (i : Nat) => gD x.a.c.ms i) i).pl = (gD x.a.c.ms i).pl /\ (gD (AE
 x.a.c.ms.length λ (i : Nat) => gD x.a.c.ms i) i).ht = (gD x.a.c.ms i).ht) /\ (AE x.a.c.ns.length λ (i : Nat) => gD x.a.c.ns i).length = x.a.c.ns.length /\ (∀ (i : Nat), i < (AE x.a.c.ns.length λ (i : Nat) => gD
 x.a.c.ns i).length -> (gD (AE x.a.c.ns.length λ (i : Nat) => gD x.a.c.ns i) i).mi = (gD x.a.c.ns i).mi /\ (gD (AE x.a.c.ns.length λ (i : Nat) => gD x.a.c.ns i) i).t.lo = (gD x.a.c.ns i).t.lo /\ (gD (AE
 x.a.c.ns.length λ (i : Nat) => gD x.a.c.ns i) i).t.hi = (gD x.a.c.ns i).t.hi /\ (gD (AE x.a.c.ns.length λ (i : Nat) => gD x.a.c.ns i) i).s.lo = (gD x.a.c.ns i).s.lo /\ (gD (AE x.a.c.ns.length λ (i : Nat) => gD
 x.a.c.ns i) i).s.hi = (gD x.a.c.ns i).s.hi) /\ (AE x.a.z.length λ (i : Nat) => gD x.a.z i).length = x.a.z.length /\ (∀ (i : Nat), i < (AE x.a.z.length λ (i : Nat) => gD x.a.z i).length -> gD (AE x.a.z.length λ (i :
 Nat) => gD x.a.z i) i = gD x.a.z i) /\ ((AE x.a.c.ms.length λ (i : Nat) => gD x.a.c.ms i).length < (4611686018427387904 : Nat) /\ (AE x.a.c.ns.length λ (i : Nat) => gD x.a.c.ns i).length < (4611686018427387904 : Nat)
 /\ (AE x.a.z.length λ (i : Nat) => gD x.a.z i).length < (4611686018427387904 : Nat)) /\ AR (CZ.mk (Cht.mk x.a.c.p x.a.c.base x.a.c.scale x.a.c.off (AE x.a.c.ms.length λ (i : Nat) => gD x.a.c.ms i) (AE
 x.a.c.ns.length λ (i : Nat) => gD x.a.c.ns i)) (AE x.a.z.length λ (i : Nat) => gD x.a.z i)) ≠ (0 : Int)) /\ bif AR (CZ.mk (Cht.mk x.a.c.p x.a.c.base x.a.c.scale x.a.c.off (AE x.a.c.ms.length λ (i : Nat) => gD
 x.a.c.ms i) (AE x.a.c.ns.length λ (i : Nat) => gD x.a.c.ns i)) (AE x.a.z.length λ (i : Nat) => gD x.a.z i)) != (0 : Int) then Int.ofNat (0 : Nat) = Int.ofNat (0 : Nat) /\ Int.ofNat (0 : Nat) = Int.ofNat (0 : Nat) /\
 AR x.a = AR (CZ.mk (Cht.mk x.a.c.p x.a.c.base x.a.c.scale x.a.c.off (AE x.a.c.ms.length λ (i : Nat) => gD x.a.c.ms i) (AE x.a.c.ns.length λ (i : Nat) => gD x.a.c.ns i)) (AE x.a.z.length λ (i : Nat) => gD
 x.a.z i)) else bif decide (x.t < x.f) then Int.ofNat (0 : Nat) = Int.ofNat (0 : Nat) /\ Int.ofNat (0 : Nat) = Int.ofNat (0 : Nat) /\ AR x.a = (4 : Int) else False) := by kernel_rfl
theorem CLR (l : List Span) (a b x y : Int) : (winL l a b x y).length = l.length := by unfold winL; rw [Ai, Ai]
theorem pk1 (x : CZ2) {i j : Nat} (h : Hul) (hij : i <= j) (hw : BJM x i j = true) : pkI x i h (j + 1 - i) = LB (pkI x i h (j - i)) ⟨gLo (sliS x i j), gHi (sliS x i j)⟩ := by
 rw [show j + 1 - i = (j - i) + 1 by omega]
 show (bif BJM x i (i + (j - i)) then _ else _) = _
 rw [show i + (j - i) = j by omega, hw]; rfl
theorem pk0 (x : CZ2) {i j : Nat} (h : Hul) (hij : i <= j) (hw : BJM x i j = false) : pkI x i h (j + 1 - i) = pkI x i h (j - i) := by
 rw [show j + 1 - i = (j - i) + 1 by omega]
 show (bif BJM x i (i + (j - i)) then _ else _) = _
 rw [show i + (j - i) = j by omega, hw]; rfl
theorem CVU (x : CZ2) (h1 : x.a.c.ms.length < 4611686018427387904 /\ x.a.c.ns.length < 4611686018427387904 /\ x.a.z.length < 4611686018427387904) (c0 : AR x.a = 0) : CHH x := by
 have tl := Gh c0
 have sl := JA x.a.c
 obtain ⟨_, ⟨n1, n2⟩, _⟩ := ES (Fi c0).1
 have wo : ∀ a b : Nat, (KR (AI x.a) (winL (CI x.a) (a : Int) (b : Int) (pkF x) (pkT x))).all IW = BJM x a b := λ _ _ => rfl
 have pf : DJ x.f (-100000001) = pkF x := rfl
 have pt : JK x.t 100000001 = pkT x := rfl
 have so : ∀ a b : Nat, (AE (b + 1 - a) λ i => gD (stgL x.a.c) (a + i)) = sliS x a b := λ _ _ => rfl
 rw [CQH]; delta vM C2 BAF yQ xT N1 AQS BAM tE E1 ADZ O9 Az AIZ P5 AIJ ACG AGM AHD GC NC AKF AFP Xz QR ADV RH Bw Zi QK cZ S9 QN AHQ RE AJR QI AJG RG Xc T1 P9 ACI ZX Ce Ap Co Ba AEG Yw JP KD IS RN RF QB RB RJ QQ QC An Zu dX aY NG AAB Xr MI AFG AIE W2 Q5 U1 QH Xg AEE aT AGZ AEN AKK AII AKH AFB AGK AAA AHL AAV Yc AAH AAX ADD AAU AKX AIY AJH AFT AEX ALB ACA AHI kB oM fQ oR pY Dp Et Gu qV UB qD sO Fs RY RW pT gY lE iE Fg Dy RR jF mP lS nM rC oN jC pX qS; simp only [CC, eq_self, implies_true, forall_const, BZ, YA, Kh, RQ, Vj, BTL, CJU]; simp only [tl, sl, wo, CLR, pf, pt]
 refine ⟨⟨h1, c0⟩, λ h4 => ?_, λ h4 => ⟨⟨0, ?_, Nat.zero_le _⟩, λ a ha => ⟨λ hlt => ⟨⟨⟨a, a⟩, ?_, by show a < _; omega, rfl, Nat.le_refl _, by show a <= _; omega, λ h => absurd h (Nat.lt_irrefl _)⟩, λ s ⟨s1, s2, s3, s4, s5⟩ => ⟨λ hc => ?_, λ hc => ?_⟩⟩, λ hge => ?_⟩⟩⟩
 ·unfold Bc; rw [decide_eq_true h4]; exact ⟨rfl, rfl, rfl⟩
 ·simp; exact ⟨rfl, rfl, rfl⟩
 ·simp [pkI]
 ·have hj : s.j < x.a.c.ms.length := by
   cases hd : decide ((s.j : Int) < x.a.c.ms.length) with
   | false => rw [hd] at hc; cases hc
   | true => have := of_decide_eq_true hd; omega
  have hft : pkT x >= pkF x := by
   rw [decide_eq_true (show (s.j : Int) < x.a.c.ms.length by omega)] at hc
   exact of_decide_eq_true hc
  have ew : IntKind.i64.wrap ((s.j : Int) + 1) = ((s.j + 1 : Nat) : Int) := GE (by omega)
  simp only [ew, Int.toNat_natCast, so]
  have bound : ∀ i, i < s.j + 1 - s.i -> (gD (sliS x s.i s.j) i).lo = (gD (stgL x.a.c) (s.i + i)).lo /\ (gD (sliS x s.i s.j) i).hi = (gD (stgL x.a.c) (s.i + i)).hi := λ i hi => by
   unfold sliS; rw [BN _ _ _ hi]; exact ⟨rfl, rfl⟩
  refine ⟨?_, λ hw => ⟨?_, ⟨s.i, s.j + 1⟩, ?_, ⟨s1, s2, by show s.i <= s.j + 1; omega, by show s.j + 1 <= _; omega, λ _ => hft⟩, by show x.a.c.ms.length - (s.j + 1) < _; omega⟩, λ hw => ⟨⟨s.i, s.j + 1⟩, ?_, ⟨s1, s2, by show s.i <= s.j + 1; omega, by show s.j + 1 <= _; omega, λ _ => hft⟩, by show x.a.c.ms.length - (s.j + 1) < _; omega⟩⟩
  ·simp; omega
  ·refine ⟨⟨by omega, by omega, by omega⟩, bound, ⟨by omega, by omega⟩, ⟨by omega, by omega, by omega⟩, bound, by omega, by omega⟩
  ·have e := pk1 x (pkO x s.i) s3 hw
   simp only [e]; simp; rfl
  ·have e := pk0 x (pkO x s.i) s3 hw
   simp only [e]; simp
 ·have e : pkO x (s.i + 1) = pkI x s.i (pkO x s.i) (s.j - s.i) := by
   show (bif decide (pkT x >= pkF x) then _ else _) = _
   by_cases hft : pkT x >= pkF x
   ·rw [decide_eq_true hft] at hc ⊢
    have hj : s.j = x.a.c.ms.length := by
     cases hd : decide ((s.j : Int) < x.a.c.ms.length) with
     | true => rw [hd] at hc; cases hc
     | false => have := of_decide_eq_false hd; omega
    rw [hj]; rfl
   ·rw [decide_eq_false hft]
    have : s.j = s.i := by
     rcases Nat.lt_or_ge s.i s.j with h | h
     ·exact absurd (s5 h) hft
     ·omega
    rw [this, Nat.sub_self]; rfl
  refine ⟨s.i + 1, ⟨(GE (by omega)).symm, ?_, ?_, ?_⟩, by omega, by omega⟩ <;> rw [e]
 ·obtain rfl : a = x.a.c.ms.length := by omega
  unfold Bc; rw [decide_eq_false h4]; exact ⟨rfl, rfl, rfl⟩
theorem CPE : AM Try.prog CAM (C_Peak.spec dCZ2) := okT C_Peak (λ (x : CZ2) h => by
 have h1 : x.a.c.ms.length < 4611686018427387904 /\ x.a.c.ns.length < 4611686018427387904 /\ x.a.z.length < 4611686018427387904 := h
 by_cases c0 : AR x.a = 0
 ·have e : C_Peak.val x = .tup [.d (CL (Bc x).1), .int (Bc x).2] := by
   show AVal.tup [.d (CL (AMB x).1), .int (AMB x).2] = _
   unfold AMB; rw [c0]; rfl
  rw [e]
  exact UO (A := CMJ x) (L := []) (keep := []) (ren := []) (fz := []) CFN (by kernel_rfl) (AC BUX (AC CWR (AC CBQ (AC CJH (AC CPJ (AC (CLQ CXE CUW) (AC BSB (AC BZM AJ)))))))) (CVU x h1 c0)
 ·have c0' : (AR x.a == 0) = false := by simpa using c0
  have e : C_Peak.val x = .tup [.d (CL zSp), .int (AR x.a)] := by
   show AVal.tup [.d (CL (AMB x).1), .int (AMB x).2] = _
   unfold AMB; rw [c0']; rfl
  rw [e]
  refine UO (A := CFF) (L := []) (keep := []) (ren := []) (fz := []) CFN (by kernel_rfl) (AC BSC AJ) ?_
  show CCS x; rw [CJC]; simp only [CC, eq_self, implies_true, forall_const, BZ, RQ]
  exact ⟨⟨h1, c0⟩, λ h => by simp [c0] at h⟩) _
end Go.Bal
