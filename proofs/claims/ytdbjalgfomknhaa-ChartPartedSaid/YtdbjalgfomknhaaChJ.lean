/- Package chart: the greatest stages from a time to another one. -/
import Derived.Test.YtdbjalgfomknhaaChI
set_option linter.unusedVariables false
set_option linter.unusedSimpArgs false
namespace Go.Bal
open Go Go.Sym Go.Proofs
structure CZ2 where
 a : CZ
 f : Int
 t : Int
structure IJ where
 i : Nat
 j : Nat
 deriving Inhabited
def dCZ2 : List AVal -> Heap -> Option (CZ2 × List (Nat × Nat) × List Nat)
 | [x, y, .d f, .d t], H => match BYW x H, CDY y H with
  | some (c, g), some (l, e) => some (⟨⟨c, l⟩, CL f, CL t⟩, [], g ++ e)
  | _, _ => none
 | _, _ => none
def xCZ2 (x : CZ2) : List AVal := [.d (YE x.a.c), .d (DK x.a.z), .int x.f, .int x.t]
def pkF (x : CZ2) : Int := DJ x.f (-100000001)
def pkT (x : CZ2) : Int := JL x.t 100000001
def BJW (x : CZ2) (a b : Nat) : Bool := (KV (AI x.a) (winL (CJ x.a) (a : Int) (b : Int) (pkF x) (pkT x))).all JB
def sliS (x : CZ2) (a b : Nat) : List Span := AE (b + 1 - a) λ i => gD (stgL x.a.c) (a + i)
def pkI (x : CZ2) (a : Nat) (h : Hul) : Nat -> Hul
 | 0 => h
 | k + 1 => bif BJW x a (a + k) then LC (pkI x a h k) ⟨gLo (sliS x a (a + k)), gHi (sliS x a (a + k))⟩ else pkI x a h k
def pkO (x : CZ2) : Nat -> Hul
 | 0 => zHul
 | a + 1 => bif decide (pkT x >= pkF x) then pkI x a (pkO x a) (x.a.c.ms.length - a) else pkO x a
def ZQ (x : CZ2) : Span × Int := bif decide (x.t < x.f) then (⟨0, 0⟩, 4) else GY (pkO x x.a.c.ms.length)
def ALZ (x : CZ2) : Span × Int := bif AS x.a == 0 then ZQ x else (⟨0, 0⟩, AS x.a)
def C_Peak : Ctr := { α := CZ2, xs := xCZ2, val := λ x => .tup [.d (CN (ALZ x).1), .int (ALZ x).2], keep := λ _ => [], pre := λ x => [x.a.c.ms.length < 4611686018427387904 /\ x.a.c.ns.length < 4611686018427387904 /\ x.a.z.length < 4611686018427387904] }
def pkS (x : CZ2) (a : Nat) : List (Nat × AVal) := [(2, .int (pkF x)), (3, .int (pkT x)), (8, .bptr 202 0), (10, .bptr 208 0), (11, .d (AX (CJ x.a))), (12, .d (AX (stgL x.a.c))), (14, .bptr 206 0), (42, .int x.a.c.ms.length), (43, .int a)]
def pkH (x : CZ2) (h : Hul) : List (Nat × HCell) := [(202, .live (.box [.int 0, .int 0])), (206, .live (hlB h)), (208, .live (dkB (AI x.a) 209)), (209, .live (dkM (AI x.a)))]
def pk9 (x : CZ2) : Shape := { α := Nat, dflt := 0, T := λ a => ⟨pkS x a, pkH x (pkO x a)⟩, inv := λ a => a <= x.a.c.ms.length, meas := λ a => x.a.c.ms.length - a, first := [(202, 1016), (206, 8000), (208, 2032), (209, 2033)] }
def pk12 (x : CZ2) (m : Nat) : Shape := { α := IJ, dflt := default, T := λ s => ⟨[(15, .int s.i), (16, .int s.j)] ++ pkS x s.i, pkH x (pkI x s.i (pkO x s.i) (s.j - s.i))⟩, inv := λ s => s.i < x.a.c.ms.length /\ x.a.c.ms.length - s.i = m /\ s.i <= s.j /\ s.j <= x.a.c.ms.length /\ (s.i < s.j -> pkT x >= pkF x), meas := λ s => x.a.c.ms.length - s.j }
def CKB (x : CZ2) : Ann := { ann 91 [(UH, C_rdO.spec dCZ), (AVB, C_win.spec dDkW), (UT, C_nar.spec dDkS), (BSB, C_least.spec dN0c), (CBX, C_most.spec dN0c), (Ex, orS (C_grL.spec CSM) (C_grH.spec CUJ)), (ADF, C_hadd.spec dHuS), (vN, C_who.spec dHu1)] with loops := λ id => if id = 9 then some [pk9 x] else none, inner := λ gs id => if id = 12 then some [pk12 x (gs.getD 0 0)] else none }
def CEC : Ann := ann 91 [(UH, C_rdX.spec dCZ)]
def CIR (x : CZ2) : Prop := BB Try.prog (CKB x) ARL (AL ARL) (xCZ2 x) (AG []) (.tup [.d (CN (ZQ x).1), .int (ZQ x).2]) [] [] []
abbrev xR (x : CZ2) : List Mk := AE x.a.c.ms.length λ (i : Nat) => gD x.a.c.ms i
abbrev K1 (x : CZ2) : Nat := (xR x).length
abbrev BDP (x : CZ2) (i : Nat) : Mk := gD (xR x) i
abbrev C3 (x : CZ2) : List Nt := AE x.a.c.ns.length λ (i : Nat) => gD x.a.c.ns i
abbrev yT (x : CZ2) : Nat := (C3 x).length
abbrev wP (x : CZ2) (i : Nat) : Nt := gD (C3 x) i
abbrev AVW (x : CZ2) (i : Nat) : Span := (wP x i).t
abbrev BCC (x : CZ2) (i : Nat) : Span := (wP x i).s
abbrev vX (x : CZ2) : List Int := AE x.a.z.length λ (i : Nat) => gD x.a.z i
abbrev yS (x : CZ2) : Nat := (vX x).length
abbrev ADR (x : CZ2) : Cht := Cht.mk x.a.c.p x.a.c.base x.a.c.scale x.a.c.off (xR x) (C3 x)
abbrev AIE (x : CZ2) : CZ := CZ.mk (ADR x) (vX x)
abbrev Ag (x : CZ2) : Dk := AI (AIE x)
abbrev AFR (x : CZ2) : List Span := (AU (Ag x)).fst
abbrev AHB (x : CZ2) : Nat := (AFR x).length
abbrev AJC (x : CZ2) (i : Nat) : Span := gD (AFR x) i
abbrev Y7 (x : CZ2) : List Span := stgL (ADR x)
abbrev AET (i : Nat) (x : CZ2) : Prop := i < (stgL x.a.c).length
abbrev S2 (x : CZ2) (i : Nat) : Span := gD (Y7 x) i
abbrev GB : Prop := Int.ofNat (0 : Nat) = Int.ofNat (0 : Nat)
abbrev MF (x : CZ2) : Cht := (Ag x).c
abbrev Z6 (x : CZ2) : Span := (MF x).p
abbrev AEA (x : CZ2) : List Mk := (MF x).ms
abbrev dV (i : Nat) (x : CZ2) : Prop := i < (AI x.a).c.ms.length
abbrev QH (x : CZ2) (i : Nat) : Int := (gD (AI x.a).c.ms i).pl
abbrev AJO (x : CZ2) (i : Nat) : Mk := gD (AEA x) i
abbrev RS (x : CZ2) (i : Nat) : Int := (gD (AI x.a).c.ms i).ht
abbrev Ar (x : CZ2) : List Nt := (MF x).ns
abbrev aW (i : Nat) (x : CZ2) : Prop := i < (AI x.a).c.ns.length
abbrev QX (x : CZ2) (i : Nat) : Int := (gD (AI x.a).c.ns i).mi
abbrev Yz (x : CZ2) (i : Nat) : Nt := gD (Ar x) i
abbrev R1 (x : CZ2) (i : Nat) : Span := (gD (AI x.a).c.ns i).t
abbrev QN (x : CZ2) (i : Nat) : Int := (R1 x i).lo
abbrev AEL (x : CZ2) (i : Nat) : Span := (Yz x i).t
abbrev QK (x : CZ2) (i : Nat) : Int := (R1 x i).hi
abbrev ALA (x : CZ2) (i : Nat) : Span := (gD (AI x.a).c.ns i).s
abbrev QV (x : CZ2) (i : Nat) : Int := (ALA x i).lo
abbrev AJZ (x : CZ2) (i : Nat) : Span := (Yz x i).s
abbrev RO (x : CZ2) (i : Nat) : Int := (ALA x i).hi
abbrev Zq (x : CZ2) (n : Int) : Nt := ntOf (Ar x) n
abbrev AJY (x : CZ2) (n : Int) : Span := (Zq x n).t
abbrev AAB (x : CZ2) (n : Int) : Span := (Zq x n).s
abbrev Y2 (a : IJ) (a1 : Nat) : Prop := (↑a.i : Int) = (↑a1 : Int)
abbrev Cr (x : CZ2) : Prop := (CJ x.a).length = (CJ x.a).length
abbrev Bl (x : CZ2) : Prop := ∀ (i : Nat), i < (CJ x.a).length -> (gD (CJ x.a) i).lo = (gD (CJ x.a) i).lo /\ (gD (CJ x.a) i).hi = (gD (CJ x.a) i).hi
abbrev Cn (x : CZ2) : Prop := (stgL x.a.c).length = (stgL x.a.c).length
abbrev ZL (x : CZ2) : Prop := ∀ (i : Nat), AET i x -> (gD (stgL x.a.c) i).lo = (gD (stgL x.a.c) i).lo /\ (gD (stgL x.a.c) i).hi = (gD (stgL x.a.c) i).hi
abbrev As (x : CZ2) : Prop := (↑x.a.c.ms.length : Int) = (↑x.a.c.ms.length : Int)
abbrev AEU (x : CZ2) (a : IJ) : Hul := pkI x a.i (pkO x a.i) (a.j - a.i)
abbrev Xn (x : CZ2) (a : IJ) : Span := (AEU x a).s
abbrev KJ (x : CZ2) (a : IJ) : Int := (Xn x a).lo
abbrev KO (x : CZ2) (a : IJ) : Int := (Xn x a).hi
abbrev IY (x : CZ2) (a : IJ) : Bool := (AEU x a).m
abbrev QJ (x : CZ2) : Prop := (AI x.a).c.p.lo = (AI x.a).c.p.lo
abbrev RN (x : CZ2) : Prop := (AI x.a).c.p.hi = (AI x.a).c.p.hi
abbrev RB (x : CZ2) : Prop := (AI x.a).c.base = (AI x.a).c.base
abbrev RD (x : CZ2) : Prop := (AI x.a).c.scale = (AI x.a).c.scale
abbrev QM (x : CZ2) : Prop := (AI x.a).c.off = (AI x.a).c.off
abbrev RM (x : CZ2) : Prop := ∀ (i : Nat), i < (40 : Nat) -> (AI x.a).sp i = (AI x.a).sp i
abbrev QT (x : CZ2) : Prop := ∀ (n : Int), (AI x.a).st n = (AI x.a).st n
abbrev Cp (x : CZ2) : Prop := QJ x /\ RN x /\ RB x /\ RD x /\ QM x /\ (AI x.a).c.ms.length = (AI x.a).c.ms.length /\ (∀ (i : Nat), dV i x -> QH x i = QH x i /\
 RS x i = RS x i) /\ (AI x.a).c.ns.length = (AI x.a).c.ns.length /\ (∀ (i : Nat), aW i x -> QX x i = QX x i /\ QN x i = QN x i /\ QK x i = QK x i /\ QV x
 i = QV x i /\ RO x i = RO x i) /\ RM x /\ AT = AT /\ (∀ (n : Int), hasN (AI x.a).c.ns n = hasN (AI x.a).c.ns n) /\ QT x /\ ∀ (n : Int), (ntOf (AI x.a).c.ns n).mi = (ntOf (AI
 x.a).c.ns n).mi /\ (ntOf (AI x.a).c.ns n).t.lo = (ntOf (AI x.a).c.ns n).t.lo /\ (ntOf (AI x.a).c.ns n).t.hi = (ntOf (AI x.a).c.ns n).t.hi /\ (ntOf (AI x.a).c.ns n).s.lo = (ntOf (AI x.a).c.ns n).s.lo /\ (ntOf
 (AI x.a).c.ns n).s.hi = (ntOf (AI x.a).c.ns n).s.hi
abbrev Yo (x : CZ2) (a : Nat) : Nat := x.a.c.ms.length - a
abbrev dI (a : IJ) (x : CZ2) (a1 : Nat) : Prop := a.i < x.a.c.ms.length /\ x.a.c.ms.length - a.i = Yo x a1 /\ a.i <= a.j /\ a.j <= x.a.c.ms.length /\ (a.i < a.j -> pkT x >= pkF x)
abbrev bN (x : CZ2) : List Span := AE (CJ x.a).length λ (i : Nat) => gD (CJ x.a) i
abbrev MI (x : CZ2) : Nat := (bN x).length
abbrev ABE (x : CZ2) (i : Nat) : Span := gD (bN x) i
abbrev aY (x : CZ2) : List Mk := AE (AI x.a).c.ms.length λ (i : Nat) => gD (AI x.a).c.ms i
abbrev MX (x : CZ2) : Nat := (aY x).length
abbrev Q5 (x : CZ2) : Prop := MX x = (AI x.a).c.ms.length
abbrev AFG (x : CZ2) (i : Nat) : Mk := gD (aY x) i
abbrev ADM (x : CZ2) (i : Nat) : Int := (AFG x i).pl
abbrev AGT (x : CZ2) (i : Nat) : Int := (AFG x i).ht
abbrev AHF (x : CZ2) : Prop := ∀ (i : Nat), i < MX x -> ADM x i = QH x i /\ AGT x i = RS x i
abbrev RK (x : CZ2) : List Nt := AE (AI x.a).c.ns.length λ (i : Nat) => gD (AI x.a).c.ns i
abbrev Zw (x : CZ2) : Nat := (RK x).length
abbrev AJG (x : CZ2) : Prop := Zw x = (AI x.a).c.ns.length
abbrev aN (x : CZ2) (i : Nat) : Nt := gD (RK x) i
abbrev R7 (x : CZ2) (i : Nat) : Int := (aN x i).mi
abbrev ABU (x : CZ2) (i : Nat) : Span := (aN x i).t
abbrev AAD (x : CZ2) (i : Nat) : Int := (ABU x i).lo
abbrev AEK (x : CZ2) (i : Nat) : Int := (ABU x i).hi
abbrev ACI (x : CZ2) (i : Nat) : Span := (aN x i).s
abbrev AEW (x : CZ2) (i : Nat) : Int := (ACI x i).lo
abbrev AIF (x : CZ2) (i : Nat) : Int := (ACI x i).hi
abbrev S4 (x : CZ2) : Prop := ∀ (i : Nat), i < Zw x -> R7 x i = QX x i /\ AAD x i = QN x i /\ AEK x i = QK x i /\ AEW x i = QV x i /\ AIF x i =
 RO x i
abbrev Z8 (x : CZ2) (n : Int) : Bool := hasN (RK x) n
abbrev ALK (x : CZ2) : Prop := ∀ (n : Int), Z8 x n = hasN (AI x.a).c.ns n
abbrev dO (x : CZ2) (n : Int) : Nt := ntOf (RK x) n
abbrev AGH (x : CZ2) (n : Int) : Int := (dO x n).mi
abbrev AAR (x : CZ2) (n : Int) : Span := (dO x n).t
abbrev AFT (x : CZ2) (n : Int) : Int := (AAR x n).lo
abbrev V8 (x : CZ2) (n : Int) : Int := (AAR x n).hi
abbrev ADU (x : CZ2) (n : Int) : Span := (dO x n).s
abbrev O5 (x : CZ2) (n : Int) : Int := (ADU x n).lo
abbrev AAX (x : CZ2) (n : Int) : Int := (ADU x n).hi
abbrev AFS (x : CZ2) : Prop := ∀ (n : Int), AGH x n = (ntOf (AI x.a).c.ns n).mi /\ AFT x n = (ntOf (AI x.a).c.ns n).t.lo /\ V8 x n = (ntOf (AI x.a).c.ns n).t.hi /\ O5 x n = (ntOf (AI
 x.a).c.ns n).s.lo /\ AAX x n = (ntOf (AI x.a).c.ns n).s.hi
abbrev V7 (x : CZ2) : Prop := (AI x.a).c.ms.length = MX x
abbrev AEO (x : CZ2) : Prop := ∀ (i : Nat), dV i x -> QH x i = ADM x i /\ RS x i = AGT x i
abbrev AHT (x : CZ2) : Prop := (AI x.a).c.ns.length = Zw x
abbrev AHU (x : CZ2) : Prop := ∀ (i : Nat), aW i x -> QX x i = R7 x i /\ QN x i = AAD x i /\ QK x i = AEK x i /\ QV x i = AEW x i /\ RO x i = AIF
 x i
abbrev kP (x : CZ2) : Prop := ∀ (n : Int), hasN (AI x.a).c.ns n = Z8 x n
abbrev jU (x : CZ2) : Prop := ∀ (n : Int), (ntOf (AI x.a).c.ns n).mi = AGH x n /\ (ntOf (AI x.a).c.ns n).t.lo = AFT x n /\ (ntOf (AI x.a).c.ns n).t.hi = V8 x n /\ (ntOf (AI x.a).c.ns
 n).s.lo = O5 x n /\ (ntOf (AI x.a).c.ns n).s.hi = AAX x n
abbrev iG (a : IJ) : Prop := (0 : Int) <= (↑a.i : Int)
abbrev lD (x : CZ2) (a : IJ) : List Span := winL (bN x) (↑a.i : Int) (↑a.j : Int) (pkF x) (pkT x)
abbrev qH (x : CZ2) (a : IJ) : Nat := (lD x a).length
abbrev Jb (x : CZ2) (a : IJ) (i : Nat) : Span := gD (lD x a) i
abbrev Gz (x : CZ2) (a : IJ) : List Span := AE (qH x a) λ (i : Nat) => Jb x a i
abbrev Hq (x : CZ2) (a : IJ) : Nat := (Gz x a).length
abbrev iM (x : CZ2) (a : IJ) (i : Nat) : Span := gD (Gz x a) i
abbrev SZ (a : IJ) : Int := IntKind.i64.wrap ((↑a.j : Int) + (1 : Int))
abbrev nS (a : IJ) (x : CZ2) : Prop := iG a /\ (↑a.i : Int) <= SZ a /\ SZ a <= (↑(stgL x.a.c).length : Int)
abbrev qE (a : IJ) : Nat := (SZ a).toNat - a.i
abbrev Ez (x : CZ2) (a : IJ) (i : Nat) : Span := gD (stgL x.a.c) (a.i + i)
abbrev TK (a : IJ) (x : CZ2) : List Span := AE (qE a) λ (i : Nat) => Ez x a i
abbrev TP (a : IJ) (x : CZ2) : Nat := (TK a x).length
abbrev gZ (a : IJ) (x : CZ2) : Prop := TP a x = qE a
abbrev sM (a : IJ) (x : CZ2) (i : Nat) : Span := gD (TK a x) i
abbrev kT (a : IJ) (x : CZ2) : Prop := ∀ (i : Nat), i < TP a x -> (sM a x i).lo = (Ez x a i).lo /\ (sM a x i).hi = (Ez x a i).hi
abbrev mZ (a : IJ) (x : CZ2) : Prop := (0 : Nat) < TP a x /\ TP a x < (1073741824 : Nat)
abbrev Fa (a : IJ) (x : CZ2) : Int := gLo (TK a x)
abbrev Ev (a : IJ) (x : CZ2) : Int := gHi (TK a x)
abbrev UA (a : IJ) (a1 : IJ) : Prop := (↑a.i : Int) = (↑a1.i : Int)
abbrev tE (a : IJ) (a1 : IJ) : Prop := (↑a.j : Int) = SZ a1
abbrev pF (x : CZ2) (a : IJ) : Span := (LC (Hul.mk (Xn x a) (IY x a)) (Span.mk (Fa a x) (Ev a x))).s
abbrev jF (x : CZ2) (a : IJ) : Nat := x.a.c.ms.length - a.j
abbrev gP (a : IJ) (x : CZ2) (a1 : Nat) (a2 : IJ) : Prop := dI a x a1 /\ jF x a < jF x a2
abbrev sI (x : CZ2) (a : Nat) : Prop := (pkO x a).s.lo = (pkO x a).s.lo
abbrev rG (x : CZ2) (a : Nat) : Prop := (pkO x a).s.hi = (pkO x a).s.hi
abbrev kR (x : CZ2) (a : Nat) : Prop := (pkO x a).m = (pkO x a).m
abbrev kQ (x : CZ2) (a : Nat) : Span × Int := GY (Hul.mk (pkO x a).s (pkO x a).m)
abbrev oS (x : CZ2) (a : Nat) : Span := (kQ x a).fst
theorem CQP (x : CZ2) : (CIR x) = ((x.a.c.p.lo = x.a.c.p.lo /\ x.a.c.p.hi = x.a.c.p.hi /\ x.a.c.base = x.a.c.base /\ x.a.c.scale = x.a.c.scale /\ x.a.c.off = x.a.c.off /\ K1 x = x.a.c.ms.length /\ (∀ (i : Nat), i
 < K1 x -> (BDP x i).pl = (gD x.a.c.ms i).pl /\ (BDP x i).ht = (gD x.a.c.ms i).ht) /\ yT x = x.a.c.ns.length /\ (∀ (i : Nat), i < yT x -> (wP x i).mi = (gD x.a.c.ns i).mi /\ (AVW x i).lo =
 (gD x.a.c.ns i).t.lo /\ (AVW x i).hi = (gD x.a.c.ns i).t.hi /\ (BCC x i).lo = (gD x.a.c.ns i).s.lo /\ (BCC x i).hi = (gD x.a.c.ns i).s.hi) /\ yS x = x.a.z.length /\ (∀ (i : Nat), i < yS x -> gD
 (vX x) i = gD x.a.z i) /\ (K1 x < (4611686018427387904 : Nat) /\ yT x < (4611686018427387904 : Nat) /\ yS x < (4611686018427387904 : Nat)) /\ AS (AIE x) = (0 : Int)) /\ bif decide (x.t < x.f)
 then (ZQ x).fst.lo = (0 : Int) /\ (ZQ x).fst.hi = (0 : Int) /\ (ZQ x).snd = (4 : Int) else (∃ (a : Nat), (pkF x = DJ x.f (-100000001 : Int) /\ pkT x = JL x.t (100000001 : Int) /\ (CJ x.a).length = AHB x /\
 (∀ (i : Nat), i < (CJ x.a).length -> (gD (CJ x.a) i).lo = (AJC x i).lo /\ (gD (CJ x.a) i).hi = (AJC x i).hi) /\ (stgL x.a.c).length = (Y7 x).length /\ (∀ (i : Nat), AET i x -> (gD (stgL x.a.c)
 i).lo = (S2 x i).lo /\ (gD (stgL x.a.c) i).hi = (S2 x i).hi) /\ (↑x.a.c.ms.length : Int) = (↑(AHB x) : Int) /\ (↑a : Int) = (0 : Int) /\ GB /\ GB /\ (pkO x a).s.lo = (0 : Int) /\ (pkO x a).s.hi
 = (0 : Int) /\ (pkO x a).m = false /\ (AI x.a).c.p.lo = (Z6 x).lo /\ (AI x.a).c.p.hi = (Z6 x).hi /\ (AI x.a).c.base = (MF x).base /\ (AI x.a).c.scale = (MF x).scale /\ (AI x.a).c.off =
 (MF x).off /\ (AI x.a).c.ms.length = (AEA x).length /\ (∀ (i : Nat), dV i x -> QH x i = (AJO x i).pl /\ RS x i = (AJO x i).ht) /\ (AI x.a).c.ns.length = (Ar x).length /\
 (∀ (i : Nat), aW i x -> QX x i = (Yz x i).mi /\ QN x i = (AEL x i).lo /\ QK x i = (AEL x i).hi /\ QV x i = (AJZ x i).lo /\ RO x i = (AJZ x i).hi) /\ (∀
 (i : Nat), i < (40 : Nat) -> (AI x.a).sp i = (Ag x).sp i) /\ AT = AT /\ (∀ (n : Int), hasN (AI x.a).c.ns n = hasN (Ar x) n) /\ (∀ (n : Int), (AI x.a).st n = (Ag x).st n) /\ ∀ (n : Int), (ntOf
 (AI x.a).c.ns n).mi = (Zq x n).mi /\ (ntOf (AI x.a).c.ns n).t.lo = (AJY x n).lo /\ (ntOf (AI x.a).c.ns n).t.hi = (AJY x n).hi /\ (ntOf (AI x.a).c.ns n).s.lo = (AAB x n).lo /\ (ntOf (AI
 x.a).c.ns n).s.hi = (AAB x n).hi) /\ a.le x.a.c.ms.length) /\ ∀ (a : Nat), a.le x.a.c.ms.length -> bif decide ((↑a : Int) < (↑x.a.c.ms.length : Int)) then (∃ (a_2 : IJ), (Y2 a_2 a /\ (↑a_2.j : Int) = (↑a : Int)
 /\ pkF x = pkF x /\ pkT x = pkT x /\ Cr x /\ Bl x /\ Cn x /\ ZL x /\ As x /\ Y2 a_2 a /\ GB /\ GB /\ KJ x a_2 = (pkO x a).s.lo /\ KO x a_2 = (pkO x a).s.hi /\
 IY x a_2 = (pkO x a).m /\ Cp x) /\ dI a_2 x a) /\ ∀ (a_2 : IJ), dI a_2 x a -> bif bif decide ((↑a_2.j : Int) < (↑(CJ x.a).length : Int)) then decide (pkT x >= pkF x) else false then (MI x =
 (CJ x.a).length /\ (∀ (i : Nat), i < MI x -> (ABE x i).lo = (gD (CJ x.a) i).lo /\ (ABE x i).hi = (gD (CJ x.a) i).hi) /\ (↑a_2.i : Int) = (↑a_2.i : Int) /\ (↑a_2.j : Int) = (↑a_2.j : Int) /\ pkF x = pkF x
 /\ pkT x = pkT x /\ QJ x /\ RN x /\ RB x /\ RD x /\ QM x /\ Q5 x /\ AHF x /\ AJG x /\ S4 x /\ RM x /\ AT = AT /\ ALK x /\ QT x /\ AFS x /\
 QJ x /\ RN x /\ RB x /\ RD x /\ QM x /\ V7 x /\ AEO x /\ AHT x /\ AHU x /\ RM x /\ AT = AT /\ kP x /\ QT x /\ jU x /\ (((1 : Nat) <= MI
 x /\ MI x <= (40 : Nat)) /\ (iG a_2 /\ (↑a_2.i : Int) < (↑(MI x) : Int)) /\ (0 : Int) <= (↑a_2.j : Int) /\ (↑a_2.j : Int) < (↑(MI x) : Int)) /\ Hq x a_2 = qH x a_2 /\ (∀ (i : Nat), i <
 Hq x a_2 -> (iM x a_2 i).lo = (Jb x a_2 i).lo /\ (iM x a_2 i).hi = (Jb x a_2 i).hi) /\ QJ x /\ RN x /\ RB x /\ RD x /\ QM x /\ Q5 x /\ AHF x
 /\ AJG x /\ S4 x /\ RM x /\ AT = AT /\ ALK x /\ QT x /\ AFS x /\ QJ x /\ RN x /\ RB x /\ RD x /\ QM x /\ V7 x /\ AEO x /\ AHT x /\ AHU
 x /\ RM x /\ AT = AT /\ kP x /\ QT x /\ jU x /\ Hq x a_2 = MX x /\ (1 : Nat) <= MX x /\ MX x <= (40 : Nat)) /\ bif (KV (Dk.mk (Cht.mk (AI x.a).c.p (AI x.a).c.base
 (AI x.a).c.scale (AI x.a).c.off (aY x) (RK x)) (AI x.a).st (AI x.a).sp) (Gz x a_2)).all JB then (nS a_2 x /\ gZ a_2 x /\ kT a_2 x /\ mZ a_2 x /\ nS a_2 x
 /\ gZ a_2 x /\ kT a_2 x /\ mZ a_2 x /\ Fa a_2 x = Fa a_2 x /\ Ev a_2 x = Ev a_2 x /\ KJ x a_2 = KJ x a_2 /\ KO x a_2 = KO x a_2 /\ IY x
 a_2 = IY x a_2) /\ ∃ (a_4 : IJ), (UA a_4 a_2 /\ tE a_4 a_2 /\ pkF x = pkF x /\ pkT x = pkT x /\ Cr x /\ Bl x /\ Cn x /\ ZL x /\ As x /\ UA a_4 a_2 /\ GB /\
 GB /\ KJ x a_4 = (pF x a_2).lo /\ KO x a_4 = (pF x a_2).hi /\ IY x a_4 = true /\ Cp x) /\ gP a_4 x a a_2 else ∃ (a_4 : IJ), (UA a_4 a_2 /\ tE a_4 a_2 /\
 pkF x = pkF x /\ pkT x = pkT x /\ Cr x /\ Bl x /\ Cn x /\ ZL x /\ As x /\ UA a_4 a_2 /\ GB /\ GB /\ KJ x a_4 = KJ x a_2 /\ KO x a_4 = KO x a_2 /\
 IY x a_4 = IY x a_2 /\ Cp x) /\ gP a_4 x a a_2 else ∃ (a_4 : Nat), (pkF x = pkF x /\ pkT x = pkT x /\ Cr x /\ Bl x /\ Cn x /\ ZL x /\ As x /\ (↑a_4 : Int) =
 IntKind.i64.wrap ((↑a_2.i : Int) + (1 : Int)) /\ GB /\ GB /\ (pkO x a_4).s.lo = KJ x a_2 /\ (pkO x a_4).s.hi = KO x a_2 /\ (pkO x a_4).m = IY x a_2 /\ Cp x) /\ a_4.le x.a.c.ms.length /\
 Yo x a_4 < Yo x a else (sI x a /\ rG x a /\ kR x a /\ sI x a /\ rG x a /\ kR x a) /\ (ZQ x).fst.lo = (oS x a).lo /\ (ZQ x).fst.hi = (oS x a).hi
 /\ (ZQ x).snd = (kQ x a).snd) := by kernel_rfl
def CDW (x : CZ2) : Prop := BB Try.prog CEC ARL (AL ARL) (xCZ2 x) (AG []) (.tup [.d (CN zSp), .int (AS x.a)]) [] [] []
theorem CIJ (x : CZ2) : (CDW x) = ((x.a.c.p.lo = x.a.c.p.lo /\ x.a.c.p.hi = x.a.c.p.hi /\ x.a.c.base = x.a.c.base /\ x.a.c.scale = x.a.c.scale /\ x.a.c.off = x.a.c.off /\ (AE x.a.c.ms.length λ (i : Nat) => gD
 x.a.c.ms i).length = x.a.c.ms.length /\ (∀ (i : Nat), i < (AE x.a.c.ms.length λ (i : Nat) => gD x.a.c.ms i).length -> (gD (AE x.a.c.ms.length λ (i : Nat) => gD x.a.c.ms i) i).pl = (gD x.a.c.ms i).pl /\ (gD (AE
 x.a.c.ms.length λ (i : Nat) => gD x.a.c.ms i) i).ht = (gD x.a.c.ms i).ht) /\ (AE x.a.c.ns.length λ (i : Nat) => gD x.a.c.ns i).length = x.a.c.ns.length /\ (∀ (i : Nat), i < (AE x.a.c.ns.length λ (i : Nat) => gD
 x.a.c.ns i).length -> (gD (AE x.a.c.ns.length λ (i : Nat) => gD x.a.c.ns i) i).mi = (gD x.a.c.ns i).mi /\ (gD (AE x.a.c.ns.length λ (i : Nat) => gD x.a.c.ns i) i).t.lo = (gD x.a.c.ns i).t.lo /\ (gD (AE
 x.a.c.ns.length λ (i : Nat) => gD x.a.c.ns i) i).t.hi = (gD x.a.c.ns i).t.hi /\ (gD (AE x.a.c.ns.length λ (i : Nat) => gD x.a.c.ns i) i).s.lo = (gD x.a.c.ns i).s.lo /\ (gD (AE x.a.c.ns.length λ (i : Nat) => gD
 x.a.c.ns i) i).s.hi = (gD x.a.c.ns i).s.hi) /\ (AE x.a.z.length λ (i : Nat) => gD x.a.z i).length = x.a.z.length /\ (∀ (i : Nat), i < (AE x.a.z.length λ (i : Nat) => gD x.a.z i).length -> gD (AE x.a.z.length λ (i :
 Nat) => gD x.a.z i) i = gD x.a.z i) /\ ((AE x.a.c.ms.length λ (i : Nat) => gD x.a.c.ms i).length < (4611686018427387904 : Nat) /\ (AE x.a.c.ns.length λ (i : Nat) => gD x.a.c.ns i).length < (4611686018427387904 : Nat)
 /\ (AE x.a.z.length λ (i : Nat) => gD x.a.z i).length < (4611686018427387904 : Nat)) /\ AS (CZ.mk (Cht.mk x.a.c.p x.a.c.base x.a.c.scale x.a.c.off (AE x.a.c.ms.length λ (i : Nat) => gD x.a.c.ms i) (AE
 x.a.c.ns.length λ (i : Nat) => gD x.a.c.ns i)) (AE x.a.z.length λ (i : Nat) => gD x.a.z i)) ≠ (0 : Int)) /\ bif AS (CZ.mk (Cht.mk x.a.c.p x.a.c.base x.a.c.scale x.a.c.off (AE x.a.c.ms.length λ (i : Nat) => gD
 x.a.c.ms i) (AE x.a.c.ns.length λ (i : Nat) => gD x.a.c.ns i)) (AE x.a.z.length λ (i : Nat) => gD x.a.z i)) != (0 : Int) then Int.ofNat (0 : Nat) = Int.ofNat (0 : Nat) /\ Int.ofNat (0 : Nat) = Int.ofNat (0 : Nat) /\
 AS x.a = AS (CZ.mk (Cht.mk x.a.c.p x.a.c.base x.a.c.scale x.a.c.off (AE x.a.c.ms.length λ (i : Nat) => gD x.a.c.ms i) (AE x.a.c.ns.length λ (i : Nat) => gD x.a.c.ns i)) (AE x.a.z.length λ (i : Nat) => gD
 x.a.z i)) else bif decide (x.t < x.f) then Int.ofNat (0 : Nat) = Int.ofNat (0 : Nat) /\ Int.ofNat (0 : Nat) = Int.ofNat (0 : Nat) /\ AS x.a = (4 : Int) else False) := by kernel_rfl
theorem CJY (l : List Span) (a b x y : Int) : (winL l a b x y).length = l.length := by unfold winL; rw [Cg, Cg]
theorem pk1 (x : CZ2) {i j : Nat} (h : Hul) (hij : i <= j) (hw : BJW x i j = true) : pkI x i h (j + 1 - i) = LC (pkI x i h (j - i)) ⟨gLo (sliS x i j), gHi (sliS x i j)⟩ := by
 rw [show j + 1 - i = (j - i) + 1 by omega]
 show (bif BJW x i (i + (j - i)) then _ else _) = _
 rw [show i + (j - i) = j by omega, hw]; rfl
theorem pk0 (x : CZ2) {i j : Nat} (h : Hul) (hij : i <= j) (hw : BJW x i j = false) : pkI x i h (j + 1 - i) = pkI x i h (j - i) := by
 rw [show j + 1 - i = (j - i) + 1 by omega]
 show (bif BJW x i (i + (j - i)) then _ else _) = _
 rw [show i + (j - i) = j by omega, hw]; rfl
theorem CWI (x : CZ2) (h1 : x.a.c.ms.length < 4611686018427387904 /\ x.a.c.ns.length < 4611686018427387904 /\ x.a.z.length < 4611686018427387904) (c0 : AS x.a = 0) : CIR x := by
 have tl := Dq c0
 have sl := JG x.a.c
 obtain ⟨_, ⟨n1, n2⟩, _⟩ := ET (Dz c0).1
 have wo : ∀ a b : Nat, (KV (AI x.a) (winL (CJ x.a) (a : Int) (b : Int) (pkF x) (pkT x))).all JB = BJW x a b := λ _ _ => rfl
 have pf : DJ x.f (-100000001) = pkF x := rfl
 have pt : JL x.t 100000001 = pkT x := rfl
 have so : ∀ a b : Nat, (AE (b + 1 - a) λ i => gD (stgL x.a.c) (a + i)) = sliS x a b := λ _ _ => rfl
 rw [CQP]; delta xR K1 BDP C3 yT wP AVW BCC vX yS ADR AIE Ag AFR AHB AJC Y7 AET S2 GB MF Z6 AEA dV QH AJO RS Ar aW QX Yz R1 QN AEL QK ALA QV AJZ RO Zq AJY AAB Y2 Cr Bl Cn ZL As AEU Xn KJ KO IY QJ RN RB RD QM RM QT Cp Yo dI bN MI ABE aY MX Q5 AFG ADM AGT AHF RK Zw AJG aN R7 ABU AAD AEK ACI AEW AIF S4 Z8 ALK dO AGH AAR AFT V8 ADU O5 AAX AFS V7 AEO AHT AHU kP jU iG lD qH Jb Gz Hq iM SZ nS qE Ez TK TP gZ sM kT mZ Fa Ev UA tE pF jF gP sI rG kR kQ oS; simp only [CC, eq_self, implies_true, forall_const, CB, YF, Oy, SX, No, BMN, COB]; simp only [tl, sl, wo, CJY, pf, pt]
 refine ⟨⟨h1, c0⟩, λ h4 => ?_, λ h4 => ⟨⟨0, ?_, Nat.zero_le _⟩, λ a ha => ⟨λ hlt => ⟨⟨⟨a, a⟩, ?_, by show a < _; omega, rfl, Nat.le_refl _, by show a <= _; omega, λ h => absurd h (Nat.lt_irrefl _)⟩, λ s ⟨s1, s2, s3, s4, s5⟩ => ⟨λ hc => ?_, λ hc => ?_⟩⟩, λ hge => ?_⟩⟩⟩
 ·unfold ZQ; rw [decide_eq_true h4]; exact ⟨rfl, rfl, rfl⟩
 ·simp; exact ⟨rfl, rfl, rfl⟩
 ·simp [pkI]
 ·have hj : s.j < x.a.c.ms.length := by
   cases hd : decide ((s.j : Int) < x.a.c.ms.length) with
   | false => rw [hd] at hc; cases hc
   | true => have := of_decide_eq_true hd; omega
  have hft : pkT x >= pkF x := by
   rw [decide_eq_true (show (s.j : Int) < x.a.c.ms.length by omega)] at hc
   exact of_decide_eq_true hc
  have ew : IntKind.i64.wrap ((s.j : Int) + 1) = ((s.j + 1 : Nat) : Int) := GK (by omega)
  simp only [ew, Int.toNat_natCast, so]
  have bound : ∀ i, i < s.j + 1 - s.i -> (gD (sliS x s.i s.j) i).lo = (gD (stgL x.a.c) (s.i + i)).lo /\ (gD (sliS x s.i s.j) i).hi = (gD (stgL x.a.c) (s.i + i)).hi := λ i hi => by
   unfold sliS; rw [BH _ _ _ hi]; exact ⟨rfl, rfl⟩
  refine ⟨?_, λ hw => ⟨?_, ⟨s.i, s.j + 1⟩, ?_, ⟨s1, s2, by show s.i <= s.j + 1; omega, by show s.j + 1 <= _; omega, λ _ => hft⟩, by show x.a.c.ms.length - (s.j + 1) < _; omega⟩, λ hw => ⟨⟨s.i, s.j + 1⟩, ?_, ⟨s1, s2, by show s.i <= s.j + 1; omega, by show s.j + 1 <= _; omega, λ _ => hft⟩, by show x.a.c.ms.length - (s.j + 1) < _; omega⟩⟩
  ·simp; omega
  ·refine ⟨⟨by omega, by omega, by omega⟩, bound, ⟨by omega, by omega⟩, ⟨by omega, by omega, by omega⟩, bound, by omega, by omega⟩
  ·have e := pk1 x (pkO x s.i) s3 hw
   simp only [e]; simp; rfl
  ·have e := pk0 x (pkO x s.i) s3 hw
   simp only [e]; simp
 ·have e : pkO x (s.i + 1) = pkI x s.i (pkO x s.i) (s.j - s.i) := by
   show (bif decide (pkT x >= pkF x) then _ else _) = _
   by_cases hft : pkT x >= pkF x
   ·rw [decide_eq_true hft] at hc ⊢
    have hj : s.j = x.a.c.ms.length := by
     cases hd : decide ((s.j : Int) < x.a.c.ms.length) with
     | true => rw [hd] at hc; cases hc
     | false => have := of_decide_eq_false hd; omega
    rw [hj]; rfl
   ·rw [decide_eq_false hft]
    have : s.j = s.i := by
     rcases Nat.lt_or_ge s.i s.j with h | h
     ·exact absurd (s5 h) hft
     ·omega
    rw [this, Nat.sub_self]; rfl
  refine ⟨s.i + 1, ⟨(GK (by omega)).symm, ?_, ?_, ?_⟩, by omega, by omega⟩ <;> rw [e]
 ·obtain rfl : a = x.a.c.ms.length := by omega
  unfold ZQ; rw [decide_eq_false h4]; exact ⟨rfl, rfl, rfl⟩
theorem CPB : AM Try.prog CAV (C_Peak.spec dCZ2) := okT C_Peak (λ (x : CZ2) h => by
 have h1 : x.a.c.ms.length < 4611686018427387904 /\ x.a.c.ns.length < 4611686018427387904 /\ x.a.z.length < 4611686018427387904 := h
 by_cases c0 : AS x.a = 0
 ·have e : C_Peak.val x = .tup [.d (CN (ZQ x).1), .int (ZQ x).2] := by
   show AVal.tup [.d (CN (ALZ x).1), .int (ALZ x).2] = _
   unfold ALZ; rw [c0]; rfl
  rw [e]
  exact UV (A := CKB x) (L := []) (keep := []) (ren := []) (fz := []) CDF (by kernel_rfl) (AC BNV (AC CWH (AC CAK (AC CHK (AC CPC (AC (CIU CWF CWP) (AC BOC (AC BZC AJ)))))))) (CWI x h1 c0)
 ·have c0' : (AS x.a == 0) = false := by simpa using c0
  have e : C_Peak.val x = .tup [.d (CN zSp), .int (AS x.a)] := by
   show AVal.tup [.d (CN (ALZ x).1), .int (ALZ x).2] = _
   unfold ALZ; rw [c0']; rfl
  rw [e]
  refine UV (A := CEC) (L := []) (keep := []) (ren := []) (fz := []) CDF (by kernel_rfl) (AC BNK AJ) ?_
  show CDW x; rw [CIJ]; simp only [CC, eq_self, implies_true, forall_const, CB, SX]
  exact ⟨⟨h1, c0⟩, λ h => by simp [c0] at h⟩) _
end Go.Bal
