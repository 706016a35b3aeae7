/- Law RatingScaled: its walk. -/
import Derived.Test.YtoihhodbkimedaaRT11
import Derived.Test.YtoihhodbkimedaaRatZ3
import Derived.Test.YtoihhodbkimedaaRatAr
set_option linter.unusedVariables false
set_option linter.unusedSimpArgs false
namespace Go.Bal
open Go Go.Sym Go.Proofs
structure ScI where
 bs : List Int
 cs : List Int
 a : Int
 b : Int
 c : Int
def scM3 (x : ScI) : MkI := ⟨⟨x.bs, 0, 0⟩, 9⟩
def BK (x : ScI) : List Gau := Qf (scM3 x)
def CG (x : ScI) : Rtg := Hr (scM3 x)
def FU (x : ScI) : Int := GE x.a 250
def LC (x : ScI) : Int := wr (1 + GE x.b 5)
def JU (x : ScI) : Int := GE x.c 500
def CX (x : ScI) : Stm := ⟨x.cs, 0, 0⟩
def mnG2 (n : Int) : Int := minI 200000 n
def scW (k : Int) (g : Gau) : Gau := ⟨g.st, wr (k * g.lo), mnG2 (wr (k * g.hi))⟩
def upW (u : Int) (g : Gau) : Gau := ⟨wr (g.st + u), g.lo, g.hi⟩
def QE (f : Gau -> Gau) (l : List Gau) (n : Nat) : List Gau := (List.range l.length).map λ i => if i < n then f (gD l i) else gD l i
def mapI (u : Int) (l : List Int) (n : Nat) : List Int := (List.range l.length).map λ i => if i < n then wr (gD l i + u) else gD l i
def DB (x : ScI) : List Gau := QE (scW (LC x)) (BK x) (BK x).length
def DR (x : ScI) : List Gau := QE (upW (JU x)) (BK x) (BK x).length
def scB (x : ScI) : List Int := mapI (JU x) (CG x).b (CG x).b.length
def scS1 (x : ScI) : Stm := BF (CX x) (BK x).length
def eO (x : ScI) : List Gau := BK x ++ [gD (BK x) (AN (CX x) (BK x).length).toNat]
def Ht (x : ScI) : List Int := (mxK (scS1 x) ((BK x).length + 1)).l
def swpL (l : List Gau) (i n : Nat) : List Gau := (List.range l.length).map λ j => if j = n then gD l i else if j = i then gD l n else gD l j
def swS (m : List Int) (l : List Gau) (k : Nat) : List Gau := if 0 <= gD m k /\ gD m k < l.length then swpL l k (gD m k).toNat else l
def swK (m : List Int) (l : List Gau) : Nat -> List Gau
 | 0 => l
 | k + 1 => swS m (swK m l k) k
def PX (x : ScI) : List Gau := swK (Ht x) (eO x) ((BK x).length + 1)
def scSl (x : ScI) (g h : AVal) : List (Nat × AVal) := [(11, .d (BO (BK x))), (12, .bptr 2096 0), (14, .int (FU x)), (15, .int (LC x)), (16, .int (JU x)), (17, g), (18, h)]
def scS3 (x : ScI) (g h : AVal) : List (Nat × AVal) := scSl x g h ++ [(13, .bptr 3016 0)]
def scC (x : ScI) (e : Bool) : HCell := bif e then .live (.box [.d (BL nilI), .d (kI (CG x).l)]) else rtgC (CG x)
def scH (x : ScI) (c : HCell) : List (Nat × HCell) := [(2096, c), (3016, stmH (CX x))]
def CAT (n : Nat) (l : List Gau) : HCell := .live (.row 3 n λ i => eGau (gD l i))
def CNR (n : Nat) (l : List Int) : HCell := .live (.row 1 n λ i => CU (gD l i))
def sc6 (x : ScI) (e : Bool) : Shape := { α := Nat, dflt := 0, T := λ y => ⟨scS3 x (.own 5016 3 0 (BK x).length) (.own 5048 3 0 (BK x).length) ++ [(19, .int y)], scH x (scC x e) ++ [(5016, CAT (BK x).length (QE (scW (LC x)) (BK x) y)), (5048, CAT (BK x).length (QE (upW (JU x)) (BK x) y))]⟩, inv := λ y => y <= (BK x).length, meas := λ y => (BK x).length - y }
def sc10 (x : ScI) (e : Bool) : Shape := { α := One, dflt := default, T := λ _ => ⟨scS3 x (.d (BO (DB x))) (.d (BO (DR x))), scH x (scC x e)⟩, inv := λ _ => True, meas := λ _ => 0, ffz := [5016, 5048] }
def CPP (x : ScI) : Shape := { α := Nat, dflt := 0, T := λ y => ⟨scS3 x (.d (BO (DB x))) (.d (BO (DR x))) ++ [(20, .own 11032 1 0 (CG x).b.length), (21, .int y)], scH x (scC x false) ++ [(11032, CNR (CG x).b.length (mapI (JU x) (CG x).b y))]⟩, inv := λ y => y <= (CG x).b.length, meas := λ y => (CG x).b.length - y }
def COE (x : ScI) : Shape := { α := One, dflt := default, T := λ _ => ⟨scS3 x (.d (BO (DB x))) (.d (BO (DR x))) ++ [(20, .d PD), (21, .int 0)], scH x (scC x true)⟩, inv := λ _ => True, meas := λ _ => 0 }
def sc15 (x : ScI) (e : Bool) : Shape := { α := One, dflt := default, T := λ _ => ⟨scS3 x (.d (BO (DB x))) (.d (BO (DR x))) ++ [(20, .d (BL (scB x)))], scH x (rtgC (CG x))⟩, inv := λ _ => True, meas := λ _ => 0, ffz := bif e then [] else [11032] }
structure ScY where
 k : Nat
 l : List Gau
 deriving Inhabited
def scSz (x : ScI) (m : AVal) : List (Nat × AVal) := scSl x (.d (BO (DB x))) (.d (BO (DR x))) ++ [(20, .d (BL (scB x))), (22, m)]
def sc17 (x : ScI) : Shape := { α := ScY, dflt := default, T := λ y => ⟨scSz x (.own 16160 3 0 ((BK x).length + 1)) ++ [(122, .d (BL (Ht x))), (123, .int (Ht x).length), (124, .int y.k)], [(2096, rtgC (CG x)), (16160, CAT ((BK x).length + 1) y.l)]⟩, inv := λ y => y.k <= (BK x).length + 1 /\ y.l = swK (Ht x) (eO x) y.k, meas := λ y => (BK x).length + 1 - y.k }
def sc22 (x : ScI) : Shape := { α := One, dflt := default, T := λ _ => ⟨scSz x (.d (BO (PX x))), [(2096, rtgC (CG x))]⟩, inv := λ _ => True, meas := λ _ => 0, ffz := [16160] }
def xSc (x : ScI) : List AVal := [.d (eBys x.bs), .d (eBys x.cs), .int x.a, .int x.b, .int x.c]
def C_MadeE : Ctr := { C_Made with val := λ a => .tup [.d (BO (Qf a)), .d (.agg [BL nilI, kI (Hr a).l])], pre := λ (a : MkI) => [M0 a /\ (Hr a).b = []] }
def A_Sc (x : ScI) (e : Bool) : Ann := { ann 311 [(CDA, C_New.spec CIR), (BHG, bif e then C_MadeE.spec dMkI else C_Made.spec dMkI), (BOP, CBN), (BDY, C_cpG.spec UV), (AGY, bif e then C_cpE.spec dE1 else C_cpI.spec dIs1), (N8, C_Next.spec mU), (BIU, C_Mixed.spec mU), (BEF, C_Flow.spec dGBt), (BCR, BQU), (BFT, C_Rate.spec UV), (BEP, BRJ)] with mt := λ id => id == 15, loops := λ id => if id = 6 then some [sc6 x e] else if id = 12 then some [bif e then COE x else CPP x] else if id = 17 then some [sc17 x] else none, cut := λ id => if id = 10 then some [sc10 x e] else if id = 15 then some [sc15 x e] else if id = 22 then some [sc22 x] else none }
def S_Sc : Nat -> Bool := λ k => Nat.beq k 15
noncomputable def E_Sc (x : ScI) (e : Bool) : Exit -> AState -> Prop := endQ Try.prog (A_Sc x e) OA (.bool true) [] [] []
structure ScZ where
 x : ScI
 e : Bool
def CJB (x : ScI) : Prop := BKB Try.prog (A_Sc x false) S_Sc OA (AF OA) (xSc x) (AC []) (.bool true) [] [] []
abbrev BFC (x : ScI) : List Int := AD x.bs.length λ (i : Nat) => gD x.bs i
abbrev xB (x : ScI) : Nat := (BFC x).length
abbrev AGD (x : ScI) (i : Nat) : Int := gD (BFC x) i
abbrev AFP (x : ScI) : List Int := AD (xB x) λ (i : Nat) => AGD x i
abbrev BDK (x : ScI) : Nat := (AFP x).length
abbrev BHO : Prop := (0 : Int) = (0 : Int)
abbrev BCY (x : ScI) : Stm := Stm.mk (AFP x) (0 : Int) (0 : Int)
abbrev BIT (x : ScI) : List Int := AD x.cs.length λ (i : Nat) => gD x.cs i
abbrev AGP (x : ScI) : Nat := (BIT x).length
abbrev BGN (x : ScI) (i : Nat) : Int := gD (BIT x) i
abbrev AVT (x : ScI) : MkI := MkI.mk (BCY x) (9 : Int)
abbrev AMN (x : ScI) : List Gau := Qf (AVT x)
abbrev vH (x : ScI) : Nat := (AMN x).length
abbrev Jy (x : ScI) (i : Nat) : Gau := gD (AMN x) i
abbrev ALA (x : ScI) : List Gau := AD (vH x) λ (i : Nat) => Jy x i
abbrev WZ (x : ScI) : Nat := (ALA x).length
abbrev AWN (x : ScI) : Prop := WZ x = vH x
abbrev yG (x : ScI) (i : Nat) : Gau := gD (ALA x) i
abbrev sD (x : ScI) (i : Nat) : Int := (yG x i).st
abbrev APK (x : ScI) (i : Nat) : Int := (Jy x i).st
abbrev wE (x : ScI) (i : Nat) : Int := (yG x i).lo
abbrev AMC (x : ScI) (i : Nat) : Int := (Jy x i).lo
abbrev xJ (x : ScI) (i : Nat) : Int := (yG x i).hi
abbrev AKO (x : ScI) (i : Nat) : Int := (Jy x i).hi
abbrev AZT (x : ScI) : Prop := ∀ (i : Nat), i < WZ x -> sD x i = APK x i /\ wE x i = AMC x i /\ xJ x i = AKO x i
abbrev AVD (x : ScI) : Prop := (0 : Nat) < WZ x /\ WZ x < (1073741824 : Nat)
abbrev TM : Prop := (0 : Nat) = (0 : Nat)
abbrev Jp (x : ScI) : Prop := (BK x).length = WZ x
abbrev AJD (a : Nat) : Prop := (↑a : Int) = (0 : Int)
abbrev APH (x : ScI) : Rtg := Hr (AVT x)
abbrev ANK (x : ScI) : List Int := (APH x).b
abbrev ASF (x : ScI) : List Ln := (APH x).l
abbrev Oo (x : ScI) (i : Nat) : Ln := gD (ASF x) i
abbrev oZ (x : ScI) (a : Nat) (i : Nat) : Gau := gD (QE (scW (LC x)) (BK x) a) i
abbrev qZ (x : ScI) (a : Nat) (i : Nat) : Int := (oZ x a i).st
abbrev tU (x : ScI) (a : Nat) (i : Nat) : Int := (oZ x a i).lo
abbrev pZ (x : ScI) (a : Nat) (i : Nat) : Int := (oZ x a i).hi
abbrev tM (x : ScI) (a : Nat) (i : Nat) : Gau := gD (QE (upW (JU x)) (BK x) a) i
abbrev xC (x : ScI) (a : Nat) (i : Nat) : Int := (tM x a i).st
abbrev tH (x : ScI) (a : Nat) (i : Nat) : Int := (tM x a i).lo
abbrev tB (x : ScI) (a : Nat) (i : Nat) : Int := (tM x a i).hi
abbrev AZU (a : Nat) (x : ScI) : Prop := (↑a : Int) < (↑(BK x).length : Int)
abbrev AQJ (a : Nat) : Prop := (0 : Int) <= (↑a : Int)
abbrev Kb (a : Nat) (x : ScI) : Prop := AQJ a /\ AZU a x
abbrev HS (a : Nat) : Nat := (0 : Nat) + a
abbrev ASS (a : Nat) : Nat := (HS a).succ
abbrev AVQ (a : Nat) (x : ScI) : Prop := Kb a x /\ (ASS a).le (BK x).length
abbrev IU (x : ScI) : Prop := (BK x).length = (BK x).length
abbrev YI (x : ScI) : Prop := ∀ (i : Nat), i < (BK x).length -> (gD (BK x) i).st = (gD (BK x) i).st /\ (gD (BK x) i).lo = (gD (BK x) i).lo /\ (gD (BK x) i).hi = (gD (BK x) i).hi
abbrev AMG (a : Nat) (a1 : Nat) : Prop := (↑a : Int) = IntKind.i64.wrap ((↑a1 : Int) + (1 : Int))
abbrev UP (x : ScI) : Prop := (CG x).b.length = (CG x).b.length
abbrev Mb (x : ScI) : Prop := ∀ (i : Nat), i < (CG x).b.length -> gD (CG x).b i = gD (CG x).b i
abbrev Kp (x : ScI) : Prop := (CG x).l.length = (CG x).l.length
abbrev Ij (x : ScI) : Prop := ∀ (i : Nat), i < (CG x).l.length -> (gD (CG x).l i).a0 = (gD (CG x).l i).a0 /\ (gD (CG x).l i).a1 = (gD (CG x).l i).a1 /\ (gD (CG x).l i).b0 = (gD (CG x).l i).b0 /\ (gD (CG x).l
 i).b1 = (gD (CG x).l i).b1
abbrev Ia (x : ScI) : Prop := (CX x).bs.length = (CX x).bs.length
abbrev Ke (x : ScI) : Prop := ∀ (i : Nat), i < (CX x).bs.length -> gD (CX x).bs i = gD (CX x).bs i
abbrev PF (i : Nat) (a : Nat) : Bool := decide (i = HS a)
abbrev pE (x : ScI) (a : Nat) : Gau := gD (QE (upW (JU x)) (BK x) a) (HS a)
abbrev AZN (x : ScI) (a : Nat) : Nat := (BK x).length - a
abbrev APY (x : ScI) : Prop := (0 : Nat) + (BK x).length <= (BK x).length
abbrev pX (x : ScI) (a : Nat) (j : Nat) : Gau := gD (QE (scW (LC x)) (BK x) a) (HS j)
abbrev xQ (x : ScI) (a : Nat) (j : Nat) : Gau := gD (QE (upW (JU x)) (BK x) a) (HS j)
abbrev APC (x : ScI) : Prop := UP x /\ Mb x /\ Kp x /\ Ij x /\ Ia x /\ Ke x /\ (CX x).used = (CX x).used /\ (CX x).mix = (CX x).mix
abbrev ASI (x : ScI) : List Int := AD (CG x).b.length λ (i : Nat) => gD (CG x).b i
abbrev ZV (x : ScI) : Nat := (ASI x).length
abbrev ANI (x : ScI) (i : Nat) : Int := gD (ASI x) i
abbrev rG (x : ScI) : Prop := (DB x).length = (DB x).length
abbrev yF (x : ScI) : Prop := ∀ (i : Nat), i < (DB x).length -> (gD (DB x) i).st = (gD (DB x) i).st /\ (gD (DB x) i).lo = (gD (DB x) i).lo /\ (gD (DB x) i).hi = (gD (DB x) i).hi
abbrev yI (x : ScI) : Prop := (DR x).length = (DR x).length
abbrev oR (x : ScI) : Prop := ∀ (i : Nat), i < (DR x).length -> (gD (DR x) i).st = (gD (DR x) i).st /\ (gD (DR x) i).lo = (gD (DR x) i).lo /\ (gD (DR x) i).hi = (gD (DR x) i).hi
abbrev AKQ (x : ScI) : Prop := (CG x).b.length = ZV x
abbrev sC (x : ScI) (a : Nat) (i : Nat) : Int := gD (mapI (JU x) (CG x).b a) i
abbrev AIX (a : Nat) (x : ScI) : Prop := (↑a : Int) < (↑(CG x).b.length : Int)
abbrev ALR (a : Nat) (x : ScI) : Prop := AQJ a /\ AIX a x
abbrev AKJ (x : ScI) (a : Nat) : Nat := (CG x).b.length - a
theorem CLU (x : ScI) : (CJB x) = ((xB x = x.bs.length /\ (∀ (i : Nat), i < xB x -> AGD x i = gD x.bs i) /\ (9 : Int) = Int.ofNat (9 : Nat) /\ BDK x = xB x /\ (∀ (i : Nat), i < BDK x -> gD
 (AFP x) i = AGD x i) /\ BHO /\ BHO /\ (StmB (0 : Int) (BCY x) /\ (1 : Int) <= (9 : Int) /\ (9 : Int) <= (100 : Int)) /\ True) /\ (AGP x = x.cs.length /\ ∀ (i : Nat), i < AGP x -> BGN x i = gD x.cs i)
 /\ (AWN x /\ AZT x /\ AVD x /\ AWN x /\ AZT x /\ AVD x) /\ ((∃ (a : Nat), ((BK x).length = vH x /\ (∀ (i : Nat), i < (BK x).length -> (gD (BK x) i).st = APK x i /\ (gD (BK x) i).lo =
 AMC x i /\ (gD (BK x) i).hi = AKO x i) /\ FU x = GE x.a (250 : Int) /\ LC x = IntKind.i64.wrap ((1 : Int) + GE x.b (5 : Int)) /\ JU x = GE x.c (500 : Int) /\ TM /\ Jp x /\ TM /\ Jp
 x /\ AJD a /\ (CG x).b.length = (ANK x).length /\ (∀ (i : Nat), i < (CG x).b.length -> gD (CG x).b i = gD (ANK x) i) /\ (CG x).l.length = (ASF x).length /\ (∀ (i : Nat), i < (CG x).l.length -> (gD (CG
 x).l i).a0 = (Oo x i).a0 /\ (gD (CG x).l i).a1 = (Oo x i).a1 /\ (gD (CG x).l i).b0 = (Oo x i).b0 /\ (gD (CG x).l i).b1 = (Oo x i).b1) /\ (CX x).bs.length = AGP x /\ (∀ (i : Nat), i < (CX
 x).bs.length -> gD (CX x).bs i = BGN x i) /\ (CX x).used = (0 : Int) /\ (CX x).mix = (0 : Int) /\ Jp x /\ (∀ (i : Nat), i < (BK x).length -> qZ x a i = sD x i /\ tU x a i = wE x i /\
 pZ x a i = xJ x i) /\ Jp x /\ ∀ (i : Nat), i < (BK x).length -> xC x a i = sD x i /\ tH x a i = wE x i /\ tB x a i = xJ x i) /\ a.le (BK x).length) /\ ∀ (a : Nat), a.le
 (BK x).length -> bif decide (AZU a x) then (Kb a x /\ Kb a x /\ AVQ a x) /\ (Kb a x /\ HS a < (BK x).length /\ AVQ a x) /\ ∃ (a_2 : Nat), (IU x /\ YI x /\ FU x = FU x /\ LC x
 = LC x /\ JU x = JU x /\ TM /\ IU x /\ TM /\ IU x /\ AMG a_2 a /\ UP x /\ Mb x /\ Kp x /\ Ij x /\ Ia x /\ Ke x /\ (CX x).used = (CX x).used /\ (CX x).mix =
 (CX x).mix /\ IU x /\ (∀ (i : Nat), i < (BK x).length -> (qZ x a_2 i = bif PF i a then (gD (QE (scW (LC x)) (BK x) a) (HS a)).st else qZ x a i) /\ (tU x a_2 i = bif PF i a
 then IntKind.i64.wrap (LC x * (gD (BK x) a).lo) else tU x a i) /\ pZ x a_2 i = bif PF i a then minI (200000 : Int) (IntKind.i64.wrap (LC x * (gD (BK x) a).hi)) else pZ x a i) /\ IU x /\ ∀
 (i : Nat), i < (BK x).length -> (xC x a_2 i = bif PF i a then IntKind.i64.wrap ((pE x a).st + JU x) else xC x a i) /\ (tH x a_2 i = bif PF i a then (pE x a).lo else tH x a
 i) /\ tB x a_2 i = bif PF i a then (pE x a).hi else tB x a i) /\ a_2.le (BK x).length /\ AZN x a_2 < AZN x a else ∃ (a_2 : One), (IU x /\ YI x /\ FU x = FU x /\ LC x = LC x /\
 JU x = JU x /\ (DB x).length = (BK x).length /\ APY x /\ (∀ (j : Nat), j < (DB x).length -> (gD (DB x) j).st = (pX x a j).st /\ (gD (DB x) j).lo = (pX x a j).lo /\ (gD (DB x) j).hi = (pX x a
 j).hi) /\ (DR x).length = (BK x).length /\ APY x /\ (∀ (j : Nat), j < (DR x).length -> (gD (DR x) j).st = (xQ x a j).st /\ (gD (DR x) j).lo = (xQ x a j).lo /\ (gD (DR x) j).hi = (xQ x a j).hi)
 /\ APC x) /\ True) /\ ∀ (a : One), True -> (ZV x = (CG x).b.length /\ (∀ (i : Nat), i < ZV x -> ANI x i = gD (CG x).b i) /\ (0 : Nat) < ZV x /\ ZV x < (1073741824 : Nat)) /\ (∃ (a : Nat),
 (IU x /\ YI x /\ FU x = FU x /\ LC x = LC x /\ JU x = JU x /\ rG x /\ yF x /\ yI x /\ oR x /\ TM /\ AKQ x /\ AJD a /\ UP x /\ Mb x /\ Kp x /\ Ij x /\
 Ia x /\ Ke x /\ (CX x).used = (CX x).used /\ (CX x).mix = (CX x).mix /\ AKQ x /\ ∀ (i : Nat), i < (CG x).b.length -> sC x a i = ANI x i) /\ a.le (CG x).b.length) /\ ∀ (a : Nat), a.le (CG
 x).b.length -> bif decide (AIX a x) then (ALR a x /\ HS a < (CG x).b.length /\ ALR a x /\ (ASS a).le (CG x).b.length) /\ ∃ (a_2 : Nat), (IU x /\ YI x /\ FU x = FU x /\ LC x = LC x /\
 JU x = JU x /\ rG x /\ yF x /\ yI x /\ oR x /\ TM /\ UP x /\ AMG a_2 a /\ UP x /\ Mb x /\ Kp x /\ Ij x /\ Ia x /\ Ke x /\ (CX x).used = (CX x).used /\
 (CX x).mix = (CX x).mix /\ UP x /\ ∀ (i : Nat), i < (CG x).b.length -> sC x a_2 i = bif PF i a then IntKind.i64.wrap (gD (mapI (JU x) (CG x).b a) (HS a) + JU x) else sC x a i) /\ a_2.le
 (CG x).b.length /\ AKJ x a_2 < AKJ x a else ∃ (a_2 : One), (IU x /\ YI x /\ FU x = FU x /\ LC x = LC x /\ JU x = JU x /\ rG x /\ yF x /\ yI x /\ oR x /\ (scB x).length = (CG
 x).b.length /\ (0 : Nat) + (CG x).b.length <= (CG x).b.length /\ (∀ (j : Nat), j < (scB x).length -> gD (scB x) j = gD (mapI (JU x) (CG x).b a) (HS j)) /\ APC x) /\ True) := by kernel_rfl
def CJV (x : ScI) : Prop := BKB Try.prog (A_Sc x true) S_Sc OA (AF OA) (xSc x) (AC []) (.bool true) [] [] []
abbrev BDE (x : ScI) : List Int := AD x.bs.length λ (i : Nat) => gD x.bs i
abbrev pV (x : ScI) : Nat := (BDE x).length
abbrev AHH (x : ScI) (i : Nat) : Int := gD (BDE x) i
abbrev AGB (x : ScI) : List Int := AD (pV x) λ (i : Nat) => AHH x i
abbrev BEJ (x : ScI) : Nat := (AGB x).length
abbrev BIP : Prop := (0 : Int) = (0 : Int)
abbrev BFG (x : ScI) : Stm := Stm.mk (AGB x) (0 : Int) (0 : Int)
abbrev BCJ (x : ScI) : MkI := MkI.mk (BFG x) (9 : Int)
abbrev BHU (x : ScI) : Rtg := Hr (BCJ x)
abbrev BFP (x : ScI) : List Int := AD x.cs.length λ (i : Nat) => gD x.cs i
abbrev qI (x : ScI) : Nat := (BFP x).length
abbrev ANP (x : ScI) (i : Nat) : Int := gD (BFP x) i
abbrev AUU (x : ScI) : List Gau := Qf (BCJ x)
abbrev uI (x : ScI) : Nat := (AUU x).length
abbrev Ny (x : ScI) (i : Nat) : Gau := gD (AUU x) i
abbrev AXB (x : ScI) : List Gau := AD (uI x) λ (i : Nat) => Ny x i
abbrev XM (x : ScI) : Nat := (AXB x).length
abbrev ARO (x : ScI) : Prop := XM x = uI x
abbrev rH (x : ScI) (i : Nat) : Gau := gD (AXB x) i
abbrev vS (x : ScI) (i : Nat) : Int := (rH x i).st
abbrev ATM (x : ScI) (i : Nat) : Int := (Ny x i).st
abbrev rC (x : ScI) (i : Nat) : Int := (rH x i).lo
abbrev AWM (x : ScI) (i : Nat) : Int := (Ny x i).lo
abbrev uE (x : ScI) (i : Nat) : Int := (rH x i).hi
abbrev AOU (x : ScI) (i : Nat) : Int := (Ny x i).hi
abbrev ANV (x : ScI) : Prop := ∀ (i : Nat), i < XM x -> vS x i = ATM x i /\ rC x i = AWM x i /\ uE x i = AOU x i
abbrev ARE (x : ScI) : Prop := (0 : Nat) < XM x /\ XM x < (1073741824 : Nat)
abbrev IW : Prop := (0 : Nat) = (0 : Nat)
abbrev Oq (x : ScI) : Prop := (BK x).length = XM x
abbrev Me : Prop := ∀ (i : Nat), i < (0 : Nat) -> gD nilI i = gD nilI i
abbrev AQV (x : ScI) : List Ln := (BHU x).l
abbrev Ju (x : ScI) (i : Nat) : Ln := gD (AQV x) i
abbrev xE (x : ScI) (a : Nat) (i : Nat) : Gau := gD (QE (scW (LC x)) (BK x) a) i
abbrev uO (x : ScI) (a : Nat) (i : Nat) : Int := (xE x a i).st
abbrev pU (x : ScI) (a : Nat) (i : Nat) : Int := (xE x a i).lo
abbrev yD (x : ScI) (a : Nat) (i : Nat) : Int := (xE x a i).hi
abbrev rE (x : ScI) (a : Nat) (i : Nat) : Gau := gD (QE (upW (JU x)) (BK x) a) i
abbrev vB (x : ScI) (a : Nat) (i : Nat) : Int := (rE x a i).st
abbrev tZ (x : ScI) (a : Nat) (i : Nat) : Int := (rE x a i).lo
abbrev vY (x : ScI) (a : Nat) (i : Nat) : Int := (rE x a i).hi
abbrev AVK (a : Nat) (x : ScI) : Prop := (↑a : Int) < (↑(BK x).length : Int)
abbrev Hw (a : Nat) (x : ScI) : Prop := (0 : Int) <= (↑a : Int) /\ AVK a x
abbrev PB (a : Nat) : Nat := (0 : Nat) + a
abbrev AYC (a : Nat) (x : ScI) : Prop := Hw a x /\ (PB a).succ.le (BK x).length
abbrev KK (x : ScI) : Prop := (BK x).length = (BK x).length
abbrev Ld (x : ScI) : Prop := ∀ (i : Nat), i < (BK x).length -> (gD (BK x) i).st = (gD (BK x) i).st /\ (gD (BK x) i).lo = (gD (BK x) i).lo /\ (gD (BK x) i).hi = (gD (BK x) i).hi
abbrev AQS (x : ScI) : Prop := (CG x).l.length = (CG x).l.length
abbrev AYU (x : ScI) : Prop := ∀ (i : Nat), i < (CG x).l.length -> (gD (CG x).l i).a0 = (gD (CG x).l i).a0 /\ (gD (CG x).l i).a1 = (gD (CG x).l i).a1 /\ (gD (CG x).l i).b0 = (gD (CG x).l i).b0 /\ (gD (CG x).l
 i).b1 = (gD (CG x).l i).b1
abbrev AXY (x : ScI) : Prop := (CX x).bs.length = (CX x).bs.length
abbrev AKV (x : ScI) : Prop := ∀ (i : Nat), i < (CX x).bs.length -> gD (CX x).bs i = gD (CX x).bs i
abbrev SQ (i : Nat) (a : Nat) : Bool := decide (i = PB a)
abbrev qQ (x : ScI) (a : Nat) : Gau := gD (QE (upW (JU x)) (BK x) a) (PB a)
abbrev AQE (x : ScI) (a : Nat) : Nat := (BK x).length - a
abbrev AZK (x : ScI) : Prop := (0 : Nat) + (BK x).length <= (BK x).length
abbrev qG (x : ScI) (a : Nat) (j : Nat) : Gau := gD (QE (scW (LC x)) (BK x) a) (PB j)
abbrev uB (x : ScI) (a : Nat) (j : Nat) : Gau := gD (QE (upW (JU x)) (BK x) a) (PB j)
abbrev AUW (x : ScI) : Prop := AQS x /\ AYU x /\ AXY x /\ AKV x /\ (CX x).used = (CX x).used /\ (CX x).mix = (CX x).mix
abbrev ARP (x : ScI) : Prop := IW /\ Me /\ AUW x
abbrev ATH (x : ScI) : Prop := (DB x).length = (DB x).length
abbrev ASB (x : ScI) : Prop := ∀ (i : Nat), i < (DB x).length -> (gD (DB x) i).st = (gD (DB x) i).st /\ (gD (DB x) i).lo = (gD (DB x) i).lo /\ (gD (DB x) i).hi = (gD (DB x) i).hi
abbrev AWI (x : ScI) : Prop := (DR x).length = (DR x).length
abbrev AWJ (x : ScI) : Prop := ∀ (i : Nat), i < (DR x).length -> (gD (DR x) i).st = (gD (DR x) i).st /\ (gD (DR x) i).lo = (gD (DR x) i).lo /\ (gD (DR x) i).hi = (gD (DR x) i).hi
abbrev AIV (x : ScI) : Prop := (scB x).length = (0 : Nat)
theorem CMJ (x : ScI) : (CJV x) = ((pV x = x.bs.length /\ (∀ (i : Nat), i < pV x -> AHH x i = gD x.bs i) /\ (9 : Int) = Int.ofNat (9 : Nat) /\ BEJ x = pV x /\ (∀ (i : Nat), i < BEJ x -> gD
 (AGB x) i = AHH x i) /\ BIP /\ BIP /\ (StmB (0 : Int) (BFG x) /\ (1 : Int) <= (9 : Int) /\ (9 : Int) <= (100 : Int)) /\ (BHU x).b = []) /\ (qI x = x.cs.length /\ ∀ (i : Nat), i < qI x -> ANP
 x i = gD x.cs i) /\ (ARO x /\ ANV x /\ ARE x /\ ARO x /\ ANV x /\ ARE x) /\ ((∃ (a : Nat), ((BK x).length = uI x /\ (∀ (i : Nat), i < (BK x).length -> (gD (BK x) i).st = ATM x i /\ (gD
 (BK x) i).lo = AWM x i /\ (gD (BK x) i).hi = AOU x i) /\ FU x = GE x.a (250 : Int) /\ LC x = IntKind.i64.wrap ((1 : Int) + GE x.b (5 : Int)) /\ JU x = GE x.c (500 : Int) /\ IW /\ Oq x /\
 IW /\ Oq x /\ (↑a : Int) = (0 : Int) /\ IW /\ Me /\ (CG x).l.length = (AQV x).length /\ (∀ (i : Nat), i < (CG x).l.length -> (gD (CG x).l i).a0 = (Ju x i).a0 /\ (gD (CG x).l i).a1 =
 (Ju x i).a1 /\ (gD (CG x).l i).b0 = (Ju x i).b0 /\ (gD (CG x).l i).b1 = (Ju x i).b1) /\ (CX x).bs.length = qI x /\ (∀ (i : Nat), i < (CX x).bs.length -> gD (CX x).bs i = ANP x i) /\ (CX
 x).used = (0 : Int) /\ (CX x).mix = (0 : Int) /\ Oq x /\ (∀ (i : Nat), i < (BK x).length -> uO x a i = vS x i /\ pU x a i = rC x i /\ yD x a i = uE x i) /\ Oq x /\ ∀ (i : Nat),
 i < (BK x).length -> vB x a i = vS x i /\ tZ x a i = rC x i /\ vY x a i = uE x i) /\ a.le (BK x).length) /\ ∀ (a : Nat), a.le (BK x).length -> bif decide (AVK a x) then (Hw a x
 /\ Hw a x /\ AYC a x) /\ (Hw a x /\ PB a < (BK x).length /\ AYC a x) /\ ∃ (a_2 : Nat), (KK x /\ Ld x /\ FU x = FU x /\ LC x = LC x /\ JU x = JU x /\ IW /\ KK x /\ IW /\
 KK x /\ (↑a_2 : Int) = IntKind.i64.wrap ((↑a : Int) + (1 : Int)) /\ IW /\ Me /\ AQS x /\ AYU x /\ AXY x /\ AKV x /\ (CX x).used = (CX x).used /\ (CX x).mix = (CX x).mix /\ KK x /\
 (∀ (i : Nat), i < (BK x).length -> (uO x a_2 i = bif SQ i a then (gD (QE (scW (LC x)) (BK x) a) (PB a)).st else uO x a i) /\ (pU x a_2 i = bif SQ i a then IntKind.i64.wrap (LC x *
 (gD (BK x) a).lo) else pU x a i) /\ yD x a_2 i = bif SQ i a then minI (200000 : Int) (IntKind.i64.wrap (LC x * (gD (BK x) a).hi)) else yD x a i) /\ KK x /\ ∀ (i : Nat), i < (BK x).length ->
 (vB x a_2 i = bif SQ i a then IntKind.i64.wrap ((qQ x a).st + JU x) else vB x a i) /\ (tZ x a_2 i = bif SQ i a then (qQ x a).lo else tZ x a i) /\ vY x a_2 i = bif
 SQ i a then (qQ x a).hi else vY x a i) /\ a_2.le (BK x).length /\ AQE x a_2 < AQE x a else ∃ (a_2 : One), (KK x /\ Ld x /\ FU x = FU x /\ LC x = LC x /\ JU x = JU x /\ (DB
 x).length = (BK x).length /\ AZK x /\ (∀ (j : Nat), j < (DB x).length -> (gD (DB x) j).st = (qG x a j).st /\ (gD (DB x) j).lo = (qG x a j).lo /\ (gD (DB x) j).hi = (qG x a j).hi) /\ (DR
 x).length = (BK x).length /\ AZK x /\ (∀ (j : Nat), j < (DR x).length -> (gD (DR x) j).st = (uB x a j).st /\ (gD (DR x) j).lo = (uB x a j).lo /\ (gD (DR x) j).hi = (uB x a j).hi) /\ ARP x)
 /\ True) /\ ∀ (a : One), True -> (IW /\ Me) /\ (∃ (a : One), (KK x /\ Ld x /\ FU x = FU x /\ LC x = LC x /\ JU x = JU x /\ ATH x /\ ASB x /\ AWI x /\ AWJ x /\ IW /\ (∀ (i : Nat),
 i < (0 : Nat) -> false = false) /\ Int.ofNat (0 : Nat) = Int.ofNat (0 : Nat) /\ ARP x) /\ True) /\ ∀ (a : One), True -> ∃ (a : One), (KK x /\ Ld x /\ FU x = FU x /\ LC x = LC x /\ JU x = JU x /\ ATH x /\
 ASB x /\ AWI x /\ AWJ x /\ AIV x /\ AIV x /\ (CG x).b.length = (0 : Nat) /\ (∀ (i : Nat), i < (CG x).b.length -> gD (CG x).b i = gD nilI i) /\ AUW x) /\ True) := by kernel_rfl
def CIY (z : ScZ) : Prop := KE Try.prog (A_Sc z.x z.e) S_Sc 15 (stdF Try.prog (A_Sc z.x z.e) S_Sc) (AF OA) [] (E_Sc z.x z.e)
abbrev yH (z : ScZ) : List Gau := AD (BK z.x).length λ (i : Nat) => gD (BK z.x) i
abbrev OS (z : ScZ) : Nat := (yH z).length
abbrev AHT (z : ScZ) : Prop := OS z = (BK z.x).length
abbrev BEH (i : Nat) (z : ScZ) : Prop := i < OS z
abbrev AHV (z : ScZ) (i : Nat) : Gau := gD (yH z) i
abbrev BFL (z : ScZ) (i : Nat) : Int := (AHV z i).st
abbrev BCO (z : ScZ) (i : Nat) : Int := (AHV z i).lo
abbrev BEC (z : ScZ) (i : Nat) : Int := (AHV z i).hi
abbrev AHD (z : ScZ) : Prop := ∀ (i : Nat), BEH i z -> BFL z i = (gD (BK z.x) i).st /\ BCO z i = (gD (BK z.x) i).lo /\ BEC z i = (gD (BK z.x) i).hi
abbrev BFH (z : ScZ) : Prop := 0 < OS z
abbrev uU (z : ScZ) : List Int := AD (CX z.x).bs.length λ (i : Nat) => gD (CX z.x).bs i
abbrev AYD (z : ScZ) : Nat := (uU z).length
abbrev ASH (z : ScZ) : Stm := Stm.mk (uU z) (CX z.x).used (CX z.x).mix
abbrev sV (z : ScZ) : Int := AN (ASH z) (↑(BK z.x).length : Int)
abbrev AXR : Prop := 3 = 3
abbrev BAH : Prop := 0 < 1
abbrev KZ (z : ScZ) : Nat := OS z + 1
abbrev sQ (z : ScZ) : Stm := BF (ASH z) (↑(BK z.x).length : Int)
abbrev ANR (z : ScZ) : List Int := (sQ z).bs
abbrev ARQ (z : ScZ) : Nat := (ANR z).length
abbrev AUM (z : ScZ) (i : Nat) : Int := gD (ANR z) i
abbrev wD (z : ScZ) : List Int := AD (ARQ z) λ (i : Nat) => AUM z i
abbrev BAD (z : ScZ) : Nat := (wD z).length
abbrev rU (z : ScZ) : Int := (sQ z).used
abbrev rM (z : ScZ) : Int := (sQ z).mix
abbrev AKX (z : ScZ) : Stm := Stm.mk (wD z) (rU z) (rM z)
abbrev Kd (z : ScZ) : Prop := (BK z.x).length = (BK z.x).length
abbrev Hz (z : ScZ) : Prop := ∀ (i : Nat), i < (BK z.x).length -> (gD (BK z.x) i).st = (gD (BK z.x) i).st /\ (gD (BK z.x) i).lo = (gD (BK z.x) i).lo /\ (gD (BK z.x) i).hi = (gD (BK z.x) i).hi
abbrev Ib (z : ScZ) : Prop := (DB z.x).length = (DB z.x).length
abbrev Mp (z : ScZ) : Prop := ∀ (i : Nat), i < (DB z.x).length -> (gD (DB z.x) i).st = (gD (DB z.x) i).st /\ (gD (DB z.x) i).lo = (gD (DB z.x) i).lo /\ (gD (DB z.x) i).hi = (gD (DB z.x) i).hi
abbrev Lo (z : ScZ) : Prop := (DR z.x).length = (DR z.x).length
abbrev Le (z : ScZ) : Prop := ∀ (i : Nat), i < (DR z.x).length -> (gD (DR z.x) i).st = (gD (DR z.x) i).st /\ (gD (DR z.x) i).lo = (gD (DR z.x) i).lo /\ (gD (DR z.x) i).hi = (gD (DR z.x) i).hi
abbrev Ky (z : ScZ) : Prop := (scB z.x).length = (scB z.x).length
abbrev La (z : ScZ) : Prop := ∀ (i : Nat), i < (scB z.x).length -> gD (scB z.x) i = gD (scB z.x) i
abbrev uV : Prop := 0 = 0
abbrev EU (z : ScZ) : Nat := (BK z.x).length + 1
abbrev ASC (z : ScZ) : Prop := EU z = KZ z
abbrev APQ (z : ScZ) : List Int := (mxK (AKX z) (KZ z)).l
abbrev AKK (z : ScZ) : Nat := (APQ z).length
abbrev Ot (z : ScZ) : Prop := (CG z.x).b.length = (CG z.x).b.length
abbrev Oh (z : ScZ) : Prop := ∀ (i : Nat), i < (CG z.x).b.length -> gD (CG z.x).b i = gD (CG z.x).b i
abbrev Om (z : ScZ) : Prop := (CG z.x).l.length = (CG z.x).l.length
abbrev Mv (z : ScZ) : Prop := ∀ (i : Nat), i < (CG z.x).l.length -> (gD (CG z.x).l i).a0 = (gD (CG z.x).l i).a0 /\ (gD (CG z.x).l i).a1 = (gD (CG z.x).l i).a1 /\ (gD (CG z.x).l i).b0 = (gD (CG z.x).l i).b0 /\
 (gD (CG z.x).l i).b1 = (gD (CG z.x).l i).b1
abbrev qP (i : Nat) (z : ScZ) : Prop := i < EU z
abbrev xZ (i : Nat) (z : ScZ) : Bool := decide (BEH i z)
abbrev wA (z : ScZ) : Gau := gD (BK z.x) (sV z).toNat
abbrev xY (a : ScY) (z : ScZ) : Prop := a.k <= EU z /\ a.l = swK (Ht z.x) (eO z.x) a.k
abbrev AJX (a : ScY) (z : ScZ) : Prop := (↑a.k : Int) < (↑(Ht z.x).length : Int)
abbrev AST (a : ScY) : Prop := 0 <= (↑a.k : Int)
abbrev ALD (z : ScZ) (a : ScY) : Prop := gD (Ht z.x) a.k < (↑(EU z) : Int)
abbrev APO (z : ScZ) (a : ScY) : Prop := 0 <= gD (Ht z.x) a.k /\ ALD z a
abbrev Oe (z : ScZ) (a : ScY) : Nat := 0 + (gD (Ht z.x) a.k).toNat
abbrev AMU (a : ScY) (z : ScZ) : Prop := AST a /\ (↑a.k : Int) < (↑(EU z) : Int)
abbrev tE (a : ScY) : Nat := 0 + a.k
abbrev AYF (a : ScY) (z : ScZ) : Prop := tE a < EU z
abbrev Il (z : ScZ) : Prop := EU z = EU z
abbrev AUF (z : ScZ) : Prop := (Ht z.x).length = (Ht z.x).length
abbrev ANY (z : ScZ) : Prop := ∀ (i : Nat), i < (Ht z.x).length -> gD (Ht z.x) i = gD (Ht z.x) i
abbrev AIS (z : ScZ) : Prop := (↑(Ht z.x).length : Int) = (↑(Ht z.x).length : Int)
abbrev ALL (a : ScY) (a1 : ScY) : Prop := (↑a.k : Int) = IntKind.i64.wrap ((↑a1.k : Int) + 1)
abbrev pP (i : Nat) (z : ScZ) (a : ScY) : Bool := decide (i = Oe z a)
abbrev qD (a : ScY) : Gau := gD a.l (tE a)
abbrev sP (i : Nat) (a : ScY) : Bool := decide (i = tE a)
abbrev sL (a : ScY) (z : ScZ) : Gau := gD a.l (Oe z a)
abbrev ARS (z : ScZ) (a : ScY) : Nat := EU z - a.k
abbrev BAB (a : ScY) (z : ScZ) (a1 : ScY) : Prop := xY a z /\ ARS z a < ARS z a1
abbrev pW (a : ScY) (j : Nat) : Gau := gD a.l (0 + j)
abbrev XG (z : ScZ) : List Int := AD (CG z.x).b.length λ (i : Nat) => gD (CG z.x).b i
abbrev vP (z : ScZ) : Nat := (XG z).length
abbrev pO (z : ScZ) : Prop := vP z = (CG z.x).b.length
abbrev pG (z : ScZ) : Prop := ∀ (i : Nat), i < vP z -> gD (XG z) i = gD (CG z.x).b i
abbrev wZ (z : ScZ) : Prop := vP z < 4611686018427387904
abbrev tY (z : ScZ) : List Gau := AD (DB z.x).length λ (i : Nat) => gD (DB z.x) i
abbrev yE (z : ScZ) : Nat := (tY z).length
abbrev wL (z : ScZ) (i : Nat) : Gau := gD (tY z) i
abbrev Oi (z : ScZ) : List Gau := AD (DR z.x).length λ (i : Nat) => gD (DR z.x) i
abbrev Lu (z : ScZ) : Nat := (Oi z).length
abbrev AIT (z : ScZ) : Prop := Lu z = (DR z.x).length
abbrev xV (z : ScZ) (i : Nat) : Gau := gD (Oi z) i
abbrev AZW (z : ScZ) : Prop := ∀ (i : Nat), i < Lu z -> (xV z i).st = (gD (DR z.x) i).st /\ (xV z i).lo = (gD (DR z.x) i).lo /\ (xV z i).hi = (gD (DR z.x) i).hi
abbrev xX (z : ScZ) : List Int := AD (scB z.x).length λ (i : Nat) => gD (scB z.x) i
abbrev xU (z : ScZ) : Nat := (xX z).length
abbrev qY (z : ScZ) : Int := IntKind.i64.wrap (FU z.x + JU z.x)
abbrev Lh (z : ScZ) : List Gau := AD (PX z.x).length λ (i : Nat) => gD (PX z.x) i
abbrev Nm (z : ScZ) : Nat := (Lh z).length
abbrev AKL (z : ScZ) : Prop := Nm z = (PX z.x).length
abbrev vR (z : ScZ) (i : Nat) : Gau := gD (Lh z) i
abbrev AJS (z : ScZ) : Prop := ∀ (i : Nat), i < Nm z -> (vR z i).st = (gD (PX z.x) i).st /\ (vR z i).lo = (gD (PX z.x) i).lo /\ (vR z i).hi = (gD (PX z.x) i).hi
abbrev AWH (z : ScZ) : GBt := GBt.mk (yH z) (XG z) (FU z.x)
abbrev AQP (z : ScZ) : GBt := GBt.mk (tY z) (XG z) (FU z.x)
abbrev ARI (z : ScZ) : GBt := GBt.mk (Oi z) (xX z) (qY z)
abbrev APJ (z : ScZ) : GBt := GBt.mk (Lh z) (XG z) (FU z.x)
abbrev ATP (z : ScZ) : Bnd := AS (AWH z)
abbrev wB (z : ScZ) : Rt := (ATP z).lo
abbrev oS (z : ScZ) : Rt := (ATP z).hi
abbrev AQQ (z : ScZ) : Bnd := AS (AQP z)
abbrev qH (z : ScZ) : Rt := (AQQ z).lo
abbrev rD (z : ScZ) : Rt := (AQQ z).hi
abbrev AOB (z : ScZ) : Bnd := AS (ARI z)
abbrev AIO (z : ScZ) : Rt := (AOB z).lo
abbrev Ro (z : ScZ) : Int := (wB z).n
abbrev Ts (z : ScZ) : Int := (wB z).d
abbrev AAU (z : ScZ) : Rt := (AOB z).hi
abbrev ZS (z : ScZ) : Int := (oS z).n
abbrev ZW (z : ScZ) : Int := (oS z).d
abbrev V6 (z : ScZ) : Bnd := AS (APJ z)
abbrev U8 (z : ScZ) : Rt := (V6 z).lo
abbrev yX (z : ScZ) : Rt := (V6 z).hi
abbrev ADU (z : ScZ) : FR := AU (yH z)
abbrev H6 (z : ScZ) : FR := AU (Lh z)
abbrev C6 (z : ScZ) : FR := AU (Oi z)
abbrev T1 (z : ScZ) : Nat := (ADU z).r.l.length
abbrev Z1 (z : ScZ) : Prop := (AHT z /\ AHD z /\ OS z < 20 /\ True) /\ (AKL z /\ AJS z /\ Nm z < 20 /\ True) /\ (AIT z /\ AZW z /\ Lu z < 20 /\ True) /\ true = bif bif bif bif bif
 (ADU z).e == 0 then (H6 z).e == 0 else false then (C6 z).e == 0 else false then (↑(T1 z) : Int) == (↑(H6 z).r.l.length : Int) else false then (↑(T1 z) : Int) == (↑(C6
 z).r.l.length : Int) else false then true else false
theorem CKW (z : ScZ) : (CIY z) = (∀ (a : One), True -> (AHT z /\ AHD z /\ (BFH z /\ OS z < 1073741824) /\ (↑(BK z.x).length : Int) = (↑(BK z.x).length : Int) /\ AYD z = (CX z.x).bs.length /\ (∀
 (i : Nat), i < AYD z -> gD (uU z) i = gD (CX z.x).bs i) /\ (CX z.x).used = (CX z.x).used /\ (CX z.x).mix = (CX z.x).mix /\ 0 <= (CX z.x).used /\ (0 <= sV z /\ sV z < (↑(BK z.x).length : Int))
 /\ (OS z = OS z /\ (BFH z -> AXR)) /\ (1 <= 1 /\ (BAH -> AXR)) /\ (false = true -> BAH) /\ KZ z <= 9223372036854775807 /\ KZ z * 24 <= 140737488355328) /\ (((↑(KZ z) : Int) =
 (↑(KZ z) : Int) /\ BAD z = ARQ z /\ (∀ (i : Nat), i < BAD z -> gD (wD z) i = AUM z i) /\ rU z = rU z /\ rM z = rM z /\ StmB 1000 (AKX z) /\ 1 <= (↑(KZ z) : Int)
 /\ (↑(KZ z) : Int) <= 100) /\ (∃ (a : ScY), (Kd z /\ Hz z /\ FU z.x = FU z.x /\ LC z.x = LC z.x /\ JU z.x = JU z.x /\ Ib z /\ Mp z /\ Lo z /\ Le z /\ Ky z /\ La z /\ uV
 /\ ASC z /\ (Ht z.x).length = AKK z /\ (∀ (i : Nat), i < (Ht z.x).length -> gD (Ht z.x) i = gD (APQ z) i) /\ (↑(Ht z.x).length : Int) = (↑(AKK z) : Int) /\ (↑a.k : Int) = 0 /\ Ot z /\ Oh z /\
 Om z /\ Mv z /\ ASC z /\ ∀ (i : Nat), qP i z -> ((gD a.l i).st = bif xZ i z then BFL z i else (wA z).st) /\ ((gD a.l i).lo = bif xZ i z then BCO z i else (wA z).lo) /\ (gD
 a.l i).hi = bif xZ i z then BEC z i else (wA z).hi) /\ xY a z) /\ ∀ (a : ScY), xY a z -> bif decide (AJX a z) then (AST a /\ AJX a z) /\ bif bif decide (gD (Ht z.x) a.k >= 0) then
 decide (ALD z a) else false then (APO z a /\ Oe z a < EU z /\ AMU a z /\ AYF a z /\ AMU a z /\ AYF a z /\ APO z a /\ (Oe z a).succ.le (EU z)) /\ ∃ (a_2 : ScY), (Kd
 z /\ Hz z /\ FU z.x = FU z.x /\ LC z.x = LC z.x /\ JU z.x = JU z.x /\ Ib z /\ Mp z /\ Lo z /\ Le z /\ Ky z /\ La z /\ uV /\ Il z /\ AUF z /\ ANY z /\ AIS z /\
 ALL a_2 a /\ Ot z /\ Oh z /\ Om z /\ Mv z /\ Il z /\ ∀ (i : Nat), qP i z -> ((gD a_2.l i).st = bif pP i z a then (qD a).st else bif sP i a then (sL a z).st else
 (gD a.l i).st) /\ ((gD a_2.l i).lo = bif pP i z a then (qD a).lo else bif sP i a then (sL a z).lo else (gD a.l i).lo) /\ (gD a_2.l i).hi = bif pP i z a then (qD a).hi else bif sP i
 a then (sL a z).hi else (gD a.l i).hi) /\ BAB a_2 z a else ∃ (a_2 : ScY), (Kd z /\ Hz z /\ FU z.x = FU z.x /\ LC z.x = LC z.x /\ JU z.x = JU z.x /\ Ib z /\ Mp z /\ Lo z /\ Le z
 /\ Ky z /\ La z /\ uV /\ Il z /\ AUF z /\ ANY z /\ AIS z /\ ALL a_2 a /\ Ot z /\ Oh z /\ Om z /\ Mv z /\ Il z /\ ∀ (i : Nat), qP i z -> (gD a_2.l i).st =
 (gD a.l i).st /\ (gD a_2.l i).lo = (gD a.l i).lo /\ (gD a_2.l i).hi = (gD a.l i).hi) /\ BAB a_2 z a else ∃ (a_2 : One), (Kd z /\ Hz z /\ FU z.x = FU z.x /\ LC z.x = LC z.x /\ JU z.x = JU z.x /\ Ib z
 /\ Mp z /\ Lo z /\ Le z /\ Ky z /\ La z /\ (PX z.x).length = EU z /\ 0 + EU z <= EU z /\ (∀ (j : Nat), j < (PX z.x).length -> (gD (PX z.x) j).st = (pW a j).st /\ (gD (PX
 z.x) j).lo = (pW a j).lo /\ (gD (PX z.x) j).hi = (pW a j).hi) /\ Ot z /\ Oh z /\ Om z /\ Mv z) /\ True) /\ ∀ (a : One), True -> (AHT z /\ AHD z /\ pO z /\ pG z /\ FU z.x =
 FU z.x /\ (OS z < 4611686018427387904 /\ wZ z) /\ True) /\ (yE z = (DB z.x).length /\ (∀ (i : Nat), i < yE z -> (wL z i).st = (gD (DB z.x) i).st /\ (wL z i).lo = (gD (DB z.x) i).lo /\
 (wL z i).hi = (gD (DB z.x) i).hi) /\ pO z /\ pG z /\ FU z.x = FU z.x /\ (yE z < 4611686018427387904 /\ wZ z) /\ True) /\ (AIT z /\ AZW z /\ xU z = (scB z.x).length /\ (∀ (i : Nat),
 i < xU z -> gD (xX z) i = gD (scB z.x) i) /\ qY z = qY z /\ (Lu z < 4611686018427387904 /\ xU z < 4611686018427387904) /\ True) /\ (AKL z /\ AJS z /\ pO z /\ pG z /\ FU
 z.x = FU z.x /\ (Nm z < 4611686018427387904 /\ wZ z) /\ True) /\ bif bif bif bif bif bif bif bif GD (AWH z) != 0 then true else GD (AQP z) != 0 then true else GD (ARI z) != 0 then true
 else GD (APJ z) != 0 then true else !A9 (Bnd.mk (wB z) (oS z)) then true else !A9 (Bnd.mk (qH z) (rD z)) then true else !((AIO z).n == Ro z && ((AIO z).d == Ts
 z && true) && ((AAU z).n == ZS z && ((AAU z).d == ZW z && true) && true)) then true else !((U8 z).n == Ro z && ((U8 z).d == Ts z && true) && ((yX z).n ==
 ZS z && ((yX z).d == ZW z && true) && true)) then true = false else bif decide (IntKind.i64.wrap (ZS z * LC z.x) < IntKind.i64.wrap (200000 * ZW z)) then bif bif IntKind.i64.wrap
 ((qH z).n * Ts z) != IntKind.i64.wrap (IntKind.i64.wrap (LC z.x * Ro z) * (qH z).d) then true else IntKind.i64.wrap ((rD z).n * ZW z) != IntKind.i64.wrap (IntKind.i64.wrap (LC z.x
 * ZS z) * (rD z).d) then true = false else Z1 z else Z1 z) := by kernel_rfl
theorem CDH (b : Bnd) : Bnd.mk b.lo b.hi = b := rfl
theorem AOR (s : Stm) : Stm.mk s.bs s.used s.mix = s := rfl
theorem CGN {bs : List Int} (h : okBy bs) {m : Int} (hm : 1 <= m /\ m <= 100) : M0 ⟨⟨bs, 0, 0⟩, m⟩ := ⟨⟨⟨Int.le_refl _, Int.le_refl _⟩, ⟨Int.le_refl _, by show (0 : Int) < 251; omega⟩, h⟩, hm⟩
theorem CKV {bs : List Int} (h : okBy bs) : StmB 0 ⟨bs, 0, 0⟩ := ⟨⟨Int.le_refl _, Int.le_refl _⟩, ⟨Int.le_refl _, by show (0 : Int) < 251; omega⟩, h⟩
theorem PA (f : Gau -> Gau) (l : List Gau) (n : Nat) : (QE f l n).length = l.length := by simp [QE]
theorem uJ {f : Gau -> Gau} {l : List Gau} {n i : Nat} (h : i < l.length) : gD (QE f l n) i = if i < n then f (gD l i) else gD l i := pL (λ i => if i < n then f (gD l i) else gD l i) h
theorem XE (u : Int) (l : List Int) (n : Nat) : (mapI u l n).length = l.length := by simp [mapI]
theorem pQ {u : Int} {l : List Int} {n i : Nat} (h : i < l.length) : gD (mapI u l n) i = if i < n then wr (gD l i + u) else gD l i := pL (λ i => if i < n then wr (gD l i + u) else gD l i) h
theorem BHS (f : Gau -> Gau) (l : List Gau) : QE f l 0 = l := I4 (PA _ _ _) λ i hi => by rw [PA] at hi; rw [uJ hi, if_neg (by omega)]
theorem CLR (u : Int) (l : List Int) : mapI u l 0 = l := I4 (XE _ _ _) λ i hi => by rw [XE] at hi; rw [pQ hi, if_neg (by omega)]
theorem AGF {f : Gau -> Gau} {l : List Gau} {n : Nat} (h : n < l.length) : gD (QE f l n) n = gD l n := by rw [uJ h, if_neg (by omega)]
theorem CFJ {u : Int} {l : List Int} {n : Nat} (h : n < l.length) : gD (mapI u l n) n = gD l n := by rw [pQ h, if_neg (by omega)]
theorem Tw {f : Gau -> Gau} {l : List Gau} {n i : Nat} (h : i < l.length) : gD (QE f l (n + 1)) i = bif decide (i = n) then f (gD l n) else gD (QE f l n) i := by
 rw [uJ h]
 by_cases he : i = n
 ·rw [he, if_pos (by omega), decide_eq_true rfl]; rfl
 ·rw [decide_eq_false he, cond_false, uJ h]
  by_cases h2 : i < n
  ·rw [if_pos h2, if_pos (by omega)]
  ·rw [if_neg h2, if_neg (by omega)]
theorem BUZ {u : Int} {l : List Int} {n i : Nat} (h : i < l.length) : gD (mapI u l (n + 1)) i = bif decide (i = n) then wr (gD l n + u) else gD (mapI u l n) i := by
 rw [pQ h]
 by_cases he : i = n
 ·rw [he, if_pos (by omega), decide_eq_true rfl]; rfl
 ·rw [decide_eq_false he, cond_false, pQ h]
  by_cases h2 : i < n
  ·rw [if_pos h2, if_pos (by omega)]
  ·rw [if_neg h2, if_neg (by omega)]
theorem BLM {f g : Gau -> Gau} {l : List Gau} (h : ∀ y ∈ l, f y = g y) : QE f l l.length = l.map g := by
 refine I4 (by rw [PA, List.length_map]) λ i hi => ?_
 rw [PA] at hi
 rw [uJ hi, if_pos hi, h _ (BZ hi)]
 simp [gD, List.getD_eq_getElem?_getD, hi]
theorem CAL {u : Int} {l : List Int} (h : ∀ y ∈ l, wr (y + u) = y + u) : mapI u l l.length = l.map (· + u) := by
 refine I4 (by rw [XE, List.length_map]) λ i hi => ?_
 rw [XE] at hi
 rw [pQ hi, if_pos hi, h _ (BZ hi)]
 simp [gD, List.getD_eq_getElem?_getD, hi]
theorem CFD (s : Stm) : ∀ n : Nat, (mxK s n).l.length = n
 | 0 => rfl
 | n + 1 => VH _ _ _
theorem BFK (l : List Gau) (i n : Nat) : (swpL l i n).length = l.length := by simp [swpL]
theorem AVE {l : List Gau} {i n j : Nat} (h : j < l.length) : gD (swpL l i n) j = if j = n then gD l i else if j = i then gD l n else gD l j := pL (λ j => if j = n then gD l i else if j = i then gD l n else gD l j) h
theorem CDW {l : List Gau} {i n : Nat} (hi : i < l.length) (hn : n < l.length) (x : Gau) : x ∈ swpL l i n ↔ x ∈ l := by
 constructor
 ·intro h
  obtain ⟨j, hj, rfl⟩ := TD h
  rw [BFK] at hj
  rw [AVE hj]
  split
  ·exact BZ hi
  ·split
   ·exact BZ hn
   ·exact BZ hj
 ·intro h
  obtain ⟨j, hj, rfl⟩ := TD h
  have g : ∀ k, k < l.length -> gD (swpL l i n) k ∈ swpL l i n := λ k hk => BZ (by rw [BFK]; exact hk)
  by_cases h1 : j = i
  ·have := g n hn
   rw [AVE hn, if_pos rfl] at this; rw [h1]; exact this
  ·by_cases h2 : j = n
   ·have := g i hi
    rw [AVE hi] at this
    by_cases h3 : i = n
    ·omega
    ·rw [if_neg h3, if_pos rfl] at this; rw [h2]; exact this
   ·have := g j hj
    rw [AVE hj, if_neg h2, if_neg h1] at this; exact this
theorem CGB (m : List Int) (l : List Gau) (k : Nat) : (swS m l k).length = l.length := by unfold swS; split; exact BFK _ _ _; rfl
theorem uF (m : List Int) (l : List Gau) : ∀ k : Nat, (swK m l k).length = l.length
 | 0 => rfl
 | k + 1 => by show (swS m _ k).length = _; rw [CGB, uF m l k]
theorem BRT {m : List Int} {l : List Gau} : ∀ k : Nat, k <= l.length -> ∀ x, x ∈ swK m l k ↔ x ∈ l
 | 0, _, x => Iff.rfl
 | k + 1, hk, x => by
  refine Iff.trans ?_ (BRT (m := m) k (by omega) x)
  show x ∈ swS m (swK m l k) k ↔ _
  unfold swS
  split
  ·rename_i h
   exact CDW (by rw [uF]; omega) (by omega) x
  ·exact Iff.rfl
structure ScF (x : ScI) : Prop where
 thru : Thru (BK x) (CG x).b
 few : 1 <= (BK x).length /\ (BK x).length <= 9
 small : ∀ g ∈ BK x, GY g /\ g.st <= 199 /\ g.hi <= 2000
 brk : ∀ y ∈ (CG x).b, 1 <= y /\ y <= 120
 two : (CG x).b.length <= 2
 t : 0 <= FU x /\ FU x <= 249
 k : 1 <= LC x /\ LC x <= 5
 u : 0 <= JU x /\ JU x <= 499
 stm : StmB 0 (CX x)
theorem BZT (x : ScI) (hb : okBy x.bs) (hc : okBy x.cs) : ScF x /\ M0 (scM3 x) := by
 have hpre : M0 (scM3 x) := CGN hb (by omega)
 obtain ⟨hF, hlen⟩ := BUM hpre
 have hlen : (BK x).length <= 9 := hlen
 have p1 := BCK x.a (n := 250) (by omega)
 have p2 := BCK x.b (n := 5) (by omega)
 have p3 := BCK x.c (n := 500) (by omega)
 have e : wr (1 + GE x.b 5) = 1 + GE x.b 5 := EO (by omega) (by omega)
 have hk : 1 <= LC x /\ LC x <= 5 := by unfold LC; rw [e]; omega
 exact ⟨⟨hF.thru (by show (BK x).length <= 24; omega), ⟨hF.len, hlen⟩, λ g hg => ⟨hF.ok g hg, hF.small g hg⟩, hF.brk, hF.two, by unfold FU; omega, hk, by unfold JU; omega, CKV hc⟩, hpre⟩
theorem CLT {k : Int} (hk : 1 <= k /\ k <= 5) {g : Gau} (h : GY g /\ g.st <= 199 /\ g.hi <= 2000) : scW k g = Vd k g := by
 obtain ⟨⟨_, _, h3, h4, _⟩, _, h5⟩ := h
 have a1 := Int.mul_le_mul_of_nonneg_right hk.2 (show 0 <= g.lo by omega)
 have a2 := Int.mul_le_mul_of_nonneg_right hk.2 (show 0 <= g.hi by omega)
 have a3 := Int.mul_nonneg (show 0 <= k by omega) h3
 have a4 := Int.mul_nonneg (show 0 <= k by omega) (show 0 <= g.hi by omega)
 have e1 : wr (k * g.lo) = k * g.lo := EO (by omega) (by omega)
 have e2 : wr (k * g.hi) = k * g.hi := EO (by omega) (by omega)
 unfold scW Vd mnG2 minI
 rw [e1, e2]
 split
 ·rfl
 ·omega
theorem ScF.gr {x : ScI} (h : ScF x) : DB x = (BK x).map (Vd (LC x)) := BLM λ y hy => CLT h.k (h.small y hy)
theorem ScF.hi {x : ScI} (h : ScF x) : DR x = (BK x).map (Hp (JU x)) := BLM λ y hy => by
 obtain ⟨⟨a, _⟩, b, _⟩ := h.small y hy
 have := h.u
 unfold upW Hp
 rw [show wr (y.st + JU x) = y.st + JU x from EO (by omega) (by omega)]
theorem ScF.b {x : ScI} (h : ScF x) : scB x = (CG x).b.map (· + JU x) := CAL λ y hy => by
 have := h.brk y hy
 have := h.u
 exact EO (by omega) (by omega)
theorem ScF.mx {x : ScI} (h : ScF x) : (eO x).length = (BK x).length + 1 /\ (PX x).length = (BK x).length + 1 /\ ∀ y, y ∈ PX x ↔ y ∈ BK x := by
 have l0 : (eO x).length = (BK x).length + 1 := by simp [eO]
 refine ⟨l0, by unfold PX; rw [uF]; exact l0, λ y => ?_⟩
 unfold PX
 rw [BRT _ (by omega) y]
 unfold eO
 rw [List.mem_append, List.mem_singleton]
 have v := GV h.stm (by omega) (BK x).length
 have v2 := v.2 (by have := h.few; omega)
 exact ⟨λ h => h.elim id λ e => by rw [e]; exact BZ (by omega), .inl⟩
theorem BSR (d : Bool) (k : Int) (f g : Gau) : ((bif d then scW k f else g).st = bif d then f.st else g.st) /\ ((bif d then scW k f else g).lo = bif d then IntKind.i64.wrap (k * f.lo) else g.lo) /\ (bif d then scW k f else g).hi = bif d then minI 200000 (IntKind.i64.wrap (k * f.hi)) else g.hi := by
 cases d
 ·exact ⟨rfl, rfl, rfl⟩
 ·exact ⟨rfl, rfl, rfl⟩
theorem BQE (d : Bool) (k : Int) (f g : Gau) : ((bif d then upW k f else g).st = bif d then IntKind.i64.wrap (f.st + k) else g.st) /\ ((bif d then upW k f else g).lo = bif d then f.lo else g.lo) /\ (bif d then upW k f else g).hi = bif d then f.hi else g.hi := by
 cases d
 ·exact ⟨rfl, rfl, rfl⟩
 ·exact ⟨rfl, rfl, rfl⟩
theorem COK (x : ScI) (hf : ScF x) (hpre : M0 (scM3 x)) (hne : (CG x).b ≠ []) : CJB x := by
 rw [CLU]; delta BFC xB AGD AFP BDK BHO BCY BIT AGP BGN AVT AMN vH Jy ALA WZ AWN yG sD APK wE AMC xJ AKO AZT AVD TM Jp AJD APH ANK ASF Oo oZ qZ tU pZ tM xC tH tB AZU AQJ Kb HS ASS AVQ IU YI AMG UP Mb Kp Ij Ia Ke PF pE AZN APY pX xQ APC ASI ZV ANI rG yF yI oR AKQ sC AIX ALR AKJ; simp only [CC, eq_self, implies_true, forall_const, AOR, Int.ofNat_lt, show MkI.mk ⟨x.bs, 0, 0⟩ 9 = scM3 x from rfl, show Qf (scM3 x) = BK x from rfl, show Hr (scM3 x) = CG x from rfl, show GE x.a 250 = FU x from rfl, show IntKind.i64.wrap (1 + GE x.b 5) = LC x from rfl, show GE x.c 500 = JU x from rfl]
 have hlen := hf.few
 have hb : 0 < (CG x).b.length := List.length_pos_iff.2 hne
 have h2 := hf.two
 refine ⟨⟨rfl, hpre⟩, ⟨by omega, by omega⟩, ⟨⟨0, ⟨rfl, rfl, λ _ _ => rfl, rfl, rfl, λ i hi => ?_, λ i hi => ?_⟩, Nat.zero_le _⟩, λ y hy => ⟨λ hlt => ?_, λ hge => ?_⟩⟩, ⟨hb, by omega⟩, ⟨0, ⟨rfl, λ i hi => ?_⟩, Nat.zero_le _⟩, λ y hy => ⟨λ hlt => ?_, λ hge => ?_⟩⟩
 ·rw [BHS]; exact ⟨rfl, rfl, rfl⟩
 ·rw [BHS]; exact ⟨rfl, rfl, rfl⟩
 ·have h := hf.few
  have hc : (0 <= (y : Int) /\ y < (BK x).length) := ⟨by omega, hlt⟩
  refine ⟨⟨hc, hc, hc, hlt⟩, ⟨hc, hlt, hc, hlt⟩, y + 1, ⟨(CA (by omega)).symm, λ i hi => ?_, λ i hi => ?_⟩, by omega, by omega⟩
  ·rw [Tw hi, AGF hlt]; exact BSR _ _ _ _
  ·rw [Tw hi, AGF hlt]; exact BQE _ _ _ _
 ·have e : y = (BK x).length := by omega
  rw [e]
  exact ⟨default, PA _ _ _, Nat.le_refl _, λ _ _ => ⟨rfl, rfl, rfl⟩, PA _ _ _, Nat.le_refl _, λ _ _ => ⟨rfl, rfl, rfl⟩⟩
 ·rw [CLR]
 ·have hc : (0 <= (y : Int) /\ y < (CG x).b.length) := ⟨by omega, hlt⟩
  refine ⟨⟨hc, hlt, hc, hlt⟩, y + 1, ⟨(CA (by omega)).symm, λ i hi => ?_⟩, by omega, by omega⟩
  rw [BUZ hi, CFJ hlt]; rfl
 ·have e : y = (CG x).b.length := by omega
  rw [e]
  exact ⟨default, XE _ _ _, Nat.le_refl _, λ _ _ => rfl⟩
theorem COR (x : ScI) (hf : ScF x) (hpre : M0 (scM3 x)) (hne : (CG x).b = []) : CJV x := by
 rw [CMJ]; delta BDE pV AHH AGB BEJ BIP BFG BCJ BHU BFP qI ANP AUU uI Ny AXB XM ARO rH vS ATM rC AWM uE AOU ANV ARE IW Oq Me AQV Ju xE uO pU yD rE vB tZ vY AVK Hw PB AYC KK Ld AQS AYU AXY AKV SQ qQ AQE AZK qG uB AUW ARP ATH ASB AWI AWJ AIV; simp only [CC, eq_self, implies_true, forall_const, AOR, Int.ofNat_lt, show MkI.mk ⟨x.bs, 0, 0⟩ 9 = scM3 x from rfl, show Qf (scM3 x) = BK x from rfl, show Hr (scM3 x) = CG x from rfl, show GE x.a 250 = FU x from rfl, show IntKind.i64.wrap (1 + GE x.b 5) = LC x from rfl, show GE x.c 500 = JU x from rfl]
 have hlen := hf.few
 have hb : (CG x).b.length = 0 := by rw [hne]; rfl
 refine ⟨⟨rfl, hpre, hne⟩, ⟨by omega, by omega⟩, ⟨⟨0, ⟨rfl, rfl, λ _ _ => rfl, rfl, rfl, λ i hi => ?_, λ i hi => ?_⟩, Nat.zero_le _⟩, λ y hy => ⟨λ hlt => ?_, λ hge => ?_⟩⟩, ⟨default, trivial⟩, default, ?_⟩
 ·rw [BHS]; exact ⟨rfl, rfl, rfl⟩
 ·rw [BHS]; exact ⟨rfl, rfl, rfl⟩
 ·have h := hf.few
  have hc : (0 <= (y : Int) /\ y < (BK x).length) := ⟨by omega, hlt⟩
  refine ⟨⟨hc, hc, hc, hlt⟩, ⟨hc, hlt, hc, hlt⟩, y + 1, ⟨(CA (by omega)).symm, λ i hi => ?_, λ i hi => ?_⟩, by omega, by omega⟩
  ·rw [Tw hi, AGF hlt]; exact BSR _ _ _ _
  ·rw [Tw hi, AGF hlt]; exact BQE _ _ _ _
 ·have e : y = (BK x).length := by omega
  rw [e]
  exact ⟨default, PA _ _ _, Nat.le_refl _, λ _ _ => ⟨rfl, rfl, rfl⟩, PA _ _ _, Nat.le_refl _, λ _ _ => ⟨rfl, rfl, rfl⟩⟩
 ·have e : (scB x).length = 0 := by unfold scB; rw [XE]; exact hb
  exact ⟨e, e, hb, λ i hi => by omega⟩
theorem iT {a b A B : Int} (ha : 0 <= a /\ a <= A) (hb : 0 <= b /\ b <= B) : 0 <= a * b /\ a * b <= A * B := ⟨Int.mul_nonneg ha.1 hb.1, Int.mul_le_mul ha.2 hb.2 hb.1 (by omega)⟩
theorem BGG {r : Rt} (h : As r) : (0 <= r.n /\ r.n <= 400000000) /\ 0 <= r.d /\ r.d <= 2000 := by
 obtain ⟨⟨a, b⟩, c, d⟩ := h; omega
theorem COQ {a b : Bnd} {k : Int} (hk : 1 <= k /\ k <= 5) (a1 : As a.lo) (a2 : As a.hi) (b1 : As b.lo) (b2 : As b.hi) : wr (a.hi.n * k) = a.hi.n * k /\ wr (200000 * a.hi.d) = 200000 * a.hi.d /\ wr (b.lo.n * a.lo.d) = b.lo.n * a.lo.d /\ wr (wr (k * a.lo.n) * b.lo.d) = k * a.lo.n * b.lo.d /\ wr (b.hi.n * a.hi.d) = b.hi.n * a.hi.d /\ wr (wr (k * a.hi.n) * b.hi.d) = k * a.hi.n * b.hi.d := by
 obtain ⟨an, ad⟩ := BGG a1
 obtain ⟨cn, cd⟩ := BGG a2
 obtain ⟨bn, bd⟩ := BGG b1
 obtain ⟨dn, dd⟩ := BGG b2
 have hk' : 0 <= k /\ k <= 5 := by omega
 have p1 := iT cn hk'
 have p2 := iT bn ad
 have p3 := iT hk' an
 have p4 := iT p3 bd
 have p5 := iT dn cd
 have p6 := iT hk' cn
 have p7 := iT p6 dd
 have e3 : wr (k * a.lo.n) = k * a.lo.n := EO (by omega) (by omega)
 have e6 : wr (k * a.hi.n) = k * a.hi.n := EO (by omega) (by omega)
 rw [e3, e6]
 exact ⟨EO (by omega) (by omega), EO (by omega) (by omega), EO (by omega) (by omega), EO (by omega) (by omega), EO (by omega) (by omega), EO (by omega) (by omega)⟩
structure ScV (x : ScI) : Prop where
 f : GD ⟨BK x, (CG x).b, FU x⟩ = 0 /\ As (AS ⟨BK x, (CG x).b, FU x⟩).lo /\ As (AS ⟨BK x, (CG x).b, FU x⟩).hi /\ A9 (AS ⟨BK x, (CG x).b, FU x⟩) = true
 g : GD ⟨DB x, (CG x).b, FU x⟩ = 0 /\ As (AS ⟨DB x, (CG x).b, FU x⟩).lo /\ As (AS ⟨DB x, (CG x).b, FU x⟩).hi /\ A9 (AS ⟨DB x, (CG x).b, FU x⟩) = true
 h : GD ⟨DR x, scB x, IntKind.i64.wrap (FU x + JU x)⟩ = 0 /\ AS ⟨DR x, scB x, IntKind.i64.wrap (FU x + JU x)⟩ = AS ⟨BK x, (CG x).b, FU x⟩
 m : GD ⟨PX x, (CG x).b, FU x⟩ = 0 /\ AS ⟨PX x, (CG x).b, FU x⟩ = AS ⟨BK x, (CG x).b, FU x⟩
 s : (AS ⟨BK x, (CG x).b, FU x⟩).hi.n * LC x < 200000 * (AS ⟨BK x, (CG x).b, FU x⟩).hi.d -> (AS ⟨DB x, (CG x).b, FU x⟩).lo.n * (AS ⟨BK x, (CG x).b, FU x⟩).lo.d = LC x * (AS ⟨BK x, (CG x).b, FU x⟩).lo.n * (AS ⟨DB x, (CG x).b, FU x⟩).lo.d /\ (AS ⟨DB x, (CG x).b, FU x⟩).hi.n * (AS ⟨BK x, (CG x).b, FU x⟩).hi.d = LC x * (AS ⟨BK x, (CG x).b, FU x⟩).hi.n * (AS ⟨DB x, (CG x).b, FU x⟩).hi.d
 e : (AU (BK x)).e = 0 /\ (AU (PX x)).e = 0 /\ (AU (DR x)).e = 0
 l : (AU (PX x)).r.l.length = (AU (BK x)).r.l.length /\ (AU (DR x)).r.l.length = (AU (BK x)).r.l.length
 len : (DB x).length = (BK x).length /\ (DR x).length = (BK x).length /\ (PX x).length = (BK x).length + 1 /\ (scB x).length = (CG x).b.length
theorem CFT {x : ScI} (h : ScF x) : ScV x := by
 have ht : 0 <= FU x /\ FU x <= 2000 := by have := h.t; omega
 have hu := h.u
 have hc : 0 <= JU x /\ JU x <= 500 := by omega
 have hs : ∀ y ∈ BK x, y.st <= 1500 := λ y hy => by have := (h.small y hy).2.1; omega
 have hb : ∀ y ∈ (CG x).b, y <= 1500 := λ y hy => by have := h.brk y hy; omega
 have hg : ∀ y ∈ BK x, y.hi <= 2000 := λ y hy => (h.small y hy).2.2
 obtain ⟨m1, m2, m3⟩ := h.mx
 have hfew := h.few
 have hm : 1 <= (PX x).length /\ (PX x).length <= 24 := by omega
 have tT := h.t
 have eT : IntKind.i64.wrap (FU x + JU x) = FU x + JU x := EO (by omega) (by omega)
 have tu : 0 <= FU x + JU x /\ FU x + JU x <= 2000 := by omega
 have hup := h.thru.up_ hc hs hb
 have hsame := h.thru.same m3 hm
 have hfm := BYP h.thru m3 hm
 have hfu := CLZ h.thru hc hs hb
 have hex := (Ic (NZ h.thru.len h.thru.ok) h.thru.can).1
 refine ⟨h.thru.sound ht, ?_, ⟨?_, ?_⟩, ⟨(hsame.flow ht).1, BVA h.thru m3 hm ht⟩, ?_, ⟨hex, hfm.1, ?_⟩, ⟨hfm.2, ?_⟩, ?_, ?_, m2, ?_⟩
 ·rw [h.gr]; exact (h.thru.sc h.k hg).sound ht
 ·rw [h.hi, h.b, eT]; exact (hup.flow tu).1
 ·rw [h.hi, h.b, eT]; exact CDZ h.thru hc hs hb (by omega)
 ·rw [h.gr]; exact CER h.thru h.k hg ht
 ·rw [h.hi]; exact hfu.1
 ·rw [h.hi]; exact hfu.2
 ·rw [h.gr, List.length_map]
 ·rw [h.hi, List.length_map]
 ·rw [h.b, List.length_map]
theorem COP {m : List Int} {l : List Gau} {k i : Nat} (h : 0 <= gD m k /\ gD m k < l.length) (hi : i < l.length) : gD (swS m l k) i = bif decide (i = (gD m k).toNat) then gD l k else bif decide (i = k) then gD l (gD m k).toNat else gD l i := by
 unfold swS
 rw [if_pos h, AVE hi]
 by_cases h1 : i = (gD m k).toNat
 ·rw [if_pos h1, decide_eq_true h1]; rfl
 ·rw [if_neg h1, decide_eq_false h1]
  by_cases h2 : i = k
  ·rw [if_pos h2, decide_eq_true h2]; rfl
  ·rw [if_neg h2, decide_eq_false h2]; rfl
theorem CLN (d e : Bool) (a b c : Gau) : ((bif d then a else bif e then b else c).st = bif d then a.st else bif e then b.st else c.st) /\ ((bif d then a else bif e then b else c).lo = bif d then a.lo else bif e then b.lo else c.lo) /\ (bif d then a else bif e then b else c).hi = bif d then a.hi else bif e then b.hi else c.hi := by
 cases d
 ·cases e <;> exact ⟨rfl, rfl, rfl⟩
 ·exact ⟨rfl, rfl, rfl⟩
theorem CMB {x : ScI} {i : Nat} (hi : i < (BK x).length + 1) : gD (eO x) i = bif decide (i < (BK x).length) then gD (BK x) i else gD (BK x) (AN (CX x) (BK x).length).toNat := by
 unfold eO
 generalize gD (BK x) (AN (CX x) (BK x).length).toNat = w
 generalize BK x = l at *
 rw [HP]
 by_cases h : i < l.length
 ·rw [if_pos h, decide_eq_true h]; rfl
 ·rw [if_neg h, if_pos (by omega), decide_eq_false h]; rfl
theorem CNH (d : Bool) (a b : Gau) : ((bif d then a else b).st = bif d then a.st else b.st) /\ ((bif d then a else b).lo = bif d then a.lo else b.lo) /\ (bif d then a else b).hi = bif d then a.hi else b.hi := by
 cases d <;> exact ⟨rfl, rfl, rfl⟩
set_option maxHeartbeats 2000000 in
theorem CIQ (z : ScZ) (hf : ScF z.x) : CIY z := by
 obtain ⟨x, e⟩ := z
 have hf : ScF x := hf
 rw [CKW]; delta yH OS AHT BEH AHV BFL BCO BEC AHD BFH uU AYD ASH sV AXR BAH KZ sQ ANR ARQ AUM wD BAD rU rM AKX Kd Hz Ib Mp Lo Le Ky La uV EU ASC APQ AKK Ot Oh Om Mv qP xZ wA xY AJX AST ALD APO Oe AMU tE AYF Il AUF ANY AIS ALL pP qD sP sL ARS BAB pW XG vP pO pG wZ tY yE wL Oi Lu AIT xV AZW xX xU qY Lh Nm AKL vR AJS AWH AQP ARI APJ ATP wB oS AQQ qH rD AOB AIO Ro Ts AAU ZS ZW V6 U8 yX ADU H6 C6 T1 Z1; simp only [CC, eq_self, implies_true, forall_const, AOR, Int.ofNat_lt, show BF (CX x) (BK x).length = scS1 x from rfl, CDH]
 have hv := CFT hf
 have hlen := hf.few
 have hst := hf.stm
 have hbl := hf.two
 have v := GV hst (by omega) (BK x).length
 have v2 := v.2 (by omega)
 have hS1 : StmB 1000 (scS1 x) := (hst.next (by omega) _).mono (by omega)
 obtain ⟨l1, l2, l3, l4⟩ := hv.len
 obtain ⟨m1, m2, m3⟩ := hf.mx
 have lX : (Ht x).length = (BK x).length + 1 := CFD _ _
 obtain ⟨f1, f2, f3, f4⟩ := hv.f
 obtain ⟨g1, g2, g3, g4⟩ := hv.g
 obtain ⟨w1, w2, w3, w4, w5, w6⟩ := COQ hf.k f2 f3 g2 g3
 rw [f1, g1, hv.h.1, hv.h.2, hv.m.1, hv.m.2, f4, g4, hv.e.1, hv.e.2.1, hv.e.2.2, hv.l.1, hv.l.2]
 refine ⟨⟨⟨by omega, by omega⟩, hst.used.1, ⟨v.1, v2⟩, by omega, λ h => (by cases h), by omega, by omega⟩, ⟨⟨hS1, by omega, by omega⟩, ⟨⟨0, eO x⟩, ⟨rfl, λ _ _ => rfl, rfl, rfl, λ i hi => ?_⟩, Nat.zero_le _, rfl⟩, λ y ⟨y1, y2⟩ => ⟨λ hlt => ⟨⟨by omega, hlt⟩, λ hin => ?_, λ hin => ?_⟩, λ hge => ?_⟩⟩, ⟨by omega, by omega⟩, ⟨by omega, by omega⟩, ⟨by omega, by omega⟩, ⟨by omega, by omega⟩, λ hc => ?_, λ _ => ⟨λ hc => ⟨λ hd => ?_, λ _ => ⟨by omega, by omega, by omega, ?_⟩⟩, λ hc => ⟨by omega, by omega, by omega, ?_⟩⟩⟩
 ·show (gD (eO x) i).st = _ /\ (gD (eO x) i).lo = _ /\ (gD (eO x) i).hi = _
  rw [CMB hi]; exact CNH _ _ _
 ·have hp : 0 <= gD (Ht x) y.k /\ gD (Ht x) y.k < (((BK x).length + 1 : Nat) : Int) := by simpa using hin
  have ly : y.l.length = (BK x).length + 1 := by rw [y2, uF]; exact m1
  have hk : y.k < (BK x).length + 1 := by omega
  refine ⟨⟨hp, by omega, ⟨by omega, hk⟩, hk, ⟨by omega, hk⟩, hk, hp, by omega⟩, ⟨y.k + 1, swS (Ht x) y.l y.k⟩, ⟨(CA (by omega)).symm, λ i hi => ?_⟩, ⟨by show y.k + 1 <= _; omega, ?_⟩, by show (BK x).length + 1 - (y.k + 1) < _; omega⟩
  ·show (gD (swS (Ht x) y.l y.k) i).st = _ /\ (gD (swS (Ht x) y.l y.k) i).lo = _ /\ (gD (swS (Ht x) y.l y.k) i).hi = _
   rw [COP (by rw [ly]; exact hp) (by rw [ly]; exact hi)]
   exact CLN _ _ _ _ _
  ·show swS (Ht x) y.l y.k = swS (Ht x) (swK (Ht x) (eO x) y.k) y.k
   rw [<- y2]
 ·have hp : ¬(0 <= gD (Ht x) y.k /\ gD (Ht x) y.k < (((BK x).length + 1 : Nat) : Int)) := by
   rintro ⟨a1, a2⟩
   rw [decide_eq_true (show gD (Ht x) y.k >= 0 from a1), decide_eq_true a2] at hin
   cases hin
  have ly : y.l.length = (BK x).length + 1 := by rw [y2, uF]; exact m1
  refine ⟨⟨y.k + 1, y.l⟩, ⟨(CA (by omega)).symm, λ _ _ => ⟨rfl, rfl, rfl⟩⟩, ⟨by show y.k + 1 <= _; omega, ?_⟩, by show (BK x).length + 1 - (y.k + 1) < _; omega⟩
  show y.l = swS (Ht x) (swK (Ht x) (eO x) y.k) y.k
  rw [<- y2]
  unfold swS
  rw [if_neg (by rw [ly]; exact hp)]
 ·have e : PX x = y.l := by rw [y2]; unfold PX; rw [show y.k = (BK x).length + 1 by omega]
  refine ⟨default, l3, by omega, λ j hj => ?_⟩
  rw [e]; exact ⟨rfl, rfl, rfl⟩
 ·simp at hc
 ·have hc : wr ((AS ⟨BK x, (CG x).b, FU x⟩).hi.n * LC x) < wr (200000 * (AS ⟨BK x, (CG x).b, FU x⟩).hi.d) := hc
  rw [w1, w2] at hc
  obtain ⟨s1, s2⟩ := hv.s hc
  exfalso
  have e1 := w3.trans (s1.trans w4.symm)
  have e2 := w5.trans (s2.trans w6.symm)
  have e1 : IntKind.i64.wrap ((AS ⟨DB x, (CG x).b, FU x⟩).lo.n * (AS ⟨BK x, (CG x).b, FU x⟩).lo.d) = IntKind.i64.wrap (IntKind.i64.wrap (LC x * (AS ⟨BK x, (CG x).b, FU x⟩).lo.n) * (AS ⟨DB x, (CG x).b, FU x⟩).lo.d) := e1
  have e2 : IntKind.i64.wrap ((AS ⟨DB x, (CG x).b, FU x⟩).hi.n * (AS ⟨BK x, (CG x).b, FU x⟩).hi.d) = IntKind.i64.wrap (IntKind.i64.wrap (LC x * (AS ⟨BK x, (CG x).b, FU x⟩).hi.n) * (AS ⟨DB x, (CG x).b, FU x⟩).hi.d) := e2
  rw [e1, e2] at hd
  simp at hd
 ·simp
 ·simp
theorem CBO : AG Try.prog BHG (C_MadeE.spec dMkI) := okT C_MadeE (λ (a : MkI) h => by
 obtain ⟨h1, h2⟩ : M0 a /\ (Hr a).b = [] := h
 have e : C_MadeE.val a = C_Made.val a := by
  show AVal.tup [.d (BO (Qf a)), .d (.agg [BL nilI, kI (Hr a).l])] = .tup [.d (BO (Qf a)), .d (.agg [BL (Hr a).b, kI (Hr a).l])]
  rw [h2]; rfl
 rw [e]
 exact RD (A := BOK a) (L := C_Made.L a) (keep := C_Made.keep a) (ren := []) (fz := [303]) BPS (by kernel_rfl) (AB Ra (AB BAW AE)) (BZV a h1)) _
theorem COX (x : ScI) (hb : okBy x.bs) (hc : okBy x.cs) : FnT Try.prog BCC (xSc x) (AC []) (.bool true) [] := by
 obtain ⟨hf, hpre⟩ := BZT x hb hc
 by_cases hne : (CG x).b = []
 ·exact fntS (A := A_Sc x true) (S := S_Sc) (ren := []) (fz := []) ANA (by kernel_rfl) (AB CDF (AB CBO (AB BQW (AB CCE (AB CKB (AB Ra (AB BJR (AB BDM (AB BLN (AB BHF (AB BKR AE))))))))))) (λ k hk => by
   have : k = 15 := Nat.eq_of_beq_eq_true hk
   subst this; exact CIQ ⟨x, true⟩ hf) (COR x hf hpre hne)
 ·exact fntS (A := A_Sc x false) (S := S_Sc) (ren := []) (fz := []) ANA (by kernel_rfl) (AB CDF (AB CFY (AB BQW (AB CCE (AB CLY (AB Ra (AB BJR (AB BDM (AB BLN (AB BHF (AB BKR AE))))))))))) (λ k hk => by
   have : k = 15 := Nat.eq_of_beq_eq_true hk
   subst this; exact CIQ ⟨x, false⟩ hf) (COK x hf hpre hne)
end Go.Bal
