/- Package chart: charts that are made of numbers, with stops. -/
import Derived.Test.YtdbjalgfomknhaaChW
import Derived.Test.YtdbjalgfomknhaaChFe8
set_option linter.unusedVariables false
set_option linter.unusedSimpArgs false
namespace Go.Bal
open Go Go.Sym Go.Proofs
def BQE (a : MkI) : Prop := DN Try.prog (BHE true a) AYC (AP AYC) ((lE true).xs a) (AH ((lE true).L a)) ((lE true).val a) ((lE true).keep a) [] [305]
abbrev AFI : Prop := (1 : Int) = Int.ofNat (1 : Nat)
abbrev APW : Prop := (12 : Int) = Int.ofNat (12 : Nat)
abbrev AFH (a : MkI) : List Int := HX a.s.bs.length λ (i : Nat) => gD a.s.bs i
abbrev ATO (a : MkI) : Nat := (AFH a).length
abbrev APQ : Prop := (400 : Int) = Int.ofNat (400 : Nat)
abbrev AQE (a : MkI) : Stm := Stm.mk (AFH a) a.s.used a.s.mix
abbrev AFD (a : MkI) : Stm := Ce (AQE a) (1 : Int) (12 : Int)
abbrev ATR (a : MkI) : List Int := (AFD a).bs
abbrev ARB (a : MkI) : Nat := (ATR a).length
abbrev AUI (a : MkI) (i : Nat) : Int := gD (ATR a) i
abbrev rH (a : MkI) : List Int := HX (ARB a) λ (i : Nat) => AUI a i
abbrev AHK (a : MkI) : Nat := (rH a).length
abbrev bF (a : MkI) : Int := (AFD a).used
abbrev rV (a : MkI) : Int := (AFD a).mix
abbrev AIR (a : MkI) : Stm := Stm.mk (rH a) (bF a) (rV a)
abbrev oJ (a : MkI) : Stm := Ce (AIR a) (-50 : Int) (400 : Int)
abbrev AMT (a : MkI) : List Int := (oJ a).bs
abbrev ALA (a : MkI) : Nat := (AMT a).length
abbrev AKK (a : MkI) (i : Nat) : Int := gD (AMT a) i
abbrev uP (a : MkI) : List Int := HX (ALA a) λ (i : Nat) => AKK a i
abbrev AMX (a : MkI) : Nat := (uP a).length
abbrev aT (a : MkI) : Int := (oJ a).used
abbrev sR (a : MkI) : Int := (oJ a).mix
abbrev Ov : Prop := (9 : Int) = Int.ofNat (9 : Nat)
abbrev AJH (a : MkI) : Stm := Stm.mk (uP a) (aT a) (sR a)
abbrev uK (a : MkI) : Stm := AS (AJH a) (12 : Int)
abbrev AJR (a : MkI) : List Int := (uK a).bs
abbrev ALJ (a : MkI) : Nat := (AJR a).length
abbrev AMC (a : MkI) (i : Nat) : Int := gD (AJR a) i
abbrev pV (a : MkI) : List Int := HX (ALJ a) λ (i : Nat) => AMC a i
abbrev AKJ (a : MkI) : Nat := (pV a).length
abbrev bX (a : MkI) : Int := (uK a).used
abbrev tI (a : MkI) : Int := (uK a).mix
abbrev AIB (a : MkI) : Stm := Stm.mk (pV a) (bX a) (tI a)
abbrev qE (a : MkI) : Stm := AS (AIB a) (9 : Int)
abbrev AIN (a : MkI) : List Int := (qE a).bs
abbrev AF : Prop := Int.ofNat (0 : Nat) = Int.ofNat (0 : Nat)
abbrev AB : Prop := (0 : Nat) = (0 : Nat)
abbrev AD : Prop := ∀ (i : Nat), i < (0 : Nat) -> false = false
abbrev uE : Prop := AB /\ AD /\ AB /\ AD
abbrev sT (a : MkI) : List Int := HX (iW a.s).bs.length λ (i : Nat) => gD (iW a.s).bs i
abbrev AJJ (a : MkI) : Nat := (sT a).length
abbrev AIQ (a : MkI) : Stm := Stm.mk (sT a) (iW a.s).used (iW a.s).mix
abbrev oF (a : MkI) : Stm := AS (AIQ a) (6 : Int)
abbrev AJM (a : MkI) : List Int := (oF a).bs
abbrev sC (a : MkI) : List Int := HX (lV a.s).bs.length λ (i : Nat) => gD (lV a.s).bs i
abbrev AHZ (a : MkI) : Nat := (sC a).length
abbrev AJX (a : MkI) : Stm := Stm.mk (sC a) (lV a.s).used (lV a.s).mix
abbrev uJ (a : MkI) : Stm := AS (AJX a) (300 : Int)
abbrev AJV (a : MkI) : List Int := (uJ a).bs
abbrev oG (a : MkI) : Prop := AF /\ AF /\ AF /\ AF /\ AF /\ AB /\ AD /\ AB /\ AD /\ AB /\ AD /\ AB /\ AD /\ AB /\
 AD /\ KC a.s = KC a.s /\ NN a.s = NN a.s /\ OA a.s = OA a.s /\ MA a.s = MA a.s /\ LA a.s = LA a.s /\ AB /\ AD /\ AB /\ AD /\ AB /\ AD /\ uE
abbrev tS (a : MkI) : List Int := HX (kA a.s).bs.length λ (i : Nat) => gD (kA a.s).bs i
abbrev AKX (a : MkI) : Nat := (tS a).length
abbrev AHT (a : MkI) : Stm := Stm.mk (tS a) (kA a.s).used (kA a.s).mix
abbrev qB (a : MkI) : Stm := Ce (AHT a) (1 : Int) a.m
abbrev AJB (a : MkI) : List Int := (qB a).bs
abbrev Ih (i : Nat) (a : KS) : Prop := i < a.x.s.bs.length
abbrev AMQ (a : KS) (a1 : MkI) : Prop := (↑a.k : Int) <= a1.m
abbrev pL (a : MkI) (a1 : KS) : Int := (7 : Int) * (a.m - (↑a1.k : Int))
abbrev sI (a : KS) (a1 : MkI) : Prop := (↑a.x.ms.length : Int) + (↑a.k : Int) <= a1.m
abbrev rQ (a : KS) : Prop := a.x.t.length = a.x.ms.length
abbrev uH (a : KS) : Prop := a.x.st.length = a.x.ms.length
abbrev aR (a : KS) : Nat := a.x.z.length + (1 : Nat)
abbrev ALP (a : KS) : Prop := aR a <= a.x.ms.length
abbrev rP (a : MkI) (a1 : KS) : Prop := Ve a a1.k a1.x = mS a /\ AMQ a1 a /\ StmB ((7 : Int) + pL a a1) a1.x.s /\ sI a1 a /\ rQ a1 /\ uH a1 /\ (a1.x.z = [] ∨ ALP a1)
abbrev ALM (a : KS) : Prop := (1 : Nat) <= a.k
abbrev AMI (a : KS) : Prop := a.x.ms = [] /\ a.x.z = []
abbrev AHS (a : MkI) (a1 : KS) : Prop := rP a a1 /\ ALM a1 /\ AMI a1
abbrev sV (a : KS) : Bool := decide ((↑a.k : Int) > (0 : Int))
abbrev WD (a : KS) (a1 : KS) : Prop := (↑a.k : Int) = (↑a1.k : Int)
abbrev pQ (a : KS) (a1 : KS) : Prop := a.x.s.bs.length = a1.x.s.bs.length
abbrev qQ (a : KS) (a1 : KS) : Prop := ∀ (i : Nat), Ih i a -> gD a.x.s.bs i = gD a1.x.s.bs i
abbrev rC (a : KS) (a1 : KS) : Prop := a.x.s.used = a1.x.s.used
abbrev tY (a : KS) (a1 : KS) : Prop := a.x.s.mix = a1.x.s.mix
abbrev AMD (a : KS) : Nat := a.k - (1 : Nat)
abbrev AMN (a : KS) (a1 : MkI) : Prop := ALM a /\ AMQ a a1
abbrev Xv (a : MkI) (a1 : KS) : Prop := Ve a (AMD a1) (Wr a a1.x) = mS a /\ AMN a1 a /\ StmB ((11 : Int) + pL a a1) a1.x.s /\ sI a1 a /\ rQ a1 /\ uH a1 /\ a1.x.z.length
 <= a1.x.ms.length
abbrev AHP (a : MkI) (a1 : KS) : Prop := Xv a a1 /\ (100 : Nat) = (100 : Nat) /\ AMI a1
abbrev sF (a : KS) : List Int := HX a.x.s.bs.length λ (i : Nat) => gD a.x.s.bs i
abbrev ALF (a : KS) : Nat := (sF a).length
abbrev qG (a : KS) : Prop := ALF a = a.x.s.bs.length /\ (∀ (i : Nat), i < ALF a -> gD (sF a) i = gD a.x.s.bs i) /\ a.x.s.used = a.x.s.used /\ a.x.s.mix = a.x.s.mix /\ (a.x.s.used - (0 :
 Int)).NonNeg
abbrev aX (a : KS) : Prop := (60 : Int) = Int.ofNat (60 : Nat) /\ qG a
abbrev sL : Prop := (0 : Nat) < (0 : Nat)
abbrev uG : Prop := (1 : Nat) <= (1 : Nat)
abbrev Nj : Prop := (0 : Nat) < (1 : Nat)
abbrev AIG : Prop := (2 : Nat) = (2 : Nat)
abbrev AIX : Prop := uG /\ (Nj -> AIG)
abbrev oX : Prop := true = true -> Nj
abbrev sZ : Prop := (1 : Nat) <= (9223372036854775807 : Nat)
abbrev Yx : Prop := (1 : Nat) = (1 : Nat)
abbrev aC : Prop := uG /\ (Nj -> Yx)
abbrev qV : Prop := (True /\ (sL -> (0 : Nat) = (1 : Nat))) /\ aC /\ oX /\ sZ /\ (8 : Nat) <= (140737488355328 : Nat)
abbrev Hm (a : KS) : Stm := Stm.mk (sF a) a.x.s.used a.x.s.mix
abbrev tG (a : KS) : Int := AV (Hm a) (60 : Int)
abbrev AKR (a : MkI) (a1 : KS) : Int := IntKind.i64.wrap (OA a.s + IntKind.i64.wrap (MA a.s * tG a1))
abbrev Yn (a : MkI) (a1 : KS) : Int := IntKind.i64.wrap (AKR a a1 - LA a.s)
abbrev AIW (a : MkI) (a1 : KS) : Prop := Yn a a1 = Yn a a1
abbrev Yt (a : MkI) (a1 : KS) : Int := IntKind.i64.wrap (AKR a a1 + LA a.s)
abbrev AJU (a : MkI) (a1 : KS) : Prop := Yt a a1 = Yt a a1
abbrev tN (a : KS) : Stm := AS (Hm a) (60 : Int)
abbrev wP (a : KS) : List Int := (tN a).bs
abbrev xJ (a : KS) : Nat := (wP a).length
abbrev E5 (a : KS) (i : Nat) : Int := gD (wP a) i
abbrev eU (a : KS) : List Int := HX (xJ a) λ (i : Nat) => E5 a i
abbrev AAP (a : KS) : Nat := (eU a).length
abbrev ABH (a : KS) : Prop := AAP a = xJ a
abbrev AAO (a : KS) : Prop := ∀ (i : Nat), i < AAP a -> gD (eU a) i = E5 a i
abbrev St (a : KS) : Int := (tN a).used
abbrev W3 (a : KS) : Prop := St a = St a
abbrev dO (a : KS) : Int := (tN a).mix
abbrev vD (a : KS) : Prop := dO a = dO a
abbrev zK (a : KS) : Prop := (0 : Int) <= St a
abbrev fW (a : KS) (a1 : KS) : Prop := (↑a.k : Int) = IntKind.i64.wrap ((↑a1.k : Int) - (1 : Int))
abbrev V8 (a : KS) : Stm := Stm.mk (eU a) (St a) (dO a)
abbrev gS (a : KS) (a1 : MkI) : Stm := Ce (V8 a) (Yn a1 a) (Yt a1 a)
abbrev K7 (a : KS) (a1 : MkI) : List Int := (gS a a1).bs
abbrev gG (a : KS) (a1 : KS) (a2 : MkI) : Prop := a.x.s.bs.length = (K7 a1 a2).length
abbrev fR (a : KS) (a1 : KS) (a2 : MkI) : Prop := ∀ (i : Nat), Ih i a -> gD a.x.s.bs i = gD (K7 a1 a2) i
abbrev dR (a : KS) (a1 : KS) (a2 : MkI) : Prop := a.x.s.used = (gS a1 a2).used
abbrev dA (a : KS) (a1 : KS) (a2 : MkI) : Prop := a.x.s.mix = (gS a1 a2).mix
abbrev vZ (a : KS) : Prop := a.x.ms.length = (1 : Nat)
abbrev wD (a : KS) : Prop := a.x.t.length = (1 : Nat)
abbrev E4 (a : KS) : Prop := a.x.st.length = (1 : Nat)
abbrev S2 (a : KS) (a1 : MkI) : Int := Lf (V8 a) (Yn a1 a) (Yt a1 a)
abbrev N5 (a : KS) : Prop := (1 : Nat) <= a.x.ms.length
abbrev yB (a : KS) : Prop := N5 a /\ a.x.z = []
abbrev fN (a : MkI) (a1 : KS) : Prop := rP a a1 /\ yB a1
abbrev YZ (a : KS) : Nat := a.k + (20 : Nat)
abbrev iG (a : MkI) (a1 : KS) : Prop := (mS a).s.bs.length = a1.x.s.bs.length
abbrev iB (a : MkI) (a1 : KS) : Prop := ∀ (i : Nat), i < (mS a).s.bs.length -> gD (mS a).s.bs i = gD a1.x.s.bs i
abbrev cQ (a : MkI) (a1 : KS) : Prop := (mS a).s.used = a1.x.s.used
abbrev dV (a : MkI) (a1 : KS) : Prop := (mS a).s.mix = a1.x.s.mix
abbrev M2 (a : MkI) : Prop := (mS a).ms.length = (0 : Nat)
abbrev vW (a : MkI) : Prop := (mS a).t.length = (0 : Nat)
abbrev wL (a : MkI) : Prop := (mS a).st.length = (0 : Nat)
abbrev P9 (a : MkI) : Prop := (mS a).z.length = (0 : Nat)
abbrev H8 (a : MkI) : Prop := P9 a /\ P9 a
abbrev PQ (a : MkI) : Prop := Ve a (0 : Nat) (mS a) = mS a /\ (↑(0 : Nat) : Int) <= a.m /\ StmB ((7 : Int) + (7 : Int) * (a.m - (↑(0 : Nat) : Int))) (mS a).s /\ (↑(mS a).ms.length : Int) + (↑(0 : Nat) : Int) <= a.m
 /\ (mS a).t.length = (mS a).ms.length /\ (mS a).st.length = (mS a).ms.length /\ ((mS a).z = [] ∨ (mS a).z.length + (1 : Nat) <= (mS a).ms.length)
abbrev O9 (a : KS) : Bool := decide ((↑a.x.ms.length : Int) > (0 : Int))
abbrev F2 (a : KS) : Prop := AFI /\ (30 : Int) = Int.ofNat (30 : Nat) /\ qG a
abbrev fM (a : KS) : Int := Lf (Hm a) (1 : Int) (30 : Int)
abbrev Sk (a : MkI) (a1 : KS) : Int := IntKind.i64.wrap (KC a.s * fM a1)
abbrev Ra (a : MkI) (a1 : KS) : Int := IntKind.i64.wrap (NN a.s * fM a1)
abbrev eE (a : KS) : Stm := Ce (Hm a) (1 : Int) (30 : Int)
abbrev ABB (a : KS) : List Int := (eE a).bs
abbrev ABA (a : KS) : Nat := (ABB a).length
abbrev wT (a : KS) (i : Nat) : Int := gD (ABB a) i
abbrev eI (a : KS) : List Int := HX (ABA a) λ (i : Nat) => wT a i
abbrev xE (a : KS) : Nat := (eI a).length
abbrev Si (a : KS) : Int := (eE a).used
abbrev dH (a : KS) : Int := (eE a).mix
abbrev ACI (a : MkI) (a1 : KS) : Prop := Sk a a1 = Sk a a1 /\ Ra a a1 = Ra a a1 /\ xE a1 = ABA a1 /\ (∀ (i : Nat), i < xE a1 -> gD (eI a1) i =
 wT a1 i) /\ Si a1 = Si a1 /\ dH a1 = dH a1 /\ (Si a1 - (0 : Int)).NonNeg
abbrev wS (a : KS) (a1 : KS) : Prop := a.x.pl = IntKind.i64.wrap (a1.x.pl + fM a1)
abbrev ABS (a : KS) : Stm := Stm.mk (eI a) (Si a) (dH a)
abbrev C5 (a : KS) (a1 : KS) (a2 : MkI) : Prop := a.x.tm = IntKind.i64.wrap (a1.x.tm + Lf (ABS a1) (Sk a2 a1) (Ra a2 a1))
abbrev eC (a : KS) (a1 : MkI) : Stm := Ce (ABS a) (Sk a1 a) (Ra a1 a)
abbrev M9 (a : KS) (a1 : MkI) : List Int := (eC a a1).bs
abbrev X9 (a : KS) (a1 : KS) (a2 : MkI) : Prop := a.x.s.bs.length = (M9 a1 a2).length
abbrev P2 (a : KS) (a1 : KS) (a2 : MkI) : Prop := ∀ (i : Nat), Ih i a -> gD a.x.s.bs i = gD (M9 a1 a2) i
abbrev ADP (a : KS) (a1 : KS) (a2 : MkI) : Prop := a.x.s.used = (eC a1 a2).used
abbrev H9 (a : KS) (a1 : KS) (a2 : MkI) : Prop := a.x.s.mix = (eC a1 a2).mix
abbrev VA (a : KS) (a1 : KS) : Prop := a.x.ms.length = a1.x.ms.length
abbrev VP (a : KS) (a1 : KS) : Prop := a.x.t.length = a1.x.t.length
abbrev VL (a : KS) (a1 : KS) : Prop := a.x.st.length = a1.x.st.length
abbrev Qg (a : KS) (a1 : KS) : Prop := ∀ (i : Nat), i < a.x.ms.length -> (gD a.x.ms i).pl = (gD a1.x.ms i).pl /\ (gD a.x.ms i).ht = (gD a1.x.ms i).ht
abbrev Qx (a : KS) (a1 : KS) : Prop := ∀ (i : Nat), i < a.x.t.length -> gD a.x.t i = gD a1.x.t i
abbrev Rg (a : KS) (a1 : KS) : Prop := ∀ (i : Nat), i < a.x.st.length -> gD a.x.st i = gD a1.x.st i
abbrev gT (a : MkI) (a1 : KS) (a2 : KS) : Prop := AF /\ AF /\ AF /\ AF /\ AF /\ AB /\ AD /\ AB /\ AD /\ AB /\ AD /\ AB /\
 AD /\ AB /\ AD /\ KC a.s = KC a.s /\ NN a.s = NN a.s /\ OA a.s = OA a.s /\ MA a.s = MA a.s /\ LA a.s = LA a.s /\ AB /\ VA a1 a2 /\ AB /\ AD /\ AB /\
 VP a1 a2 /\ AB /\ VL a1 a2 /\ AB /\ AD /\ VA a1 a2 /\ Qg a1 a2 /\ VP a1 a2 /\ Qx a1 a2 /\ VL a1 a2 /\ Rg a1 a2
abbrev G2 (a : MkI) (a1 : KS) : Prop := Ve a (AMD a1) (Wr a (cG a a1.x)) = mS a /\ AMN a1 a /\ StmB ((9 : Int) + pL a a1) a1.x.s /\ sI a1 a /\ rQ a1 /\ uH a1 /\
 ALP a1
abbrev Z1 (a : KS) (a1 : KS) : Prop := YZ a <= YZ a1 /\ yB a
abbrev M3 (a : MkI) (a1 : KS) (a2 : KS) : Prop := G2 a a1 /\ Z1 a1 a2
abbrev ABN (a : KS) : Prop := (5 : Int) = Int.ofNat (5 : Nat) /\ qG a
abbrev ACB (a : KS) : Bool := bif true then AV (Hm a) (5 : Int) == (0 : Int) else false
abbrev iT (a : KS) : Stm := AS (Hm a) (5 : Int)
abbrev E1 (a : KS) : List Int := (iT a).bs
abbrev iU (a : KS) : Nat := (E1 a).length
abbrev dQ (a : KS) (i : Nat) : Int := gD (E1 a) i
abbrev iI (a : KS) : List Int := HX (iU a) λ (i : Nat) => dQ a i
abbrev V0 (a : KS) : Nat := (iI a).length
abbrev Jf (a : KS) : Int := (iT a).used
abbrev Rz (a : KS) : Int := (iT a).mix
abbrev I5 (a : KS) : Prop := APQ /\ V0 a = iU a /\ (∀ (i : Nat), i < V0 a -> gD (iI a) i = dQ a i) /\ Jf a = Jf a /\ Rz a = Rz a
 /\ (Jf a - (0 : Int)).NonNeg
abbrev AAH (a : KS) : Stm := Stm.mk (iI a) (Jf a) (Rz a)
abbrev ABM (a : KS) (a1 : KS) : Prop := a.x.tm = IntKind.i64.wrap (a1.x.tm + AV (AAH a1) (400 : Int))
abbrev gK (a : KS) : Stm := AS (AAH a) (400 : Int)
abbrev AAK (a : KS) : List Int := (gK a).bs
abbrev wA (a : KS) (a1 : KS) : Prop := a.x.s.bs.length = (AAK a1).length
abbrev AAS (a : KS) (a1 : KS) : Prop := ∀ (i : Nat), Ih i a -> gD a.x.s.bs i = gD (AAK a1) i
abbrev yW (a : KS) (a1 : KS) : Prop := a.x.s.used = (gK a1).used
abbrev vL (a : KS) (a1 : KS) : Prop := a.x.s.mix = (gK a1).mix
abbrev Z0 (a : KS) : Prop := a.x.z.length = (1 : Nat)
abbrev xF (a : KS) : Int := IntKind.i64.wrap ((↑a.x.ms.length : Int) - (1 : Int))
abbrev fT (a : KS) : Prop := N5 a /\ (1 : Nat) <= a.x.z.length
abbrev Q8 (a : MkI) (a1 : KS) (a2 : KS) : Prop := Xv a a1 /\ a1.k <= YZ a2 /\ fT a1
abbrev zX (a : KS) (a1 : KS) : Prop := a.x.s.bs.length = iU a1
abbrev L9 (a : KS) (a1 : KS) : Prop := ∀ (i : Nat), Ih i a -> gD a.x.s.bs i = dQ a1 i
abbrev yM (a : KS) (a1 : KS) : Prop := a.x.s.used = Jf a1
abbrev vF (a : KS) (a1 : KS) : Prop := a.x.s.mix = Rz a1
abbrev cL (a : MkI) (a1 : KS) (a2 : KS) : Prop := Xv a a1 /\ Z1 a1 a2
abbrev Je : Prop := false = true -> Nj
abbrev iC (a : KS) : Nat := a.x.ms.length + (1 : Nat)
abbrev iE (a : KS) : Nat := a.x.t.length + (1 : Nat)
abbrev dI (a : KS) : Nat := a.x.st.length + (1 : Nat)
abbrev dC (a : KS) (a1 : MkI) : Prop := ((a.x.ms.length = a.x.ms.length /\ ((0 : Nat) < a.x.ms.length -> AIG)) /\ AIX /\ Je /\ iC a <= (9223372036854775807 : Nat) /\ iC a * (16
 : Nat) <= (140737488355328 : Nat)) /\ ((a.x.t.length = a.x.t.length /\ ((0 : Nat) < a.x.t.length -> Yx)) /\ aC /\ Je /\ iE a <= (9223372036854775807 : Nat) /\ iE a * (8 : Nat) <=
 (140737488355328 : Nat)) /\ AIW a1 a /\ AJU a1 a /\ ABH a /\ AAO a /\ W3 a /\ vD a /\ zK a /\ (a.x.st.length = a.x.st.length /\ ((0 : Nat) < a.x.st.length -> Yx)) /\
 aC /\ Je /\ dI a <= (9223372036854775807 : Nat) /\ dI a * (8 : Nat) <= (140737488355328 : Nat)
abbrev Qm (a : KS) (a1 : KS) : Prop := a.x.ms.length = iC a1
abbrev Rd (a : KS) (a1 : KS) : Prop := a.x.t.length = iE a1
abbrev Rn (a : KS) (a1 : KS) : Prop := a.x.st.length = dI a1
abbrev T6 (i : Nat) (a : KS) : Bool := decide (i < a.x.ms.length)
abbrev wW (a : KS) (a1 : KS) : Prop := ∀ (i : Nat), i < a.x.ms.length -> ((gD a.x.ms i).pl = bif T6 i a1 then (gD a1.x.ms i).pl else a1.x.pl) /\ (gD a.x.ms i).ht = bif T6 i a1 then (gD a1.x.ms
 i).ht else tG a1
abbrev Y4 (a : KS) (a1 : KS) : Prop := ∀ (i : Nat), i < a.x.t.length -> gD a.x.t i = bif decide (i < a1.x.t.length) then gD a1.x.t i else a1.x.tm
abbrev X3 (a : KS) (a1 : KS) (a2 : MkI) : Prop := ∀ (i : Nat), i < a.x.st.length -> gD a.x.st i = bif decide (i < a1.x.st.length) then gD a1.x.st i else S2 a1 a2
abbrev dP (a : KS) (a1 : KS) : Prop := a.x.z.length = a1.x.z.length
abbrev ABV (a : KS) (a1 : KS) : Prop := dP a a1 /\ ∀ (i : Nat), i < a.x.z.length -> gD a.x.z i = gD a1.x.z i
abbrev N4 (a : KS) (a1 : KS) (a2 : MkI) : Prop := true = true /\ a.x.pl = a1.x.pl /\ a.x.tm = a1.x.tm /\ fW a a1 /\ gG a a1 a2 /\ fR a a1 a2 /\ dR a a1 a2 /\ dA a a1 a2 /\
 AF /\ AF /\ AF /\ AF /\ AF /\ AB /\ AD /\ AB /\ AD /\ AB /\ AD /\ AB /\ AD /\ AB /\ AD /\ KC a2.s = KC a2.s /\ NN
 a2.s = NN a2.s /\ OA a2.s = OA a2.s /\ MA a2.s = MA a2.s /\ LA a2.s = LA a2.s /\ AB /\ Qm a a1 /\ AB /\ AD /\ AB /\ Rd a a1 /\ AB /\ Rn a a1 /\ AB /\
 dP a a1 /\ Qm a a1 /\ wW a a1 /\ Rd a a1 /\ Y4 a a1 /\ Rn a a1 /\ X3 a a1 a2 /\ ABV a a1
abbrev eZ (a : MkI) (a1 : KS) : Prop := rP a a1 /\ fT a1
abbrev wC (a : MkI) (a1 : KS) : Prop := (mS a).ms.length = a1.x.ms.length
abbrev Q0 (a : KS) : Prop := (0 : Nat) + a.x.ms.length <= a.x.ms.length
abbrev Ji (j : Nat) : Nat := (0 : Nat) + j
abbrev S0 (a : KS) (j : Nat) : Mk := gD a.x.ms (Ji j)
abbrev J1 (a : MkI) (a1 : KS) : Prop := ∀ (j : Nat), j < (mS a).ms.length -> (gD (mS a).ms j).pl = (S0 a1 j).pl /\ (gD (mS a).ms j).ht = (S0 a1 j).ht
abbrev Y0 (a : MkI) (a1 : KS) : Prop := (mS a).t.length = a1.x.t.length
abbrev ABX (a : KS) : Prop := (0 : Nat) + a.x.t.length <= a.x.t.length
abbrev yX (a : MkI) (a1 : KS) : Prop := ∀ (j : Nat), j < (mS a).t.length -> gD (mS a).t j = gD a1.x.t (Ji j)
abbrev ABI (a : MkI) (a1 : KS) : Prop := (mS a).st.length = a1.x.st.length
abbrev vH (a : KS) : Prop := (0 : Nat) + a.x.st.length <= a.x.st.length
abbrev D8 (a : MkI) (a1 : KS) : Prop := ∀ (j : Nat), j < (mS a).st.length -> gD (mS a).st j = gD a1.x.st (Ji j)
abbrev hG (a : MkI) (a1 : KS) (a2 : KS) : Prop := AF /\ AF /\ AF /\ AF /\ AF /\ AB /\ AD /\ AB /\ AD /\ AB /\ AD /\ AB /\
 AD /\ AB /\ AD /\ KC a.s = KC a.s /\ NN a.s = NN a.s /\ OA a.s = OA a.s /\ MA a.s = MA a.s /\ LA a.s = LA a.s /\ AB /\ VA a1 a2 /\ AB /\ AD /\ AB /\
 VP a1 a2 /\ AB /\ VL a1 a2 /\ AB /\ dP a1 a2 /\ VA a1 a2 /\ Qg a1 a2 /\ VP a1 a2 /\ Qx a1 a2 /\ VL a1 a2 /\ Rg a1 a2 /\ ABV a1
 a2
abbrev ADL (a : KS) (a1 : KS) : Prop := a.k <= a1.k /\ fT a
abbrev O6 (a : MkI) (a1 : KS) (a2 : KS) : Prop := G2 a a1 /\ ADL a1 a2
abbrev ABY (a : KS) (a1 : KS) : Prop := a.x.z.length = aR a1
abbrev Se (a : MkI) (a1 : KS) (a2 : KS) : Prop := Xv a a1 /\ ADL a1 a2
abbrev U0 (a : MkI) (a1 : KS) : Prop := ∀ (a_1 : KS), Se a a_1 a1 -> aX a_1 /\ dC a_1 a /\ ∃ (a_3 : KS), N4 a_3 a_1 a /\ eZ a a_3 /\ a_3.k < a1.k
abbrev Bv (i : Nat) (a : KN) : Prop := i < a.x.s.bs.length
abbrev SA (a : MkI) : Prop := (mS a).ms.length = (mS a).ms.length
abbrev SH (a : MkI) : Prop := ∀ (i : Nat), i < (mS a).ms.length -> (gD (mS a).ms i).pl = (gD (mS a).ms i).pl /\ (gD (mS a).ms i).ht = (gD (mS a).ms i).ht
abbrev RY (a : MkI) : Prop := (mS a).t.length = (mS a).t.length
abbrev SK (a : MkI) : Prop := ∀ (i : Nat), i < (mS a).t.length -> gD (mS a).t i = gD (mS a).t i
abbrev SR (a : MkI) : Prop := (mS a).st.length = (mS a).st.length
abbrev SB (a : MkI) : Prop := ∀ (i : Nat), i < (mS a).st.length -> gD (mS a).st i = gD (mS a).st i
abbrev SP (a : MkI) : Prop := (mS a).z.length = (mS a).z.length
abbrev SE (a : MkI) : Prop := ∀ (i : Nat), i < (mS a).z.length -> gD (mS a).z i = gD (mS a).z i
abbrev De (a : MkI) : Prop := AF /\ AF /\ AF /\ AF /\ AF /\ AB /\ AD /\ AB /\ AD /\ AB /\ AD /\ AB /\ AD /\ AB /\
 AD /\ KC a.s = KC a.s /\ NN a.s = NN a.s /\ OA a.s = OA a.s /\ MA a.s = MA a.s /\ LA a.s = LA a.s /\ SA a /\ SH a /\ AB /\ AD /\ RY a /\ SK a /\ SR a /\
 SB a /\ SP a /\ SE a
abbrev hX (a : MkI) : Int := (7 : Int) * a.m
abbrev G3 (a : MkI) : Int := (7 : Int) + hX a
abbrev X0 (a : KN) : Int := (5 : Int) * (↑a.i : Int)
abbrev xV (a : MkI) (a1 : KN) : Prop := PQ a /\ a1.i <= (mS a).ms.length /\ StmB (G3 a + X0 a1) a1.x.s /\ mkN a ((mS a).ms.length - a1.i) a1.i a1.x = PT a /\ a1.x.ns.length <= a1.i
abbrev eR (a : MkI) (a1 : KN) : Prop := xV a a1 /\ a1.x.ns = []
abbrev V1 (a : KN) (a1 : MkI) : Bool := decide ((↑a.i : Int) < (↑(mS a1).ms.length : Int))
abbrev eV (a : KN) : List Int := HX a.x.s.bs.length λ (i : Nat) => gD a.x.s.bs i
abbrev E6 (a : KN) : Nat := (eV a).length
abbrev zG (a : KN) : Prop := E6 a = a.x.s.bs.length /\ (∀ (i : Nat), i < E6 a -> gD (eV a) i = gD a.x.s.bs i) /\ a.x.s.used = a.x.s.used /\ a.x.s.mix = a.x.s.mix /\ (a.x.s.used - (0 :
 Int)).NonNeg
abbrev X8 (a : KN) : Prop := (2 : Int) = Int.ofNat (2 : Nat) /\ zG a
abbrev F6 (a : KNb) (a1 : KN) : Prop := (↑a.i : Int) = (↑a1.i : Int)
abbrev Sm (a : KN) : Stm := Stm.mk (eV a) a.x.s.used a.x.s.mix
abbrev yL (a : KNb) (a1 : KN) : Prop := a.b = (AV (Sm a1) (2 : Int) == (0 : Int))
abbrev fX (a : KN) : Stm := AS (Sm a) (2 : Int)
abbrev D5 (a : KN) : List Int := (fX a).bs
abbrev L0 (a : KNb) (a1 : KN) : Prop := a.x.s.bs.length = (D5 a1).length
abbrev vI (a : KNb) (a1 : KN) : Prop := ∀ (i : Nat), i < a.x.s.bs.length -> gD a.x.s.bs i = gD (D5 a1) i
abbrev zM (a : KNb) (a1 : KN) : Prop := a.x.s.used = (fX a1).used
abbrev J6 (a : KNb) (a1 : KN) : Prop := a.x.s.mix = (fX a1).mix
abbrev Iy (a : KN) : Nat := (100 : Nat) - a.i
abbrev ABC (a : KNb) : Nat := a.i + (1 : Nat)
abbrev N6 (a : MkI) (a1 : KNb) (a2 : KN) : Prop := PQ a /\ (a1.i < (mS a).ms.length /\ (100 : Nat) - a1.i = Iy a2) /\ StmB ((8 : Int) + hX a + (5 : Int) * (↑a1.i : Int)) a1.x.s /\ mkN a
 ((mS a).ms.length - ABC a1) (ABC a1) (addN a a1.b a1.i a1.x) = PT a /\ a1.x.ns.length <= a1.i
abbrev G0 (a : MkI) (a1 : KNb) (a2 : KN) : Prop := N6 a a1 a2 /\ a1.x.ns = []
abbrev vS (a : KNb) : Prop := (0 : Int) <= (↑a.i : Int)
abbrev Qr (a : KNb) (a1 : MkI) : Prop := vS a /\ (↑a.i : Int) < (↑(mS a1).t.length : Int)
abbrev Sa : Prop := (40 : Int) = Int.ofNat (40 : Nat)
abbrev gW (a : KNb) : List Int := HX a.x.s.bs.length λ (i : Nat) => gD a.x.s.bs i
abbrev E0 (a : KNb) : Nat := (gW a).length
abbrev Y3 (a : KNb) : Prop := E0 a = a.x.s.bs.length
abbrev xL (a : KNb) : Prop := ∀ (i : Nat), i < E0 a -> gD (gW a) i = gD a.x.s.bs i
abbrev vJ (a : KNb) : Prop := a.x.s.used = a.x.s.used
abbrev zQ (a : KNb) : Prop := a.x.s.mix = a.x.s.mix
abbrev vP (a : KNb) : Prop := (0 : Int) <= a.x.s.used
abbrev C4 (a : KNb) : Stm := Stm.mk (gW a) a.x.s.used a.x.s.mix
abbrev gO (a : KNb) : Stm := AS (C4 a) (40 : Int)
abbrev L4 (a : KNb) : List Int := (gO a).bs
abbrev F3 (a : KNb) : Nat := (L4 a).length
abbrev ACW (a : KNb) (i : Nat) : Int := gD (L4 a) i
abbrev fG (a : KNb) : List Int := HX (F3 a) λ (i : Nat) => ACW a i
abbrev Y1 (a : KNb) : Nat := (fG a).length
abbrev xI (a : KNb) : Prop := Y1 a = F3 a
abbrev wB (a : KNb) : Prop := ∀ (i : Nat), i < Y1 a -> gD (fG a) i = ACW a i
abbrev Rk (a : KNb) : Int := (gO a).used
abbrev G1 (a : KNb) : Prop := Rk a = Rk a
abbrev cN (a : KNb) : Int := (gO a).mix
abbrev ACP (a : KNb) : Prop := cN a = cN a
abbrev U8 (a : KNb) : Prop := (0 : Int) <= Rk a
abbrev Rw (a : KNb) (a1 : MkI) : Prop := vS a /\ (↑a.i : Int) < (↑(mS a1).st.length : Int)
abbrev I4 (a : KNb) : Stm := Stm.mk (fG a) (Rk a) (cN a)
abbrev eJ (a : KNb) : Stm := AS (I4 a) (40 : Int)
abbrev Y7 (a : KNb) : List Int := (eJ a).bs
abbrev zD (a : KNb) : Nat := (Y7 a).length
abbrev D6 (a : KNb) (i : Nat) : Int := gD (Y7 a) i
abbrev cY (a : KNb) : List Int := HX (zD a) λ (i : Nat) => D6 a i
abbrev C2 (a : KNb) : Nat := (cY a).length
abbrev J3 (a : KNb) : Prop := C2 a = zD a
abbrev F7 (a : KNb) : Prop := ∀ (i : Nat), i < C2 a -> gD (cY a) i = D6 a i
abbrev Rx (a : KNb) : Int := (eJ a).used
abbrev D1 (a : KNb) : Prop := Rx a = Rx a
abbrev dK (a : KNb) : Int := (eJ a).mix
abbrev X7 (a : KNb) : Prop := dK a = dK a
abbrev K2 (a : KNb) : Prop := (0 : Int) <= Rx a
abbrev AAV (a : KNb) : Stm := Stm.mk (cY a) (Rx a) (dK a)
abbrev eF (a : KNb) : Stm := AS (AAV a) (9 : Int)
abbrev vG (a : KNb) : List Int := (eF a).bs
abbrev yG (a : KNb) : Nat := (vG a).length
abbrev N8 (a : KNb) (i : Nat) : Int := gD (vG a) i
abbrev dZ (a : KNb) : List Int := HX (yG a) λ (i : Nat) => N8 a i
abbrev Y9 (a : KNb) : Nat := (dZ a).length
abbrev Q3 (a : KNb) : Prop := Y9 a = yG a
abbrev yI (a : KNb) : Prop := ∀ (i : Nat), i < Y9 a -> gD (dZ a) i = N8 a i
abbrev Rf (a : KNb) : Int := (eF a).used
abbrev G6 (a : KNb) : Prop := Rf a = Rf a
abbrev gZ (a : KNb) : Int := (eF a).mix
abbrev J4 (a : KNb) : Prop := gZ a = gZ a
abbrev yF (a : KNb) : Prop := (0 : Int) <= Rf a
abbrev U2 : Prop := (5 : Nat) = (5 : Nat)
abbrev U9 : Prop := uG /\ (Nj -> U2)
abbrev Ry (a : KN) (a1 : KNb) : Prop := (↑a.i : Int) = (↑a1.i : Int)
abbrev A9 (a : KNb) : Stm := Stm.mk (dZ a) (Rf a) (gZ a)
abbrev fS (a : KNb) : Stm := AS (A9 a) (9 : Int)
abbrev A5 (a : KNb) : List Int := (fS a).bs
abbrev yZ (a : KN) (a1 : KNb) : Prop := a.x.s.bs.length = (A5 a1).length
abbrev AAX (a : KN) (a1 : KNb) : Prop := ∀ (i : Nat), Bv i a -> gD a.x.s.bs i = gD (A5 a1) i
abbrev ACX (a : KN) (a1 : KNb) : Prop := a.x.s.used = (fS a1).used
abbrev P3 (a : KN) (a1 : KNb) : Prop := a.x.s.mix = (fS a1).mix
abbrev xK (a : KN) : Prop := a.x.ns.length = (1 : Nat)
abbrev yV (a : MkI) (a1 : KNb) : Int := TM (0 : Int) (IntKind.i64.wrap (gD (mS a).t a1.i - AV (C4 a1) (40 : Int)))
abbrev Z9 (a : MkI) (a1 : KNb) : Int := IntKind.i64.wrap (gD (mS a).t a1.i + AV (I4 a1) (40 : Int))
abbrev L1 (a : MkI) (a1 : KNb) : Int := IntKind.i64.wrap (gD (mS a).st a1.i - AV (AAV a1) (9 : Int))
abbrev vQ (a : MkI) (a1 : KNb) : Int := IntKind.i64.wrap (gD (mS a).st a1.i + AV (A9 a1) (9 : Int))
abbrev iL (a : KN) : Nat := a.i + (1 : Nat)
abbrev AAG (a : MkI) (a1 : KN) (a2 : KN) : Prop := PQ a /\ (a1.i < (mS a).ms.length /\ Iy a1 = Iy a2) /\ StmB ((12 : Int) + hX a + X0 a1) a1.x.s /\ mkN a ((mS a).ms.length
 - iL a1) (iL a1) a1.x = PT a /\ a1.x.ns.length <= iL a1
abbrev K8 (a : KN) : Prop := (1 : Nat) <= a.x.ns.length
abbrev Qp (a : MkI) (a1 : KN) (a2 : KN) : Prop := AAG a a1 a2 /\ K8 a1
abbrev xX (a : KN) (a1 : KNb) : Prop := a.x.s.bs.length = a1.x.s.bs.length
abbrev D9 (a : KN) (a1 : KNb) : Prop := ∀ (i : Nat), Bv i a -> gD a.x.s.bs i = gD a1.x.s.bs i
abbrev ADC (a : KN) (a1 : KNb) : Prop := a.x.s.used = a1.x.s.used
abbrev zN (a : KN) (a1 : KNb) : Prop := a.x.s.mix = a1.x.s.mix
abbrev P7 (a : MkI) (a1 : KN) (a2 : KN) : Prop := AAG a a1 a2 /\ a1.x.ns = []
abbrev Jb (a : KN) : Int := IntKind.i64.wrap ((↑a.i : Int) + (1 : Int))
abbrev T2 (a : KN) (a1 : KN) : Prop := (↑a.i : Int) = Jb a1
abbrev xN (a : KN) (a1 : KN) : Prop := a.x.s.bs.length = a1.x.s.bs.length
abbrev zF (a : KN) (a1 : KN) : Prop := ∀ (i : Nat), Bv i a -> gD a.x.s.bs i = gD a1.x.s.bs i
abbrev zS (a : KN) (a1 : KN) : Prop := a.x.s.used = a1.x.s.used
abbrev T9 (a : KN) (a1 : KN) : Prop := a.x.s.mix = a1.x.s.mix
abbrev AAI (a : KN) (a1 : KN) : Prop := Iy a < Iy a1
abbrev Ri (a : KN) (a1 : KN) : Prop := a.x.ns.length = a1.x.ns.length
abbrev M0 (a : MkI) (a1 : KN) : Prop := xV a a1 /\ K8 a1
abbrev dT (a : MkI) (a1 : KN) : Prop := ∀ (a_1 : KN), Qp a a_1 a1 -> ∃ (a_3 : KN), (T2 a_3 a_1 /\ xN a_3 a_1 /\ zF a_3 a_1 /\ zS a_3 a_1 /\ T9 a_3 a_1 /\
 AF /\ AF /\ AF /\ AF /\ AF /\ AB /\ AD /\ AB /\ AD /\ AB /\ AD /\ AB /\ AD /\ AB /\ AD /\ KC a.s = KC a.s /\ NN
 a.s = NN a.s /\ OA a.s = OA a.s /\ MA a.s = MA a.s /\ LA a.s = LA a.s /\ SA a /\ SH a /\ AB /\ Ri a_3 a_1 /\ RY a /\ SK a /\ SR a /\ SB a /\ SP a
 /\ SE a /\ Ri a_3 a_1 /\ ∀ (i : Nat), i < a_3.x.ns.length -> (gD a_3.x.ns i).mi = (gD a_1.x.ns i).mi /\ (gD a_3.x.ns i).t.lo = (gD a_1.x.ns i).t.lo /\ (gD a_3.x.ns i).t.hi = (gD a_1.x.ns i).t.hi /\ (gD
 a_3.x.ns i).s.lo = (gD a_1.x.ns i).s.lo /\ (gD a_3.x.ns i).s.hi = (gD a_1.x.ns i).s.hi) /\ M0 a a_3 /\ AAI a_3 a1
abbrev L3 (a : MkI) (a1 : KN) : Prop := (PT a).s.bs.length = a1.x.s.bs.length
abbrev AAM (a : MkI) (a1 : KN) : Prop := ∀ (i : Nat), i < (PT a).s.bs.length -> gD (PT a).s.bs i = gD a1.x.s.bs i
abbrev ABE (a : MkI) (a1 : KN) : Prop := (PT a).s.used = a1.x.s.used
abbrev xW (a : MkI) (a1 : KN) : Prop := (PT a).s.mix = a1.x.s.mix
abbrev V9 (a : MkI) : Prop := PQ a /\ (PT a).ns = []
abbrev xG (a : KNb) (a1 : KN) : Prop := a.x.ns.length = a1.x.ns.length
abbrev zW (a : MkI) (a1 : KNb) (a2 : KN) : Prop := N6 a a1 a2 /\ (1 : Nat) <= a1.x.ns.length
abbrev iF (a : KNb) : Nat := a.x.ns.length + (1 : Nat)
abbrev A4 (a : KN) (a1 : KNb) : Prop := a.x.ns.length = iF a1
abbrev Jd (i : Nat) (a : KNb) : Bool := decide (i < a.x.ns.length)
abbrev S1 (a : KN) (a1 : KNb) : Prop := a.x.ns.length = a1.x.ns.length
abbrev AAZ (a : MkI) (a1 : KN) : Prop := (PT a).ns.length = a1.x.ns.length
abbrev yH (a : MkI) : Int := G3 a + (5 : Int) * a.m
abbrev U5 (a : MkI) : Prop := PQ a /\ StmB (yH a) (PT a).s /\ (1 : Nat) <= (PT a).ns.length /\ (↑(PT a).ns.length : Int) <= a.m
abbrev fE (i : Nat) (a : MkI) : Prop := i < (mE a).s.bs.length
abbrev vO (a : MkI) : Prop := (RK a).ms.length = (mS a).ms.length
abbrev zY (a : MkI) : Prop := ∀ (i : Nat), i < (RK a).ms.length -> (gD (RK a).ms i).pl = (gD (mS a).ms i).pl /\ (gD (RK a).ms i).ht = (gD (mS a).ms i).ht
abbrev ABJ (a : MkI) : Prop := (RK a).ns.length = (0 : Nat)
abbrev T5 (a : MkI) : Prop := (vC a).t.length = (mS a).t.length
abbrev O7 (a : MkI) : Prop := ∀ (i : Nat), i < (vC a).t.length -> gD (vC a).t i = gD (mS a).t i
abbrev K3 (a : MkI) : Prop := (vC a).s.length = (mS a).st.length
abbrev wN (a : MkI) : Prop := ∀ (i : Nat), i < (vC a).s.length -> gD (vC a).s i = gD (mS a).st i
abbrev X6 (a : MkI) : Prop := (vC a).z.length = (mS a).z.length
abbrev K0 (a : MkI) : Prop := ∀ (i : Nat), i < (vC a).z.length -> gD (vC a).z i = gD (mS a).z i
abbrev yC (a : KN) (a1 : MkI) : Prop := a.x.ns.length = (PT a1).ns.length
abbrev gI (a : MkI) (a1 : KN) : Prop := PQ a /\ a1.i < a1.x.ns.length /\ StmB (yH a + a.m - (↑a1.i : Int)) a1.x.s /\ shK a1.i a1.x = mE a /\ (↑a1.x.ns.length : Int) <= a.m
abbrev dF (a : KN) : Int := AV (Sm a) (Jb a)
abbrev Q5 (a : KN) : Prop := (0 : Int) <= dF a /\ dF a < (↑a.x.ns.length : Int)
abbrev Qv (a : KN) : Nat := (0 : Nat) + (dF a).toNat
abbrev H3 (a : KN) : Prop := (0 : Int) <= (↑a.i : Int) /\ (↑a.i : Int) < (↑a.x.ns.length : Int)
abbrev cO (a : KN) : Nat := (0 : Nat) + a.i
abbrev W6 (a : KN) : Prop := cO a < a.x.ns.length
abbrev cW (a : KN) : Stm := AS (Sm a) (Jb a)
abbrev G7 (a : KN) : List Int := (cW a).bs
abbrev Iv (i : Nat) (a : KN) : Bool := decide (i = Qv a)
abbrev gY (a : KN) : Nt := gD a.x.ns (cO a)
abbrev It (i : Nat) (a : KN) : Bool := decide (i = cO a)
abbrev fO (a : KN) : Nt := gD a.x.ns (Qv a)
abbrev AAQ (a : KN) : Span := (gY a).t
abbrev wV (a : KN) : Span := (fO a).t
abbrev ACG (a : KN) : Span := (gY a).s
abbrev A0 (a : KN) : Span := (fO a).s
abbrev cV (a : KN) (j : Nat) : Nt := gD a.x.ns (Ji j)
abbrev I0 (a : KN) (j : Nat) : Span := (cV a j).t
abbrev S6 (a : KN) (j : Nat) : Span := (cV a j).s
abbrev zH (a : MkI) : Prop := ∀ (a_1 : One), PQ a -> ((∃ (a_3 : KN), ((↑a_3.i : Int) = (0 : Int) /\ a_3.x.s.bs.length = (mS a).s.bs.length /\ (∀ (i : Nat), Bv i a_3 -> gD a_3.x.s.bs i = gD (mS
 a).s.bs i) /\ a_3.x.s.used = (mS a).s.used /\ a_3.x.s.mix = (mS a).s.mix /\ De a) /\ eR a a_3) /\ (∀ (a_3 : KN), eR a a_3 -> bif bif V1 a_3 a then decide ((↑(0 : Nat) : Int) < (20 : Int))
 else false then ((X8 a_3 /\ ∃ (a_5 : KNb), (F6 a_5 a_3 /\ yL a_5 a_3 /\ L0 a_5 a_3 /\ vI a_5 a_3 /\ zM a_5 a_3 /\ J6 a_5 a_3 /\ De a) /\ G0 a a_5
 a_3) /\ ∀ (a_5 : KNb), G0 a a_5 a_3 -> bif a_5.b then (Qr a_5 a /\ Sa /\ Y3 a_5 /\ xL a_5 /\ vJ a_5 /\ zQ a_5 /\ vP a_5 /\ Qr a_5 a /\ Sa /\
 xI a_5 /\ wB a_5 /\ G1 a_5 /\ ACP a_5 /\ U8 a_5 /\ Rw a_5 a /\ Ov /\ J3 a_5 /\ F7 a_5 /\ D1 a_5 /\ X7 a_5 /\ K2 a_5 /\
 Rw a_5 a /\ Ov /\ Q3 a_5 /\ yI a_5 /\ G6 a_5 /\ J4 a_5 /\ yF a_5 /\ (True /\ (sL -> (0 : Nat) = (5 : Nat))) /\ U9 /\ oX /\ sZ /\ (40 :
 Nat) <= (140737488355328 : Nat)) /\ ∃ (a_7 : KN), (Ry a_7 a_5 /\ yZ a_7 a_5 /\ AAX a_7 a_5 /\ ACX a_7 a_5 /\ P3 a_7 a_5 /\ AF /\ AF /\ AF /\ AF /\
 AF /\ AB /\ AD /\ AB /\ AD /\ AB /\ AD /\ AB /\ AD /\ AB /\ AD /\ KC a.s = KC a.s /\ NN a.s = NN a.s /\ OA a.s = OA a.s /\ MA a.s = MA a.s
 /\ LA a.s = LA a.s /\ SA a /\ SH a /\ AB /\ xK a_7 /\ RY a /\ SK a /\ SR a /\ SB a /\ SP a /\ SE a /\ xK a_7 /\ ∀ (i : Nat), i <
 a_7.x.ns.length -> (gD a_7.x.ns i).mi = (↑a_5.i : Int) /\ (gD a_7.x.ns i).t.lo = yV a a_5 /\ (gD a_7.x.ns i).t.hi = Z9 a a_5 /\ (gD a_7.x.ns i).s.lo = L1 a a_5 /\ (gD a_7.x.ns i).s.hi = vQ
 a a_5) /\ Qp a a_7 a_3 else ∃ (a_7 : KN), (Ry a_7 a_5 /\ xX a_7 a_5 /\ D9 a_7 a_5 /\ ADC a_7 a_5 /\ zN a_7 a_5 /\ De a) /\ P7 a a_7 a_3) /\ (∀ (a_5 : KN),
 P7 a a_5 a_3 -> ∃ (a_7 : KN), (T2 a_7 a_5 /\ xN a_7 a_5 /\ zF a_7 a_5 /\ zS a_7 a_5 /\ T9 a_7 a_5 /\ De a) /\ eR a a_7 /\ AAI a_7 a_3) /\ dT
 a a_3 else ∃ (a_5 : One), (L3 a a_3 /\ AAM a a_3 /\ ABE a a_3 /\ xW a a_3 /\ De a) /\ V9 a) /\ ∀ (a_3 : KN), M0 a a_3 -> bif bif V1 a_3 a then decide
 ((↑a_3.x.ns.length : Int) < (20 : Int)) else false then ((X8 a_3 /\ ∃ (a_5 : KNb), (F6 a_5 a_3 /\ yL a_5 a_3 /\ L0 a_5 a_3 /\ vI a_5 a_3 /\ zM a_5 a_3 /\ J6 a_5
 a_3 /\ AF /\ AF /\ AF /\ AF /\ AF /\ AB /\ AD /\ AB /\ AD /\ AB /\ AD /\ AB /\ AD /\ AB /\ AD /\ KC a.s = KC a.s /\
 NN a.s = NN a.s /\ OA a.s = OA a.s /\ MA a.s = MA a.s /\ LA a.s = LA a.s /\ SA a /\ SH a /\ AB /\ xG a_5 a_3 /\ RY a /\ SK a /\ SR a /\ SB a /\
 SP a /\ SE a /\ xG a_5 a_3 /\ ∀ (i : Nat), i < a_5.x.ns.length -> (gD a_5.x.ns i).mi = (gD a_3.x.ns i).mi /\ (gD a_5.x.ns i).t.lo = (gD a_3.x.ns i).t.lo /\ (gD a_5.x.ns i).t.hi = (gD a_3.x.ns i).t.hi
 /\ (gD a_5.x.ns i).s.lo = (gD a_3.x.ns i).s.lo /\ (gD a_5.x.ns i).s.hi = (gD a_3.x.ns i).s.hi) /\ zW a a_5 a_3) /\ ∀ (a_5 : KNb), zW a a_5 a_3 -> bif a_5.b then (Qr a_5 a /\ Sa /\ Y3
 a_5 /\ xL a_5 /\ vJ a_5 /\ zQ a_5 /\ vP a_5 /\ Qr a_5 a /\ Sa /\ xI a_5 /\ wB a_5 /\ G1 a_5 /\ ACP a_5 /\ U8 a_5 /\ Rw a_5 a
 /\ Ov /\ J3 a_5 /\ F7 a_5 /\ D1 a_5 /\ X7 a_5 /\ K2 a_5 /\ Rw a_5 a /\ Ov /\ Q3 a_5 /\ yI a_5 /\ G6 a_5 /\ J4 a_5 /\
 yF a_5 /\ (a_5.x.ns.length = a_5.x.ns.length /\ ((0 : Nat) < a_5.x.ns.length -> U2)) /\ U9 /\ Je /\ iF a_5 <= (9223372036854775807 : Nat) /\ iF a_5 * (40 : Nat) <=
 (140737488355328 : Nat)) /\ ∃ (a_7 : KN), (Ry a_7 a_5 /\ yZ a_7 a_5 /\ AAX a_7 a_5 /\ ACX a_7 a_5 /\ P3 a_7 a_5 /\ AF /\ AF /\ AF /\ AF /\ AF /\
 AB /\ AD /\ AB /\ AD /\ AB /\ AD /\ AB /\ AD /\ AB /\ AD /\ KC a.s = KC a.s /\ NN a.s = NN a.s /\ OA a.s = OA a.s /\ MA a.s = MA a.s /\ LA a.s =
 LA a.s /\ SA a /\ SH a /\ AB /\ A4 a_7 a_5 /\ RY a /\ SK a /\ SR a /\ SB a /\ SP a /\ SE a /\ A4 a_7 a_5 /\ ∀ (i : Nat), i <
 a_7.x.ns.length -> ((gD a_7.x.ns i).mi = bif Jd i a_5 then (gD a_5.x.ns i).mi else (↑a_5.i : Int)) /\ ((gD a_7.x.ns i).t.lo = bif Jd i a_5 then (gD a_5.x.ns i).t.lo else yV a a_5) /\ ((gD a_7.x.ns
 i).t.hi = bif Jd i a_5 then (gD a_5.x.ns i).t.hi else Z9 a a_5) /\ ((gD a_7.x.ns i).s.lo = bif Jd i a_5 then (gD a_5.x.ns i).s.lo else L1 a a_5) /\ (gD a_7.x.ns i).s.hi = bif Jd
 i a_5 then (gD a_5.x.ns i).s.hi else vQ a a_5) /\ Qp a a_7 a_3 else ∃ (a_7 : KN), (Ry a_7 a_5 /\ xX a_7 a_5 /\ D9 a_7 a_5 /\ ADC a_7 a_5 /\ zN a_7 a_5 /\ AF
 /\ AF /\ AF /\ AF /\ AF /\ AB /\ AD /\ AB /\ AD /\ AB /\ AD /\ AB /\ AD /\ AB /\ AD /\ KC a.s = KC a.s /\ NN a.s = NN
 a.s /\ OA a.s = OA a.s /\ MA a.s = MA a.s /\ LA a.s = LA a.s /\ SA a /\ SH a /\ AB /\ S1 a_7 a_5 /\ RY a /\ SK a /\ SR a /\ SB a /\ SP a /\
 SE a /\ S1 a_7 a_5 /\ ∀ (i : Nat), i < a_7.x.ns.length -> (gD a_7.x.ns i).mi = (gD a_5.x.ns i).mi /\ (gD a_7.x.ns i).t.lo = (gD a_5.x.ns i).t.lo /\ (gD a_7.x.ns i).t.hi = (gD a_5.x.ns i).t.hi /\ (gD a_7.x.ns
 i).s.lo = (gD a_5.x.ns i).s.lo /\ (gD a_7.x.ns i).s.hi = (gD a_5.x.ns i).s.hi) /\ Qp a a_7 a_3) /\ dT a a_3 /\ dT a a_3 else ∃ (a_5 : One), (L3 a a_3 /\ AAM a a_3 /\ ABE a
 a_3 /\ xW a a_3 /\ AF /\ AF /\ AF /\ AF /\ AF /\ AB /\ AD /\ AB /\ AD /\ AB /\ AD /\ AB /\ AD /\ AB /\ AD /\
 KC a.s = KC a.s /\ NN a.s = NN a.s /\ OA a.s = OA a.s /\ MA a.s = MA a.s /\ LA a.s = LA a.s /\ SA a /\ SH a /\ AB /\ AAZ a a_3 /\ RY a /\ SK a /\ SR a /\
 SB a /\ SP a /\ SE a /\ AAZ a a_3 /\ ∀ (i : Nat), i < (PT a).ns.length -> (gD (PT a).ns i).mi = (gD a_3.x.ns i).mi /\ (gD (PT a).ns i).t.lo = (gD a_3.x.ns i).t.lo /\ (gD (PT a).ns i).t.hi
 = (gD a_3.x.ns i).t.hi /\ (gD (PT a).ns i).s.lo = (gD a_3.x.ns i).s.lo /\ (gD (PT a).ns i).s.hi = (gD a_3.x.ns i).s.hi) /\ U5 a) /\ (∀ (a_3 : One), V9 a -> (∃ (a_5 : One), (Int.negSucc (0 : Nat) =
 Int.negSucc (0 : Nat) /\ (mE a).s.bs.length = (PT a).s.bs.length /\ (∀ (i : Nat), fE i a -> gD (mE a).s.bs i = gD (PT a).s.bs i) /\ (mE a).s.used = (PT a).s.used /\ (mE a).s.mix = (PT a).s.mix /\ De a) /\
 (mE a).ns = []) /\ ∀ (a_5 : One), (mE a).ns = [] -> (RK a).p.lo = KC a.s /\ (RK a).p.hi = NN a.s /\ (RK a).base = OA a.s /\ (RK a).scale = MA a.s /\ (RK a).off = LA a.s /\ vO a /\ zY a /\ ABJ a
 /\ ABJ a /\ T5 a /\ O7 a /\ K3 a /\ wN a /\ X6 a /\ K0 a /\ (mE a).s.bs.length = (mE a).s.bs.length /\ (∀ (i : Nat), fE i a -> gD (mE a).s.bs i = gD (mE
 a).s.bs i) /\ (mE a).s.used = (mE a).s.used /\ (mE a).s.mix = (mE a).s.mix) /\ ∀ (a_3 : One), U5 a -> (∃ (a_5 : KN), ((↑a_5.i : Int) = IntKind.i64.wrap ((↑(PT a).ns.length : Int) - (1 : Int)) /\ a_5.x.s.bs.length =
 (PT a).s.bs.length /\ (∀ (i : Nat), Bv i a_5 -> gD a_5.x.s.bs i = gD (PT a).s.bs i) /\ a_5.x.s.used = (PT a).s.used /\ a_5.x.s.mix = (PT a).s.mix /\ AF /\ AF /\ AF /\ AF /\ AF
 /\ AB /\ AD /\ AB /\ AD /\ AB /\ AD /\ AB /\ AD /\ AB /\ AD /\ KC a.s = KC a.s /\ NN a.s = NN a.s /\ OA a.s = OA a.s /\ MA a.s = MA a.s /\ LA a.s
 = LA a.s /\ SA a /\ SH a /\ AB /\ yC a_5 a /\ RY a /\ SK a /\ SR a /\ SB a /\ SP a /\ SE a /\ yC a_5 a /\ ∀ (i : Nat), i <
 a_5.x.ns.length -> (gD a_5.x.ns i).mi = (gD (PT a).ns i).mi /\ (gD a_5.x.ns i).t.lo = (gD (PT a).ns i).t.lo /\ (gD a_5.x.ns i).t.hi = (gD (PT a).ns i).t.hi /\ (gD a_5.x.ns i).s.lo = (gD (PT a).ns i).s.lo /\ (gD a_5.x.ns
 i).s.hi = (gD (PT a).ns i).s.hi) /\ gI a a_5) /\ ∀ (a_5 : KN), gI a a_5 -> bif decide ((↑a_5.i : Int) > (0 : Int)) then (Jb a_5 = Jb a_5 /\ zG a_5) /\ (Q5 a_5 /\
 Qv a_5 < a_5.x.ns.length /\ H3 a_5 /\ W6 a_5 /\ H3 a_5 /\ W6 a_5 /\ Q5 a_5 /\ (Qv a_5).succ.le a_5.x.ns.length) /\ ∃ (a_7 : KN), ((↑a_7.i : Int) = IntKind.i64.wrap
 ((↑a_5.i : Int) - (1 : Int)) /\ a_7.x.s.bs.length = (G7 a_5).length /\ (∀ (i : Nat), Bv i a_7 -> gD a_7.x.s.bs i = gD (G7 a_5) i) /\ a_7.x.s.used = (cW a_5).used /\ a_7.x.s.mix =
 (cW a_5).mix /\ AF /\ AF /\ AF /\ AF /\ AF /\ AB /\ AD /\ AB /\ AD /\ AB /\ AD /\ AB /\ AD /\ AB /\ AD /\
 KC a.s = KC a.s /\ NN a.s = NN a.s /\ OA a.s = OA a.s /\ MA a.s = MA a.s /\ LA a.s = LA a.s /\ SA a /\ SH a /\ AB /\ Ri a_7 a_5 /\ RY a /\ SK a /\ SR a /\
 SB a /\ SP a /\ SE a /\ Ri a_7 a_5 /\ ∀ (i : Nat), i < a_7.x.ns.length -> ((gD a_7.x.ns i).mi = bif Iv i a_5 then (gY a_5).mi else bif It i a_5 then (fO
 a_5).mi else (gD a_5.x.ns i).mi) /\ ((gD a_7.x.ns i).t.lo = bif Iv i a_5 then (AAQ a_5).lo else bif It i a_5 then (wV a_5).lo else (gD a_5.x.ns i).t.lo) /\ ((gD a_7.x.ns i).t.hi = bif
 Iv i a_5 then (AAQ a_5).hi else bif It i a_5 then (wV a_5).hi else (gD a_5.x.ns i).t.hi) /\ ((gD a_7.x.ns i).s.lo = bif Iv i a_5 then (ACG a_5).lo else bif It i
 a_5 then (A0 a_5).lo else (gD a_5.x.ns i).s.lo) /\ (gD a_7.x.ns i).s.hi = bif Iv i a_5 then (ACG a_5).hi else bif It i a_5 then (A0 a_5).hi else (gD a_5.x.ns i).s.hi) /\
 gI a a_7 /\ a_7.i < a_5.i else (RK a).p.lo = KC a.s /\ (RK a).p.hi = NN a.s /\ (RK a).base = OA a.s /\ (RK a).scale = MA a.s /\ (RK a).off = LA a.s /\ vO a /\ zY a /\ (RK a).ns.length =
 a_5.x.ns.length /\ (0 : Nat) + a_5.x.ns.length <= a_5.x.ns.length /\ (∀ (j : Nat), j < (RK a).ns.length -> (gD (RK a).ns j).mi = (cV a_5 j).mi /\ (gD (RK a).ns j).t.lo = (I0 a_5 j).lo /\ (gD (RK a).ns
 j).t.hi = (I0 a_5 j).hi /\ (gD (RK a).ns j).s.lo = (S6 a_5 j).lo /\ (gD (RK a).ns j).s.hi = (S6 a_5 j).hi) /\ T5 a /\ O7 a /\ K3 a /\ wN a /\ X6 a /\
 K0 a /\ (mE a).s.bs.length = a_5.x.s.bs.length /\ (∀ (i : Nat), fE i a -> gD (mE a).s.bs i = gD a_5.x.s.bs i) /\ (mE a).s.used = a_5.x.s.used /\ (mE a).s.mix = a_5.x.s.mix
theorem BYN (a : MkI) : (BQE a) = (((AFI /\ APW /\ ATO a = a.s.bs.length /\ (∀ (i : Nat), i < ATO a -> gD (AFH a) i = gD a.s.bs i) /\ a.s.used = a.s.used /\ a.s.mix = a.s.mix /\ (0 : Int)
 <= a.s.used /\ (-50 : Int) = Int.negSucc (49 : Nat) /\ APQ /\ AHK a = ARB a /\ (∀ (i : Nat), i < AHK a -> gD (rH a) i = AUI a i) /\ bF a = bF a /\ rV a = rV
 a /\ (0 : Int) <= bF a /\ APW /\ AMX a = ALA a /\ (∀ (i : Nat), i < AMX a -> gD (uP a) i = AKK a i) /\ aT a = aT a /\ sR a = sR a /\ (0 : Int) <=
 aT a /\ Ov /\ AKJ a = ALJ a /\ (∀ (i : Nat), i < AKJ a -> gD (pV a) i = AMC a i) /\ bX a = bX a /\ tI a = tI a /\ (bX a - (0 :
 Int)).NonNeg) /\ ∃ (a_1 : One), (a.m = a.m /\ true = true /\ (iW a.s).bs.length = (AIN a).length /\ (∀ (i : Nat), i < (iW a.s).bs.length -> gD (iW a.s).bs i = gD (AIN a) i) /\ (iW a.s).used = (qE
 a).used /\ (iW a.s).mix = (qE a).mix /\ AF /\ AF /\ AF /\ AF /\ AF /\ AB /\ AD /\ AB /\ AD /\ AB /\ AD /\ AB /\ AD /\
 AB /\ AD /\ KC a.s = Lf (AQE a) (1 : Int) (12 : Int) /\ AF /\ OA a.s = Lf (AIR a) (-50 : Int) (400 : Int) /\ MA a.s = AV (AJH a) (12 : Int) /\ LA a.s = AV (AIB
 a) (9 : Int) /\ uE) /\ StmB (4 : Int) (iW a.s)) /\ ∀ (a_1 : One), StmB (4 : Int) (iW a.s) -> (((6 : Int) = Int.ofNat (6 : Nat) /\ AJJ a = (iW a.s).bs.length /\ (∀ (i : Nat), i < AJJ a -> gD (sT
 a) i = gD (iW a.s).bs i) /\ (iW a.s).used = (iW a.s).used /\ (iW a.s).mix = (iW a.s).mix /\ ((iW a.s).used - (0 : Int)).NonNeg) /\ ∃ (a_3 : One), (a.m = a.m /\ true = true /\ (lV a.s).bs.length = (AJM a).length /\
 (∀ (i : Nat), i < (lV a.s).bs.length -> gD (lV a.s).bs i = gD (AJM a) i) /\ (lV a.s).used = (oF a).used /\ (lV a.s).mix = (oF a).mix /\ AF /\ AF /\ AF /\ AF /\
 AF /\ AB /\ AD /\ AB /\ AD /\ AB /\ AD /\ AB /\ AD /\ AB /\ AD /\ KC a.s = KC a.s /\ NN a.s = IntKind.i64.wrap (KC a.s + AV (AIQ
 a) (6 : Int)) /\ OA a.s = OA a.s /\ MA a.s = MA a.s /\ LA a.s = LA a.s /\ uE) /\ StmB (5 : Int) (lV a.s)) /\ ∀ (a_3 : One), StmB (5 : Int) (lV a.s) -> (((300 : Int) = Int.ofNat (300 : Nat) /\ AHZ a = (lV
 a.s).bs.length /\ (∀ (i : Nat), i < AHZ a -> gD (sC a) i = gD (lV a.s).bs i) /\ (lV a.s).used = (lV a.s).used /\ (lV a.s).mix = (lV a.s).mix /\ ((lV a.s).used - (0 : Int)).NonNeg) /\ ∃ (a_5 : One), (a.m =
 a.m /\ true = true /\ AF /\ hTm a.s = AV (AJX a) (300 : Int) /\ (kA a.s).bs.length = (AJV a).length /\ (∀ (i : Nat), i < (kA a.s).bs.length -> gD (kA a.s).bs i = gD (AJV a) i) /\ (kA
 a.s).used = (uJ a).used /\ (kA a.s).mix = (uJ a).mix /\ oG a) /\ StmB (6 : Int) (kA a.s)) /\ ∀ (a_5 : One), StmB (6 : Int) (kA a.s) -> ((AFI /\ a.m = a.m /\ AKX a = (kA a.s).bs.length /\
 (∀ (i : Nat), i < AKX a -> gD (tS a) i = gD (kA a.s).bs i) /\ (kA a.s).used = (kA a.s).used /\ (kA a.s).mix = (kA a.s).mix /\ ((kA a.s).used - (0 : Int)).NonNeg) /\ (∃ (a_7 : KS), (true = true /\ a_7.x.pl
 = (0 : Int) /\ a_7.x.tm = hTm a.s /\ (↑a_7.k : Int) = Lf (AHT a) (1 : Int) a.m /\ a_7.x.s.bs.length = (AJB a).length /\ (∀ (i : Nat), Ih i a_7 -> gD a_7.x.s.bs i = gD (AJB a) i) /\ a_7.x.s.used =
 (qB a).used /\ a_7.x.s.mix = (qB a).mix /\ oG a) /\ AHS a a_7) /\ (∀ (a_7 : KS), AHS a a_7 -> bif sV a_7 then (∃ (a_9 : KS), (true = true /\ a_9.x.pl = a_7.x.pl /\ a_9.x.tm =
 a_7.x.tm /\ WD a_9 a_7 /\ pQ a_9 a_7 /\ qQ a_9 a_7 /\ rC a_9 a_7 /\ tY a_9 a_7 /\ oG a) /\ AHP a a_9) /\ ∀ (a_9 : KS), AHP a a_9 -> aX a_9 /\ (((True /\
 (sL -> (0 : Nat) = (2 : Nat))) /\ AIX /\ oX /\ sZ /\ (16 : Nat) <= (140737488355328 : Nat)) /\ qV /\ AIW a a_9 /\ AJU a a_9 /\ ABH a_9 /\ AAO a_9 /\ W3
 a_9 /\ vD a_9 /\ zK a_9 /\ qV) /\ ∃ (a_11 : KS), (true = true /\ a_11.x.pl = a_9.x.pl /\ a_11.x.tm = a_9.x.tm /\ fW a_11 a_9 /\ gG a_11 a_9 a /\ fR a_11 a_9 a /\ dR
 a_11 a_9 a /\ dA a_11 a_9 a /\ AF /\ AF /\ AF /\ AF /\ AF /\ AB /\ AD /\ AB /\ AD /\ AB /\ AD /\ AB /\ AD /\ AB /\
 AD /\ KC a.s = KC a.s /\ NN a.s = NN a.s /\ OA a.s = OA a.s /\ MA a.s = MA a.s /\ LA a.s = LA a.s /\ AB /\ vZ a_11 /\ AB /\ AD /\ AB /\ wD a_11 /\ AB /\
 E4 a_11 /\ AB /\ AD /\ vZ a_11 /\ (∀ (i : Nat), i < a_11.x.ms.length -> (gD a_11.x.ms i).pl = a_9.x.pl /\ (gD a_11.x.ms i).ht = tG a_9) /\ wD a_11 /\ (∀ (i : Nat), i <
 a_11.x.t.length -> gD a_11.x.t i = a_9.x.tm) /\ E4 a_11 /\ ∀ (i : Nat), i < a_11.x.st.length -> gD a_11.x.st i = S2 a_9 a) /\ fN a a_11 /\ YZ a_11 < (100 : Nat) else ∃ (a_9 : One),
 (iG a a_7 /\ iB a a_7 /\ cQ a a_7 /\ dV a a_7 /\ AF /\ AF /\ AF /\ AF /\ AF /\ AB /\ AD /\ AB /\ AD /\ AB /\
 AD /\ AB /\ AD /\ AB /\ AD /\ KC a.s = KC a.s /\ NN a.s = NN a.s /\ OA a.s = OA a.s /\ MA a.s = MA a.s /\ LA a.s = LA a.s /\ M2 a /\ M2 a /\ AB /\ AD
 /\ vW a /\ vW a /\ wL a /\ wL a /\ H8 a) /\ PQ a) /\ (∀ (a_7 : KS), fN a a_7 -> bif sV a_7 then (bif O9 a_7 then F2 a_7 /\ (ACI a
 a_7 /\ ∃ (a_9 : KS), (true = true /\ wS a_9 a_7 /\ C5 a_9 a_7 a /\ WD a_9 a_7 /\ X9 a_9 a_7 a /\ P2 a_9 a_7 a /\ ADP a_9 a_7 a /\ H9 a_9 a_7 a /\ gT a a_9 a_7)
 /\ M3 a a_9 a_7) /\ ∀ (a_9 : KS), M3 a a_9 a_7 -> true = true /\ true = true /\ ABN a_9 /\ true = true /\ bif ACB a_9 then qV /\ I5 a_9 /\ ∃ (a_11 : KS), (true = true /\ a_11.x.pl
 = a_9.x.pl /\ ABM a_11 a_9 /\ WD a_11 a_9 /\ wA a_11 a_9 /\ AAS a_11 a_9 /\ yW a_11 a_9 /\ vL a_11 a_9 /\ AF /\ AF /\ AF /\ AF /\ AF /\
 AB /\ AD /\ AB /\ AD /\ AB /\ AD /\ AB /\ AD /\ AB /\ AD /\ KC a.s = KC a.s /\ NN a.s = NN a.s /\ OA a.s = OA a.s /\ MA a.s = MA a.s /\ LA a.s =
 LA a.s /\ AB /\ VA a_11 a_9 /\ AB /\ AD /\ AB /\ VP a_11 a_9 /\ AB /\ VL a_11 a_9 /\ AB /\ Z0 a_11 /\ VA a_11 a_9 /\ Qg a_11 a_9
 /\ VP a_11 a_9 /\ Qx a_11 a_9 /\ VL a_11 a_9 /\ Rg a_11 a_9 /\ Z0 a_11 /\ ∀ (i : Nat), i < a_11.x.z.length -> gD a_11.x.z i = xF a_9) /\ Q8 a a_11 a_7 else ∃ (a_11 :
 KS), (true = true /\ a_11.x.pl = a_9.x.pl /\ a_11.x.tm = a_9.x.tm /\ WD a_11 a_9 /\ zX a_11 a_9 /\ L9 a_11 a_9 /\ yM a_11 a_9 /\ vF a_11 a_9 /\ gT a a_11 a_9) /\ cL a
 a_11 a_7 else ∃ (a_9 : KS), (true = true /\ a_9.x.pl = a_7.x.pl /\ a_9.x.tm = a_7.x.tm /\ WD a_9 a_7 /\ pQ a_9 a_7 /\ qQ a_9 a_7 /\ rC a_9 a_7 /\ tY a_9 a_7 /\ gT a a_9 a_7) /\
 cL a a_9 a_7) /\ (∀ (a_9 : KS), cL a a_9 a_7 -> aX a_9 /\ dC a_9 a /\ ∃ (a_11 : KS), (true = true /\ a_11.x.pl = a_9.x.pl /\ a_11.x.tm = a_9.x.tm /\ fW a_11 a_9 /\ gG a_11 a_9
 a /\ fR a_11 a_9 a /\ dR a_11 a_9 a /\ dA a_11 a_9 a /\ AF /\ AF /\ AF /\ AF /\ AF /\ AB /\ AD /\ AB /\ AD /\ AB /\ AD
 /\ AB /\ AD /\ AB /\ AD /\ KC a.s = KC a.s /\ NN a.s = NN a.s /\ OA a.s = OA a.s /\ MA a.s = MA a.s /\ LA a.s = LA a.s /\ AB /\ Qm a_11 a_9 /\ AB /\ AD /\
 AB /\ Rd a_11 a_9 /\ AB /\ Rn a_11 a_9 /\ AB /\ AD /\ Qm a_11 a_9 /\ wW a_11 a_9 /\ Rd a_11 a_9 /\ Y4 a_11 a_9 /\ Rn a_11 a_9 /\
 X3 a_11 a_9 a) /\ fN a a_11 /\ YZ a_11 < YZ a_7) /\ ∀ (a_9 : KS), Q8 a a_9 a_7 -> aX a_9 /\ dC a_9 a /\ ∃ (a_11 : KS), N4 a_11 a_9 a /\ eZ a a_11 /\
 a_11.k < YZ a_7 else ∃ (a_9 : One), (iG a a_7 /\ iB a a_7 /\ cQ a a_7 /\ dV a a_7 /\ AF /\ AF /\ AF /\ AF /\ AF /\ AB /\ AD /\
 AB /\ AD /\ AB /\ AD /\ AB /\ AD /\ AB /\ AD /\ KC a.s = KC a.s /\ NN a.s = NN a.s /\ OA a.s = OA a.s /\ MA a.s = MA a.s /\ LA a.s = LA a.s /\ wC a
 a_7 /\ Q0 a_7 /\ J1 a a_7 /\ AB /\ AD /\ Y0 a a_7 /\ ABX a_7 /\ yX a a_7 /\ ABI a a_7 /\ vH a_7 /\ D8 a a_7 /\ H8 a) /\ PQ a) /\
 ∀ (a_7 : KS), eZ a a_7 -> bif sV a_7 then (bif O9 a_7 then F2 a_7 /\ (ACI a a_7 /\ ∃ (a_9 : KS), (true = true /\ wS a_9 a_7 /\ C5 a_9 a_7 a /\ WD a_9 a_7 /\
 X9 a_9 a_7 a /\ P2 a_9 a_7 a /\ ADP a_9 a_7 a /\ H9 a_9 a_7 a /\ hG a a_9 a_7) /\ O6 a a_9 a_7) /\ ∀ (a_9 : KS), O6 a a_9 a_7 -> true = true /\ true = true /\
 ABN a_9 /\ true = true /\ bif ACB a_9 then ((a_9.x.z.length = a_9.x.z.length /\ ((0 : Nat) < a_9.x.z.length -> Yx)) /\ aC /\ Je /\ aR a_9 <= (9223372036854775807 : Nat) /\
 aR a_9 * (8 : Nat) <= (140737488355328 : Nat)) /\ I5 a_9 /\ ∃ (a_11 : KS), (true = true /\ a_11.x.pl = a_9.x.pl /\ ABM a_11 a_9 /\ WD a_11 a_9 /\ wA a_11 a_9 /\ AAS a_11 a_9 /\
 yW a_11 a_9 /\ vL a_11 a_9 /\ AF /\ AF /\ AF /\ AF /\ AF /\ AB /\ AD /\ AB /\ AD /\ AB /\ AD /\ AB /\ AD /\
 AB /\ AD /\ KC a.s = KC a.s /\ NN a.s = NN a.s /\ OA a.s = OA a.s /\ MA a.s = MA a.s /\ LA a.s = LA a.s /\ AB /\ VA a_11 a_9 /\ AB /\ AD /\ AB /\ VP a_11
 a_9 /\ AB /\ VL a_11 a_9 /\ AB /\ ABY a_11 a_9 /\ VA a_11 a_9 /\ Qg a_11 a_9 /\ VP a_11 a_9 /\ Qx a_11 a_9 /\ VL a_11 a_9 /\ Rg a_11 a_9 /\
 ABY a_11 a_9 /\ ∀ (i : Nat), i < a_11.x.z.length -> gD a_11.x.z i = bif decide (i < a_9.x.z.length) then gD a_9.x.z i else xF a_9) /\ Se a a_11 a_7 else ∃ (a_11 : KS), (true = true /\ a_11.x.pl =
 a_9.x.pl /\ a_11.x.tm = a_9.x.tm /\ WD a_11 a_9 /\ zX a_11 a_9 /\ L9 a_11 a_9 /\ yM a_11 a_9 /\ vF a_11 a_9 /\ hG a a_11 a_9) /\ Se a a_11 a_7 else ∃ (a_9 : KS),
 (true = true /\ a_9.x.pl = a_7.x.pl /\ a_9.x.tm = a_7.x.tm /\ WD a_9 a_7 /\ pQ a_9 a_7 /\ qQ a_9 a_7 /\ rC a_9 a_7 /\ tY a_9 a_7 /\ hG a a_9 a_7) /\ Se a a_9 a_7) /\
 U0 a a_7 /\ U0 a a_7 else ∃ (a_9 : One), (iG a a_7 /\ iB a a_7 /\ cQ a a_7 /\ dV a a_7 /\ AF /\ AF /\ AF /\ AF /\ AF /\ AB /\
 AD /\ AB /\ AD /\ AB /\ AD /\ AB /\ AD /\ AB /\ AD /\ KC a.s = KC a.s /\ NN a.s = NN a.s /\ OA a.s = OA a.s /\ MA a.s = MA a.s /\ LA a.s = LA a.s /\
 wC a a_7 /\ Q0 a_7 /\ J1 a a_7 /\ AB /\ AD /\ Y0 a a_7 /\ ABX a_7 /\ yX a a_7 /\ ABI a a_7 /\ vH a_7 /\ D8 a a_7 /\ (mS a).z.length =
 a_7.x.z.length /\ (0 : Nat) + a_7.x.z.length <= a_7.x.z.length /\ ∀ (j : Nat), j < (mS a).z.length -> gD (mS a).z j = gD a_7.x.z (Ji j)) /\ PQ a) /\ zH a /\ zH a) := by kernel_rfl
end Go.Bal
