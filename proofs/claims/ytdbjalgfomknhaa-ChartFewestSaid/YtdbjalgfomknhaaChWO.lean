/- Package chart: charts that are made of numbers, with stops; their notes as a row of one's own. -/
import Derived.Test.YtdbjalgfomknhaaChW
import Derived.Test.YtdbjalgfomknhaaChT8
set_option linter.unusedVariables false
set_option linter.unusedSimpArgs false
namespace Go.Bal
open Go Go.Sym Go.Proofs
def chO (c : Cht) : AVal := .agg [.int c.p.lo, .int c.p.hi, .int c.base, .int c.scale, .int c.off, .d (eMks c.ms), .own 0 5 0 c.ns.length]
def C_MadeO : Ctr := { lE true with val := λ a => .tup [chO (RK a), .d (eTru (vC a))], keep := λ a => [(100, Z2 (mE a).s), (0, .live (.row 5 (RK a).ns.length λ i => eNt (gD (RK a).ns i)))], pre := λ a => [wO a /\ a.b = true /\ 0 < (RK a).ns.length] }
def BQJ (a : MkI) : Prop := DN Try.prog (BHE true a) AYC (AP AYC) ((lE true).xs a) (AH ((lE true).L a)) (C_MadeO.val a) (C_MadeO.keep a) [(0, 305)] []
abbrev AEB : Prop := (1 : Int) = Int.ofNat (1 : Nat)
abbrev AQV : Prop := (12 : Int) = Int.ofNat (12 : Nat)
abbrev AFA (a : MkI) : List Int := HX a.s.bs.length λ (i : Nat) => gD a.s.bs i
abbrev ATW (a : MkI) : Nat := (AFA a).length
abbrev AQD : Prop := (400 : Int) = Int.ofNat (400 : Nat)
abbrev ASF (a : MkI) : Stm := Stm.mk (AFA a) a.s.used a.s.mix
abbrev AFC (a : MkI) : Stm := Ce (ASF a) (1 : Int) (12 : Int)
abbrev ASN (a : MkI) : List Int := (AFC a).bs
abbrev AUQ (a : MkI) : Nat := (ASN a).length
abbrev AVF (a : MkI) (i : Nat) : Int := gD (ASN a) i
abbrev uQ (a : MkI) : List Int := HX (AUQ a) λ (i : Nat) => AVF a i
abbrev AHI (a : MkI) : Nat := (uQ a).length
abbrev bB (a : MkI) : Int := (AFC a).used
abbrev pS (a : MkI) : Int := (AFC a).mix
abbrev AKV (a : MkI) : Stm := Stm.mk (uQ a) (bB a) (pS a)
abbrev tQ (a : MkI) : Stm := Ce (AKV a) (-50 : Int) (400 : Int)
abbrev ALY (a : MkI) : List Int := (tQ a).bs
abbrev AHL (a : MkI) : Nat := (ALY a).length
abbrev ALL (a : MkI) (i : Nat) : Int := gD (ALY a) i
abbrev uN (a : MkI) : List Int := HX (AHL a) λ (i : Nat) => ALL a i
abbrev AMM (a : MkI) : Nat := (uN a).length
abbrev Yw (a : MkI) : Int := (tQ a).used
abbrev rF (a : MkI) : Int := (tQ a).mix
abbrev Og : Prop := (9 : Int) = Int.ofNat (9 : Nat)
abbrev AIJ (a : MkI) : Stm := Stm.mk (uN a) (Yw a) (rF a)
abbrev pY (a : MkI) : Stm := AS (AIJ a) (12 : Int)
abbrev AIH (a : MkI) : List Int := (pY a).bs
abbrev AJN (a : MkI) : Nat := (AIH a).length
abbrev AJL (a : MkI) (i : Nat) : Int := gD (AIH a) i
abbrev pE (a : MkI) : List Int := HX (AJN a) λ (i : Nat) => AJL a i
abbrev AMJ (a : MkI) : Nat := (pE a).length
abbrev bN (a : MkI) : Int := (pY a).used
abbrev rM (a : MkI) : Int := (pY a).mix
abbrev AIS (a : MkI) : Stm := Stm.mk (pE a) (bN a) (rM a)
abbrev sJ (a : MkI) : Stm := AS (AIS a) (9 : Int)
abbrev AKZ (a : MkI) : List Int := (sJ a).bs
abbrev AG : Prop := Int.ofNat (0 : Nat) = Int.ofNat (0 : Nat)
abbrev AA : Prop := (0 : Nat) = (0 : Nat)
abbrev AE : Prop := ∀ (i : Nat), i < (0 : Nat) -> false = false
abbrev pH : Prop := AA /\ AE /\ AA /\ AE
abbrev qI (a : MkI) : List Int := HX (iW a.s).bs.length λ (i : Nat) => gD (iW a.s).bs i
abbrev AMZ (a : MkI) : Nat := (qI a).length
abbrev AHR (a : MkI) : Stm := Stm.mk (qI a) (iW a.s).used (iW a.s).mix
abbrev uD (a : MkI) : Stm := AS (AHR a) (6 : Int)
abbrev AKG (a : MkI) : List Int := (uD a).bs
abbrev qM (a : MkI) : List Int := HX (lV a.s).bs.length λ (i : Nat) => gD (lV a.s).bs i
abbrev AJK (a : MkI) : Nat := (qM a).length
abbrev AHN (a : MkI) : Stm := Stm.mk (qM a) (lV a.s).used (lV a.s).mix
abbrev uM (a : MkI) : Stm := AS (AHN a) (300 : Int)
abbrev AHQ (a : MkI) : List Int := (uM a).bs
abbrev sP (a : MkI) : Prop := AG /\ AG /\ AG /\ AG /\ AG /\ AA /\ AE /\ AA /\ AE /\ AA /\ AE /\ AA /\ AE /\ AA /\
 AE /\ KC a.s = KC a.s /\ NN a.s = NN a.s /\ OA a.s = OA a.s /\ MA a.s = MA a.s /\ LA a.s = LA a.s /\ AA /\ AE /\ AA /\ AE /\ AA /\ AE /\ pH
abbrev rG (a : MkI) : List Int := HX (kA a.s).bs.length λ (i : Nat) => gD (kA a.s).bs i
abbrev AMO (a : MkI) : Nat := (rG a).length
abbrev AIC (a : MkI) : Stm := Stm.mk (rG a) (kA a.s).used (kA a.s).mix
abbrev tO (a : MkI) : Stm := Ce (AIC a) (1 : Int) a.m
abbrev AMF (a : MkI) : List Int := (tO a).bs
abbrev Ha (i : Nat) (a : KS) : Prop := i < a.x.s.bs.length
abbrev AMK (a : KS) (a1 : MkI) : Prop := (↑a.k : Int) <= a1.m
abbrev pB (a : MkI) (a1 : KS) : Int := (7 : Int) * (a.m - (↑a1.k : Int))
abbrev oO (a : KS) (a1 : MkI) : Prop := (↑a.x.ms.length : Int) + (↑a.k : Int) <= a1.m
abbrev rZ (a : KS) : Prop := a.x.t.length = a.x.ms.length
abbrev sQ (a : KS) : Prop := a.x.st.length = a.x.ms.length
abbrev Zb (a : KS) : Nat := a.x.z.length + (1 : Nat)
abbrev AIK (a : KS) : Prop := Zb a <= a.x.ms.length
abbrev rA (a : MkI) (a1 : KS) : Prop := Ve a a1.k a1.x = mS a /\ AMK a1 a /\ StmB ((7 : Int) + pB a a1) a1.x.s /\ oO a1 a /\ rZ a1 /\ sQ a1 /\ (a1.x.z = [] ∨ AIK a1)
abbrev ALK (a : KS) : Prop := (1 : Nat) <= a.k
abbrev AKP (a : KS) : Prop := a.x.ms = [] /\ a.x.z = []
abbrev AHO (a : MkI) (a1 : KS) : Prop := rA a a1 /\ ALK a1 /\ AKP a1
abbrev rL (a : KS) : Bool := decide ((↑a.k : Int) > (0 : Int))
abbrev WC (a : KS) (a1 : KS) : Prop := (↑a.k : Int) = (↑a1.k : Int)
abbrev tJ (a : KS) (a1 : KS) : Prop := a.x.s.bs.length = a1.x.s.bs.length
abbrev tU (a : KS) (a1 : KS) : Prop := ∀ (i : Nat), Ha i a -> gD a.x.s.bs i = gD a1.x.s.bs i
abbrev qR (a : KS) (a1 : KS) : Prop := a.x.s.used = a1.x.s.used
abbrev oK (a : KS) (a1 : KS) : Prop := a.x.s.mix = a1.x.s.mix
abbrev AKU (a : KS) : Nat := a.k - (1 : Nat)
abbrev ALX (a : KS) (a1 : MkI) : Prop := ALK a /\ AMK a a1
abbrev Yd (a : MkI) (a1 : KS) : Prop := Ve a (AKU a1) (Wr a a1.x) = mS a /\ ALX a1 a /\ StmB ((11 : Int) + pB a a1) a1.x.s /\ oO a1 a /\ rZ a1 /\ sQ a1 /\ a1.x.z.length
 <= a1.x.ms.length
abbrev AMR (a : MkI) (a1 : KS) : Prop := Yd a a1 /\ (100 : Nat) = (100 : Nat) /\ AKP a1
abbrev qZ (a : KS) : List Int := HX a.x.s.bs.length λ (i : Nat) => gD a.x.s.bs i
abbrev ALZ (a : KS) : Nat := (qZ a).length
abbrev pK (a : KS) : Prop := ALZ a = a.x.s.bs.length /\ (∀ (i : Nat), i < ALZ a -> gD (qZ a) i = gD a.x.s.bs i) /\ a.x.s.used = a.x.s.used /\ a.x.s.mix = a.x.s.mix /\ (a.x.s.used - (0 :
 Int)).NonNeg
abbrev Yo (a : KS) : Prop := (60 : Int) = Int.ofNat (60 : Nat) /\ pK a
abbrev rR : Prop := (0 : Nat) < (0 : Nat)
abbrev oS : Prop := (1 : Nat) <= (1 : Nat)
abbrev Oc : Prop := (0 : Nat) < (1 : Nat)
abbrev AJE : Prop := (2 : Nat) = (2 : Nat)
abbrev ALW : Prop := oS /\ (Oc -> AJE)
abbrev tR : Prop := true = true -> Oc
abbrev qF : Prop := (1 : Nat) <= (9223372036854775807 : Nat)
abbrev bV : Prop := (1 : Nat) = (1 : Nat)
abbrev cF : Prop := oS /\ (Oc -> bV)
abbrev qN : Prop := (True /\ (rR -> (0 : Nat) = (1 : Nat))) /\ cF /\ tR /\ qF /\ (8 : Nat) <= (140737488355328 : Nat)
abbrev Gc (a : KS) : Stm := Stm.mk (qZ a) a.x.s.used a.x.s.mix
abbrev sA (a : KS) : Int := AV (Gc a) (60 : Int)
abbrev AKE (a : MkI) (a1 : KS) : Int := IntKind.i64.wrap (OA a.s + IntKind.i64.wrap (MA a.s * sA a1))
abbrev bG (a : MkI) (a1 : KS) : Int := IntKind.i64.wrap (AKE a a1 - LA a.s)
abbrev AJQ (a : MkI) (a1 : KS) : Prop := bG a a1 = bG a a1
abbrev Zn (a : MkI) (a1 : KS) : Int := IntKind.i64.wrap (AKE a a1 + LA a.s)
abbrev AIU (a : MkI) (a1 : KS) : Prop := Zn a a1 = Zn a a1
abbrev qD (a : KS) : Stm := AS (Gc a) (60 : Int)
abbrev E8 (a : KS) : List Int := (qD a).bs
abbrev AAR (a : KS) : Nat := (E8 a).length
abbrev R4 (a : KS) (i : Nat) : Int := gD (E8 a) i
abbrev eM (a : KS) : List Int := HX (AAR a) λ (i : Nat) => R4 a i
abbrev J5 (a : KS) : Nat := (eM a).length
abbrev ACL (a : KS) : Prop := J5 a = AAR a
abbrev ACU (a : KS) : Prop := ∀ (i : Nat), i < J5 a -> gD (eM a) i = R4 a i
abbrev Qe (a : KS) : Int := (qD a).used
abbrev B6 (a : KS) : Prop := Qe a = Qe a
abbrev gP (a : KS) : Int := (qD a).mix
abbrev P0 (a : KS) : Prop := gP a = gP a
abbrev K6 (a : KS) : Prop := (0 : Int) <= Qe a
abbrev dB (a : KS) (a1 : KS) : Prop := (↑a.k : Int) = IntKind.i64.wrap ((↑a1.k : Int) - (1 : Int))
abbrev E9 (a : KS) : Stm := Stm.mk (eM a) (Qe a) (gP a)
abbrev cR (a : KS) (a1 : MkI) : Stm := Ce (E9 a) (bG a1 a) (Zn a1 a)
abbrev AAA (a : KS) (a1 : MkI) : List Int := (cR a a1).bs
abbrev iQ (a : KS) (a1 : KS) (a2 : MkI) : Prop := a.x.s.bs.length = (AAA a1 a2).length
abbrev dE (a : KS) (a1 : KS) (a2 : MkI) : Prop := ∀ (i : Nat), Ha i a -> gD a.x.s.bs i = gD (AAA a1 a2) i
abbrev eP (a : KS) (a1 : KS) (a2 : MkI) : Prop := a.x.s.used = (cR a1 a2).used
abbrev iN (a : KS) (a1 : KS) (a2 : MkI) : Prop := a.x.s.mix = (cR a1 a2).mix
abbrev H5 (a : KS) : Prop := a.x.ms.length = (1 : Nat)
abbrev S4 (a : KS) : Prop := a.x.t.length = (1 : Nat)
abbrev G5 (a : KS) : Prop := a.x.st.length = (1 : Nat)
abbrev ADN (a : KS) (a1 : MkI) : Int := Lf (E9 a) (bG a1 a) (Zn a1 a)
abbrev V5 (a : KS) : Prop := (1 : Nat) <= a.x.ms.length
abbrev xZ (a : KS) : Prop := V5 a /\ a.x.z = []
abbrev hC (a : MkI) (a1 : KS) : Prop := rA a a1 /\ xZ a1
abbrev YW (a : KS) : Nat := a.k + (20 : Nat)
abbrev cP (a : MkI) (a1 : KS) : Prop := (mS a).s.bs.length = a1.x.s.bs.length
abbrev fF (a : MkI) (a1 : KS) : Prop := ∀ (i : Nat), i < (mS a).s.bs.length -> gD (mS a).s.bs i = gD a1.x.s.bs i
abbrev iD (a : MkI) (a1 : KS) : Prop := (mS a).s.used = a1.x.s.used
abbrev dG (a : MkI) (a1 : KS) : Prop := (mS a).s.mix = a1.x.s.mix
abbrev R3 (a : MkI) : Prop := (mS a).ms.length = (0 : Nat)
abbrev S8 (a : MkI) : Prop := (mS a).t.length = (0 : Nat)
abbrev ADM (a : MkI) : Prop := (mS a).st.length = (0 : Nat)
abbrev ADB (a : MkI) : Prop := (mS a).z.length = (0 : Nat)
abbrev D3 (a : MkI) : Prop := ADB a /\ ADB a
abbrev PD (a : MkI) : Prop := Ve a (0 : Nat) (mS a) = mS a /\ (↑(0 : Nat) : Int) <= a.m /\ StmB ((7 : Int) + (7 : Int) * (a.m - (↑(0 : Nat) : Int))) (mS a).s /\ (↑(mS a).ms.length : Int) + (↑(0 : Nat) : Int) <= a.m
 /\ (mS a).t.length = (mS a).ms.length /\ (mS a).st.length = (mS a).ms.length /\ ((mS a).z = [] ∨ (mS a).z.length + (1 : Nat) <= (mS a).ms.length)
abbrev Z8 (a : KS) : Bool := decide ((↑a.x.ms.length : Int) > (0 : Int))
abbrev D0 (a : KS) : Prop := AEB /\ (30 : Int) = Int.ofNat (30 : Nat) /\ pK a
abbrev cI (a : KS) : Int := Lf (Gc a) (1 : Int) (30 : Int)
abbrev Rm (a : MkI) (a1 : KS) : Int := IntKind.i64.wrap (KC a.s * cI a1)
abbrev Sl (a : MkI) (a1 : KS) : Int := IntKind.i64.wrap (NN a.s * cI a1)
abbrev fB (a : KS) : Stm := Ce (Gc a) (1 : Int) (30 : Int)
abbrev F0 (a : KS) : List Int := (fB a).bs
abbrev K4 (a : KS) : Nat := (F0 a).length
abbrev vN (a : KS) (i : Nat) : Int := gD (F0 a) i
abbrev iJ (a : KS) : List Int := HX (K4 a) λ (i : Nat) => vN a i
abbrev G4 (a : KS) : Nat := (iJ a).length
abbrev Ql (a : KS) : Int := (fB a).used
abbrev gE (a : KS) : Int := (fB a).mix
abbrev ACR (a : MkI) (a1 : KS) : Prop := Rm a a1 = Rm a a1 /\ Sl a a1 = Sl a a1 /\ G4 a1 = K4 a1 /\ (∀ (i : Nat), i < G4 a1 -> gD (iJ a1) i =
 vN a1 i) /\ Ql a1 = Ql a1 /\ gE a1 = gE a1 /\ (Ql a1 - (0 : Int)).NonNeg
abbrev Z5 (a : KS) (a1 : KS) : Prop := a.x.pl = IntKind.i64.wrap (a1.x.pl + cI a1)
abbrev I8 (a : KS) : Stm := Stm.mk (iJ a) (Ql a) (gE a)
abbrev ADA (a : KS) (a1 : KS) (a2 : MkI) : Prop := a.x.tm = IntKind.i64.wrap (a1.x.tm + Lf (I8 a1) (Rm a2 a1) (Sl a2 a1))
abbrev iR (a : KS) (a1 : MkI) : Stm := Ce (I8 a) (Rm a1 a) (Sl a1 a)
abbrev C9 (a : KS) (a1 : MkI) : List Int := (iR a a1).bs
abbrev xQ (a : KS) (a1 : KS) (a2 : MkI) : Prop := a.x.s.bs.length = (C9 a1 a2).length
abbrev M4 (a : KS) (a1 : KS) (a2 : MkI) : Prop := ∀ (i : Nat), Ha i a -> gD a.x.s.bs i = gD (C9 a1 a2) i
abbrev D7 (a : KS) (a1 : KS) (a2 : MkI) : Prop := a.x.s.used = (iR a1 a2).used
abbrev ABK (a : KS) (a1 : KS) (a2 : MkI) : Prop := a.x.s.mix = (iR a1 a2).mix
abbrev VN (a : KS) (a1 : KS) : Prop := a.x.ms.length = a1.x.ms.length
abbrev VH (a : KS) (a1 : KS) : Prop := a.x.t.length = a1.x.t.length
abbrev VF (a : KS) (a1 : KS) : Prop := a.x.st.length = a1.x.st.length
abbrev Qf (a : KS) (a1 : KS) : Prop := ∀ (i : Nat), i < a.x.ms.length -> (gD a.x.ms i).pl = (gD a1.x.ms i).pl /\ (gD a.x.ms i).ht = (gD a1.x.ms i).ht
abbrev Qy (a : KS) (a1 : KS) : Prop := ∀ (i : Nat), i < a.x.t.length -> gD a.x.t i = gD a1.x.t i
abbrev Rh (a : KS) (a1 : KS) : Prop := ∀ (i : Nat), i < a.x.st.length -> gD a.x.st i = gD a1.x.st i
abbrev hZ (a : MkI) (a1 : KS) (a2 : KS) : Prop := AG /\ AG /\ AG /\ AG /\ AG /\ AA /\ AE /\ AA /\ AE /\ AA /\ AE /\ AA /\
 AE /\ AA /\ AE /\ KC a.s = KC a.s /\ NN a.s = NN a.s /\ OA a.s = OA a.s /\ MA a.s = MA a.s /\ LA a.s = LA a.s /\ AA /\ VN a1 a2 /\ AA /\ AE /\ AA /\
 VH a1 a2 /\ AA /\ VF a1 a2 /\ AA /\ AE /\ VN a1 a2 /\ Qf a1 a2 /\ VH a1 a2 /\ Qy a1 a2 /\ VF a1 a2 /\ Rh a1 a2
abbrev zP (a : MkI) (a1 : KS) : Prop := Ve a (AKU a1) (Wr a (cG a a1.x)) = mS a /\ ALX a1 a /\ StmB ((9 : Int) + pB a a1) a1.x.s /\ oO a1 a /\ rZ a1 /\ sQ a1 /\
 AIK a1
abbrev ACM (a : KS) (a1 : KS) : Prop := YW a <= YW a1 /\ xZ a
abbrev M1 (a : MkI) (a1 : KS) (a2 : KS) : Prop := zP a a1 /\ ACM a1 a2
abbrev wI (a : KS) : Prop := (5 : Int) = Int.ofNat (5 : Nat) /\ pK a
abbrev K9 (a : KS) : Bool := bif true then AV (Gc a) (5 : Int) == (0 : Int) else false
abbrev eQ (a : KS) : Stm := AS (Gc a) (5 : Int)
abbrev H7 (a : KS) : List Int := (eQ a).bs
abbrev fV (a : KS) : Nat := (H7 a).length
abbrev gN (a : KS) (i : Nat) : Int := gD (H7 a) i
abbrev gJ (a : KS) : List Int := HX (fV a) λ (i : Nat) => gN a i
abbrev W5 (a : KS) : Nat := (gJ a).length
abbrev Il (a : KS) : Int := (eQ a).used
abbrev Qz (a : KS) : Int := (eQ a).mix
abbrev T7 (a : KS) : Prop := AQD /\ W5 a = fV a /\ (∀ (i : Nat), i < W5 a -> gD (gJ a) i = gN a i) /\ Il a = Il a /\ Qz a = Qz a
 /\ (Il a - (0 : Int)).NonNeg
abbrev T8 (a : KS) : Stm := Stm.mk (gJ a) (Il a) (Qz a)
abbrev xM (a : KS) (a1 : KS) : Prop := a.x.tm = IntKind.i64.wrap (a1.x.tm + AV (T8 a1) (400 : Int))
abbrev dW (a : KS) : Stm := AS (T8 a) (400 : Int)
abbrev R7 (a : KS) : List Int := (dW a).bs
abbrev ACO (a : KS) (a1 : KS) : Prop := a.x.s.bs.length = (R7 a1).length
abbrev W9 (a : KS) (a1 : KS) : Prop := ∀ (i : Nat), Ha i a -> gD a.x.s.bs i = gD (R7 a1) i
abbrev ADR (a : KS) (a1 : KS) : Prop := a.x.s.used = (dW a1).used
abbrev P5 (a : KS) (a1 : KS) : Prop := a.x.s.mix = (dW a1).mix
abbrev Y8 (a : KS) : Prop := a.x.z.length = (1 : Nat)
abbrev wZ (a : KS) : Int := IntKind.i64.wrap ((↑a.x.ms.length : Int) - (1 : Int))
abbrev iS (a : KS) : Prop := V5 a /\ (1 : Nat) <= a.x.z.length
abbrev A2 (a : MkI) (a1 : KS) (a2 : KS) : Prop := Yd a a1 /\ a1.k <= YW a2 /\ iS a1
abbrev Y6 (a : KS) (a1 : KS) : Prop := a.x.s.bs.length = fV a1
abbrev xA (a : KS) (a1 : KS) : Prop := ∀ (i : Nat), Ha i a -> gD a.x.s.bs i = gN a1 i
abbrev yO (a : KS) (a1 : KS) : Prop := a.x.s.used = Il a1
abbrev U4 (a : KS) (a1 : KS) : Prop := a.x.s.mix = Qz a1
abbrev eW (a : MkI) (a1 : KS) (a2 : KS) : Prop := Yd a a1 /\ ACM a1 a2
abbrev Ja : Prop := false = true -> Oc
abbrev gC (a : KS) : Nat := a.x.ms.length + (1 : Nat)
abbrev eH (a : KS) : Nat := a.x.t.length + (1 : Nat)
abbrev gX (a : KS) : Nat := a.x.st.length + (1 : Nat)
abbrev fL (a : KS) (a1 : MkI) : Prop := ((a.x.ms.length = a.x.ms.length /\ ((0 : Nat) < a.x.ms.length -> AJE)) /\ ALW /\ Ja /\ gC a <= (9223372036854775807 : Nat) /\ gC a * (16
 : Nat) <= (140737488355328 : Nat)) /\ ((a.x.t.length = a.x.t.length /\ ((0 : Nat) < a.x.t.length -> bV)) /\ cF /\ Ja /\ eH a <= (9223372036854775807 : Nat) /\ eH a * (8 : Nat) <=
 (140737488355328 : Nat)) /\ AJQ a1 a /\ AIU a1 a /\ ACL a /\ ACU a /\ B6 a /\ P0 a /\ K6 a /\ (a.x.st.length = a.x.st.length /\ ((0 : Nat) < a.x.st.length -> bV)) /\
 cF /\ Ja /\ gX a <= (9223372036854775807 : Nat) /\ gX a * (8 : Nat) <= (140737488355328 : Nat)
abbrev Qh (a : KS) (a1 : KS) : Prop := a.x.ms.length = gC a1
abbrev Rl (a : KS) (a1 : KS) : Prop := a.x.t.length = eH a1
abbrev Sj (a : KS) (a1 : KS) : Prop := a.x.st.length = gX a1
abbrev V3 (i : Nat) (a : KS) : Bool := decide (i < a.x.ms.length)
abbrev xO (a : KS) (a1 : KS) : Prop := ∀ (i : Nat), i < a.x.ms.length -> ((gD a.x.ms i).pl = bif V3 i a1 then (gD a1.x.ms i).pl else a1.x.pl) /\ (gD a.x.ms i).ht = bif V3 i a1 then (gD a1.x.ms
 i).ht else sA a1
abbrev W8 (a : KS) (a1 : KS) : Prop := ∀ (i : Nat), i < a.x.t.length -> gD a.x.t i = bif decide (i < a1.x.t.length) then gD a1.x.t i else a1.x.tm
abbrev A3 (a : KS) (a1 : KS) (a2 : MkI) : Prop := ∀ (i : Nat), i < a.x.st.length -> gD a.x.st i = bif decide (i < a1.x.st.length) then gD a1.x.st i else ADN a1 a2
abbrev dU (a : KS) (a1 : KS) : Prop := a.x.z.length = a1.x.z.length
abbrev R5 (a : KS) (a1 : KS) : Prop := dU a a1 /\ ∀ (i : Nat), i < a.x.z.length -> gD a.x.z i = gD a1.x.z i
abbrev U3 (a : KS) (a1 : KS) (a2 : MkI) : Prop := true = true /\ a.x.pl = a1.x.pl /\ a.x.tm = a1.x.tm /\ dB a a1 /\ iQ a a1 a2 /\ dE a a1 a2 /\ eP a a1 a2 /\ iN a a1 a2 /\
 AG /\ AG /\ AG /\ AG /\ AG /\ AA /\ AE /\ AA /\ AE /\ AA /\ AE /\ AA /\ AE /\ AA /\ AE /\ KC a2.s = KC a2.s /\ NN
 a2.s = NN a2.s /\ OA a2.s = OA a2.s /\ MA a2.s = MA a2.s /\ LA a2.s = LA a2.s /\ AA /\ Qh a a1 /\ AA /\ AE /\ AA /\ Rl a a1 /\ AA /\ Sj a a1 /\ AA /\
 dU a a1 /\ Qh a a1 /\ xO a a1 /\ Rl a a1 /\ W8 a a1 /\ Sj a a1 /\ A3 a a1 a2 /\ R5 a a1
abbrev cJ (a : MkI) (a1 : KS) : Prop := rA a a1 /\ iS a1
abbrev T3 (a : MkI) (a1 : KS) : Prop := (mS a).ms.length = a1.x.ms.length
abbrev A6 (a : KS) : Prop := (0 : Nat) + a.x.ms.length <= a.x.ms.length
abbrev Ru (j : Nat) : Nat := (0 : Nat) + j
abbrev xT (a : KS) (j : Nat) : Mk := gD a.x.ms (Ru j)
abbrev wG (a : MkI) (a1 : KS) : Prop := ∀ (j : Nat), j < (mS a).ms.length -> (gD (mS a).ms j).pl = (xT a1 j).pl /\ (gD (mS a).ms j).ht = (xT a1 j).ht
abbrev yU (a : MkI) (a1 : KS) : Prop := (mS a).t.length = a1.x.t.length
abbrev N7 (a : KS) : Prop := (0 : Nat) + a.x.t.length <= a.x.t.length
abbrev AAB (a : MkI) (a1 : KS) : Prop := ∀ (j : Nat), j < (mS a).t.length -> gD (mS a).t j = gD a1.x.t (Ru j)
abbrev wE (a : MkI) (a1 : KS) : Prop := (mS a).st.length = a1.x.st.length
abbrev V4 (a : KS) : Prop := (0 : Nat) + a.x.st.length <= a.x.st.length
abbrev I1 (a : MkI) (a1 : KS) : Prop := ∀ (j : Nat), j < (mS a).st.length -> gD (mS a).st j = gD a1.x.st (Ru j)
abbrev dD (a : MkI) (a1 : KS) (a2 : KS) : Prop := AG /\ AG /\ AG /\ AG /\ AG /\ AA /\ AE /\ AA /\ AE /\ AA /\ AE /\ AA /\
 AE /\ AA /\ AE /\ KC a.s = KC a.s /\ NN a.s = NN a.s /\ OA a.s = OA a.s /\ MA a.s = MA a.s /\ LA a.s = LA a.s /\ AA /\ VN a1 a2 /\ AA /\ AE /\ AA /\
 VH a1 a2 /\ AA /\ VF a1 a2 /\ AA /\ dU a1 a2 /\ VN a1 a2 /\ Qf a1 a2 /\ VH a1 a2 /\ Qy a1 a2 /\ VF a1 a2 /\ Rh a1 a2 /\ R5 a1
 a2
abbrev H4 (a : KS) (a1 : KS) : Prop := a.k <= a1.k /\ iS a
abbrev vU (a : MkI) (a1 : KS) (a2 : KS) : Prop := zP a a1 /\ H4 a1 a2
abbrev zZ (a : KS) (a1 : KS) : Prop := a.x.z.length = Zb a1
abbrev Qn (a : MkI) (a1 : KS) (a2 : KS) : Prop := Yd a a1 /\ H4 a1 a2
abbrev V7 (a : MkI) (a1 : KS) : Prop := ∀ (a_1 : KS), Qn a a_1 a1 -> Yo a_1 /\ fL a_1 a /\ ∃ (a_3 : KS), U3 a_3 a_1 a /\ cJ a a_3 /\ a_3.k < a1.k
abbrev Cx (i : Nat) (a : KN) : Prop := i < a.x.s.bs.length
abbrev SQ (a : MkI) : Prop := (mS a).ms.length = (mS a).ms.length
abbrev RZ (a : MkI) : Prop := ∀ (i : Nat), i < (mS a).ms.length -> (gD (mS a).ms i).pl = (gD (mS a).ms i).pl /\ (gD (mS a).ms i).ht = (gD (mS a).ms i).ht
abbrev SF (a : MkI) : Prop := (mS a).t.length = (mS a).t.length
abbrev SD (a : MkI) : Prop := ∀ (i : Nat), i < (mS a).t.length -> gD (mS a).t i = gD (mS a).t i
abbrev SI (a : MkI) : Prop := (mS a).st.length = (mS a).st.length
abbrev RX (a : MkI) : Prop := ∀ (i : Nat), i < (mS a).st.length -> gD (mS a).st i = gD (mS a).st i
abbrev SM (a : MkI) : Prop := (mS a).z.length = (mS a).z.length
abbrev RV (a : MkI) : Prop := ∀ (i : Nat), i < (mS a).z.length -> gD (mS a).z i = gD (mS a).z i
abbrev Cs (a : MkI) : Prop := AG /\ AG /\ AG /\ AG /\ AG /\ AA /\ AE /\ AA /\ AE /\ AA /\ AE /\ AA /\ AE /\ AA /\
 AE /\ KC a.s = KC a.s /\ NN a.s = NN a.s /\ OA a.s = OA a.s /\ MA a.s = MA a.s /\ LA a.s = LA a.s /\ SQ a /\ RZ a /\ AA /\ AE /\ SF a /\ SD a /\ SI a /\
 RX a /\ SM a /\ RV a
abbrev eX (a : MkI) : Int := (7 : Int) * a.m
abbrev P8 (a : MkI) : Int := (7 : Int) + eX a
abbrev yN (a : KN) : Int := (5 : Int) * (↑a.i : Int)
abbrev G8 (a : MkI) (a1 : KN) : Prop := PD a /\ a1.i <= (mS a).ms.length /\ StmB (P8 a + yN a1) a1.x.s /\ mkN a ((mS a).ms.length - a1.i) a1.i a1.x = PT a /\ a1.x.ns.length <= a1.i
abbrev eY (a : MkI) (a1 : KN) : Prop := G8 a a1 /\ a1.x.ns = []
abbrev ACN (a : KN) (a1 : MkI) : Bool := decide ((↑a.i : Int) < (↑(mS a1).ms.length : Int))
abbrev dL (a : KN) : List Int := HX a.x.s.bs.length λ (i : Nat) => gD a.x.s.bs i
abbrev wF (a : KN) : Nat := (dL a).length
abbrev ACA (a : KN) : Prop := wF a = a.x.s.bs.length /\ (∀ (i : Nat), i < wF a -> gD (dL a) i = gD a.x.s.bs i) /\ a.x.s.used = a.x.s.used /\ a.x.s.mix = a.x.s.mix /\ (a.x.s.used - (0 :
 Int)).NonNeg
abbrev C3 (a : KN) : Prop := (2 : Int) = Int.ofNat (2 : Nat) /\ ACA a
abbrev Q2 (a : KNb) (a1 : KN) : Prop := (↑a.i : Int) = (↑a1.i : Int)
abbrev Sp (a : KN) : Stm := Stm.mk (dL a) a.x.s.used a.x.s.mix
abbrev ABZ (a : KNb) (a1 : KN) : Prop := a.b = (AV (Sp a1) (2 : Int) == (0 : Int))
abbrev cM (a : KN) : Stm := AS (Sp a) (2 : Int)
abbrev yS (a : KN) : List Int := (cM a).bs
abbrev wQ (a : KNb) (a1 : KN) : Prop := a.x.s.bs.length = (yS a1).length
abbrev B7 (a : KNb) (a1 : KN) : Prop := ∀ (i : Nat), i < a.x.s.bs.length -> gD a.x.s.bs i = gD (yS a1) i
abbrev K5 (a : KNb) (a1 : KN) : Prop := a.x.s.used = (cM a1).used
abbrev wM (a : KNb) (a1 : KN) : Prop := a.x.s.mix = (cM a1).mix
abbrev Iu (a : KN) : Nat := (100 : Nat) - a.i
abbrev vR (a : KNb) : Nat := a.i + (1 : Nat)
abbrev ABG (a : MkI) (a1 : KNb) (a2 : KN) : Prop := PD a /\ (a1.i < (mS a).ms.length /\ (100 : Nat) - a1.i = Iu a2) /\ StmB ((8 : Int) + eX a + (5 : Int) * (↑a1.i : Int)) a1.x.s /\ mkN a
 ((mS a).ms.length - vR a1) (vR a1) (addN a a1.b a1.i a1.x) = PT a /\ a1.x.ns.length <= a1.i
abbrev ADI (a : MkI) (a1 : KNb) (a2 : KN) : Prop := ABG a a1 a2 /\ a1.x.ns = []
abbrev E3 (a : KNb) : Prop := (0 : Int) <= (↑a.i : Int)
abbrev Qk (a : KNb) (a1 : MkI) : Prop := E3 a /\ (↑a.i : Int) < (↑(mS a1).t.length : Int)
abbrev Sf : Prop := (40 : Int) = Int.ofNat (40 : Nat)
abbrev eO (a : KNb) : List Int := HX a.x.s.bs.length λ (i : Nat) => gD a.x.s.bs i
abbrev L2 (a : KNb) : Nat := (eO a).length
abbrev B9 (a : KNb) : Prop := L2 a = a.x.s.bs.length
abbrev yR (a : KNb) : Prop := ∀ (i : Nat), i < L2 a -> gD (eO a) i = gD a.x.s.bs i
abbrev J0 (a : KNb) : Prop := a.x.s.used = a.x.s.used
abbrev N0 (a : KNb) : Prop := a.x.s.mix = a.x.s.mix
abbrev Z6 (a : KNb) : Prop := (0 : Int) <= a.x.s.used
abbrev O4 (a : KNb) : Stm := Stm.mk (eO a) a.x.s.used a.x.s.mix
abbrev cX (a : KNb) : Stm := AS (O4 a) (40 : Int)
abbrev W2 (a : KNb) : List Int := (cX a).bs
abbrev T4 (a : KNb) : Nat := (W2 a).length
abbrev wK (a : KNb) (i : Nat) : Int := gD (W2 a) i
abbrev cK (a : KNb) : List Int := HX (T4 a) λ (i : Nat) => wK a i
abbrev ADD (a : KNb) : Nat := (cK a).length
abbrev vV (a : KNb) : Prop := ADD a = T4 a
abbrev D4 (a : KNb) : Prop := ∀ (i : Nat), i < ADD a -> gD (cK a) i = wK a i
abbrev Rq (a : KNb) : Int := (cX a).used
abbrev M8 (a : KNb) : Prop := Rq a = Rq a
abbrev gB (a : KNb) : Int := (cX a).mix
abbrev V6 (a : KNb) : Prop := gB a = gB a
abbrev AAC (a : KNb) : Prop := (0 : Int) <= Rq a
abbrev Rs (a : KNb) (a1 : MkI) : Prop := E3 a /\ (↑a.i : Int) < (↑(mS a1).st.length : Int)
abbrev AAN (a : KNb) : Stm := Stm.mk (cK a) (Rq a) (gB a)
abbrev cT (a : KNb) : Stm := AS (AAN a) (40 : Int)
abbrev F9 (a : KNb) : List Int := (cT a).bs
abbrev ADE (a : KNb) : Nat := (F9 a).length
abbrev N1 (a : KNb) (i : Nat) : Int := gD (F9 a) i
abbrev hJ (a : KNb) : List Int := HX (ADE a) λ (i : Nat) => N1 a i
abbrev AAL (a : KNb) : Nat := (hJ a).length
abbrev P6 (a : KNb) : Prop := AAL a = ADE a
abbrev wX (a : KNb) : Prop := ∀ (i : Nat), i < AAL a -> gD (hJ a) i = N1 a i
abbrev Re (a : KNb) : Int := (cT a).used
abbrev L8 (a : KNb) : Prop := Re a = Re a
abbrev eT (a : KNb) : Int := (cT a).mix
abbrev ABF (a : KNb) : Prop := eT a = eT a
abbrev O2 (a : KNb) : Prop := (0 : Int) <= Re a
abbrev F1 (a : KNb) : Stm := Stm.mk (hJ a) (Re a) (eT a)
abbrev cZ (a : KNb) : Stm := AS (F1 a) (9 : Int)
abbrev wR (a : KNb) : List Int := (cZ a).bs
abbrev ACT (a : KNb) : Nat := (wR a).length
abbrev C7 (a : KNb) (i : Nat) : Int := gD (wR a) i
abbrev gR (a : KNb) : List Int := HX (ACT a) λ (i : Nat) => C7 a i
abbrev zU (a : KNb) : Nat := (gR a).length
abbrev I7 (a : KNb) : Prop := zU a = ACT a
abbrev H6 (a : KNb) : Prop := ∀ (i : Nat), i < zU a -> gD (gR a) i = C7 a i
abbrev Rv (a : KNb) : Int := (cZ a).used
abbrev J9 (a : KNb) : Prop := Rv a = Rv a
abbrev iA (a : KNb) : Int := (cZ a).mix
abbrev AAD (a : KNb) : Prop := iA a = iA a
abbrev L5 (a : KNb) : Prop := (0 : Int) <= Rv a
abbrev T1 : Prop := (5 : Nat) = (5 : Nat)
abbrev Z4 : Prop := oS /\ (Oc -> T1)
abbrev Rr (a : KN) (a1 : KNb) : Prop := (↑a.i : Int) = (↑a1.i : Int)
abbrev C8 (a : KNb) : Stm := Stm.mk (gR a) (Rv a) (iA a)
abbrev dY (a : KNb) : Stm := AS (C8 a) (9 : Int)
abbrev xP (a : KNb) : List Int := (dY a).bs
abbrev Q6 (a : KN) (a1 : KNb) : Prop := a.x.s.bs.length = (xP a1).length
abbrev F8 (a : KN) (a1 : KNb) : Prop := ∀ (i : Nat), Cx i a -> gD a.x.s.bs i = gD (xP a1) i
abbrev W7 (a : KN) (a1 : KNb) : Prop := a.x.s.used = (dY a1).used
abbrev zL (a : KN) (a1 : KNb) : Prop := a.x.s.mix = (dY a1).mix
abbrev C1 (a : KN) : Prop := a.x.ns.length = (1 : Nat)
abbrev R0 (a : MkI) (a1 : KNb) : Int := TM (0 : Int) (IntKind.i64.wrap (gD (mS a).t a1.i - AV (O4 a1) (40 : Int)))
abbrev ACY (a : MkI) (a1 : KNb) : Int := IntKind.i64.wrap (gD (mS a).t a1.i + AV (AAN a1) (40 : Int))
abbrev ABW (a : MkI) (a1 : KNb) : Int := IntKind.i64.wrap (gD (mS a).st a1.i - AV (F1 a1) (9 : Int))
abbrev xD (a : MkI) (a1 : KNb) : Int := IntKind.i64.wrap (gD (mS a).st a1.i + AV (C8 a1) (9 : Int))
abbrev eK (a : KN) : Nat := a.i + (1 : Nat)
abbrev ADK (a : MkI) (a1 : KN) (a2 : KN) : Prop := PD a /\ (a1.i < (mS a).ms.length /\ Iu a1 = Iu a2) /\ StmB ((12 : Int) + eX a + yN a1) a1.x.s /\ mkN a ((mS a).ms.length
 - eK a1) (eK a1) a1.x = PT a /\ a1.x.ns.length <= eK a1
abbrev ABL (a : KN) : Prop := (1 : Nat) <= a.x.ns.length
abbrev Rp (a : MkI) (a1 : KN) (a2 : KN) : Prop := ADK a a1 a2 /\ ABL a1
abbrev I9 (a : KN) (a1 : KNb) : Prop := a.x.s.bs.length = a1.x.s.bs.length
abbrev xR (a : KN) (a1 : KNb) : Prop := ∀ (i : Nat), Cx i a -> gD a.x.s.bs i = gD a1.x.s.bs i
abbrev wY (a : KN) (a1 : KNb) : Prop := a.x.s.used = a1.x.s.used
abbrev U7 (a : KN) (a1 : KNb) : Prop := a.x.s.mix = a1.x.s.mix
abbrev ACD (a : MkI) (a1 : KN) (a2 : KN) : Prop := ADK a a1 a2 /\ a1.x.ns = []
abbrev Jm (a : KN) : Int := IntKind.i64.wrap ((↑a.i : Int) + (1 : Int))
abbrev N3 (a : KN) (a1 : KN) : Prop := (↑a.i : Int) = Jm a1
abbrev K1 (a : KN) (a1 : KN) : Prop := a.x.s.bs.length = a1.x.s.bs.length
abbrev zT (a : KN) (a1 : KN) : Prop := ∀ (i : Nat), Cx i a -> gD a.x.s.bs i = gD a1.x.s.bs i
abbrev wU (a : KN) (a1 : KN) : Prop := a.x.s.used = a1.x.s.used
abbrev yK (a : KN) (a1 : KN) : Prop := a.x.s.mix = a1.x.s.mix
abbrev zO (a : KN) (a1 : KN) : Prop := Iu a < Iu a1
abbrev Qo (a : KN) (a1 : KN) : Prop := a.x.ns.length = a1.x.ns.length
abbrev zV (a : MkI) (a1 : KN) : Prop := G8 a a1 /\ ABL a1
abbrev fA (a : MkI) (a1 : KN) : Prop := ∀ (a_1 : KN), Rp a a_1 a1 -> ∃ (a_3 : KN), (N3 a_3 a_1 /\ K1 a_3 a_1 /\ zT a_3 a_1 /\ wU a_3 a_1 /\ yK a_3 a_1 /\
 AG /\ AG /\ AG /\ AG /\ AG /\ AA /\ AE /\ AA /\ AE /\ AA /\ AE /\ AA /\ AE /\ AA /\ AE /\ KC a.s = KC a.s /\ NN
 a.s = NN a.s /\ OA a.s = OA a.s /\ MA a.s = MA a.s /\ LA a.s = LA a.s /\ SQ a /\ RZ a /\ AA /\ Qo a_3 a_1 /\ SF a /\ SD a /\ SI a /\ RX a /\ SM a
 /\ RV a /\ Qo a_3 a_1 /\ ∀ (i : Nat), i < a_3.x.ns.length -> (gD a_3.x.ns i).mi = (gD a_1.x.ns i).mi /\ (gD a_3.x.ns i).t.lo = (gD a_1.x.ns i).t.lo /\ (gD a_3.x.ns i).t.hi = (gD a_1.x.ns i).t.hi /\ (gD
 a_3.x.ns i).s.lo = (gD a_1.x.ns i).s.lo /\ (gD a_3.x.ns i).s.hi = (gD a_1.x.ns i).s.hi) /\ zV a a_3 /\ zO a_3 a1
abbrev M5 (a : MkI) (a1 : KN) : Prop := (PT a).s.bs.length = a1.x.s.bs.length
abbrev ACQ (a : MkI) (a1 : KN) : Prop := ∀ (i : Nat), i < (PT a).s.bs.length -> gD (PT a).s.bs i = gD a1.x.s.bs i
abbrev O0 (a : MkI) (a1 : KN) : Prop := (PT a).s.used = a1.x.s.used
abbrev vY (a : MkI) (a1 : KN) : Prop := (PT a).s.mix = a1.x.s.mix
abbrev O8 (a : MkI) : Prop := PD a /\ (PT a).ns = []
abbrev yJ (a : KNb) (a1 : KN) : Prop := a.x.ns.length = a1.x.ns.length
abbrev R1 (a : MkI) (a1 : KNb) (a2 : KN) : Prop := ABG a a1 a2 /\ (1 : Nat) <= a1.x.ns.length
abbrev fC (a : KNb) : Nat := a.x.ns.length + (1 : Nat)
abbrev xH (a : KN) (a1 : KNb) : Prop := a.x.ns.length = fC a1
abbrev Jj (i : Nat) (a : KNb) : Bool := decide (i < a.x.ns.length)
abbrev ABQ (a : KN) (a1 : KNb) : Prop := a.x.ns.length = a1.x.ns.length
abbrev ABP (a : MkI) (a1 : KN) : Prop := (PT a).ns.length = a1.x.ns.length
abbrev zC (a : MkI) : Int := P8 a + (5 : Int) * a.m
abbrev J8 (a : MkI) : Prop := PD a /\ StmB (zC a) (PT a).s /\ (1 : Nat) <= (PT a).ns.length /\ (↑(PT a).ns.length : Int) <= a.m
abbrev S3 (i : Nat) (a : MkI) : Prop := i < (mE a).s.bs.length
abbrev AAJ (a : KN) (a1 : MkI) : Prop := a.x.ns.length = (PT a1).ns.length
abbrev fK (a : MkI) (a1 : KN) : Prop := PD a /\ a1.i < a1.x.ns.length /\ StmB (zC a + a.m - (↑a1.i : Int)) a1.x.s /\ shK a1.i a1.x = mE a /\ (↑a1.x.ns.length : Int) <= a.m
abbrev iP (a : KN) : Int := AV (Sp a) (Jm a)
abbrev vX (a : KN) : Prop := (0 : Int) <= iP a /\ iP a < (↑a.x.ns.length : Int)
abbrev Qw (a : KN) : Nat := (0 : Nat) + (iP a).toNat
abbrev R6 (a : KN) : Prop := (0 : Int) <= (↑a.i : Int) /\ (↑a.i : Int) < (↑a.x.ns.length : Int)
abbrev fI (a : KN) : Nat := (0 : Nat) + a.i
abbrev yD (a : KN) : Prop := fI a < a.x.ns.length
abbrev fJ (a : KN) : Stm := AS (Sp a) (Jm a)
abbrev ACZ (a : KN) : List Int := (fJ a).bs
abbrev Iq (i : Nat) (a : KN) : Bool := decide (i = Qw a)
abbrev fP (a : KN) : Nt := gD a.x.ns (fI a)
abbrev Jg (i : Nat) (a : KN) : Bool := decide (i = fI a)
abbrev cU (a : KN) : Nt := gD a.x.ns (Qw a)
abbrev N9 (a : KN) : Span := (fP a).t
abbrev ADF (a : KN) : Span := (cU a).t
abbrev ABU (a : KN) : Span := (fP a).s
abbrev Q4 (a : KN) : Span := (cU a).s
abbrev zR (a : MkI) (a1 : KN) : Prop := (RK a).ns.length = a1.x.ns.length
abbrev Z3 (a : MkI) : Prop := ∀ (a_1 : One), PD a -> ((∃ (a_3 : KN), ((↑a_3.i : Int) = (0 : Int) /\ a_3.x.s.bs.length = (mS a).s.bs.length /\ (∀ (i : Nat), Cx i a_3 -> gD a_3.x.s.bs i = gD (mS
 a).s.bs i) /\ a_3.x.s.used = (mS a).s.used /\ a_3.x.s.mix = (mS a).s.mix /\ Cs a) /\ eY a a_3) /\ (∀ (a_3 : KN), eY a a_3 -> bif bif ACN a_3 a then decide ((↑(0 : Nat) : Int) < (20 : Int))
 else false then ((C3 a_3 /\ ∃ (a_5 : KNb), (Q2 a_5 a_3 /\ ABZ a_5 a_3 /\ wQ a_5 a_3 /\ B7 a_5 a_3 /\ K5 a_5 a_3 /\ wM a_5 a_3 /\ Cs a) /\ ADI a a_5
 a_3) /\ ∀ (a_5 : KNb), ADI a a_5 a_3 -> bif a_5.b then (Qk a_5 a /\ Sf /\ B9 a_5 /\ yR a_5 /\ J0 a_5 /\ N0 a_5 /\ Z6 a_5 /\ Qk a_5 a /\ Sf /\
 vV a_5 /\ D4 a_5 /\ M8 a_5 /\ V6 a_5 /\ AAC a_5 /\ Rs a_5 a /\ Og /\ P6 a_5 /\ wX a_5 /\ L8 a_5 /\ ABF a_5 /\ O2 a_5 /\
 Rs a_5 a /\ Og /\ I7 a_5 /\ H6 a_5 /\ J9 a_5 /\ AAD a_5 /\ L5 a_5 /\ (True /\ (rR -> (0 : Nat) = (5 : Nat))) /\ Z4 /\ tR /\ qF /\ (40 :
 Nat) <= (140737488355328 : Nat)) /\ ∃ (a_7 : KN), (Rr a_7 a_5 /\ Q6 a_7 a_5 /\ F8 a_7 a_5 /\ W7 a_7 a_5 /\ zL a_7 a_5 /\ AG /\ AG /\ AG /\ AG /\
 AG /\ AA /\ AE /\ AA /\ AE /\ AA /\ AE /\ AA /\ AE /\ AA /\ AE /\ KC a.s = KC a.s /\ NN a.s = NN a.s /\ OA a.s = OA a.s /\ MA a.s = MA a.s
 /\ LA a.s = LA a.s /\ SQ a /\ RZ a /\ AA /\ C1 a_7 /\ SF a /\ SD a /\ SI a /\ RX a /\ SM a /\ RV a /\ C1 a_7 /\ ∀ (i : Nat), i <
 a_7.x.ns.length -> (gD a_7.x.ns i).mi = (↑a_5.i : Int) /\ (gD a_7.x.ns i).t.lo = R0 a a_5 /\ (gD a_7.x.ns i).t.hi = ACY a a_5 /\ (gD a_7.x.ns i).s.lo = ABW a a_5 /\ (gD a_7.x.ns i).s.hi = xD
 a a_5) /\ Rp a a_7 a_3 else ∃ (a_7 : KN), (Rr a_7 a_5 /\ I9 a_7 a_5 /\ xR a_7 a_5 /\ wY a_7 a_5 /\ U7 a_7 a_5 /\ Cs a) /\ ACD a a_7 a_3) /\ (∀ (a_5 : KN),
 ACD a a_5 a_3 -> ∃ (a_7 : KN), (N3 a_7 a_5 /\ K1 a_7 a_5 /\ zT a_7 a_5 /\ wU a_7 a_5 /\ yK a_7 a_5 /\ Cs a) /\ eY a a_7 /\ zO a_7 a_3) /\ fA
 a a_3 else ∃ (a_5 : One), (M5 a a_3 /\ ACQ a a_3 /\ O0 a a_3 /\ vY a a_3 /\ Cs a) /\ O8 a) /\ ∀ (a_3 : KN), zV a a_3 -> bif bif ACN a_3 a then decide
 ((↑a_3.x.ns.length : Int) < (20 : Int)) else false then ((C3 a_3 /\ ∃ (a_5 : KNb), (Q2 a_5 a_3 /\ ABZ a_5 a_3 /\ wQ a_5 a_3 /\ B7 a_5 a_3 /\ K5 a_5 a_3 /\ wM a_5
 a_3 /\ AG /\ AG /\ AG /\ AG /\ AG /\ AA /\ AE /\ AA /\ AE /\ AA /\ AE /\ AA /\ AE /\ AA /\ AE /\ KC a.s = KC a.s /\
 NN a.s = NN a.s /\ OA a.s = OA a.s /\ MA a.s = MA a.s /\ LA a.s = LA a.s /\ SQ a /\ RZ a /\ AA /\ yJ a_5 a_3 /\ SF a /\ SD a /\ SI a /\ RX a /\
 SM a /\ RV a /\ yJ a_5 a_3 /\ ∀ (i : Nat), i < a_5.x.ns.length -> (gD a_5.x.ns i).mi = (gD a_3.x.ns i).mi /\ (gD a_5.x.ns i).t.lo = (gD a_3.x.ns i).t.lo /\ (gD a_5.x.ns i).t.hi = (gD a_3.x.ns i).t.hi
 /\ (gD a_5.x.ns i).s.lo = (gD a_3.x.ns i).s.lo /\ (gD a_5.x.ns i).s.hi = (gD a_3.x.ns i).s.hi) /\ R1 a a_5 a_3) /\ ∀ (a_5 : KNb), R1 a a_5 a_3 -> bif a_5.b then (Qk a_5 a /\ Sf /\ B9
 a_5 /\ yR a_5 /\ J0 a_5 /\ N0 a_5 /\ Z6 a_5 /\ Qk a_5 a /\ Sf /\ vV a_5 /\ D4 a_5 /\ M8 a_5 /\ V6 a_5 /\ AAC a_5 /\ Rs a_5 a
 /\ Og /\ P6 a_5 /\ wX a_5 /\ L8 a_5 /\ ABF a_5 /\ O2 a_5 /\ Rs a_5 a /\ Og /\ I7 a_5 /\ H6 a_5 /\ J9 a_5 /\ AAD a_5 /\
 L5 a_5 /\ (a_5.x.ns.length = a_5.x.ns.length /\ ((0 : Nat) < a_5.x.ns.length -> T1)) /\ Z4 /\ Ja /\ fC a_5 <= (9223372036854775807 : Nat) /\ fC a_5 * (40 : Nat) <=
 (140737488355328 : Nat)) /\ ∃ (a_7 : KN), (Rr a_7 a_5 /\ Q6 a_7 a_5 /\ F8 a_7 a_5 /\ W7 a_7 a_5 /\ zL a_7 a_5 /\ AG /\ AG /\ AG /\ AG /\ AG /\
 AA /\ AE /\ AA /\ AE /\ AA /\ AE /\ AA /\ AE /\ AA /\ AE /\ KC a.s = KC a.s /\ NN a.s = NN a.s /\ OA a.s = OA a.s /\ MA a.s = MA a.s /\ LA a.s =
 LA a.s /\ SQ a /\ RZ a /\ AA /\ xH a_7 a_5 /\ SF a /\ SD a /\ SI a /\ RX a /\ SM a /\ RV a /\ xH a_7 a_5 /\ ∀ (i : Nat), i <
 a_7.x.ns.length -> ((gD a_7.x.ns i).mi = bif Jj i a_5 then (gD a_5.x.ns i).mi else (↑a_5.i : Int)) /\ ((gD a_7.x.ns i).t.lo = bif Jj i a_5 then (gD a_5.x.ns i).t.lo else R0 a a_5) /\ ((gD a_7.x.ns
 i).t.hi = bif Jj i a_5 then (gD a_5.x.ns i).t.hi else ACY a a_5) /\ ((gD a_7.x.ns i).s.lo = bif Jj i a_5 then (gD a_5.x.ns i).s.lo else ABW a a_5) /\ (gD a_7.x.ns i).s.hi = bif Jj
 i a_5 then (gD a_5.x.ns i).s.hi else xD a a_5) /\ Rp a a_7 a_3 else ∃ (a_7 : KN), (Rr a_7 a_5 /\ I9 a_7 a_5 /\ xR a_7 a_5 /\ wY a_7 a_5 /\ U7 a_7 a_5 /\ AG
 /\ AG /\ AG /\ AG /\ AG /\ AA /\ AE /\ AA /\ AE /\ AA /\ AE /\ AA /\ AE /\ AA /\ AE /\ KC a.s = KC a.s /\ NN a.s = NN
 a.s /\ OA a.s = OA a.s /\ MA a.s = MA a.s /\ LA a.s = LA a.s /\ SQ a /\ RZ a /\ AA /\ ABQ a_7 a_5 /\ SF a /\ SD a /\ SI a /\ RX a /\ SM a /\
 RV a /\ ABQ a_7 a_5 /\ ∀ (i : Nat), i < a_7.x.ns.length -> (gD a_7.x.ns i).mi = (gD a_5.x.ns i).mi /\ (gD a_7.x.ns i).t.lo = (gD a_5.x.ns i).t.lo /\ (gD a_7.x.ns i).t.hi = (gD a_5.x.ns i).t.hi /\ (gD a_7.x.ns
 i).s.lo = (gD a_5.x.ns i).s.lo /\ (gD a_7.x.ns i).s.hi = (gD a_5.x.ns i).s.hi) /\ Rp a a_7 a_3) /\ fA a a_3 /\ fA a a_3 else ∃ (a_5 : One), (M5 a a_3 /\ ACQ a a_3 /\ O0 a
 a_3 /\ vY a a_3 /\ AG /\ AG /\ AG /\ AG /\ AG /\ AA /\ AE /\ AA /\ AE /\ AA /\ AE /\ AA /\ AE /\ AA /\ AE /\
 KC a.s = KC a.s /\ NN a.s = NN a.s /\ OA a.s = OA a.s /\ MA a.s = MA a.s /\ LA a.s = LA a.s /\ SQ a /\ RZ a /\ AA /\ ABP a a_3 /\ SF a /\ SD a /\ SI a /\
 RX a /\ SM a /\ RV a /\ ABP a a_3 /\ ∀ (i : Nat), i < (PT a).ns.length -> (gD (PT a).ns i).mi = (gD a_3.x.ns i).mi /\ (gD (PT a).ns i).t.lo = (gD a_3.x.ns i).t.lo /\ (gD (PT a).ns i).t.hi
 = (gD a_3.x.ns i).t.hi /\ (gD (PT a).ns i).s.lo = (gD a_3.x.ns i).s.lo /\ (gD (PT a).ns i).s.hi = (gD a_3.x.ns i).s.hi) /\ J8 a) /\ (∀ (a_3 : One), O8 a -> (∃ (a_5 : One), (Int.negSucc (0 : Nat) =
 Int.negSucc (0 : Nat) /\ (mE a).s.bs.length = (PT a).s.bs.length /\ (∀ (i : Nat), S3 i a -> gD (mE a).s.bs i = gD (PT a).s.bs i) /\ (mE a).s.used = (PT a).s.used /\ (mE a).s.mix = (PT a).s.mix /\ Cs a) /\
 (mE a).ns = []) /\ ∀ (a_5 : One), (mE a).ns = [] -> False) /\ ∀ (a_3 : One), J8 a -> (∃ (a_5 : KN), ((↑a_5.i : Int) = IntKind.i64.wrap ((↑(PT a).ns.length : Int) - (1 : Int)) /\ a_5.x.s.bs.length = (PT
 a).s.bs.length /\ (∀ (i : Nat), Cx i a_5 -> gD a_5.x.s.bs i = gD (PT a).s.bs i) /\ a_5.x.s.used = (PT a).s.used /\ a_5.x.s.mix = (PT a).s.mix /\ AG /\ AG /\ AG /\ AG /\ AG /\
 AA /\ AE /\ AA /\ AE /\ AA /\ AE /\ AA /\ AE /\ AA /\ AE /\ KC a.s = KC a.s /\ NN a.s = NN a.s /\ OA a.s = OA a.s /\ MA a.s = MA a.s /\ LA a.s =
 LA a.s /\ SQ a /\ RZ a /\ AA /\ AAJ a_5 a /\ SF a /\ SD a /\ SI a /\ RX a /\ SM a /\ RV a /\ AAJ a_5 a /\ ∀ (i : Nat), i <
 a_5.x.ns.length -> (gD a_5.x.ns i).mi = (gD (PT a).ns i).mi /\ (gD a_5.x.ns i).t.lo = (gD (PT a).ns i).t.lo /\ (gD a_5.x.ns i).t.hi = (gD (PT a).ns i).t.hi /\ (gD a_5.x.ns i).s.lo = (gD (PT a).ns i).s.lo /\ (gD a_5.x.ns
 i).s.hi = (gD (PT a).ns i).s.hi) /\ fK a a_5) /\ ∀ (a_5 : KN), fK a a_5 -> bif decide ((↑a_5.i : Int) > (0 : Int)) then (Jm a_5 = Jm a_5 /\ ACA a_5) /\ (vX a_5 /\
 Qw a_5 < a_5.x.ns.length /\ R6 a_5 /\ yD a_5 /\ R6 a_5 /\ yD a_5 /\ vX a_5 /\ (Qw a_5).succ.le a_5.x.ns.length) /\ ∃ (a_7 : KN), ((↑a_7.i : Int) = IntKind.i64.wrap
 ((↑a_5.i : Int) - (1 : Int)) /\ a_7.x.s.bs.length = (ACZ a_5).length /\ (∀ (i : Nat), Cx i a_7 -> gD a_7.x.s.bs i = gD (ACZ a_5) i) /\ a_7.x.s.used = (fJ a_5).used /\ a_7.x.s.mix =
 (fJ a_5).mix /\ AG /\ AG /\ AG /\ AG /\ AG /\ AA /\ AE /\ AA /\ AE /\ AA /\ AE /\ AA /\ AE /\ AA /\ AE /\
 KC a.s = KC a.s /\ NN a.s = NN a.s /\ OA a.s = OA a.s /\ MA a.s = MA a.s /\ LA a.s = LA a.s /\ SQ a /\ RZ a /\ AA /\ Qo a_7 a_5 /\ SF a /\ SD a /\ SI a /\
 RX a /\ SM a /\ RV a /\ Qo a_7 a_5 /\ ∀ (i : Nat), i < a_7.x.ns.length -> ((gD a_7.x.ns i).mi = bif Iq i a_5 then (fP a_5).mi else bif Jg i a_5 then (cU
 a_5).mi else (gD a_5.x.ns i).mi) /\ ((gD a_7.x.ns i).t.lo = bif Iq i a_5 then (N9 a_5).lo else bif Jg i a_5 then (ADF a_5).lo else (gD a_5.x.ns i).t.lo) /\ ((gD a_7.x.ns i).t.hi = bif
 Iq i a_5 then (N9 a_5).hi else bif Jg i a_5 then (ADF a_5).hi else (gD a_5.x.ns i).t.hi) /\ ((gD a_7.x.ns i).s.lo = bif Iq i a_5 then (ABU a_5).lo else bif Jg i
 a_5 then (Q4 a_5).lo else (gD a_5.x.ns i).s.lo) /\ (gD a_7.x.ns i).s.hi = bif Iq i a_5 then (ABU a_5).hi else bif Jg i a_5 then (Q4 a_5).hi else (gD a_5.x.ns i).s.hi) /\
 fK a a_7 /\ a_7.i < a_5.i else (RK a).p.lo = KC a.s /\ (RK a).p.hi = NN a.s /\ (RK a).base = OA a.s /\ (RK a).scale = MA a.s /\ (RK a).off = LA a.s /\ (RK a).ms.length = (mS a).ms.length /\ (∀ (i : Nat), i <
 (RK a).ms.length -> (gD (RK a).ms i).pl = (gD (mS a).ms i).pl /\ (gD (RK a).ms i).ht = (gD (mS a).ms i).ht) /\ AA /\ zR a a_5 /\ (vC a).t.length = (mS a).t.length /\ (∀ (i : Nat), i < (vC a).t.length -> gD
 (vC a).t i = gD (mS a).t i) /\ (vC a).s.length = (mS a).st.length /\ (∀ (i : Nat), i < (vC a).s.length -> gD (vC a).s i = gD (mS a).st i) /\ (vC a).z.length = (mS a).z.length /\ (∀ (i : Nat), i < (vC a).z.length -> gD
 (vC a).z i = gD (mS a).z i) /\ (mE a).s.bs.length = a_5.x.s.bs.length /\ (∀ (i : Nat), S3 i a -> gD (mE a).s.bs i = gD a_5.x.s.bs i) /\ (mE a).s.used = a_5.x.s.used /\ (mE a).s.mix = a_5.x.s.mix /\ zR a a_5
 /\ ∀ (i : Nat), i < (RK a).ns.length -> (gD (RK a).ns i).mi = (gD a_5.x.ns i).mi /\ (gD (RK a).ns i).t.lo = (gD a_5.x.ns i).t.lo /\ (gD (RK a).ns i).t.hi = (gD a_5.x.ns i).t.hi /\ (gD (RK a).ns i).s.lo = (gD a_5.x.ns
 i).s.lo /\ (gD (RK a).ns i).s.hi = (gD a_5.x.ns i).s.hi
theorem BUS (a : MkI) : (BQJ a) = (((AEB /\ AQV /\ ATW a = a.s.bs.length /\ (∀ (i : Nat), i < ATW a -> gD (AFA a) i = gD a.s.bs i) /\ a.s.used = a.s.used /\ a.s.mix = a.s.mix /\ (0 : Int)
 <= a.s.used /\ (-50 : Int) = Int.negSucc (49 : Nat) /\ AQD /\ AHI a = AUQ a /\ (∀ (i : Nat), i < AHI a -> gD (uQ a) i = AVF a i) /\ bB a = bB a /\ pS a = pS
 a /\ (0 : Int) <= bB a /\ AQV /\ AMM a = AHL a /\ (∀ (i : Nat), i < AMM a -> gD (uN a) i = ALL a i) /\ Yw a = Yw a /\ rF a = rF a /\ (0 : Int) <=
 Yw a /\ Og /\ AMJ a = AJN a /\ (∀ (i : Nat), i < AMJ a -> gD (pE a) i = AJL a i) /\ bN a = bN a /\ rM a = rM a /\ (bN a - (0 :
 Int)).NonNeg) /\ ∃ (a_1 : One), (a.m = a.m /\ true = true /\ (iW a.s).bs.length = (AKZ a).length /\ (∀ (i : Nat), i < (iW a.s).bs.length -> gD (iW a.s).bs i = gD (AKZ a) i) /\ (iW a.s).used = (sJ
 a).used /\ (iW a.s).mix = (sJ a).mix /\ AG /\ AG /\ AG /\ AG /\ AG /\ AA /\ AE /\ AA /\ AE /\ AA /\ AE /\ AA /\ AE /\
 AA /\ AE /\ KC a.s = Lf (ASF a) (1 : Int) (12 : Int) /\ AG /\ OA a.s = Lf (AKV a) (-50 : Int) (400 : Int) /\ MA a.s = AV (AIJ a) (12 : Int) /\ LA a.s = AV (AIS
 a) (9 : Int) /\ pH) /\ StmB (4 : Int) (iW a.s)) /\ ∀ (a_1 : One), StmB (4 : Int) (iW a.s) -> (((6 : Int) = Int.ofNat (6 : Nat) /\ AMZ a = (iW a.s).bs.length /\ (∀ (i : Nat), i < AMZ a -> gD (qI
 a) i = gD (iW a.s).bs i) /\ (iW a.s).used = (iW a.s).used /\ (iW a.s).mix = (iW a.s).mix /\ ((iW a.s).used - (0 : Int)).NonNeg) /\ ∃ (a_3 : One), (a.m = a.m /\ true = true /\ (lV a.s).bs.length = (AKG a).length /\
 (∀ (i : Nat), i < (lV a.s).bs.length -> gD (lV a.s).bs i = gD (AKG a) i) /\ (lV a.s).used = (uD a).used /\ (lV a.s).mix = (uD a).mix /\ AG /\ AG /\ AG /\ AG /\
 AG /\ AA /\ AE /\ AA /\ AE /\ AA /\ AE /\ AA /\ AE /\ AA /\ AE /\ KC a.s = KC a.s /\ NN a.s = IntKind.i64.wrap (KC a.s + AV (AHR
 a) (6 : Int)) /\ OA a.s = OA a.s /\ MA a.s = MA a.s /\ LA a.s = LA a.s /\ pH) /\ StmB (5 : Int) (lV a.s)) /\ ∀ (a_3 : One), StmB (5 : Int) (lV a.s) -> (((300 : Int) = Int.ofNat (300 : Nat) /\ AJK a = (lV
 a.s).bs.length /\ (∀ (i : Nat), i < AJK a -> gD (qM a) i = gD (lV a.s).bs i) /\ (lV a.s).used = (lV a.s).used /\ (lV a.s).mix = (lV a.s).mix /\ ((lV a.s).used - (0 : Int)).NonNeg) /\ ∃ (a_5 : One), (a.m =
 a.m /\ true = true /\ AG /\ hTm a.s = AV (AHN a) (300 : Int) /\ (kA a.s).bs.length = (AHQ a).length /\ (∀ (i : Nat), i < (kA a.s).bs.length -> gD (kA a.s).bs i = gD (AHQ a) i) /\ (kA
 a.s).used = (uM a).used /\ (kA a.s).mix = (uM a).mix /\ sP a) /\ StmB (6 : Int) (kA a.s)) /\ ∀ (a_5 : One), StmB (6 : Int) (kA a.s) -> ((AEB /\ a.m = a.m /\ AMO a = (kA a.s).bs.length /\
 (∀ (i : Nat), i < AMO a -> gD (rG a) i = gD (kA a.s).bs i) /\ (kA a.s).used = (kA a.s).used /\ (kA a.s).mix = (kA a.s).mix /\ ((kA a.s).used - (0 : Int)).NonNeg) /\ (∃ (a_7 : KS), (true = true /\ a_7.x.pl
 = (0 : Int) /\ a_7.x.tm = hTm a.s /\ (↑a_7.k : Int) = Lf (AIC a) (1 : Int) a.m /\ a_7.x.s.bs.length = (AMF a).length /\ (∀ (i : Nat), Ha i a_7 -> gD a_7.x.s.bs i = gD (AMF a) i) /\ a_7.x.s.used =
 (tO a).used /\ a_7.x.s.mix = (tO a).mix /\ sP a) /\ AHO a a_7) /\ (∀ (a_7 : KS), AHO a a_7 -> bif rL a_7 then (∃ (a_9 : KS), (true = true /\ a_9.x.pl = a_7.x.pl /\ a_9.x.tm =
 a_7.x.tm /\ WC a_9 a_7 /\ tJ a_9 a_7 /\ tU a_9 a_7 /\ qR a_9 a_7 /\ oK a_9 a_7 /\ sP a) /\ AMR a a_9) /\ ∀ (a_9 : KS), AMR a a_9 -> Yo a_9 /\ (((True /\
 (rR -> (0 : Nat) = (2 : Nat))) /\ ALW /\ tR /\ qF /\ (16 : Nat) <= (140737488355328 : Nat)) /\ qN /\ AJQ a a_9 /\ AIU a a_9 /\ ACL a_9 /\ ACU a_9 /\ B6
 a_9 /\ P0 a_9 /\ K6 a_9 /\ qN) /\ ∃ (a_11 : KS), (true = true /\ a_11.x.pl = a_9.x.pl /\ a_11.x.tm = a_9.x.tm /\ dB a_11 a_9 /\ iQ a_11 a_9 a /\ dE a_11 a_9 a /\ eP
 a_11 a_9 a /\ iN a_11 a_9 a /\ AG /\ AG /\ AG /\ AG /\ AG /\ AA /\ AE /\ AA /\ AE /\ AA /\ AE /\ AA /\ AE /\ AA /\
 AE /\ KC a.s = KC a.s /\ NN a.s = NN a.s /\ OA a.s = OA a.s /\ MA a.s = MA a.s /\ LA a.s = LA a.s /\ AA /\ H5 a_11 /\ AA /\ AE /\ AA /\ S4 a_11 /\ AA /\
 G5 a_11 /\ AA /\ AE /\ H5 a_11 /\ (∀ (i : Nat), i < a_11.x.ms.length -> (gD a_11.x.ms i).pl = a_9.x.pl /\ (gD a_11.x.ms i).ht = sA a_9) /\ S4 a_11 /\ (∀ (i : Nat), i <
 a_11.x.t.length -> gD a_11.x.t i = a_9.x.tm) /\ G5 a_11 /\ ∀ (i : Nat), i < a_11.x.st.length -> gD a_11.x.st i = ADN a_9 a) /\ hC a a_11 /\ YW a_11 < (100 : Nat) else ∃ (a_9 : One),
 (cP a a_7 /\ fF a a_7 /\ iD a a_7 /\ dG a a_7 /\ AG /\ AG /\ AG /\ AG /\ AG /\ AA /\ AE /\ AA /\ AE /\ AA /\
 AE /\ AA /\ AE /\ AA /\ AE /\ KC a.s = KC a.s /\ NN a.s = NN a.s /\ OA a.s = OA a.s /\ MA a.s = MA a.s /\ LA a.s = LA a.s /\ R3 a /\ R3 a /\ AA /\ AE
 /\ S8 a /\ S8 a /\ ADM a /\ ADM a /\ D3 a) /\ PD a) /\ (∀ (a_7 : KS), hC a a_7 -> bif rL a_7 then (bif Z8 a_7 then D0 a_7 /\ (ACR a
 a_7 /\ ∃ (a_9 : KS), (true = true /\ Z5 a_9 a_7 /\ ADA a_9 a_7 a /\ WC a_9 a_7 /\ xQ a_9 a_7 a /\ M4 a_9 a_7 a /\ D7 a_9 a_7 a /\ ABK a_9 a_7 a /\ hZ a a_9 a_7)
 /\ M1 a a_9 a_7) /\ ∀ (a_9 : KS), M1 a a_9 a_7 -> true = true /\ true = true /\ wI a_9 /\ true = true /\ bif K9 a_9 then qN /\ T7 a_9 /\ ∃ (a_11 : KS), (true = true /\ a_11.x.pl
 = a_9.x.pl /\ xM a_11 a_9 /\ WC a_11 a_9 /\ ACO a_11 a_9 /\ W9 a_11 a_9 /\ ADR a_11 a_9 /\ P5 a_11 a_9 /\ AG /\ AG /\ AG /\ AG /\ AG /\
 AA /\ AE /\ AA /\ AE /\ AA /\ AE /\ AA /\ AE /\ AA /\ AE /\ KC a.s = KC a.s /\ NN a.s = NN a.s /\ OA a.s = OA a.s /\ MA a.s = MA a.s /\ LA a.s =
 LA a.s /\ AA /\ VN a_11 a_9 /\ AA /\ AE /\ AA /\ VH a_11 a_9 /\ AA /\ VF a_11 a_9 /\ AA /\ Y8 a_11 /\ VN a_11 a_9 /\ Qf a_11 a_9
 /\ VH a_11 a_9 /\ Qy a_11 a_9 /\ VF a_11 a_9 /\ Rh a_11 a_9 /\ Y8 a_11 /\ ∀ (i : Nat), i < a_11.x.z.length -> gD a_11.x.z i = wZ a_9) /\ A2 a a_11 a_7 else ∃ (a_11 :
 KS), (true = true /\ a_11.x.pl = a_9.x.pl /\ a_11.x.tm = a_9.x.tm /\ WC a_11 a_9 /\ Y6 a_11 a_9 /\ xA a_11 a_9 /\ yO a_11 a_9 /\ U4 a_11 a_9 /\ hZ a a_11 a_9) /\ eW a
 a_11 a_7 else ∃ (a_9 : KS), (true = true /\ a_9.x.pl = a_7.x.pl /\ a_9.x.tm = a_7.x.tm /\ WC a_9 a_7 /\ tJ a_9 a_7 /\ tU a_9 a_7 /\ qR a_9 a_7 /\ oK a_9 a_7 /\ hZ a a_9 a_7) /\
 eW a a_9 a_7) /\ (∀ (a_9 : KS), eW a a_9 a_7 -> Yo a_9 /\ fL a_9 a /\ ∃ (a_11 : KS), (true = true /\ a_11.x.pl = a_9.x.pl /\ a_11.x.tm = a_9.x.tm /\ dB a_11 a_9 /\ iQ a_11 a_9
 a /\ dE a_11 a_9 a /\ eP a_11 a_9 a /\ iN a_11 a_9 a /\ AG /\ AG /\ AG /\ AG /\ AG /\ AA /\ AE /\ AA /\ AE /\ AA /\ AE
 /\ AA /\ AE /\ AA /\ AE /\ KC a.s = KC a.s /\ NN a.s = NN a.s /\ OA a.s = OA a.s /\ MA a.s = MA a.s /\ LA a.s = LA a.s /\ AA /\ Qh a_11 a_9 /\ AA /\ AE /\
 AA /\ Rl a_11 a_9 /\ AA /\ Sj a_11 a_9 /\ AA /\ AE /\ Qh a_11 a_9 /\ xO a_11 a_9 /\ Rl a_11 a_9 /\ W8 a_11 a_9 /\ Sj a_11 a_9 /\
 A3 a_11 a_9 a) /\ hC a a_11 /\ YW a_11 < YW a_7) /\ ∀ (a_9 : KS), A2 a a_9 a_7 -> Yo a_9 /\ fL a_9 a /\ ∃ (a_11 : KS), U3 a_11 a_9 a /\ cJ a a_11 /\
 a_11.k < YW a_7 else ∃ (a_9 : One), (cP a a_7 /\ fF a a_7 /\ iD a a_7 /\ dG a a_7 /\ AG /\ AG /\ AG /\ AG /\ AG /\ AA /\ AE /\
 AA /\ AE /\ AA /\ AE /\ AA /\ AE /\ AA /\ AE /\ KC a.s = KC a.s /\ NN a.s = NN a.s /\ OA a.s = OA a.s /\ MA a.s = MA a.s /\ LA a.s = LA a.s /\ T3 a
 a_7 /\ A6 a_7 /\ wG a a_7 /\ AA /\ AE /\ yU a a_7 /\ N7 a_7 /\ AAB a a_7 /\ wE a a_7 /\ V4 a_7 /\ I1 a a_7 /\ D3 a) /\ PD a) /\
 ∀ (a_7 : KS), cJ a a_7 -> bif rL a_7 then (bif Z8 a_7 then D0 a_7 /\ (ACR a a_7 /\ ∃ (a_9 : KS), (true = true /\ Z5 a_9 a_7 /\ ADA a_9 a_7 a /\ WC a_9 a_7 /\
 xQ a_9 a_7 a /\ M4 a_9 a_7 a /\ D7 a_9 a_7 a /\ ABK a_9 a_7 a /\ dD a a_9 a_7) /\ vU a a_9 a_7) /\ ∀ (a_9 : KS), vU a a_9 a_7 -> true = true /\ true = true /\
 wI a_9 /\ true = true /\ bif K9 a_9 then ((a_9.x.z.length = a_9.x.z.length /\ ((0 : Nat) < a_9.x.z.length -> bV)) /\ cF /\ Ja /\ Zb a_9 <= (9223372036854775807 : Nat) /\
 Zb a_9 * (8 : Nat) <= (140737488355328 : Nat)) /\ T7 a_9 /\ ∃ (a_11 : KS), (true = true /\ a_11.x.pl = a_9.x.pl /\ xM a_11 a_9 /\ WC a_11 a_9 /\ ACO a_11 a_9 /\ W9 a_11 a_9 /\
 ADR a_11 a_9 /\ P5 a_11 a_9 /\ AG /\ AG /\ AG /\ AG /\ AG /\ AA /\ AE /\ AA /\ AE /\ AA /\ AE /\ AA /\ AE /\
 AA /\ AE /\ KC a.s = KC a.s /\ NN a.s = NN a.s /\ OA a.s = OA a.s /\ MA a.s = MA a.s /\ LA a.s = LA a.s /\ AA /\ VN a_11 a_9 /\ AA /\ AE /\ AA /\ VH a_11
 a_9 /\ AA /\ VF a_11 a_9 /\ AA /\ zZ a_11 a_9 /\ VN a_11 a_9 /\ Qf a_11 a_9 /\ VH a_11 a_9 /\ Qy a_11 a_9 /\ VF a_11 a_9 /\ Rh a_11 a_9 /\
 zZ a_11 a_9 /\ ∀ (i : Nat), i < a_11.x.z.length -> gD a_11.x.z i = bif decide (i < a_9.x.z.length) then gD a_9.x.z i else wZ a_9) /\ Qn a a_11 a_7 else ∃ (a_11 : KS), (true = true /\ a_11.x.pl =
 a_9.x.pl /\ a_11.x.tm = a_9.x.tm /\ WC a_11 a_9 /\ Y6 a_11 a_9 /\ xA a_11 a_9 /\ yO a_11 a_9 /\ U4 a_11 a_9 /\ dD a a_11 a_9) /\ Qn a a_11 a_7 else ∃ (a_9 : KS),
 (true = true /\ a_9.x.pl = a_7.x.pl /\ a_9.x.tm = a_7.x.tm /\ WC a_9 a_7 /\ tJ a_9 a_7 /\ tU a_9 a_7 /\ qR a_9 a_7 /\ oK a_9 a_7 /\ dD a a_9 a_7) /\ Qn a a_9 a_7) /\
 V7 a a_7 /\ V7 a a_7 else ∃ (a_9 : One), (cP a a_7 /\ fF a a_7 /\ iD a a_7 /\ dG a a_7 /\ AG /\ AG /\ AG /\ AG /\ AG /\ AA /\
 AE /\ AA /\ AE /\ AA /\ AE /\ AA /\ AE /\ AA /\ AE /\ KC a.s = KC a.s /\ NN a.s = NN a.s /\ OA a.s = OA a.s /\ MA a.s = MA a.s /\ LA a.s = LA a.s /\
 T3 a a_7 /\ A6 a_7 /\ wG a a_7 /\ AA /\ AE /\ yU a a_7 /\ N7 a_7 /\ AAB a a_7 /\ wE a a_7 /\ V4 a_7 /\ I1 a a_7 /\ (mS a).z.length =
 a_7.x.z.length /\ (0 : Nat) + a_7.x.z.length <= a_7.x.z.length /\ ∀ (j : Nat), j < (mS a).z.length -> gD (mS a).z j = gD a_7.x.z (Ru j)) /\ PD a) /\ Z3 a /\ Z3 a) := by kernel_rfl
end Go.Bal
