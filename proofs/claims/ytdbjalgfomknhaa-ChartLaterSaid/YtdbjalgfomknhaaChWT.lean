/- Package chart: charts that are made of numbers, with stops. -/
import Derived.Test.YtdbjalgfomknhaaChW
set_option linter.unusedVariables false
set_option linter.unusedSimpArgs false
namespace Go.Bal
open Go Go.Sym Go.Proofs
def CCV (a : MkI) : Prop := AW Try.prog (CFX true a) BYI (AK BYI) ((nS true).xs a) (AF ((nS true).L a)) ((nS true).val a) ((nS true).keep a) [] [305]
abbrev fO : Prop := (1 : Int) = Int.ofNat (1 : Nat)
abbrev Z6 : Prop := (12 : Int) = Int.ofNat (12 : Nat)
abbrev dA (a : MkI) : List Int := AE a.s.bs.length λ (i : Nat) => gD a.s.bs i
abbrev R3 (a : MkI) : Nat := (dA a).length
abbrev AAD : Prop := (400 : Int) = Int.ofNat (400 : Nat)
abbrev AIQ (a : MkI) : Stm := Stm.mk (dA a) a.s.used a.s.mix
abbrev Zn (a : MkI) : Stm := KH (AIQ a) (1 : Int) (12 : Int)
abbrev AFG (a : MkI) : List Int := (Zn a).bs
abbrev AHI (a : MkI) : Nat := (AFG a).length
abbrev ACA (a : MkI) (i : Nat) : Int := gD (AFG a) i
abbrev Ge (a : MkI) : List Int := AE (AHI a) λ (i : Nat) => ACA a i
abbrev kO (a : MkI) : Nat := (Ge a).length
abbrev UH (a : MkI) : Int := (Zn a).used
abbrev Ea (a : MkI) : Int := (Zn a).mix
abbrev sK (a : MkI) : Stm := Stm.mk (Ge a) (UH a) (Ea a)
abbrev Hr (a : MkI) : Stm := KH (sK a) (-50 : Int) (400 : Int)
abbrev mW (a : MkI) : List Int := (Hr a).bs
abbrev kI (a : MkI) : Nat := (mW a).length
abbrev jJ (a : MkI) (i : Nat) : Int := gD (mW a) i
abbrev Jf (a : MkI) : List Int := AE (kI a) λ (i : Nat) => jJ a i
abbrev nH (a : MkI) : Nat := (Jf a).length
abbrev SI (a : MkI) : Int := (Hr a).used
abbrev Is (a : MkI) : Int := (Hr a).mix
abbrev LW : Prop := (9 : Int) = Int.ofNat (9 : Nat)
abbrev rF (a : MkI) : Stm := Stm.mk (Jf a) (SI a) (Is a)
abbrev Hj (a : MkI) : Stm := AQ (rF a) (12 : Int)
abbrev oW (a : MkI) : List Int := (Hj a).bs
abbrev mK (a : MkI) : Nat := (oW a).length
abbrev sY (a : MkI) (i : Nat) : Int := gD (oW a) i
abbrev Iu (a : MkI) : List Int := AE (mK a) λ (i : Nat) => sY a i
abbrev iM (a : MkI) : Nat := (Iu a).length
abbrev UC (a : MkI) : Int := (Hj a).used
abbrev Jb (a : MkI) : Int := (Hj a).mix
abbrev kZ (a : MkI) : Stm := Stm.mk (Iu a) (UC a) (Jb a)
abbrev Jp (a : MkI) : Stm := AQ (kZ a) (9 : Int)
abbrev pQ (a : MkI) : List Int := (Jp a).bs
abbrev AC : Prop := Int.ofNat (0 : Nat) = Int.ofNat (0 : Nat)
abbrev AA : Prop := (0 : Nat) = (0 : Nat)
abbrev AB : Prop := ∀ (i : Nat), i < (0 : Nat) -> false = false
abbrev Ig : Prop := AA /\ AB /\ AA /\ AB
abbrev Jd (a : MkI) : List Int := AE (gS4 a.s).bs.length λ (i : Nat) => gD (gS4 a.s).bs i
abbrev mF (a : MkI) : Nat := (Jd a).length
abbrev sF (a : MkI) : Stm := Stm.mk (Jd a) (gS4 a.s).used (gS4 a.s).mix
abbrev Jr (a : MkI) : Stm := AQ (sF a) (6 : Int)
abbrev oC (a : MkI) : List Int := (Jr a).bs
abbrev Hi (a : MkI) : List Int := AE (gS5 a.s).bs.length λ (i : Nat) => gD (gS5 a.s).bs i
abbrev lW (a : MkI) : Nat := (Hi a).length
abbrev kN (a : MkI) : Stm := Stm.mk (Hi a) (gS5 a.s).used (gS5 a.s).mix
abbrev Hd (a : MkI) : Stm := AQ (kN a) (300 : Int)
abbrev pP (a : MkI) : List Int := (Hd a).bs
abbrev Hw (a : MkI) : Prop := AC /\ AC /\ AC /\ AC /\ AC /\ AA /\ AB /\ AA /\ AB /\ AA /\ AB /\ AA /\ AB /\ AA /\
 AB /\ EA a.s = EA a.s /\ GV a.s = GV a.s /\ IB a.s = IB a.s /\ GC a.s = GC a.s /\ FP a.s = FP a.s /\ AA /\ AB /\ AA /\ AB /\ AA /\ AB /\ Ig
abbrev Ix (a : MkI) : List Int := AE (gS6 a.s).bs.length λ (i : Nat) => gD (gS6 a.s).bs i
abbrev qF (a : MkI) : Nat := (Ix a).length
abbrev iD (a : MkI) : Stm := Stm.mk (Ix a) (gS6 a.s).used (gS6 a.s).mix
abbrev Ii (a : MkI) : Stm := KH (iD a) (1 : Int) a.m
abbrev tQ (a : MkI) : List Int := (Ii a).bs
abbrev JA (i : Nat) (a : KS) : Prop := i < a.x.s.bs.length
abbrev mQ (a : KS) (a1 : MkI) : Prop := (↑a.k : Int) <= a1.m
abbrev Gy (a : MkI) (a1 : KS) : Int := (7 : Int) * (a.m - (↑a1.k : Int))
abbrev Fg (a : KS) (a1 : MkI) : Prop := (↑a.x.ms.length : Int) + (↑a.k : Int) <= a1.m
abbrev Gw (a : KS) : Prop := a.x.t.length = a.x.ms.length
abbrev Hf (a : KS) : Prop := a.x.st.length = a.x.ms.length
abbrev TI (a : KS) : Nat := a.x.z.length + (1 : Nat)
abbrev tK (a : KS) : Prop := TI a <= a.x.ms.length
abbrev Hc (a : MkI) (a1 : KS) : Prop := Gl a a1.k a1.x = mS a /\ mQ a1 a /\ StmB ((7 : Int) + Gy a a1) a1.x.s /\ Fg a1 a /\ Gw a1 /\ Hf a1 /\ (a1.x.z = [] ∨ tK a1)
abbrev rO (a : KS) : Prop := (1 : Nat) <= a.k
abbrev qN (a : KS) : Prop := a.x.ms = [] /\ a.x.z = []
abbrev kH (a : MkI) (a1 : KS) : Prop := Hc a a1 /\ rO a1 /\ qN a1
abbrev Ff (a : KS) : Bool := decide ((↑a.k : Int) > (0 : Int))
abbrev FB (a : KS) (a1 : KS) : Prop := (↑a.k : Int) = (↑a1.k : Int)
abbrev Ei (a : KS) (a1 : KS) : Prop := a.x.s.bs.length = a1.x.s.bs.length
abbrev Ed (a : KS) (a1 : KS) : Prop := ∀ (i : Nat), JA i a -> gD a.x.s.bs i = gD a1.x.s.bs i
abbrev Et (a : KS) (a1 : KS) : Prop := a.x.s.used = a1.x.s.used
abbrev Gc (a : KS) (a1 : KS) : Prop := a.x.s.mix = a1.x.s.mix
abbrev tW (a : KS) : Nat := a.k - (1 : Nat)
abbrev nE (a : KS) (a1 : MkI) : Prop := rO a /\ mQ a a1
abbrev RS (a : MkI) (a1 : KS) : Prop := Gl a (tW a1) (iL a a1.x) = mS a /\ nE a1 a /\ StmB ((11 : Int) + Gy a a1) a1.x.s /\ Fg a1 a /\ Gw a1 /\ Hf a1 /\ a1.x.z.length
 <= a1.x.ms.length
abbrev mD (a : MkI) (a1 : KS) : Prop := RS a a1 /\ (100 : Nat) = (100 : Nat) /\ qN a1
abbrev Ec (a : KS) : List Int := AE a.x.s.bs.length λ (i : Nat) => gD a.x.s.bs i
abbrev lV (a : KS) : Nat := (Ec a).length
abbrev Im (a : KS) : Prop := lV a = a.x.s.bs.length /\ (∀ (i : Nat), i < lV a -> gD (Ec a) i = gD a.x.s.bs i) /\ a.x.s.used = a.x.s.used /\ a.x.s.mix = a.x.s.mix /\ (a.x.s.used - (0 :
 Int)).NonNeg
abbrev TN (a : KS) : Prop := (60 : Int) = Int.ofNat (60 : Nat) /\ Im a
abbrev Jo : Prop := (0 : Nat) < (0 : Nat)
abbrev Js : Prop := (1 : Nat) <= (1 : Nat)
abbrev MP : Prop := (0 : Nat) < (1 : Nat)
abbrev nD : Prop := (2 : Nat) = (2 : Nat)
abbrev tC : Prop := Js /\ (MP -> nD)
abbrev Ex : Prop := true = true -> MP
abbrev Jc : Prop := (1 : Nat) <= (9223372036854775807 : Nat)
abbrev TJ : Prop := (1 : Nat) = (1 : Nat)
abbrev TV : Prop := Js /\ (MP -> TJ)
abbrev Ji : Prop := (True /\ (Jo -> (0 : Nat) = (1 : Nat))) /\ TV /\ Ex /\ Jc /\ (8 : Nat) <= (140737488355328 : Nat)
abbrev JB (a : KS) : Stm := Stm.mk (Ec a) a.x.s.used a.x.s.mix
abbrev Fy (a : KS) : Int := AN (JB a) (60 : Int)
abbrev rK (a : MkI) (a1 : KS) : Int := IntKind.i64.wrap (IB a.s + IntKind.i64.wrap (GC a.s * Fy a1))
abbrev SM (a : MkI) (a1 : KS) : Int := IntKind.i64.wrap (rK a a1 - FP a.s)
abbrev iI (a : MkI) (a1 : KS) : Prop := SM a a1 = SM a a1
abbrev RQ (a : MkI) (a1 : KS) : Int := IntKind.i64.wrap (rK a a1 + FP a.s)
abbrev qC (a : MkI) (a1 : KS) : Prop := RQ a a1 = RQ a a1
abbrev He (a : KS) : Stm := AQ (JB a) (60 : Int)
abbrev Lc (a : KS) : List Int := (He a).bs
abbrev Sr (a : KS) : Nat := (Lc a).length
abbrev Tm (a : KS) (i : Nat) : Int := gD (Lc a) i
abbrev WC (a : KS) : List Int := AE (Sr a) λ (i : Nat) => Tm a i
abbrev Tq (a : KS) : Nat := (WC a).length
abbrev Vj (a : KS) : Prop := Tq a = Sr a
abbrev Ms (a : KS) : Prop := ∀ (i : Nat), i < Tq a -> gD (WC a) i = Tm a i
abbrev ON (a : KS) : Int := (He a).used
abbrev Sd (a : KS) : Prop := ON a = ON a
abbrev WN (a : KS) : Int := (He a).mix
abbrev Ls (a : KS) : Prop := WN a = WN a
abbrev Rr (a : KS) : Prop := (0 : Int) <= ON a
abbrev UU (a : KS) (a1 : KS) : Prop := (↑a.k : Int) = IntKind.i64.wrap ((↑a1.k : Int) - (1 : Int))
abbrev Nn (a : KS) : Stm := Stm.mk (WC a) (ON a) (WN a)
abbrev VQ (a : KS) (a1 : MkI) : Stm := KH (Nn a) (SM a1 a) (RQ a1 a)
abbrev Wu (a : KS) (a1 : MkI) : List Int := (VQ a a1).bs
abbrev WM (a : KS) (a1 : KS) (a2 : MkI) : Prop := a.x.s.bs.length = (Wu a1 a2).length
abbrev XH (a : KS) (a1 : KS) (a2 : MkI) : Prop := ∀ (i : Nat), JA i a -> gD a.x.s.bs i = gD (Wu a1 a2) i
abbrev WH (a : KS) (a1 : KS) (a2 : MkI) : Prop := a.x.s.used = (VQ a1 a2).used
abbrev VX (a : KS) (a1 : KS) (a2 : MkI) : Prop := a.x.s.mix = (VQ a1 a2).mix
abbrev Uu (a : KS) : Prop := a.x.ms.length = (1 : Nat)
abbrev Wy (a : KS) : Prop := a.x.t.length = (1 : Nat)
abbrev Un (a : KS) : Prop := a.x.st.length = (1 : Nat)
abbrev Ya (a : KS) (a1 : MkI) : Int := UE (Nn a) (SM a1 a) (RQ a1 a)
abbrev Qz (a : KS) : Prop := (1 : Nat) <= a.x.ms.length
abbrev Ty (a : KS) : Prop := Qz a /\ a.x.z = []
abbrev XM (a : MkI) (a1 : KS) : Prop := Hc a a1 /\ Ty a1
abbrev FR (a : KS) : Nat := a.k + (20 : Nat)
abbrev VR (a : MkI) (a1 : KS) : Prop := (mS a).s.bs.length = a1.x.s.bs.length
abbrev WQ (a : MkI) (a1 : KS) : Prop := ∀ (i : Nat), i < (mS a).s.bs.length -> gD (mS a).s.bs i = gD a1.x.s.bs i
abbrev XW (a : MkI) (a1 : KS) : Prop := (mS a).s.used = a1.x.s.used
abbrev UZ (a : MkI) (a1 : KS) : Prop := (mS a).s.mix = a1.x.s.mix
abbrev Vf (a : MkI) : Prop := (mS a).ms.length = (0 : Nat)
abbrev Uy (a : MkI) : Prop := (mS a).t.length = (0 : Nat)
abbrev Mz (a : MkI) : Prop := (mS a).st.length = (0 : Nat)
abbrev Oc (a : MkI) : Prop := (mS a).z.length = (0 : Nat)
abbrev Ut (a : MkI) : Prop := Oc a /\ Oc a
abbrev CW (a : MkI) : Prop := Gl a (0 : Nat) (mS a) = mS a /\ (↑(0 : Nat) : Int) <= a.m /\ StmB ((7 : Int) + (7 : Int) * (a.m - (↑(0 : Nat) : Int))) (mS a).s /\ (↑(mS a).ms.length : Int) + (↑(0 : Nat) : Int) <= a.m
 /\ (mS a).t.length = (mS a).ms.length /\ (mS a).st.length = (mS a).ms.length /\ ((mS a).z = [] ∨ (mS a).z.length + (1 : Nat) <= (mS a).ms.length)
abbrev Pw (a : KS) : Bool := decide ((↑a.x.ms.length : Int) > (0 : Int))
abbrev Kc (a : KS) : Prop := fO /\ (30 : Int) = Int.ofNat (30 : Nat) /\ Im a
abbrev US (a : KS) : Int := UE (JB a) (1 : Int) (30 : Int)
abbrev NZ (a : MkI) (a1 : KS) : Int := IntKind.i64.wrap (EA a.s * US a1)
abbrev OO (a : MkI) (a1 : KS) : Int := IntKind.i64.wrap (GV a.s * US a1)
abbrev YD (a : KS) : Stm := KH (JB a) (1 : Int) (30 : Int)
abbrev Xz (a : KS) : List Int := (YD a).bs
abbrev Oo (a : KS) : Nat := (Xz a).length
abbrev My (a : KS) (i : Nat) : Int := gD (Xz a) i
abbrev XZ (a : KS) : List Int := AE (Oo a) λ (i : Nat) => My a i
abbrev Xu (a : KS) : Nat := (XZ a).length
abbrev OS (a : KS) : Int := (YD a).used
abbrev VP (a : KS) : Int := (YD a).mix
abbrev Va (a : MkI) (a1 : KS) : Prop := NZ a a1 = NZ a a1 /\ OO a a1 = OO a a1 /\ Xu a1 = Oo a1 /\ (∀ (i : Nat), i < Xu a1 -> gD (XZ a1) i =
 My a1 i) /\ OS a1 = OS a1 /\ VP a1 = VP a1 /\ (OS a1 - (0 : Int)).NonNeg
abbrev Lb (a : KS) (a1 : KS) : Prop := a.x.pl = IntKind.i64.wrap (a1.x.pl + US a1)
abbrev Sw (a : KS) : Stm := Stm.mk (XZ a) (OS a) (VP a)
abbrev Xb (a : KS) (a1 : KS) (a2 : MkI) : Prop := a.x.tm = IntKind.i64.wrap (a1.x.tm + UE (Sw a1) (NZ a2 a1) (OO a2 a1))
abbrev YF (a : KS) (a1 : MkI) : Stm := KH (Sw a) (NZ a1 a) (OO a1 a)
abbrev Kw (a : KS) (a1 : MkI) : List Int := (YF a a1).bs
abbrev Um (a : KS) (a1 : KS) (a2 : MkI) : Prop := a.x.s.bs.length = (Kw a1 a2).length
abbrev Lt (a : KS) (a1 : KS) (a2 : MkI) : Prop := ∀ (i : Nat), JA i a -> gD a.x.s.bs i = gD (Kw a1 a2) i
abbrev Np (a : KS) (a1 : KS) (a2 : MkI) : Prop := a.x.s.used = (YF a1 a2).used
abbrev Oy (a : KS) (a1 : KS) (a2 : MkI) : Prop := a.x.s.mix = (YF a1 a2).mix
abbrev EK (a : KS) (a1 : KS) : Prop := a.x.ms.length = a1.x.ms.length
abbrev ES (a : KS) (a1 : KS) : Prop := a.x.t.length = a1.x.t.length
abbrev ER (a : KS) (a1 : KS) : Prop := a.x.st.length = a1.x.st.length
abbrev OB (a : KS) (a1 : KS) : Prop := ∀ (i : Nat), i < a.x.ms.length -> (gD a.x.ms i).pl = (gD a1.x.ms i).pl /\ (gD a.x.ms i).ht = (gD a1.x.ms i).ht
abbrev NY (a : KS) (a1 : KS) : Prop := ∀ (i : Nat), i < a.x.t.length -> gD a.x.t i = gD a1.x.t i
abbrev OD (a : KS) (a1 : KS) : Prop := ∀ (i : Nat), i < a.x.st.length -> gD a.x.st i = gD a1.x.st i
abbrev XJ (a : MkI) (a1 : KS) (a2 : KS) : Prop := AC /\ AC /\ AC /\ AC /\ AC /\ AA /\ AB /\ AA /\ AB /\ AA /\ AB /\ AA /\
 AB /\ AA /\ AB /\ EA a.s = EA a.s /\ GV a.s = GV a.s /\ IB a.s = IB a.s /\ GC a.s = GC a.s /\ FP a.s = FP a.s /\ AA /\ EK a1 a2 /\ AA /\ AB /\ AA /\
 ES a1 a2 /\ AA /\ ER a1 a2 /\ AA /\ AB /\ EK a1 a2 /\ OB a1 a2 /\ ES a1 a2 /\ NY a1 a2 /\ ER a1 a2 /\ OD a1 a2
abbrev Wx (a : MkI) (a1 : KS) : Prop := Gl a (tW a1) (iL a (advZ a a1.x)) = mS a /\ nE a1 a /\ StmB ((9 : Int) + Gy a a1) a1.x.s /\ Fg a1 a /\ Gw a1 /\ Hf a1 /\
 tK a1
abbrev Qk (a : KS) (a1 : KS) : Prop := FR a <= FR a1 /\ Ty a
abbrev Pm (a : MkI) (a1 : KS) (a2 : KS) : Prop := Wx a a1 /\ Qk a1 a2
abbrev Qr (a : KS) : Prop := (5 : Int) = Int.ofNat (5 : Nat) /\ Im a
abbrev Sb (a : KS) : Bool := bif true then AN (JB a) (5 : Int) == (0 : Int) else false
abbrev VZ (a : KS) : Stm := AQ (JB a) (5 : Int)
abbrev Te (a : KS) : List Int := (VZ a).bs
abbrev VB (a : KS) : Nat := (Te a).length
abbrev WS (a : KS) (i : Nat) : Int := gD (Te a) i
abbrev UP (a : KS) : List Int := AE (VB a) λ (i : Nat) => WS a i
abbrev Mu (a : KS) : Nat := (UP a).length
abbrev JQ (a : KS) : Int := (VZ a).used
abbrev OY (a : KS) : Int := (VZ a).mix
abbrev Pv (a : KS) : Prop := AAD /\ Mu a = VB a /\ (∀ (i : Nat), i < Mu a -> gD (UP a) i = WS a i) /\ JQ a = JQ a /\ OY a = OY a
 /\ (JQ a - (0 : Int)).NonNeg
abbrev Wq (a : KS) : Stm := Stm.mk (UP a) (JQ a) (OY a)
abbrev Tf (a : KS) (a1 : KS) : Prop := a.x.tm = IntKind.i64.wrap (a1.x.tm + AN (Wq a1) (400 : Int))
abbrev UM (a : KS) : Stm := AQ (Wq a) (400 : Int)
abbrev Xn (a : KS) : List Int := (UM a).bs
abbrev Qe (a : KS) (a1 : KS) : Prop := a.x.s.bs.length = (Xn a1).length
abbrev Kp (a : KS) (a1 : KS) : Prop := ∀ (i : Nat), JA i a -> gD a.x.s.bs i = gD (Xn a1) i
abbrev Tz (a : KS) (a1 : KS) : Prop := a.x.s.used = (UM a1).used
abbrev Ur (a : KS) (a1 : KS) : Prop := a.x.s.mix = (UM a1).mix
abbrev Vb (a : KS) : Prop := a.x.z.length = (1 : Nat)
abbrev Vq (a : KS) : Int := IntKind.i64.wrap ((↑a.x.ms.length : Int) - (1 : Int))
abbrev XX (a : KS) : Prop := Qz a /\ (1 : Nat) <= a.x.z.length
abbrev Xj (a : MkI) (a1 : KS) (a2 : KS) : Prop := RS a a1 /\ a1.k <= FR a2 /\ XX a1
abbrev Kb (a : KS) (a1 : KS) : Prop := a.x.s.bs.length = VB a1
abbrev Kf (a : KS) (a1 : KS) : Prop := ∀ (i : Nat), JA i a -> gD a.x.s.bs i = WS a1 i
abbrev Uc (a : KS) (a1 : KS) : Prop := a.x.s.used = JQ a1
abbrev Vp (a : KS) (a1 : KS) : Prop := a.x.s.mix = OY a1
abbrev XU (a : MkI) (a1 : KS) (a2 : KS) : Prop := RS a a1 /\ Qk a1 a2
abbrev JY : Prop := false = true -> MP
abbrev WR (a : KS) : Nat := a.x.ms.length + (1 : Nat)
abbrev YH (a : KS) : Nat := a.x.t.length + (1 : Nat)
abbrev WJ (a : KS) : Nat := a.x.st.length + (1 : Nat)
abbrev XA (a : KS) (a1 : MkI) : Prop := ((a.x.ms.length = a.x.ms.length /\ ((0 : Nat) < a.x.ms.length -> nD)) /\ tC /\ JY /\ WR a <= (9223372036854775807 : Nat) /\ WR a * (16
 : Nat) <= (140737488355328 : Nat)) /\ ((a.x.t.length = a.x.t.length /\ ((0 : Nat) < a.x.t.length -> TJ)) /\ TV /\ JY /\ YH a <= (9223372036854775807 : Nat) /\ YH a * (8 : Nat) <=
 (140737488355328 : Nat)) /\ iI a1 a /\ qC a1 a /\ Vj a /\ Ms a /\ Sd a /\ Ls a /\ Rr a /\ (a.x.st.length = a.x.st.length /\ ((0 : Nat) < a.x.st.length -> TJ)) /\
 TV /\ JY /\ WJ a <= (9223372036854775807 : Nat) /\ WJ a * (8 : Nat) <= (140737488355328 : Nat)
abbrev NT (a : KS) (a1 : KS) : Prop := a.x.ms.length = WR a1
abbrev NX (a : KS) (a1 : KS) : Prop := a.x.t.length = YH a1
abbrev OR (a : KS) (a1 : KS) : Prop := a.x.st.length = WJ a1
abbrev Nw (i : Nat) (a : KS) : Bool := decide (i < a.x.ms.length)
abbrev Ku (a : KS) (a1 : KS) : Prop := ∀ (i : Nat), i < a.x.ms.length -> ((gD a.x.ms i).pl = bif Nw i a1 then (gD a1.x.ms i).pl else a1.x.pl) /\ (gD a.x.ms i).ht = bif Nw i a1 then (gD a1.x.ms
 i).ht else Fy a1
abbrev Se (a : KS) (a1 : KS) : Prop := ∀ (i : Nat), i < a.x.t.length -> gD a.x.t i = bif decide (i < a1.x.t.length) then gD a1.x.t i else a1.x.tm
abbrev Ux (a : KS) (a1 : KS) (a2 : MkI) : Prop := ∀ (i : Nat), i < a.x.st.length -> gD a.x.st i = bif decide (i < a1.x.st.length) then gD a1.x.st i else Ya a1 a2
abbrev WG (a : KS) (a1 : KS) : Prop := a.x.z.length = a1.x.z.length
abbrev Lz (a : KS) (a1 : KS) : Prop := WG a a1 /\ ∀ (i : Nat), i < a.x.z.length -> gD a.x.z i = gD a1.x.z i
abbrev Pb (a : KS) (a1 : KS) (a2 : MkI) : Prop := true = true /\ a.x.pl = a1.x.pl /\ a.x.tm = a1.x.tm /\ UU a a1 /\ WM a a1 a2 /\ XH a a1 a2 /\ WH a a1 a2 /\ VX a a1 a2 /\
 AC /\ AC /\ AC /\ AC /\ AC /\ AA /\ AB /\ AA /\ AB /\ AA /\ AB /\ AA /\ AB /\ AA /\ AB /\ EA a2.s = EA a2.s /\ GV
 a2.s = GV a2.s /\ IB a2.s = IB a2.s /\ GC a2.s = GC a2.s /\ FP a2.s = FP a2.s /\ AA /\ NT a a1 /\ AA /\ AB /\ AA /\ NX a a1 /\ AA /\ OR a a1 /\ AA /\
 WG a a1 /\ NT a a1 /\ Ku a a1 /\ NX a a1 /\ Se a a1 /\ OR a a1 /\ Ux a a1 a2 /\ Lz a a1
abbrev VY (a : MkI) (a1 : KS) : Prop := Hc a a1 /\ XX a1
abbrev Xy (a : MkI) (a1 : KS) : Prop := (mS a).ms.length = a1.x.ms.length
abbrev Xl (a : KS) : Prop := (0 : Nat) + a.x.ms.length <= a.x.ms.length
abbrev JR (j : Nat) : Nat := (0 : Nat) + j
abbrev Sf (a : KS) (j : Nat) : Mk := gD a.x.ms (JR j)
abbrev Vw (a : MkI) (a1 : KS) : Prop := ∀ (j : Nat), j < (mS a).ms.length -> (gD (mS a).ms j).pl = (Sf a1 j).pl /\ (gD (mS a).ms j).ht = (Sf a1 j).ht
abbrev Lo (a : MkI) (a1 : KS) : Prop := (mS a).t.length = a1.x.t.length
abbrev On (a : KS) : Prop := (0 : Nat) + a.x.t.length <= a.x.t.length
abbrev Po (a : MkI) (a1 : KS) : Prop := ∀ (j : Nat), j < (mS a).t.length -> gD (mS a).t j = gD a1.x.t (JR j)
abbrev Pe (a : MkI) (a1 : KS) : Prop := (mS a).st.length = a1.x.st.length
abbrev Ss (a : KS) : Prop := (0 : Nat) + a.x.st.length <= a.x.st.length
abbrev Rb (a : MkI) (a1 : KS) : Prop := ∀ (j : Nat), j < (mS a).st.length -> gD (mS a).st j = gD a1.x.st (JR j)
abbrev XB (a : MkI) (a1 : KS) (a2 : KS) : Prop := AC /\ AC /\ AC /\ AC /\ AC /\ AA /\ AB /\ AA /\ AB /\ AA /\ AB /\ AA /\
 AB /\ AA /\ AB /\ EA a.s = EA a.s /\ GV a.s = GV a.s /\ IB a.s = IB a.s /\ GC a.s = GC a.s /\ FP a.s = FP a.s /\ AA /\ EK a1 a2 /\ AA /\ AB /\ AA /\
 ES a1 a2 /\ AA /\ ER a1 a2 /\ AA /\ WG a1 a2 /\ EK a1 a2 /\ OB a1 a2 /\ ES a1 a2 /\ NY a1 a2 /\ ER a1 a2 /\ OD a1 a2 /\ Lz a1
 a2
abbrev Nh (a : KS) (a1 : KS) : Prop := a.k <= a1.k /\ XX a
abbrev Lh (a : MkI) (a1 : KS) (a2 : KS) : Prop := Wx a a1 /\ Nh a1 a2
abbrev Xo (a : KS) (a1 : KS) : Prop := a.x.z.length = TI a1
abbrev OX (a : MkI) (a1 : KS) (a2 : KS) : Prop := RS a a1 /\ Nh a1 a2
abbrev Tt (a : MkI) (a1 : KS) : Prop := ∀ (a_1 : KS), OX a a_1 a1 -> TN a_1 /\ XA a_1 a /\ ∃ (a_3 : KS), Pb a_3 a_1 a /\ VY a a_3 /\ a_3.k < a1.k
abbrev HA (i : Nat) (a : KN) : Prop := i < a.x.s.bs.length
abbrev DO (a : MkI) : Prop := (mS a).ms.length = (mS a).ms.length
abbrev DN (a : MkI) : Prop := ∀ (i : Nat), i < (mS a).ms.length -> (gD (mS a).ms i).pl = (gD (mS a).ms i).pl /\ (gD (mS a).ms i).ht = (gD (mS a).ms i).ht
abbrev DQ (a : MkI) : Prop := (mS a).t.length = (mS a).t.length
abbrev DP (a : MkI) : Prop := ∀ (i : Nat), i < (mS a).t.length -> gD (mS a).t i = gD (mS a).t i
abbrev DJ (a : MkI) : Prop := (mS a).st.length = (mS a).st.length
abbrev DI (a : MkI) : Prop := ∀ (i : Nat), i < (mS a).st.length -> gD (mS a).st i = gD (mS a).st i
abbrev DM (a : MkI) : Prop := (mS a).z.length = (mS a).z.length
abbrev DR (a : MkI) : Prop := ∀ (i : Nat), i < (mS a).z.length -> gD (mS a).z i = gD (mS a).z i
abbrev GX (a : MkI) : Prop := AC /\ AC /\ AC /\ AC /\ AC /\ AA /\ AB /\ AA /\ AB /\ AA /\ AB /\ AA /\ AB /\ AA /\
 AB /\ EA a.s = EA a.s /\ GV a.s = GV a.s /\ IB a.s = IB a.s /\ GC a.s = GC a.s /\ FP a.s = FP a.s /\ DO a /\ DN a /\ AA /\ AB /\ DQ a /\ DP a /\ DJ a /\
 DI a /\ DM a /\ DR a
abbrev WI (a : MkI) : Int := (7 : Int) * a.m
abbrev Mv (a : MkI) : Int := (7 : Int) + WI a
abbrev Vl (a : KN) : Int := (5 : Int) * (↑a.i : Int)
abbrev Qo (a : MkI) (a1 : KN) : Prop := CW a /\ a1.i <= (mS a).ms.length /\ StmB (Mv a + Vl a1) a1.x.s /\ mkN a ((mS a).ms.length - a1.i) a1.i a1.x = JV a /\ a1.x.ns.length <= a1.i
abbrev WK (a : MkI) (a1 : KN) : Prop := Qo a a1 /\ a1.x.ns = []
abbrev Xk (a : KN) (a1 : MkI) : Bool := decide ((↑a.i : Int) < (↑(mS a1).ms.length : Int))
abbrev VT (a : KN) : List Int := AE a.x.s.bs.length λ (i : Nat) => gD a.x.s.bs i
abbrev Xf (a : KN) : Nat := (VT a).length
abbrev Wk (a : KN) : Prop := Xf a = a.x.s.bs.length /\ (∀ (i : Nat), i < Xf a -> gD (VT a) i = gD a.x.s.bs i) /\ a.x.s.used = a.x.s.used /\ a.x.s.mix = a.x.s.mix /\ (a.x.s.used - (0 :
 Int)).NonNeg
abbrev Pd (a : KN) : Prop := (2 : Int) = Int.ofNat (2 : Nat) /\ Wk a
abbrev Kh (a : KNb) (a1 : KN) : Prop := (↑a.i : Int) = (↑a1.i : Int)
abbrev OW (a : KN) : Stm := Stm.mk (VT a) a.x.s.used a.x.s.mix
abbrev Sq (a : KNb) (a1 : KN) : Prop := a.b = (AN (OW a1) (2 : Int) == (0 : Int))
abbrev WD (a : KN) : Stm := AQ (OW a) (2 : Int)
abbrev Nu (a : KN) : List Int := (WD a).bs
abbrev Le (a : KNb) (a1 : KN) : Prop := a.x.s.bs.length = (Nu a1).length
abbrev Sy (a : KNb) (a1 : KN) : Prop := ∀ (i : Nat), i < a.x.s.bs.length -> gD a.x.s.bs i = gD (Nu a1) i
abbrev Qc (a : KNb) (a1 : KN) : Prop := a.x.s.used = (WD a1).used
abbrev Sg (a : KNb) (a1 : KN) : Prop := a.x.s.mix = (WD a1).mix
abbrev JS (a : KN) : Nat := (100 : Nat) - a.i
abbrev Wj (a : KNb) : Nat := a.i + (1 : Nat)
abbrev Kt (a : MkI) (a1 : KNb) (a2 : KN) : Prop := CW a /\ (a1.i < (mS a).ms.length /\ (100 : Nat) - a1.i = JS a2) /\ StmB ((8 : Int) + WI a + (5 : Int) * (↑a1.i : Int)) a1.x.s /\ mkN a
 ((mS a).ms.length - Wj a1) (Wj a1) (addN a a1.b a1.i a1.x) = JV a /\ a1.x.ns.length <= a1.i
abbrev Ma (a : MkI) (a1 : KNb) (a2 : KN) : Prop := Kt a a1 a2 /\ a1.x.ns = []
abbrev Tg (a : KNb) : Prop := (0 : Int) <= (↑a.i : Int)
abbrev NP (a : KNb) (a1 : MkI) : Prop := Tg a /\ (↑a.i : Int) < (↑(mS a1).t.length : Int)
abbrev OA : Prop := (40 : Int) = Int.ofNat (40 : Nat)
abbrev WL (a : KNb) : List Int := AE a.x.s.bs.length λ (i : Nat) => gD a.x.s.bs i
abbrev Qw (a : KNb) : Nat := (WL a).length
abbrev Rl (a : KNb) : Prop := Qw a = a.x.s.bs.length
abbrev Sj (a : KNb) : Prop := ∀ (i : Nat), i < Qw a -> gD (WL a) i = gD a.x.s.bs i
abbrev Ko (a : KNb) : Prop := a.x.s.used = a.x.s.used
abbrev Wb (a : KNb) : Prop := a.x.s.mix = a.x.s.mix
abbrev Kx (a : KNb) : Prop := (0 : Int) <= a.x.s.used
abbrev Tv (a : KNb) : Stm := Stm.mk (WL a) a.x.s.used a.x.s.mix
abbrev YI (a : KNb) : Stm := AQ (Tv a) (40 : Int)
abbrev Xd (a : KNb) : List Int := (YI a).bs
abbrev Ov (a : KNb) : Nat := (Xd a).length
abbrev Nf (a : KNb) (i : Nat) : Int := gD (Xd a) i
abbrev VU (a : KNb) : List Int := AE (Ov a) λ (i : Nat) => Nf a i
abbrev Lj (a : KNb) : Nat := (VU a).length
abbrev Kj (a : KNb) : Prop := Lj a = Ov a
abbrev Ly (a : KNb) : Prop := ∀ (i : Nat), i < Lj a -> gD (VU a) i = Nf a i
abbrev NN (a : KNb) : Int := (YI a).used
abbrev Ql (a : KNb) : Prop := NN a = NN a
abbrev XL (a : KNb) : Int := (YI a).mix
abbrev Vs (a : KNb) : Prop := XL a = XL a
abbrev Mc (a : KNb) : Prop := (0 : Int) <= NN a
abbrev NR (a : KNb) (a1 : MkI) : Prop := Tg a /\ (↑a.i : Int) < (↑(mS a1).st.length : Int)
abbrev Rq (a : KNb) : Stm := Stm.mk (VU a) (NN a) (XL a)
abbrev UR (a : KNb) : Stm := AQ (Rq a) (40 : Int)
abbrev Wt (a : KNb) : List Int := (UR a).bs
abbrev Ry (a : KNb) : Nat := (Wt a).length
abbrev Su (a : KNb) (i : Nat) : Int := gD (Wt a) i
abbrev VD (a : KNb) : List Int := AE (Ry a) λ (i : Nat) => Su a i
abbrev Kq (a : KNb) : Nat := (VD a).length
abbrev Qs (a : KNb) : Prop := Kq a = Ry a
abbrev Sl (a : KNb) : Prop := ∀ (i : Nat), i < Kq a -> gD (VD a) i = Su a i
abbrev OV (a : KNb) : Int := (UR a).used
abbrev Qm (a : KNb) : Prop := OV a = OV a
abbrev UQ (a : KNb) : Int := (UR a).mix
abbrev Om (a : KNb) : Prop := UQ a = UQ a
abbrev Wz (a : KNb) : Prop := (0 : Int) <= OV a
abbrev Lr (a : KNb) : Stm := Stm.mk (VD a) (OV a) (UQ a)
abbrev WP (a : KNb) : Stm := AQ (Lr a) (9 : Int)
abbrev Wl (a : KNb) : List Int := (WP a).bs
abbrev Ol (a : KNb) : Nat := (Wl a).length
abbrev Ub (a : KNb) (i : Nat) : Int := gD (Wl a) i
abbrev WX (a : KNb) : List Int := AE (Ol a) λ (i : Nat) => Ub a i
abbrev Vg (a : KNb) : Nat := (WX a).length
abbrev Px (a : KNb) : Prop := Vg a = Ol a
abbrev Qi (a : KNb) : Prop := ∀ (i : Nat), i < Vg a -> gD (WX a) i = Ub a i
abbrev NL (a : KNb) : Int := (WP a).used
abbrev Vv (a : KNb) : Prop := NL a = NL a
abbrev YC (a : KNb) : Int := (WP a).mix
abbrev Pa (a : KNb) : Prop := YC a = YC a
abbrev Xc (a : KNb) : Prop := (0 : Int) <= NL a
abbrev Rc : Prop := (5 : Nat) = (5 : Nat)
abbrev Kk : Prop := Js /\ (MP -> Rc)
abbrev NJ (a : KN) (a1 : KNb) : Prop := (↑a.i : Int) = (↑a1.i : Int)
abbrev Rt (a : KNb) : Stm := Stm.mk (WX a) (NL a) (YC a)
abbrev UW (a : KNb) : Stm := AQ (Rt a) (9 : Int)
abbrev Wr (a : KNb) : List Int := (UW a).bs
abbrev Tw (a : KN) (a1 : KNb) : Prop := a.x.s.bs.length = (Wr a1).length
abbrev Tl (a : KN) (a1 : KNb) : Prop := ∀ (i : Nat), HA i a -> gD a.x.s.bs i = gD (Wr a1) i
abbrev Ve (a : KN) (a1 : KNb) : Prop := a.x.s.used = (UW a1).used
abbrev Pp (a : KN) (a1 : KNb) : Prop := a.x.s.mix = (UW a1).mix
abbrev Ns (a : KN) : Prop := a.x.ns.length = (1 : Nat)
abbrev Tu (a : MkI) (a1 : KNb) : Int := AY (0 : Int) (IntKind.i64.wrap (gD (mS a).t a1.i - AN (Tv a1) (40 : Int)))
abbrev Ua (a : MkI) (a1 : KNb) : Int := IntKind.i64.wrap (gD (mS a).t a1.i + AN (Rq a1) (40 : Int))
abbrev Vc (a : MkI) (a1 : KNb) : Int := IntKind.i64.wrap (gD (mS a).st a1.i - AN (Lr a1) (9 : Int))
abbrev Pi (a : MkI) (a1 : KNb) : Int := IntKind.i64.wrap (gD (mS a).st a1.i + AN (Rt a1) (9 : Int))
abbrev VV (a : KN) : Nat := a.i + (1 : Nat)
abbrev Rk (a : MkI) (a1 : KN) (a2 : KN) : Prop := CW a /\ (a1.i < (mS a).ms.length /\ JS a1 = JS a2) /\ StmB ((12 : Int) + WI a + Vl a1) a1.x.s /\ mkN a ((mS a).ms.length
 - VV a1) (VV a1) a1.x = JV a /\ a1.x.ns.length <= VV a1
abbrev Ou (a : KN) : Prop := (1 : Nat) <= a.x.ns.length
abbrev OJ (a : MkI) (a1 : KN) (a2 : KN) : Prop := Rk a a1 a2 /\ Ou a1
abbrev Rh (a : KN) (a1 : KNb) : Prop := a.x.s.bs.length = a1.x.s.bs.length
abbrev Qb (a : KN) (a1 : KNb) : Prop := ∀ (i : Nat), HA i a -> gD a.x.s.bs i = gD a1.x.s.bs i
abbrev Ws (a : KN) (a1 : KNb) : Prop := a.x.s.used = a1.x.s.used
abbrev Sp (a : KN) (a1 : KNb) : Prop := a.x.s.mix = a1.x.s.mix
abbrev Ok (a : MkI) (a1 : KN) (a2 : KN) : Prop := Rk a a1 a2 /\ a1.x.ns = []
abbrev KB (a : KN) : Int := IntKind.i64.wrap ((↑a.i : Int) + (1 : Int))
abbrev Mb (a : KN) (a1 : KN) : Prop := (↑a.i : Int) = KB a1
abbrev Uo (a : KN) (a1 : KN) : Prop := a.x.s.bs.length = a1.x.s.bs.length
abbrev Li (a : KN) (a1 : KN) : Prop := ∀ (i : Nat), HA i a -> gD a.x.s.bs i = gD a1.x.s.bs i
abbrev Kn (a : KN) (a1 : KN) : Prop := a.x.s.used = a1.x.s.used
abbrev Pk (a : KN) (a1 : KN) : Prop := a.x.s.mix = a1.x.s.mix
abbrev Ld (a : KN) (a1 : KN) : Prop := JS a < JS a1
abbrev OI (a : KN) (a1 : KN) : Prop := a.x.ns.length = a1.x.ns.length
abbrev Qy (a : MkI) (a1 : KN) : Prop := Qo a a1 /\ Ou a1
abbrev WW (a : MkI) (a1 : KN) : Prop := ∀ (a_1 : KN), OJ a a_1 a1 -> ∃ (a_3 : KN), (Mb a_3 a_1 /\ Uo a_3 a_1 /\ Li a_3 a_1 /\ Kn a_3 a_1 /\ Pk a_3 a_1 /\
 AC /\ AC /\ AC /\ AC /\ AC /\ AA /\ AB /\ AA /\ AB /\ AA /\ AB /\ AA /\ AB /\ AA /\ AB /\ EA a.s = EA a.s /\ GV
 a.s = GV a.s /\ IB a.s = IB a.s /\ GC a.s = GC a.s /\ FP a.s = FP a.s /\ DO a /\ DN a /\ AA /\ OI a_3 a_1 /\ DQ a /\ DP a /\ DJ a /\ DI a /\ DM a
 /\ DR a /\ OI a_3 a_1 /\ ∀ (i : Nat), i < a_3.x.ns.length -> (gD a_3.x.ns i).mi = (gD a_1.x.ns i).mi /\ (gD a_3.x.ns i).t.lo = (gD a_1.x.ns i).t.lo /\ (gD a_3.x.ns i).t.hi = (gD a_1.x.ns i).t.hi /\ (gD
 a_3.x.ns i).s.lo = (gD a_1.x.ns i).s.lo /\ (gD a_3.x.ns i).s.hi = (gD a_1.x.ns i).s.hi) /\ Qy a a_3 /\ Ld a_3 a1
abbrev Ke (a : MkI) (a1 : KN) : Prop := (JV a).s.bs.length = a1.x.s.bs.length
abbrev No (a : MkI) (a1 : KN) : Prop := ∀ (i : Nat), i < (JV a).s.bs.length -> gD (JV a).s.bs i = gD a1.x.s.bs i
abbrev Ui (a : MkI) (a1 : KN) : Prop := (JV a).s.used = a1.x.s.used
abbrev Pt (a : MkI) (a1 : KN) : Prop := (JV a).s.mix = a1.x.s.mix
abbrev Wo (a : MkI) : Prop := CW a /\ (JV a).ns = []
abbrev Oi (a : KNb) (a1 : KN) : Prop := a.x.ns.length = a1.x.ns.length
abbrev Vo (a : MkI) (a1 : KNb) (a2 : KN) : Prop := Kt a a1 a2 /\ (1 : Nat) <= a1.x.ns.length
abbrev YB (a : KNb) : Nat := a.x.ns.length + (1 : Nat)
abbrev Up (a : KN) (a1 : KNb) : Prop := a.x.ns.length = YB a1
abbrev JK (i : Nat) (a : KNb) : Bool := decide (i < a.x.ns.length)
abbrev Si (a : KN) (a1 : KNb) : Prop := a.x.ns.length = a1.x.ns.length
abbrev Nb (a : MkI) (a1 : KN) : Prop := (JV a).ns.length = a1.x.ns.length
abbrev Xq (a : MkI) : Int := Mv a + (5 : Int) * a.m
abbrev Ni (a : MkI) : Prop := CW a /\ StmB (Xq a) (JV a).s /\ (1 : Nat) <= (JV a).ns.length /\ (↑(JV a).ns.length : Int) <= a.m
abbrev VN (i : Nat) (a : MkI) : Prop := i < (mE a).s.bs.length
abbrev Th (a : MkI) : Prop := (GQ a).ms.length = (mS a).ms.length
abbrev Nk (a : MkI) : Prop := ∀ (i : Nat), i < (GQ a).ms.length -> (gD (GQ a).ms i).pl = (gD (mS a).ms i).pl /\ (gD (GQ a).ms i).ht = (gD (mS a).ms i).ht
abbrev Pz (a : MkI) : Prop := (GQ a).ns.length = (0 : Nat)
abbrev Oe (a : MkI) : Prop := (qX a).t.length = (mS a).t.length
abbrev Pj (a : MkI) : Prop := ∀ (i : Nat), i < (qX a).t.length -> gD (qX a).t i = gD (mS a).t i
abbrev Rz (a : MkI) : Prop := (qX a).s.length = (mS a).st.length
abbrev Lm (a : MkI) : Prop := ∀ (i : Nat), i < (qX a).s.length -> gD (qX a).s i = gD (mS a).st i
abbrev Tx (a : MkI) : Prop := (qX a).z.length = (mS a).z.length
abbrev Uj (a : MkI) : Prop := ∀ (i : Nat), i < (qX a).z.length -> gD (qX a).z i = gD (mS a).z i
abbrev Xi (a : KN) (a1 : MkI) : Prop := a.x.ns.length = (JV a1).ns.length
abbrev VM (a : MkI) (a1 : KN) : Prop := CW a /\ a1.i < a1.x.ns.length /\ StmB (Xq a + a.m - (↑a1.i : Int)) a1.x.s /\ shK a1.i a1.x = mE a /\ (↑a1.x.ns.length : Int) <= a.m
abbrev XC (a : KN) : Int := AN (OW a) (KB a)
abbrev Qn (a : KN) : Prop := (0 : Int) <= XC a /\ XC a < (↑a.x.ns.length : Int)
abbrev NV (a : KN) : Nat := (0 : Nat) + (XC a).toNat
abbrev Us (a : KN) : Prop := (0 : Int) <= (↑a.i : Int) /\ (↑a.i : Int) < (↑a.x.ns.length : Int)
abbrev XN (a : KN) : Nat := (0 : Nat) + a.i
abbrev Oh (a : KN) : Prop := XN a < a.x.ns.length
abbrev VL (a : KN) : Stm := AQ (OW a) (KB a)
abbrev Rx (a : KN) : List Int := (VL a).bs
abbrev JX (i : Nat) (a : KN) : Bool := decide (i = NV a)
abbrev UV (a : KN) : Nt := gD a.x.ns (XN a)
abbrev JM (i : Nat) (a : KN) : Bool := decide (i = XN a)
abbrev VS (a : KN) : Nt := gD a.x.ns (NV a)
abbrev Mr (a : KN) : Span := (UV a).t
abbrev Rj (a : KN) : Span := (VS a).t
abbrev Ll (a : KN) : Span := (UV a).s
abbrev Wn (a : KN) : Span := (VS a).s
abbrev XR (a : KN) (j : Nat) : Nt := gD a.x.ns (JR j)
abbrev Tj (a : KN) (j : Nat) : Span := (XR a j).t
abbrev Ru (a : KN) (j : Nat) : Span := (XR a j).s
abbrev Na (a : MkI) : Prop := ∀ (a_1 : One), CW a -> ((∃ (a_3 : KN), ((↑a_3.i : Int) = (0 : Int) /\ a_3.x.s.bs.length = (mS a).s.bs.length /\ (∀ (i : Nat), HA i a_3 -> gD a_3.x.s.bs i = gD (mS
 a).s.bs i) /\ a_3.x.s.used = (mS a).s.used /\ a_3.x.s.mix = (mS a).s.mix /\ GX a) /\ WK a a_3) /\ (∀ (a_3 : KN), WK a a_3 -> bif bif Xk a_3 a then decide ((↑(0 : Nat) : Int) < (20 : Int))
 else false then ((Pd a_3 /\ ∃ (a_5 : KNb), (Kh a_5 a_3 /\ Sq a_5 a_3 /\ Le a_5 a_3 /\ Sy a_5 a_3 /\ Qc a_5 a_3 /\ Sg a_5 a_3 /\ GX a) /\ Ma a a_5
 a_3) /\ ∀ (a_5 : KNb), Ma a a_5 a_3 -> bif a_5.b then (NP a_5 a /\ OA /\ Rl a_5 /\ Sj a_5 /\ Ko a_5 /\ Wb a_5 /\ Kx a_5 /\ NP a_5 a /\ OA /\
 Kj a_5 /\ Ly a_5 /\ Ql a_5 /\ Vs a_5 /\ Mc a_5 /\ NR a_5 a /\ LW /\ Qs a_5 /\ Sl a_5 /\ Qm a_5 /\ Om a_5 /\ Wz a_5 /\
 NR a_5 a /\ LW /\ Px a_5 /\ Qi a_5 /\ Vv a_5 /\ Pa a_5 /\ Xc a_5 /\ (True /\ (Jo -> (0 : Nat) = (5 : Nat))) /\ Kk /\ Ex /\ Jc /\ (40 :
 Nat) <= (140737488355328 : Nat)) /\ ∃ (a_7 : KN), (NJ a_7 a_5 /\ Tw a_7 a_5 /\ Tl a_7 a_5 /\ Ve a_7 a_5 /\ Pp a_7 a_5 /\ AC /\ AC /\ AC /\ AC /\
 AC /\ AA /\ AB /\ AA /\ AB /\ AA /\ AB /\ AA /\ AB /\ AA /\ AB /\ EA a.s = EA a.s /\ GV a.s = GV a.s /\ IB a.s = IB a.s /\ GC a.s = GC a.s
 /\ FP a.s = FP a.s /\ DO a /\ DN a /\ AA /\ Ns a_7 /\ DQ a /\ DP a /\ DJ a /\ DI a /\ DM a /\ DR a /\ Ns a_7 /\ ∀ (i : Nat), i <
 a_7.x.ns.length -> (gD a_7.x.ns i).mi = (↑a_5.i : Int) /\ (gD a_7.x.ns i).t.lo = Tu a a_5 /\ (gD a_7.x.ns i).t.hi = Ua a a_5 /\ (gD a_7.x.ns i).s.lo = Vc a a_5 /\ (gD a_7.x.ns i).s.hi = Pi
 a a_5) /\ OJ a a_7 a_3 else ∃ (a_7 : KN), (NJ a_7 a_5 /\ Rh a_7 a_5 /\ Qb a_7 a_5 /\ Ws a_7 a_5 /\ Sp a_7 a_5 /\ GX a) /\ Ok a a_7 a_3) /\ (∀ (a_5 : KN),
 Ok a a_5 a_3 -> ∃ (a_7 : KN), (Mb a_7 a_5 /\ Uo a_7 a_5 /\ Li a_7 a_5 /\ Kn a_7 a_5 /\ Pk a_7 a_5 /\ GX a) /\ WK a a_7 /\ Ld a_7 a_3) /\ WW
 a a_3 else ∃ (a_5 : One), (Ke a a_3 /\ No a a_3 /\ Ui a a_3 /\ Pt a a_3 /\ GX a) /\ Wo a) /\ ∀ (a_3 : KN), Qy a a_3 -> bif bif Xk a_3 a then decide
 ((↑a_3.x.ns.length : Int) < (20 : Int)) else false then ((Pd a_3 /\ ∃ (a_5 : KNb), (Kh a_5 a_3 /\ Sq a_5 a_3 /\ Le a_5 a_3 /\ Sy a_5 a_3 /\ Qc a_5 a_3 /\ Sg a_5
 a_3 /\ AC /\ AC /\ AC /\ AC /\ AC /\ AA /\ AB /\ AA /\ AB /\ AA /\ AB /\ AA /\ AB /\ AA /\ AB /\ EA a.s = EA a.s /\
 GV a.s = GV a.s /\ IB a.s = IB a.s /\ GC a.s = GC a.s /\ FP a.s = FP a.s /\ DO a /\ DN a /\ AA /\ Oi a_5 a_3 /\ DQ a /\ DP a /\ DJ a /\ DI a /\
 DM a /\ DR a /\ Oi a_5 a_3 /\ ∀ (i : Nat), i < a_5.x.ns.length -> (gD a_5.x.ns i).mi = (gD a_3.x.ns i).mi /\ (gD a_5.x.ns i).t.lo = (gD a_3.x.ns i).t.lo /\ (gD a_5.x.ns i).t.hi = (gD a_3.x.ns i).t.hi
 /\ (gD a_5.x.ns i).s.lo = (gD a_3.x.ns i).s.lo /\ (gD a_5.x.ns i).s.hi = (gD a_3.x.ns i).s.hi) /\ Vo a a_5 a_3) /\ ∀ (a_5 : KNb), Vo a a_5 a_3 -> bif a_5.b then (NP a_5 a /\ OA /\ Rl
 a_5 /\ Sj a_5 /\ Ko a_5 /\ Wb a_5 /\ Kx a_5 /\ NP a_5 a /\ OA /\ Kj a_5 /\ Ly a_5 /\ Ql a_5 /\ Vs a_5 /\ Mc a_5 /\ NR a_5 a
 /\ LW /\ Qs a_5 /\ Sl a_5 /\ Qm a_5 /\ Om a_5 /\ Wz a_5 /\ NR a_5 a /\ LW /\ Px a_5 /\ Qi a_5 /\ Vv a_5 /\ Pa a_5 /\
 Xc a_5 /\ (a_5.x.ns.length = a_5.x.ns.length /\ ((0 : Nat) < a_5.x.ns.length -> Rc)) /\ Kk /\ JY /\ YB a_5 <= (9223372036854775807 : Nat) /\ YB a_5 * (40 : Nat) <=
 (140737488355328 : Nat)) /\ ∃ (a_7 : KN), (NJ a_7 a_5 /\ Tw a_7 a_5 /\ Tl a_7 a_5 /\ Ve a_7 a_5 /\ Pp a_7 a_5 /\ AC /\ AC /\ AC /\ AC /\ AC /\
 AA /\ AB /\ AA /\ AB /\ AA /\ AB /\ AA /\ AB /\ AA /\ AB /\ EA a.s = EA a.s /\ GV a.s = GV a.s /\ IB a.s = IB a.s /\ GC a.s = GC a.s /\ FP a.s =
 FP a.s /\ DO a /\ DN a /\ AA /\ Up a_7 a_5 /\ DQ a /\ DP a /\ DJ a /\ DI a /\ DM a /\ DR a /\ Up a_7 a_5 /\ ∀ (i : Nat), i <
 a_7.x.ns.length -> ((gD a_7.x.ns i).mi = bif JK i a_5 then (gD a_5.x.ns i).mi else (↑a_5.i : Int)) /\ ((gD a_7.x.ns i).t.lo = bif JK i a_5 then (gD a_5.x.ns i).t.lo else Tu a a_5) /\ ((gD a_7.x.ns
 i).t.hi = bif JK i a_5 then (gD a_5.x.ns i).t.hi else Ua a a_5) /\ ((gD a_7.x.ns i).s.lo = bif JK i a_5 then (gD a_5.x.ns i).s.lo else Vc a a_5) /\ (gD a_7.x.ns i).s.hi = bif JK
 i a_5 then (gD a_5.x.ns i).s.hi else Pi a a_5) /\ OJ a a_7 a_3 else ∃ (a_7 : KN), (NJ a_7 a_5 /\ Rh a_7 a_5 /\ Qb a_7 a_5 /\ Ws a_7 a_5 /\ Sp a_7 a_5 /\ AC
 /\ AC /\ AC /\ AC /\ AC /\ AA /\ AB /\ AA /\ AB /\ AA /\ AB /\ AA /\ AB /\ AA /\ AB /\ EA a.s = EA a.s /\ GV a.s = GV
 a.s /\ IB a.s = IB a.s /\ GC a.s = GC a.s /\ FP a.s = FP a.s /\ DO a /\ DN a /\ AA /\ Si a_7 a_5 /\ DQ a /\ DP a /\ DJ a /\ DI a /\ DM a /\
 DR a /\ Si a_7 a_5 /\ ∀ (i : Nat), i < a_7.x.ns.length -> (gD a_7.x.ns i).mi = (gD a_5.x.ns i).mi /\ (gD a_7.x.ns i).t.lo = (gD a_5.x.ns i).t.lo /\ (gD a_7.x.ns i).t.hi = (gD a_5.x.ns i).t.hi /\ (gD a_7.x.ns
 i).s.lo = (gD a_5.x.ns i).s.lo /\ (gD a_7.x.ns i).s.hi = (gD a_5.x.ns i).s.hi) /\ OJ a a_7 a_3) /\ WW a a_3 /\ WW a a_3 else ∃ (a_5 : One), (Ke a a_3 /\ No a a_3 /\ Ui a
 a_3 /\ Pt a a_3 /\ AC /\ AC /\ AC /\ AC /\ AC /\ AA /\ AB /\ AA /\ AB /\ AA /\ AB /\ AA /\ AB /\ AA /\ AB /\
 EA a.s = EA a.s /\ GV a.s = GV a.s /\ IB a.s = IB a.s /\ GC a.s = GC a.s /\ FP a.s = FP a.s /\ DO a /\ DN a /\ AA /\ Nb a a_3 /\ DQ a /\ DP a /\ DJ a /\
 DI a /\ DM a /\ DR a /\ Nb a a_3 /\ ∀ (i : Nat), i < (JV a).ns.length -> (gD (JV a).ns i).mi = (gD a_3.x.ns i).mi /\ (gD (JV a).ns i).t.lo = (gD a_3.x.ns i).t.lo /\ (gD (JV a).ns i).t.hi
 = (gD a_3.x.ns i).t.hi /\ (gD (JV a).ns i).s.lo = (gD a_3.x.ns i).s.lo /\ (gD (JV a).ns i).s.hi = (gD a_3.x.ns i).s.hi) /\ Ni a) /\ (∀ (a_3 : One), Wo a -> (∃ (a_5 : One), (Int.negSucc (0 : Nat) =
 Int.negSucc (0 : Nat) /\ (mE a).s.bs.length = (JV a).s.bs.length /\ (∀ (i : Nat), VN i a -> gD (mE a).s.bs i = gD (JV a).s.bs i) /\ (mE a).s.used = (JV a).s.used /\ (mE a).s.mix = (JV a).s.mix /\ GX a) /\
 (mE a).ns = []) /\ ∀ (a_5 : One), (mE a).ns = [] -> (GQ a).p.lo = EA a.s /\ (GQ a).p.hi = GV a.s /\ (GQ a).base = IB a.s /\ (GQ a).scale = GC a.s /\ (GQ a).off = FP a.s /\ Th a /\ Nk a /\ Pz a
 /\ Pz a /\ Oe a /\ Pj a /\ Rz a /\ Lm a /\ Tx a /\ Uj a /\ (mE a).s.bs.length = (mE a).s.bs.length /\ (∀ (i : Nat), VN i a -> gD (mE a).s.bs i = gD (mE
 a).s.bs i) /\ (mE a).s.used = (mE a).s.used /\ (mE a).s.mix = (mE a).s.mix) /\ ∀ (a_3 : One), Ni a -> (∃ (a_5 : KN), ((↑a_5.i : Int) = IntKind.i64.wrap ((↑(JV a).ns.length : Int) - (1 : Int)) /\ a_5.x.s.bs.length =
 (JV a).s.bs.length /\ (∀ (i : Nat), HA i a_5 -> gD a_5.x.s.bs i = gD (JV a).s.bs i) /\ a_5.x.s.used = (JV a).s.used /\ a_5.x.s.mix = (JV a).s.mix /\ AC /\ AC /\ AC /\ AC /\ AC
 /\ AA /\ AB /\ AA /\ AB /\ AA /\ AB /\ AA /\ AB /\ AA /\ AB /\ EA a.s = EA a.s /\ GV a.s = GV a.s /\ IB a.s = IB a.s /\ GC a.s = GC a.s /\ FP a.s
 = FP a.s /\ DO a /\ DN a /\ AA /\ Xi a_5 a /\ DQ a /\ DP a /\ DJ a /\ DI a /\ DM a /\ DR a /\ Xi a_5 a /\ ∀ (i : Nat), i <
 a_5.x.ns.length -> (gD a_5.x.ns i).mi = (gD (JV a).ns i).mi /\ (gD a_5.x.ns i).t.lo = (gD (JV a).ns i).t.lo /\ (gD a_5.x.ns i).t.hi = (gD (JV a).ns i).t.hi /\ (gD a_5.x.ns i).s.lo = (gD (JV a).ns i).s.lo /\ (gD a_5.x.ns
 i).s.hi = (gD (JV a).ns i).s.hi) /\ VM a a_5) /\ ∀ (a_5 : KN), VM a a_5 -> bif decide ((↑a_5.i : Int) > (0 : Int)) then (KB a_5 = KB a_5 /\ Wk a_5) /\ (Qn a_5 /\
 NV a_5 < a_5.x.ns.length /\ Us a_5 /\ Oh a_5 /\ Us a_5 /\ Oh a_5 /\ Qn a_5 /\ (NV a_5).succ.le a_5.x.ns.length) /\ ∃ (a_7 : KN), ((↑a_7.i : Int) = IntKind.i64.wrap
 ((↑a_5.i : Int) - (1 : Int)) /\ a_7.x.s.bs.length = (Rx a_5).length /\ (∀ (i : Nat), HA i a_7 -> gD a_7.x.s.bs i = gD (Rx a_5) i) /\ a_7.x.s.used = (VL a_5).used /\ a_7.x.s.mix =
 (VL a_5).mix /\ AC /\ AC /\ AC /\ AC /\ AC /\ AA /\ AB /\ AA /\ AB /\ AA /\ AB /\ AA /\ AB /\ AA /\ AB /\
 EA a.s = EA a.s /\ GV a.s = GV a.s /\ IB a.s = IB a.s /\ GC a.s = GC a.s /\ FP a.s = FP a.s /\ DO a /\ DN a /\ AA /\ OI a_7 a_5 /\ DQ a /\ DP a /\ DJ a /\
 DI a /\ DM a /\ DR a /\ OI a_7 a_5 /\ ∀ (i : Nat), i < a_7.x.ns.length -> ((gD a_7.x.ns i).mi = bif JX i a_5 then (UV a_5).mi else bif JM i a_5 then (VS
 a_5).mi else (gD a_5.x.ns i).mi) /\ ((gD a_7.x.ns i).t.lo = bif JX i a_5 then (Mr a_5).lo else bif JM i a_5 then (Rj a_5).lo else (gD a_5.x.ns i).t.lo) /\ ((gD a_7.x.ns i).t.hi = bif
 JX i a_5 then (Mr a_5).hi else bif JM i a_5 then (Rj a_5).hi else (gD a_5.x.ns i).t.hi) /\ ((gD a_7.x.ns i).s.lo = bif JX i a_5 then (Ll a_5).lo else bif JM i
 a_5 then (Wn a_5).lo else (gD a_5.x.ns i).s.lo) /\ (gD a_7.x.ns i).s.hi = bif JX i a_5 then (Ll a_5).hi else bif JM i a_5 then (Wn a_5).hi else (gD a_5.x.ns i).s.hi) /\
 VM a a_7 /\ a_7.i < a_5.i else (GQ a).p.lo = EA a.s /\ (GQ a).p.hi = GV a.s /\ (GQ a).base = IB a.s /\ (GQ a).scale = GC a.s /\ (GQ a).off = FP a.s /\ Th a /\ Nk a /\ (GQ a).ns.length =
 a_5.x.ns.length /\ (0 : Nat) + a_5.x.ns.length <= a_5.x.ns.length /\ (∀ (j : Nat), j < (GQ a).ns.length -> (gD (GQ a).ns j).mi = (XR a_5 j).mi /\ (gD (GQ a).ns j).t.lo = (Tj a_5 j).lo /\ (gD (GQ a).ns
 j).t.hi = (Tj a_5 j).hi /\ (gD (GQ a).ns j).s.lo = (Ru a_5 j).lo /\ (gD (GQ a).ns j).s.hi = (Ru a_5 j).hi) /\ Oe a /\ Pj a /\ Rz a /\ Lm a /\ Tx a /\
 Uj a /\ (mE a).s.bs.length = a_5.x.s.bs.length /\ (∀ (i : Nat), VN i a -> gD (mE a).s.bs i = gD a_5.x.s.bs i) /\ (mE a).s.used = a_5.x.s.used /\ (mE a).s.mix = a_5.x.s.mix
theorem CJH (a : MkI) : (CCV a) = (((fO /\ Z6 /\ R3 a = a.s.bs.length /\ (∀ (i : Nat), i < R3 a -> gD (dA a) i = gD a.s.bs i) /\ a.s.used = a.s.used /\ a.s.mix = a.s.mix /\ (0 : Int)
 <= a.s.used /\ (-50 : Int) = Int.negSucc (49 : Nat) /\ AAD /\ kO a = AHI a /\ (∀ (i : Nat), i < kO a -> gD (Ge a) i = ACA a i) /\ UH a = UH a /\ Ea a = Ea
 a /\ (0 : Int) <= UH a /\ Z6 /\ nH a = kI a /\ (∀ (i : Nat), i < nH a -> gD (Jf a) i = jJ a i) /\ SI a = SI a /\ Is a = Is a /\ (0 : Int) <=
 SI a /\ LW /\ iM a = mK a /\ (∀ (i : Nat), i < iM a -> gD (Iu a) i = sY a i) /\ UC a = UC a /\ Jb a = Jb a /\ (UC a - (0 :
 Int)).NonNeg) /\ ∃ (a_1 : One), (a.m = a.m /\ true = true /\ (gS4 a.s).bs.length = (pQ a).length /\ (∀ (i : Nat), i < (gS4 a.s).bs.length -> gD (gS4 a.s).bs i = gD (pQ a) i) /\ (gS4 a.s).used = (Jp
 a).used /\ (gS4 a.s).mix = (Jp a).mix /\ AC /\ AC /\ AC /\ AC /\ AC /\ AA /\ AB /\ AA /\ AB /\ AA /\ AB /\ AA /\ AB /\
 AA /\ AB /\ EA a.s = UE (AIQ a) (1 : Int) (12 : Int) /\ AC /\ IB a.s = UE (sK a) (-50 : Int) (400 : Int) /\ GC a.s = AN (rF a) (12 : Int) /\ FP a.s = AN (kZ
 a) (9 : Int) /\ Ig) /\ StmB (4 : Int) (gS4 a.s)) /\ ∀ (a_1 : One), StmB (4 : Int) (gS4 a.s) -> (((6 : Int) = Int.ofNat (6 : Nat) /\ mF a = (gS4 a.s).bs.length /\ (∀ (i : Nat), i < mF a -> gD (Jd
 a) i = gD (gS4 a.s).bs i) /\ (gS4 a.s).used = (gS4 a.s).used /\ (gS4 a.s).mix = (gS4 a.s).mix /\ ((gS4 a.s).used - (0 : Int)).NonNeg) /\ ∃ (a_3 : One), (a.m = a.m /\ true = true /\ (gS5 a.s).bs.length = (oC a).length /\
 (∀ (i : Nat), i < (gS5 a.s).bs.length -> gD (gS5 a.s).bs i = gD (oC a) i) /\ (gS5 a.s).used = (Jr a).used /\ (gS5 a.s).mix = (Jr a).mix /\ AC /\ AC /\ AC /\ AC /\
 AC /\ AA /\ AB /\ AA /\ AB /\ AA /\ AB /\ AA /\ AB /\ AA /\ AB /\ EA a.s = EA a.s /\ GV a.s = IntKind.i64.wrap (EA a.s + AN (sF
 a) (6 : Int)) /\ IB a.s = IB a.s /\ GC a.s = GC a.s /\ FP a.s = FP a.s /\ Ig) /\ StmB (5 : Int) (gS5 a.s)) /\ ∀ (a_3 : One), StmB (5 : Int) (gS5 a.s) -> (((300 : Int) = Int.ofNat (300 : Nat) /\ lW a = (gS5
 a.s).bs.length /\ (∀ (i : Nat), i < lW a -> gD (Hi a) i = gD (gS5 a.s).bs i) /\ (gS5 a.s).used = (gS5 a.s).used /\ (gS5 a.s).mix = (gS5 a.s).mix /\ ((gS5 a.s).used - (0 : Int)).NonNeg) /\ ∃ (a_5 : One), (a.m =
 a.m /\ true = true /\ AC /\ hTm a.s = AN (kN a) (300 : Int) /\ (gS6 a.s).bs.length = (pP a).length /\ (∀ (i : Nat), i < (gS6 a.s).bs.length -> gD (gS6 a.s).bs i = gD (pP a) i) /\ (gS6
 a.s).used = (Hd a).used /\ (gS6 a.s).mix = (Hd a).mix /\ Hw a) /\ StmB (6 : Int) (gS6 a.s)) /\ ∀ (a_5 : One), StmB (6 : Int) (gS6 a.s) -> ((fO /\ a.m = a.m /\ qF a = (gS6 a.s).bs.length /\
 (∀ (i : Nat), i < qF a -> gD (Ix a) i = gD (gS6 a.s).bs i) /\ (gS6 a.s).used = (gS6 a.s).used /\ (gS6 a.s).mix = (gS6 a.s).mix /\ ((gS6 a.s).used - (0 : Int)).NonNeg) /\ (∃ (a_7 : KS), (true = true /\ a_7.x.pl
 = (0 : Int) /\ a_7.x.tm = hTm a.s /\ (↑a_7.k : Int) = UE (iD a) (1 : Int) a.m /\ a_7.x.s.bs.length = (tQ a).length /\ (∀ (i : Nat), JA i a_7 -> gD a_7.x.s.bs i = gD (tQ a) i) /\ a_7.x.s.used =
 (Ii a).used /\ a_7.x.s.mix = (Ii a).mix /\ Hw a) /\ kH a a_7) /\ (∀ (a_7 : KS), kH a a_7 -> bif Ff a_7 then (∃ (a_9 : KS), (true = true /\ a_9.x.pl = a_7.x.pl /\ a_9.x.tm =
 a_7.x.tm /\ FB a_9 a_7 /\ Ei a_9 a_7 /\ Ed a_9 a_7 /\ Et a_9 a_7 /\ Gc a_9 a_7 /\ Hw a) /\ mD a a_9) /\ ∀ (a_9 : KS), mD a a_9 -> TN a_9 /\ (((True /\
 (Jo -> (0 : Nat) = (2 : Nat))) /\ tC /\ Ex /\ Jc /\ (16 : Nat) <= (140737488355328 : Nat)) /\ Ji /\ iI a a_9 /\ qC a a_9 /\ Vj a_9 /\ Ms a_9 /\ Sd
 a_9 /\ Ls a_9 /\ Rr a_9 /\ Ji) /\ ∃ (a_11 : KS), (true = true /\ a_11.x.pl = a_9.x.pl /\ a_11.x.tm = a_9.x.tm /\ UU a_11 a_9 /\ WM a_11 a_9 a /\ XH a_11 a_9 a /\ WH
 a_11 a_9 a /\ VX a_11 a_9 a /\ AC /\ AC /\ AC /\ AC /\ AC /\ AA /\ AB /\ AA /\ AB /\ AA /\ AB /\ AA /\ AB /\ AA /\
 AB /\ EA a.s = EA a.s /\ GV a.s = GV a.s /\ IB a.s = IB a.s /\ GC a.s = GC a.s /\ FP a.s = FP a.s /\ AA /\ Uu a_11 /\ AA /\ AB /\ AA /\ Wy a_11 /\ AA /\
 Un a_11 /\ AA /\ AB /\ Uu a_11 /\ (∀ (i : Nat), i < a_11.x.ms.length -> (gD a_11.x.ms i).pl = a_9.x.pl /\ (gD a_11.x.ms i).ht = Fy a_9) /\ Wy a_11 /\ (∀ (i : Nat), i <
 a_11.x.t.length -> gD a_11.x.t i = a_9.x.tm) /\ Un a_11 /\ ∀ (i : Nat), i < a_11.x.st.length -> gD a_11.x.st i = Ya a_9 a) /\ XM a a_11 /\ FR a_11 < (100 : Nat) else ∃ (a_9 : One),
 (VR a a_7 /\ WQ a a_7 /\ XW a a_7 /\ UZ a a_7 /\ AC /\ AC /\ AC /\ AC /\ AC /\ AA /\ AB /\ AA /\ AB /\ AA /\
 AB /\ AA /\ AB /\ AA /\ AB /\ EA a.s = EA a.s /\ GV a.s = GV a.s /\ IB a.s = IB a.s /\ GC a.s = GC a.s /\ FP a.s = FP a.s /\ Vf a /\ Vf a /\ AA /\ AB
 /\ Uy a /\ Uy a /\ Mz a /\ Mz a /\ Ut a) /\ CW a) /\ (∀ (a_7 : KS), XM a a_7 -> bif Ff a_7 then (bif Pw a_7 then Kc a_7 /\ (Va a
 a_7 /\ ∃ (a_9 : KS), (true = true /\ Lb a_9 a_7 /\ Xb a_9 a_7 a /\ FB a_9 a_7 /\ Um a_9 a_7 a /\ Lt a_9 a_7 a /\ Np a_9 a_7 a /\ Oy a_9 a_7 a /\ XJ a a_9 a_7)
 /\ Pm a a_9 a_7) /\ ∀ (a_9 : KS), Pm a a_9 a_7 -> true = true /\ true = true /\ Qr a_9 /\ true = true /\ bif Sb a_9 then Ji /\ Pv a_9 /\ ∃ (a_11 : KS), (true = true /\ a_11.x.pl
 = a_9.x.pl /\ Tf a_11 a_9 /\ FB a_11 a_9 /\ Qe a_11 a_9 /\ Kp a_11 a_9 /\ Tz a_11 a_9 /\ Ur a_11 a_9 /\ AC /\ AC /\ AC /\ AC /\ AC /\
 AA /\ AB /\ AA /\ AB /\ AA /\ AB /\ AA /\ AB /\ AA /\ AB /\ EA a.s = EA a.s /\ GV a.s = GV a.s /\ IB a.s = IB a.s /\ GC a.s = GC a.s /\ FP a.s =
 FP a.s /\ AA /\ EK a_11 a_9 /\ AA /\ AB /\ AA /\ ES a_11 a_9 /\ AA /\ ER a_11 a_9 /\ AA /\ Vb a_11 /\ EK a_11 a_9 /\ OB a_11 a_9
 /\ ES a_11 a_9 /\ NY a_11 a_9 /\ ER a_11 a_9 /\ OD a_11 a_9 /\ Vb a_11 /\ ∀ (i : Nat), i < a_11.x.z.length -> gD a_11.x.z i = Vq a_9) /\ Xj a a_11 a_7 else ∃ (a_11 :
 KS), (true = true /\ a_11.x.pl = a_9.x.pl /\ a_11.x.tm = a_9.x.tm /\ FB a_11 a_9 /\ Kb a_11 a_9 /\ Kf a_11 a_9 /\ Uc a_11 a_9 /\ Vp a_11 a_9 /\ XJ a a_11 a_9) /\ XU a
 a_11 a_7 else ∃ (a_9 : KS), (true = true /\ a_9.x.pl = a_7.x.pl /\ a_9.x.tm = a_7.x.tm /\ FB a_9 a_7 /\ Ei a_9 a_7 /\ Ed a_9 a_7 /\ Et a_9 a_7 /\ Gc a_9 a_7 /\ XJ a a_9 a_7) /\
 XU a a_9 a_7) /\ (∀ (a_9 : KS), XU a a_9 a_7 -> TN a_9 /\ XA a_9 a /\ ∃ (a_11 : KS), (true = true /\ a_11.x.pl = a_9.x.pl /\ a_11.x.tm = a_9.x.tm /\ UU a_11 a_9 /\ WM a_11 a_9
 a /\ XH a_11 a_9 a /\ WH a_11 a_9 a /\ VX a_11 a_9 a /\ AC /\ AC /\ AC /\ AC /\ AC /\ AA /\ AB /\ AA /\ AB /\ AA /\ AB
 /\ AA /\ AB /\ AA /\ AB /\ EA a.s = EA a.s /\ GV a.s = GV a.s /\ IB a.s = IB a.s /\ GC a.s = GC a.s /\ FP a.s = FP a.s /\ AA /\ NT a_11 a_9 /\ AA /\ AB /\
 AA /\ NX a_11 a_9 /\ AA /\ OR a_11 a_9 /\ AA /\ AB /\ NT a_11 a_9 /\ Ku a_11 a_9 /\ NX a_11 a_9 /\ Se a_11 a_9 /\ OR a_11 a_9 /\
 Ux a_11 a_9 a) /\ XM a a_11 /\ FR a_11 < FR a_7) /\ ∀ (a_9 : KS), Xj a a_9 a_7 -> TN a_9 /\ XA a_9 a /\ ∃ (a_11 : KS), Pb a_11 a_9 a /\ VY a a_11 /\
 a_11.k < FR a_7 else ∃ (a_9 : One), (VR a a_7 /\ WQ a a_7 /\ XW a a_7 /\ UZ a a_7 /\ AC /\ AC /\ AC /\ AC /\ AC /\ AA /\ AB /\
 AA /\ AB /\ AA /\ AB /\ AA /\ AB /\ AA /\ AB /\ EA a.s = EA a.s /\ GV a.s = GV a.s /\ IB a.s = IB a.s /\ GC a.s = GC a.s /\ FP a.s = FP a.s /\ Xy a
 a_7 /\ Xl a_7 /\ Vw a a_7 /\ AA /\ AB /\ Lo a a_7 /\ On a_7 /\ Po a a_7 /\ Pe a a_7 /\ Ss a_7 /\ Rb a a_7 /\ Ut a) /\ CW a) /\
 ∀ (a_7 : KS), VY a a_7 -> bif Ff a_7 then (bif Pw a_7 then Kc a_7 /\ (Va a a_7 /\ ∃ (a_9 : KS), (true = true /\ Lb a_9 a_7 /\ Xb a_9 a_7 a /\ FB a_9 a_7 /\
 Um a_9 a_7 a /\ Lt a_9 a_7 a /\ Np a_9 a_7 a /\ Oy a_9 a_7 a /\ XB a a_9 a_7) /\ Lh a a_9 a_7) /\ ∀ (a_9 : KS), Lh a a_9 a_7 -> true = true /\ true = true /\
 Qr a_9 /\ true = true /\ bif Sb a_9 then ((a_9.x.z.length = a_9.x.z.length /\ ((0 : Nat) < a_9.x.z.length -> TJ)) /\ TV /\ JY /\ TI a_9 <= (9223372036854775807 : Nat) /\
 TI a_9 * (8 : Nat) <= (140737488355328 : Nat)) /\ Pv a_9 /\ ∃ (a_11 : KS), (true = true /\ a_11.x.pl = a_9.x.pl /\ Tf a_11 a_9 /\ FB a_11 a_9 /\ Qe a_11 a_9 /\ Kp a_11 a_9 /\
 Tz a_11 a_9 /\ Ur a_11 a_9 /\ AC /\ AC /\ AC /\ AC /\ AC /\ AA /\ AB /\ AA /\ AB /\ AA /\ AB /\ AA /\ AB /\
 AA /\ AB /\ EA a.s = EA a.s /\ GV a.s = GV a.s /\ IB a.s = IB a.s /\ GC a.s = GC a.s /\ FP a.s = FP a.s /\ AA /\ EK a_11 a_9 /\ AA /\ AB /\ AA /\ ES a_11
 a_9 /\ AA /\ ER a_11 a_9 /\ AA /\ Xo a_11 a_9 /\ EK a_11 a_9 /\ OB a_11 a_9 /\ ES a_11 a_9 /\ NY a_11 a_9 /\ ER a_11 a_9 /\ OD a_11 a_9 /\
 Xo a_11 a_9 /\ ∀ (i : Nat), i < a_11.x.z.length -> gD a_11.x.z i = bif decide (i < a_9.x.z.length) then gD a_9.x.z i else Vq a_9) /\ OX a a_11 a_7 else ∃ (a_11 : KS), (true = true /\ a_11.x.pl =
 a_9.x.pl /\ a_11.x.tm = a_9.x.tm /\ FB a_11 a_9 /\ Kb a_11 a_9 /\ Kf a_11 a_9 /\ Uc a_11 a_9 /\ Vp a_11 a_9 /\ XB a a_11 a_9) /\ OX a a_11 a_7 else ∃ (a_9 : KS),
 (true = true /\ a_9.x.pl = a_7.x.pl /\ a_9.x.tm = a_7.x.tm /\ FB a_9 a_7 /\ Ei a_9 a_7 /\ Ed a_9 a_7 /\ Et a_9 a_7 /\ Gc a_9 a_7 /\ XB a a_9 a_7) /\ OX a a_9 a_7) /\
 Tt a a_7 /\ Tt a a_7 else ∃ (a_9 : One), (VR a a_7 /\ WQ a a_7 /\ XW a a_7 /\ UZ a a_7 /\ AC /\ AC /\ AC /\ AC /\ AC /\ AA /\
 AB /\ AA /\ AB /\ AA /\ AB /\ AA /\ AB /\ AA /\ AB /\ EA a.s = EA a.s /\ GV a.s = GV a.s /\ IB a.s = IB a.s /\ GC a.s = GC a.s /\ FP a.s = FP a.s /\
 Xy a a_7 /\ Xl a_7 /\ Vw a a_7 /\ AA /\ AB /\ Lo a a_7 /\ On a_7 /\ Po a a_7 /\ Pe a a_7 /\ Ss a_7 /\ Rb a a_7 /\ (mS a).z.length =
 a_7.x.z.length /\ (0 : Nat) + a_7.x.z.length <= a_7.x.z.length /\ ∀ (j : Nat), j < (mS a).z.length -> gD (mS a).z j = gD a_7.x.z (JR j)) /\ CW a) /\ Na a /\ Na a) := by kernel_rfl
end Go.Bal
