/- Package chart: charts that are made of numbers, with stops. -/
import Derived.Test.YtdbjalgfomknhaaChW
import Derived.Test.YtdbjalgfomknhaaChRd1
set_option linter.unusedVariables false
set_option linter.unusedSimpArgs false
namespace Go.Bal
open Go Go.Sym Go.Proofs
def AWW (a : MkI) : Prop := CR Try.prog (BAX true a) AUQ (AL AUQ) ((yO true).xs a) (AE ((yO true).L a)) ((yO true).val a) ((yO true).keep a) [] [305]
abbrev uW : Prop := (1 : Int) = Int.ofNat (1 : Nat)
abbrev R7 : Prop := (12 : Int) = Int.ofNat (12 : Nat)
abbrev vF (a : MkI) : List Int := OF a.s.bs.length λ (i : Nat) => gD a.s.bs i
abbrev AAC (a : MkI) : Nat := (vF a).length
abbrev N7 : Prop := (400 : Int) = Int.ofNat (400 : Nat)
abbrev AAJ (a : MkI) : Stm := Stm.mk (vF a) a.s.used a.s.mix
abbrev uP (a : MkI) : Stm := Fc (AAJ a) (1 : Int) (12 : Int)
abbrev T9 (a : MkI) : List Int := (uP a).bs
abbrev AAN (a : MkI) : Nat := (T9 a).length
abbrev AAD (a : MkI) (i : Nat) : Int := gD (T9 a) i
abbrev cC (a : MkI) : List Int := OF (AAN a) λ (i : Nat) => AAD a i
abbrev E5 (a : MkI) : Nat := (cC a).length
abbrev Qs (a : MkI) : Int := (uP a).used
abbrev gM (a : MkI) : Int := (uP a).mix
abbrev yC (a : MkI) : Stm := Stm.mk (cC a) (Qs a) (gM a)
abbrev eR (a : MkI) : Stm := Fc (yC a) (-50 : Int) (400 : Int)
abbrev xR (a : MkI) : List Int := (eR a).bs
abbrev B6 (a : MkI) : Nat := (xR a).length
abbrev zS (a : MkI) (i : Nat) : Int := gD (xR a) i
abbrev dC (a : MkI) : List Int := OF (B6 a) λ (i : Nat) => zS a i
abbrev xX (a : MkI) : Nat := (dC a).length
abbrev Rq (a : MkI) : Int := (eR a).used
abbrev eN (a : MkI) : Int := (eR a).mix
abbrev Ir : Prop := (9 : Int) = Int.ofNat (9 : Nat)
abbrev xT (a : MkI) : Stm := Stm.mk (dC a) (Rq a) (eN a)
abbrev eJ (a : MkI) : Stm := CP (xT a) (12 : Int)
abbrev xO (a : MkI) : List Int := (eJ a).bs
abbrev A8 (a : MkI) : Nat := (xO a).length
abbrev E7 (a : MkI) (i : Nat) : Int := gD (xO a) i
abbrev cF (a : MkI) : List Int := OF (A8 a) λ (i : Nat) => E7 a i
abbrev zN (a : MkI) : Nat := (cF a).length
abbrev Sc (a : MkI) : Int := (eJ a).used
abbrev gO (a : MkI) : Int := (eJ a).mix
abbrev zW (a : MkI) : Stm := Stm.mk (cF a) (Sc a) (gO a)
abbrev eO (a : MkI) : Stm := CP (zW a) (9 : Int)
abbrev xQ (a : MkI) : List Int := (eO a).bs
abbrev AD : Prop := Int.ofNat (0 : Nat) = Int.ofNat (0 : Nat)
abbrev AA : Prop := (0 : Nat) = (0 : Nat)
abbrev AB : Prop := ∀ (i : Nat), i < (0 : Nat) -> false = false
abbrev dO : Prop := AA /\ AB /\ AA /\ AB
abbrev dR (a : MkI) : List Int := OF (gS4 a.s).bs.length λ (i : Nat) => gD (gS4 a.s).bs i
abbrev zZ (a : MkI) : Nat := (dR a).length
abbrev E2 (a : MkI) : Stm := Stm.mk (dR a) (gS4 a.s).used (gS4 a.s).mix
abbrev gE (a : MkI) : Stm := CP (E2 a) (6 : Int)
abbrev F1 (a : MkI) : List Int := (gE a).bs
abbrev cT (a : MkI) : List Int := OF (gS5 a.s).bs.length λ (i : Nat) => gD (gS5 a.s).bs i
abbrev yH (a : MkI) : Nat := (cT a).length
abbrev zU (a : MkI) : Stm := Stm.mk (cT a) (gS5 a.s).used (gS5 a.s).mix
abbrev fF (a : MkI) : Stm := CP (zU a) (300 : Int)
abbrev xM (a : MkI) : List Int := (fF a).bs
abbrev fA (a : MkI) : Prop := AD /\ AD /\ AD /\ AD /\ AD /\ AA /\ AB /\ AA /\ AB /\ AA /\ AB /\ AA /\ AB /\ AA /\
 AB /\ QS a.s = QS a.s /\ XE a.s = XE a.s /\ ZE a.s = ZE a.s /\ VN a.s = VN a.s /\ TH a.s = TH a.s /\ AA /\ AB /\ AA /\ AB /\ AA /\ AB /\ dO
abbrev eV (a : MkI) : List Int := OF (gS6 a.s).bs.length λ (i : Nat) => gD (gS6 a.s).bs i
abbrev B5 (a : MkI) : Nat := (eV a).length
abbrev E3 (a : MkI) : Stm := Stm.mk (eV a) (gS6 a.s).used (gS6 a.s).mix
abbrev dV (a : MkI) : Stm := Fc (E3 a) (1 : Int) a.m
abbrev yD (a : MkI) : List Int := (dV a).bs
abbrev Bp (i : Nat) (a : KS) : Prop := i < a.x.s.bs.length
abbrev D2 (a : KS) (a1 : MkI) : Prop := (↑a.k : Int) <= a1.m
abbrev dE (a : MkI) (a1 : KS) : Int := (7 : Int) * (a.m - (↑a1.k : Int))
abbrev cS (a : KS) (a1 : MkI) : Prop := (↑a.x.ms.length : Int) + (↑a.k : Int) <= a1.m
abbrev dM (a : KS) : Prop := a.x.t.length = a.x.ms.length
abbrev gG (a : KS) : Prop := a.x.st.length = a.x.ms.length
abbrev Rr (a : KS) : Nat := a.x.z.length + (1 : Nat)
abbrev yZ (a : KS) : Prop := Rr a <= a.x.ms.length
abbrev fC (a : MkI) (a1 : KS) : Prop := dD a a1.k a1.x = mS a /\ D2 a1 a /\ StmB ((7 : Int) + dE a a1) a1.x.s /\ cS a1 a /\ dM a1 /\ gG a1 /\ (a1.x.z = [] ∨ yZ a1)
abbrev A7 (a : KS) : Prop := (1 : Nat) <= a.k
abbrev F0 (a : KS) : Prop := a.x.ms = [] /\ a.x.z = []
abbrev yT (a : MkI) (a1 : KS) : Prop := fC a a1 /\ A7 a1 /\ F0 a1
abbrev bU (a : KS) : Bool := decide ((↑a.k : Int) > (0 : Int))
abbrev RO (a : KS) (a1 : KS) : Prop := (↑a.k : Int) = (↑a1.k : Int)
abbrev cV (a : KS) (a1 : KS) : Prop := a.x.s.bs.length = a1.x.s.bs.length
abbrev cZ (a : KS) (a1 : KS) : Prop := ∀ (i : Nat), Bp i a -> gD a.x.s.bs i = gD a1.x.s.bs i
abbrev dN (a : KS) (a1 : KS) : Prop := a.x.s.used = a1.x.s.used
abbrev gN (a : KS) (a1 : KS) : Prop := a.x.s.mix = a1.x.s.mix
abbrev C0 (a : KS) : Nat := a.k - (1 : Nat)
abbrev zG (a : KS) (a1 : MkI) : Prop := A7 a /\ D2 a a1
abbrev So (a : MkI) (a1 : KS) : Prop := dD a (C0 a1) (zL a a1.x) = mS a /\ zG a1 a /\ StmB ((11 : Int) + dE a a1) a1.x.s /\ cS a1 a /\ dM a1 /\ gG a1 /\ a1.x.z.length
 <= a1.x.ms.length
abbrev E1 (a : MkI) (a1 : KS) : Prop := So a a1 /\ (100 : Nat) = (100 : Nat) /\ F0 a1
abbrev eY (a : KS) : List Int := OF a.x.s.bs.length λ (i : Nat) => gD a.x.s.bs i
abbrev B8 (a : KS) : Nat := (eY a).length
abbrev fY (a : KS) : Prop := B8 a = a.x.s.bs.length /\ (∀ (i : Nat), i < B8 a -> gD (eY a) i = gD a.x.s.bs i) /\ a.x.s.used = a.x.s.used /\ a.x.s.mix = a.x.s.mix /\ (a.x.s.used - (0 :
 Int)).NonNeg
abbrev Tj (a : KS) : Prop := (60 : Int) = Int.ofNat (60 : Nat) /\ fY a
abbrev gB : Prop := (0 : Nat) < (0 : Nat)
abbrev eK : Prop := (1 : Nat) <= (1 : Nat)
abbrev Ji : Prop := (0 : Nat) < (1 : Nat)
abbrev xN : Prop := (2 : Nat) = (2 : Nat)
abbrev zF : Prop := eK /\ (Ji -> xN)
abbrev eE : Prop := true = true -> Ji
abbrev eX : Prop := (1 : Nat) <= (9223372036854775807 : Nat)
abbrev Qv : Prop := (1 : Nat) = (1 : Nat)
abbrev Sg : Prop := eK /\ (Ji -> Qv)
abbrev cW : Prop := (True /\ (gB -> (0 : Nat) = (1 : Nat))) /\ Sg /\ eE /\ eX /\ (8 : Nat) <= (140737488355328 : Nat)
abbrev Br (a : KS) : Stm := Stm.mk (eY a) a.x.s.used a.x.s.mix
abbrev eS (a : KS) : Int := BZ (Br a) (60 : Int)
abbrev A0 (a : MkI) (a1 : KS) : Int := IntKind.i64.wrap (ZE a.s + IntKind.i64.wrap (VN a.s * eS a1))
abbrev Sj (a : MkI) (a1 : KS) : Int := IntKind.i64.wrap (A0 a a1 - TH a.s)
abbrev A1 (a : MkI) (a1 : KS) : Prop := Sj a a1 = Sj a a1
abbrev Tg (a : MkI) (a1 : KS) : Int := IntKind.i64.wrap (A0 a a1 + TH a.s)
abbrev D7 (a : MkI) (a1 : KS) : Prop := Tg a a1 = Tg a a1
abbrev bS (a : KS) : Stm := CP (Br a) (60 : Int)
abbrev nW (a : KS) : List Int := (bS a).bs
abbrev rD (a : KS) : Nat := (nW a).length
abbrev rS (a : KS) (i : Nat) : Int := gD (nW a) i
abbrev Ws (a : KS) : List Int := OF (rD a) λ (i : Nat) => rS a i
abbrev iY (a : KS) : Nat := (Ws a).length
abbrev lJ (a : KS) : Prop := iY a = rD a
abbrev jD (a : KS) : Prop := ∀ (i : Nat), i < iY a -> gD (Ws a) i = rS a i
abbrev Mo (a : KS) : Int := (bS a).used
abbrev jV (a : KS) : Prop := Mo a = Mo a
abbrev Wi (a : KS) : Int := (bS a).mix
abbrev pY (a : KS) : Prop := Wi a = Wi a
abbrev qT (a : KS) : Prop := (0 : Int) <= Mo a
abbrev Ux (a : KS) (a1 : KS) : Prop := (↑a.k : Int) = IntKind.i64.wrap ((↑a1.k : Int) - (1 : Int))
abbrev iM (a : KS) : Stm := Stm.mk (Ws a) (Mo a) (Wi a)
abbrev Vh (a : KS) (a1 : MkI) : Stm := Fc (iM a) (Sj a1 a) (Tg a1 a)
abbrev jL (a : KS) (a1 : MkI) : List Int := (Vh a a1).bs
abbrev Wc (a : KS) (a1 : KS) (a2 : MkI) : Prop := a.x.s.bs.length = (jL a1 a2).length
abbrev Vz (a : KS) (a1 : KS) (a2 : MkI) : Prop := ∀ (i : Nat), Bp i a -> gD a.x.s.bs i = gD (jL a1 a2) i
abbrev Vm (a : KS) (a1 : KS) (a2 : MkI) : Prop := a.x.s.used = (Vh a1 a2).used
abbrev Vs (a : KS) (a1 : KS) (a2 : MkI) : Prop := a.x.s.mix = (Vh a1 a2).mix
abbrev lC (a : KS) : Prop := a.x.ms.length = (1 : Nat)
abbrev qQ (a : KS) : Prop := a.x.t.length = (1 : Nat)
abbrev mP (a : KS) : Prop := a.x.st.length = (1 : Nat)
abbrev rY (a : KS) (a1 : MkI) : Int := Rj (iM a) (Sj a1 a) (Tg a1 a)
abbrev mG (a : KS) : Prop := (1 : Nat) <= a.x.ms.length
abbrev sC (a : KS) : Prop := mG a /\ a.x.z = []
abbrev Us (a : MkI) (a1 : KS) : Prop := fC a a1 /\ sC a1
abbrev UH (a : KS) : Nat := a.k + (20 : Nat)
abbrev Ts (a : MkI) (a1 : KS) : Prop := (mS a).s.bs.length = a1.x.s.bs.length
abbrev Uv (a : MkI) (a1 : KS) : Prop := ∀ (i : Nat), i < (mS a).s.bs.length -> gD (mS a).s.bs i = gD a1.x.s.bs i
abbrev Ui (a : MkI) (a1 : KS) : Prop := (mS a).s.used = a1.x.s.used
abbrev Tn (a : MkI) (a1 : KS) : Prop := (mS a).s.mix = a1.x.s.mix
abbrev mT (a : MkI) : Prop := (mS a).ms.length = (0 : Nat)
abbrev qP (a : MkI) : Prop := (mS a).t.length = (0 : Nat)
abbrev pS (a : MkI) : Prop := (mS a).st.length = (0 : Nat)
abbrev lR (a : MkI) : Prop := (mS a).z.length = (0 : Nat)
abbrev kU (a : MkI) : Prop := lR a /\ lR a
abbrev NH (a : MkI) : Prop := dD a (0 : Nat) (mS a) = mS a /\ (↑(0 : Nat) : Int) <= a.m /\ StmB ((7 : Int) + (7 : Int) * (a.m - (↑(0 : Nat) : Int))) (mS a).s /\ (↑(mS a).ms.length : Int) + (↑(0 : Nat) : Int) <= a.m
 /\ (mS a).t.length = (mS a).ms.length /\ (mS a).st.length = (mS a).ms.length /\ ((mS a).z = [] ∨ (mS a).z.length + (1 : Nat) <= (mS a).ms.length)
abbrev lF (a : KS) : Bool := decide ((↑a.x.ms.length : Int) > (0 : Int))
abbrev oH (a : KS) : Prop := uW /\ (30 : Int) = Int.ofNat (30 : Nat) /\ fY a
abbrev Vg (a : KS) : Int := Rj (Br a) (1 : Int) (30 : Int)
abbrev Mz (a : MkI) (a1 : KS) : Int := IntKind.i64.wrap (QS a.s * Vg a1)
abbrev Lz (a : MkI) (a1 : KS) : Int := IntKind.i64.wrap (XE a.s * Vg a1)
abbrev Wp (a : KS) : Stm := Fc (Br a) (1 : Int) (30 : Int)
abbrev qO (a : KS) : List Int := (Wp a).bs
abbrev qS (a : KS) : Nat := (qO a).length
abbrev mQ (a : KS) (i : Nat) : Int := gD (qO a) i
abbrev Ur (a : KS) : List Int := OF (qS a) λ (i : Nat) => mQ a i
abbrev mK (a : KS) : Nat := (Ur a).length
abbrev Lx (a : KS) : Int := (Wp a).used
abbrev Tz (a : KS) : Int := (Wp a).mix
abbrev iZ (a : MkI) (a1 : KS) : Prop := Mz a a1 = Mz a a1 /\ Lz a a1 = Lz a a1 /\ mK a1 = qS a1 /\ (∀ (i : Nat), i < mK a1 -> gD (Ur a1) i =
 mQ a1 i) /\ Lx a1 = Lx a1 /\ Tz a1 = Tz a1 /\ (Lx a1 - (0 : Int)).NonNeg
abbrev rP (a : KS) (a1 : KS) : Prop := a.x.pl = IntKind.i64.wrap (a1.x.pl + Vg a1)
abbrev lI (a : KS) : Stm := Stm.mk (Ur a) (Lx a) (Tz a)
abbrev kO (a : KS) (a1 : KS) (a2 : MkI) : Prop := a.x.tm = IntKind.i64.wrap (a1.x.tm + Rj (lI a1) (Mz a2 a1) (Lz a2 a1))
abbrev Uc (a : KS) (a1 : MkI) : Stm := Fc (lI a) (Mz a1 a) (Lz a1 a)
abbrev jM (a : KS) (a1 : MkI) : List Int := (Uc a a1).bs
abbrev rK (a : KS) (a1 : KS) (a2 : MkI) : Prop := a.x.s.bs.length = (jM a1 a2).length
abbrev jU (a : KS) (a1 : KS) (a2 : MkI) : Prop := ∀ (i : Nat), Bp i a -> gD a.x.s.bs i = gD (jM a1 a2) i
abbrev sH (a : KS) (a1 : KS) (a2 : MkI) : Prop := a.x.s.used = (Uc a1 a2).used
abbrev kI (a : KS) (a1 : KS) (a2 : MkI) : Prop := a.x.s.mix = (Uc a1 a2).mix
abbrev QY (a : KS) (a1 : KS) : Prop := a.x.ms.length = a1.x.ms.length
abbrev RC (a : KS) (a1 : KS) : Prop := a.x.t.length = a1.x.t.length
abbrev RB (a : KS) (a1 : KS) : Prop := a.x.st.length = a1.x.st.length
abbrev Ls (a : KS) (a1 : KS) : Prop := ∀ (i : Nat), i < a.x.ms.length -> (gD a.x.ms i).pl = (gD a1.x.ms i).pl /\ (gD a.x.ms i).ht = (gD a1.x.ms i).ht
abbrev Mn (a : KS) (a1 : KS) : Prop := ∀ (i : Nat), i < a.x.t.length -> gD a.x.t i = gD a1.x.t i
abbrev Ml (a : KS) (a1 : KS) : Prop := ∀ (i : Nat), i < a.x.st.length -> gD a.x.st i = gD a1.x.st i
abbrev Uj (a : MkI) (a1 : KS) (a2 : KS) : Prop := AD /\ AD /\ AD /\ AD /\ AD /\ AA /\ AB /\ AA /\ AB /\ AA /\ AB /\ AA /\
 AB /\ AA /\ AB /\ QS a.s = QS a.s /\ XE a.s = XE a.s /\ ZE a.s = ZE a.s /\ VN a.s = VN a.s /\ TH a.s = TH a.s /\ AA /\ QY a1 a2 /\ AA /\ AB /\ AA /\
 RC a1 a2 /\ AA /\ RB a1 a2 /\ AA /\ AB /\ QY a1 a2 /\ Ls a1 a2 /\ RC a1 a2 /\ Mn a1 a2 /\ RB a1 a2 /\ Ml a1 a2
abbrev nX (a : MkI) (a1 : KS) : Prop := dD a (C0 a1) (zL a (advZ a a1.x)) = mS a /\ zG a1 a /\ StmB ((9 : Int) + dE a a1) a1.x.s /\ cS a1 a /\ dM a1 /\ gG a1 /\
 yZ a1
abbrev mZ (a : KS) (a1 : KS) : Prop := UH a <= UH a1 /\ sC a
abbrev pR (a : MkI) (a1 : KS) (a2 : KS) : Prop := nX a a1 /\ mZ a1 a2
abbrev mX (a : KS) : Prop := (5 : Int) = Int.ofNat (5 : Nat) /\ fY a
abbrev lA (a : KS) : Bool := bif true then BZ (Br a) (5 : Int) == (0 : Int) else false
abbrev Vv (a : KS) : Stm := CP (Br a) (5 : Int)
abbrev iF (a : KS) : List Int := (Vv a).bs
abbrev Un (a : KS) : Nat := (iF a).length
abbrev Wd (a : KS) (i : Nat) : Int := gD (iF a) i
abbrev Vx (a : KS) : List Int := OF (Un a) λ (i : Nat) => Wd a i
abbrev iJ (a : KS) : Nat := (Vx a).length
abbrev De (a : KS) : Int := (Vv a).used
abbrev Lo (a : KS) : Int := (Vv a).mix
abbrev nK (a : KS) : Prop := N7 /\ iJ a = Un a /\ (∀ (i : Nat), i < iJ a -> gD (Vx a) i = Wd a i) /\ De a = De a /\ Lo a = Lo a
 /\ (De a - (0 : Int)).NonNeg
abbrev rE (a : KS) : Stm := Stm.mk (Vx a) (De a) (Lo a)
abbrev jF (a : KS) (a1 : KS) : Prop := a.x.tm = IntKind.i64.wrap (a1.x.tm + BZ (rE a1) (400 : Int))
abbrev Tw (a : KS) : Stm := CP (rE a) (400 : Int)
abbrev rO (a : KS) : List Int := (Tw a).bs
abbrev sS (a : KS) (a1 : KS) : Prop := a.x.s.bs.length = (rO a1).length
abbrev sF (a : KS) (a1 : KS) : Prop := ∀ (i : Nat), Bp i a -> gD a.x.s.bs i = gD (rO a1) i
abbrev iL (a : KS) (a1 : KS) : Prop := a.x.s.used = (Tw a1).used
abbrev kW (a : KS) (a1 : KS) : Prop := a.x.s.mix = (Tw a1).mix
abbrev pI (a : KS) : Prop := a.x.z.length = (1 : Nat)
abbrev pT (a : KS) : Int := IntKind.i64.wrap ((↑a.x.ms.length : Int) - (1 : Int))
abbrev Tx (a : KS) : Prop := mG a /\ (1 : Nat) <= a.x.z.length
abbrev nT (a : MkI) (a1 : KS) (a2 : KS) : Prop := So a a1 /\ a1.k <= UH a2 /\ Tx a1
abbrev lD (a : KS) (a1 : KS) : Prop := a.x.s.bs.length = Un a1
abbrev iV (a : KS) (a1 : KS) : Prop := ∀ (i : Nat), Bp i a -> gD a.x.s.bs i = Wd a1 i
abbrev oF (a : KS) (a1 : KS) : Prop := a.x.s.used = De a1
abbrev qU (a : KS) (a1 : KS) : Prop := a.x.s.mix = Lo a1
abbrev Uy (a : MkI) (a1 : KS) (a2 : KS) : Prop := So a a1 /\ mZ a1 a2
abbrev Dw : Prop := false = true -> Ji
abbrev Vr (a : KS) : Nat := a.x.ms.length + (1 : Nat)
abbrev Tp (a : KS) : Nat := a.x.t.length + (1 : Nat)
abbrev Tt (a : KS) : Nat := a.x.st.length + (1 : Nat)
abbrev Uf (a : KS) (a1 : MkI) : Prop := ((a.x.ms.length = a.x.ms.length /\ ((0 : Nat) < a.x.ms.length -> xN)) /\ zF /\ Dw /\ Vr a <= (9223372036854775807 : Nat) /\ Vr a * (16
 : Nat) <= (140737488355328 : Nat)) /\ ((a.x.t.length = a.x.t.length /\ ((0 : Nat) < a.x.t.length -> Qv)) /\ Sg /\ Dw /\ Tp a <= (9223372036854775807 : Nat) /\ Tp a * (8 : Nat) <=
 (140737488355328 : Nat)) /\ A1 a1 a /\ D7 a1 a /\ lJ a /\ jD a /\ jV a /\ pY a /\ qT a /\ (a.x.st.length = a.x.st.length /\ ((0 : Nat) < a.x.st.length -> Qv)) /\
 Sg /\ Dw /\ Tt a <= (9223372036854775807 : Nat) /\ Tt a * (8 : Nat) <= (140737488355328 : Nat)
abbrev Mc (a : KS) (a1 : KS) : Prop := a.x.ms.length = Vr a1
abbrev Mi (a : KS) (a1 : KS) : Prop := a.x.t.length = Tp a1
abbrev Lh (a : KS) (a1 : KS) : Prop := a.x.st.length = Tt a1
abbrev rL (i : Nat) (a : KS) : Bool := decide (i < a.x.ms.length)
abbrev nR (a : KS) (a1 : KS) : Prop := ∀ (i : Nat), i < a.x.ms.length -> ((gD a.x.ms i).pl = bif rL i a1 then (gD a1.x.ms i).pl else a1.x.pl) /\ (gD a.x.ms i).ht = bif rL i a1 then (gD a1.x.ms
 i).ht else eS a1
abbrev kY (a : KS) (a1 : KS) : Prop := ∀ (i : Nat), i < a.x.t.length -> gD a.x.t i = bif decide (i < a1.x.t.length) then gD a1.x.t i else a1.x.tm
abbrev qC (a : KS) (a1 : KS) (a2 : MkI) : Prop := ∀ (i : Nat), i < a.x.st.length -> gD a.x.st i = bif decide (i < a1.x.st.length) then gD a1.x.st i else rY a1 a2
abbrev Wr (a : KS) (a1 : KS) : Prop := a.x.z.length = a1.x.z.length
abbrev lG (a : KS) (a1 : KS) : Prop := Wr a a1 /\ ∀ (i : Nat), i < a.x.z.length -> gD a.x.z i = gD a1.x.z i
abbrev kB (a : KS) (a1 : KS) (a2 : MkI) : Prop := true = true /\ a.x.pl = a1.x.pl /\ a.x.tm = a1.x.tm /\ Ux a a1 /\ Wc a a1 a2 /\ Vz a a1 a2 /\ Vm a a1 a2 /\ Vs a a1 a2 /\
 AD /\ AD /\ AD /\ AD /\ AD /\ AA /\ AB /\ AA /\ AB /\ AA /\ AB /\ AA /\ AB /\ AA /\ AB /\ QS a2.s = QS a2.s /\ XE
 a2.s = XE a2.s /\ ZE a2.s = ZE a2.s /\ VN a2.s = VN a2.s /\ TH a2.s = TH a2.s /\ AA /\ Mc a a1 /\ AA /\ AB /\ AA /\ Mi a a1 /\ AA /\ Lh a a1 /\ AA /\
 Wr a a1 /\ Mc a a1 /\ nR a a1 /\ Mi a a1 /\ kY a a1 /\ Lh a a1 /\ qC a a1 a2 /\ lG a a1
abbrev Wl (a : MkI) (a1 : KS) : Prop := fC a a1 /\ Tx a1
abbrev kJ (a : MkI) (a1 : KS) : Prop := (mS a).ms.length = a1.x.ms.length
abbrev qA (a : KS) : Prop := (0 : Nat) + a.x.ms.length <= a.x.ms.length
abbrev Do (j : Nat) : Nat := (0 : Nat) + j
abbrev sX (a : KS) (j : Nat) : Mk := gD a.x.ms (Do j)
abbrev jB (a : MkI) (a1 : KS) : Prop := ∀ (j : Nat), j < (mS a).ms.length -> (gD (mS a).ms j).pl = (sX a1 j).pl /\ (gD (mS a).ms j).ht = (sX a1 j).ht
abbrev jI (a : MkI) (a1 : KS) : Prop := (mS a).t.length = a1.x.t.length
abbrev sU (a : KS) : Prop := (0 : Nat) + a.x.t.length <= a.x.t.length
abbrev nG (a : MkI) (a1 : KS) : Prop := ∀ (j : Nat), j < (mS a).t.length -> gD (mS a).t j = gD a1.x.t (Do j)
abbrev lW (a : MkI) (a1 : KS) : Prop := (mS a).st.length = a1.x.st.length
abbrev lN (a : KS) : Prop := (0 : Nat) + a.x.st.length <= a.x.st.length
abbrev nU (a : MkI) (a1 : KS) : Prop := ∀ (j : Nat), j < (mS a).st.length -> gD (mS a).st j = gD a1.x.st (Do j)
abbrev Uh (a : MkI) (a1 : KS) (a2 : KS) : Prop := AD /\ AD /\ AD /\ AD /\ AD /\ AA /\ AB /\ AA /\ AB /\ AA /\ AB /\ AA /\
 AB /\ AA /\ AB /\ QS a.s = QS a.s /\ XE a.s = XE a.s /\ ZE a.s = ZE a.s /\ VN a.s = VN a.s /\ TH a.s = TH a.s /\ AA /\ QY a1 a2 /\ AA /\ AB /\ AA /\
 RC a1 a2 /\ AA /\ RB a1 a2 /\ AA /\ Wr a1 a2 /\ QY a1 a2 /\ Ls a1 a2 /\ RC a1 a2 /\ Mn a1 a2 /\ RB a1 a2 /\ Ml a1 a2 /\ lG a1
 a2
abbrev kF (a : KS) (a1 : KS) : Prop := a.k <= a1.k /\ Tx a
abbrev lO (a : MkI) (a1 : KS) (a2 : KS) : Prop := nX a a1 /\ kF a1 a2
abbrev oN (a : KS) (a1 : KS) : Prop := a.x.z.length = Rr a1
abbrev Mr (a : MkI) (a1 : KS) (a2 : KS) : Prop := So a a1 /\ kF a1 a2
abbrev qM (a : MkI) (a1 : KS) : Prop := ∀ (a_1 : KS), Mr a a_1 a1 -> Tj a_1 /\ Uf a_1 a /\ ∃ (a_3 : KS), kB a_3 a_1 a /\ Wl a a_3 /\ a_3.k < a1.k
abbrev YG (i : Nat) (a : KN) : Prop := i < a.x.s.bs.length
abbrev OX (a : MkI) : Prop := (mS a).ms.length = (mS a).ms.length
abbrev PC (a : MkI) : Prop := ∀ (i : Nat), i < (mS a).ms.length -> (gD (mS a).ms i).pl = (gD (mS a).ms i).pl /\ (gD (mS a).ms i).ht = (gD (mS a).ms i).ht
abbrev PA (a : MkI) : Prop := (mS a).t.length = (mS a).t.length
abbrev OS (a : MkI) : Prop := ∀ (i : Nat), i < (mS a).t.length -> gD (mS a).t i = gD (mS a).t i
abbrev OR (a : MkI) : Prop := (mS a).st.length = (mS a).st.length
abbrev OZ (a : MkI) : Prop := ∀ (i : Nat), i < (mS a).st.length -> gD (mS a).st i = gD (mS a).st i
abbrev OV (a : MkI) : Prop := (mS a).z.length = (mS a).z.length
abbrev OT (a : MkI) : Prop := ∀ (i : Nat), i < (mS a).z.length -> gD (mS a).z i = gD (mS a).z i
abbrev YM (a : MkI) : Prop := AD /\ AD /\ AD /\ AD /\ AD /\ AA /\ AB /\ AA /\ AB /\ AA /\ AB /\ AA /\ AB /\ AA /\
 AB /\ QS a.s = QS a.s /\ XE a.s = XE a.s /\ ZE a.s = ZE a.s /\ VN a.s = VN a.s /\ TH a.s = TH a.s /\ OX a /\ PC a /\ AA /\ AB /\ PA a /\ OS a /\ OR a /\
 OZ a /\ OV a /\ OT a
abbrev Vw (a : MkI) : Int := (7 : Int) * a.m
abbrev jN (a : MkI) : Int := (7 : Int) + Vw a
abbrev oC (a : KN) : Int := (5 : Int) * (↑a.i : Int)
abbrev oK (a : MkI) (a1 : KN) : Prop := NH a /\ a1.i <= (mS a).ms.length /\ StmB (jN a + oC a1) a1.x.s /\ mkN a ((mS a).ms.length - a1.i) a1.i a1.x = Df a /\ a1.x.ns.length <= a1.i
abbrev Uu (a : MkI) (a1 : KN) : Prop := oK a a1 /\ a1.x.ns = []
abbrev sV (a : KN) (a1 : MkI) : Bool := decide ((↑a.i : Int) < (↑(mS a1).ms.length : Int))
abbrev Wj (a : KN) : List Int := OF a.x.s.bs.length λ (i : Nat) => gD a.x.s.bs i
abbrev oY (a : KN) : Nat := (Wj a).length
abbrev kD (a : KN) : Prop := oY a = a.x.s.bs.length /\ (∀ (i : Nat), i < oY a -> gD (Wj a) i = gD a.x.s.bs i) /\ a.x.s.used = a.x.s.used /\ a.x.s.mix = a.x.s.mix /\ (a.x.s.used - (0 :
 Int)).NonNeg
abbrev oX (a : KN) : Prop := (2 : Int) = Int.ofNat (2 : Nat) /\ kD a
abbrev sR (a : KNb) (a1 : KN) : Prop := (↑a.i : Int) = (↑a1.i : Int)
abbrev Mx (a : KN) : Stm := Stm.mk (Wj a) a.x.s.used a.x.s.mix
abbrev kQ (a : KNb) (a1 : KN) : Prop := a.b = (BZ (Mx a1) (2 : Int) == (0 : Int))
abbrev Ue (a : KN) : Stm := CP (Mx a) (2 : Int)
abbrev mC (a : KN) : List Int := (Ue a).bs
abbrev nF (a : KNb) (a1 : KN) : Prop := a.x.s.bs.length = (mC a1).length
abbrev pX (a : KNb) (a1 : KN) : Prop := ∀ (i : Nat), i < a.x.s.bs.length -> gD a.x.s.bs i = gD (mC a1) i
abbrev tA (a : KNb) (a1 : KN) : Prop := a.x.s.used = (Ue a1).used
abbrev lY (a : KNb) (a1 : KN) : Prop := a.x.s.mix = (Ue a1).mix
abbrev Dp (a : KN) : Nat := (100 : Nat) - a.i
abbrev pC (a : KNb) : Nat := a.i + (1 : Nat)
abbrev jQ (a : MkI) (a1 : KNb) (a2 : KN) : Prop := NH a /\ (a1.i < (mS a).ms.length /\ (100 : Nat) - a1.i = Dp a2) /\ StmB ((8 : Int) + Vw a + (5 : Int) * (↑a1.i : Int)) a1.x.s /\ mkN a
 ((mS a).ms.length - pC a1) (pC a1) (addN a a1.b a1.i a1.x) = Df a /\ a1.x.ns.length <= a1.i
abbrev pO (a : MkI) (a1 : KNb) (a2 : KN) : Prop := jQ a a1 a2 /\ a1.x.ns = []
abbrev qN (a : KNb) : Prop := (0 : Int) <= (↑a.i : Int)
abbrev Mw (a : KNb) (a1 : MkI) : Prop := qN a /\ (↑a.i : Int) < (↑(mS a1).t.length : Int)
abbrev Lt : Prop := (40 : Int) = Int.ofNat (40 : Nat)
abbrev Vd (a : KNb) : List Int := OF a.x.s.bs.length λ (i : Nat) => gD a.x.s.bs i
abbrev jX (a : KNb) : Nat := (Vd a).length
abbrev oR (a : KNb) : Prop := jX a = a.x.s.bs.length
abbrev nL (a : KNb) : Prop := ∀ (i : Nat), i < jX a -> gD (Vd a) i = gD a.x.s.bs i
abbrev lM (a : KNb) : Prop := a.x.s.used = a.x.s.used
abbrev rJ (a : KNb) : Prop := a.x.s.mix = a.x.s.mix
abbrev lE (a : KNb) : Prop := (0 : Int) <= a.x.s.used
abbrev nV (a : KNb) : Stm := Stm.mk (Vd a) a.x.s.used a.x.s.mix
abbrev Vf (a : KNb) : Stm := CP (nV a) (40 : Int)
abbrev sT (a : KNb) : List Int := (Vf a).bs
abbrev rT (a : KNb) : Nat := (sT a).length
abbrev rH (a : KNb) (i : Nat) : Int := gD (sT a) i
abbrev Uw (a : KNb) : List Int := OF (rT a) λ (i : Nat) => rH a i
abbrev lH (a : KNb) : Nat := (Uw a).length
abbrev sW (a : KNb) : Prop := lH a = rT a
abbrev pW (a : KNb) : Prop := ∀ (i : Nat), i < lH a -> gD (Uw a) i = rH a i
abbrev Ln (a : KNb) : Int := (Vf a).used
abbrev mU (a : KNb) : Prop := Ln a = Ln a
abbrev Ub (a : KNb) : Int := (Vf a).mix
abbrev jA (a : KNb) : Prop := Ub a = Ub a
abbrev rM (a : KNb) : Prop := (0 : Int) <= Ln a
abbrev Lp (a : KNb) (a1 : MkI) : Prop := qN a /\ (↑a.i : Int) < (↑(mS a1).st.length : Int)
abbrev qL (a : KNb) : Stm := Stm.mk (Uw a) (Ln a) (Ub a)
abbrev Ug (a : KNb) : Stm := CP (qL a) (40 : Int)
abbrev sO (a : KNb) : List Int := (Ug a).bs
abbrev rN (a : KNb) : Nat := (sO a).length
abbrev iO (a : KNb) (i : Nat) : Int := gD (sO a) i
abbrev Vj (a : KNb) : List Int := OF (rN a) λ (i : Nat) => iO a i
abbrev iI (a : KNb) : Nat := (Vj a).length
abbrev lP (a : KNb) : Prop := iI a = rN a
abbrev pH (a : KNb) : Prop := ∀ (i : Nat), i < iI a -> gD (Vj a) i = iO a i
abbrev Mf (a : KNb) : Int := (Ug a).used
abbrev oA (a : KNb) : Prop := Mf a = Mf a
abbrev Ve (a : KNb) : Int := (Ug a).mix
abbrev pK (a : KNb) : Prop := Ve a = Ve a
abbrev iR (a : KNb) : Prop := (0 : Int) <= Mf a
abbrev sD (a : KNb) : Stm := Stm.mk (Vj a) (Mf a) (Ve a)
abbrev Ut (a : KNb) : Stm := CP (sD a) (9 : Int)
abbrev jC (a : KNb) : List Int := (Ut a).bs
abbrev kV (a : KNb) : Nat := (jC a).length
abbrev kK (a : KNb) (i : Nat) : Int := gD (jC a) i
abbrev Ty (a : KNb) : List Int := OF (kV a) λ (i : Nat) => kK a i
abbrev qX (a : KNb) : Nat := (Ty a).length
abbrev jT (a : KNb) : Prop := qX a = kV a
abbrev iD (a : KNb) : Prop := ∀ (i : Nat), i < qX a -> gD (Ty a) i = kK a i
abbrev Mb (a : KNb) : Int := (Ut a).used
abbrev kT (a : KNb) : Prop := Mb a = Mb a
abbrev Wg (a : KNb) : Int := (Ut a).mix
abbrev kP (a : KNb) : Prop := Wg a = Wg a
abbrev sM (a : KNb) : Prop := (0 : Int) <= Mb a
abbrev nO : Prop := (5 : Nat) = (5 : Nat)
abbrev sP : Prop := eK /\ (Ji -> nO)
abbrev Me (a : KN) (a1 : KNb) : Prop := (↑a.i : Int) = (↑a1.i : Int)
abbrev nM (a : KNb) : Stm := Stm.mk (Ty a) (Mb a) (Wg a)
abbrev Uz (a : KNb) : Stm := CP (nM a) (9 : Int)
abbrev jY (a : KNb) : List Int := (Uz a).bs
abbrev kA (a : KN) (a1 : KNb) : Prop := a.x.s.bs.length = (jY a1).length
abbrev nJ (a : KN) (a1 : KNb) : Prop := ∀ (i : Nat), YG i a -> gD a.x.s.bs i = gD (jY a1) i
abbrev pP (a : KN) (a1 : KNb) : Prop := a.x.s.used = (Uz a1).used
abbrev oG (a : KN) (a1 : KNb) : Prop := a.x.s.mix = (Uz a1).mix
abbrev oJ (a : KN) : Prop := a.x.ns.length = (1 : Nat)
abbrev lB (a : MkI) (a1 : KNb) : Int := GV (0 : Int) (IntKind.i64.wrap (gD (mS a).t a1.i - BZ (nV a1) (40 : Int)))
abbrev sK (a : MkI) (a1 : KNb) : Int := IntKind.i64.wrap (gD (mS a).t a1.i + BZ (qL a1) (40 : Int))
abbrev jO (a : MkI) (a1 : KNb) : Int := IntKind.i64.wrap (gD (mS a).st a1.i - BZ (sD a1) (9 : Int))
abbrev qG (a : MkI) (a1 : KNb) : Int := IntKind.i64.wrap (gD (mS a).st a1.i + BZ (nM a1) (9 : Int))
abbrev Uq (a : KN) : Nat := a.i + (1 : Nat)
abbrev kC (a : MkI) (a1 : KN) (a2 : KN) : Prop := NH a /\ (a1.i < (mS a).ms.length /\ Dp a1 = Dp a2) /\ StmB ((12 : Int) + Vw a + oC a1) a1.x.s /\ mkN a ((mS a).ms.length
 - Uq a1) (Uq a1) a1.x = Df a /\ a1.x.ns.length <= Uq a1
abbrev oI (a : KN) : Prop := (1 : Nat) <= a.x.ns.length
abbrev Lr (a : MkI) (a1 : KN) (a2 : KN) : Prop := kC a a1 a2 /\ oI a1
abbrev nH (a : KN) (a1 : KNb) : Prop := a.x.s.bs.length = a1.x.s.bs.length
abbrev oW (a : KN) (a1 : KNb) : Prop := ∀ (i : Nat), YG i a -> gD a.x.s.bs i = gD a1.x.s.bs i
abbrev nE (a : KN) (a1 : KNb) : Prop := a.x.s.used = a1.x.s.used
abbrev iE (a : KN) (a1 : KNb) : Prop := a.x.s.mix = a1.x.s.mix
abbrev jK (a : MkI) (a1 : KN) (a2 : KN) : Prop := kC a a1 a2 /\ a1.x.ns = []
abbrev Dz (a : KN) : Int := IntKind.i64.wrap ((↑a.i : Int) + (1 : Int))
abbrev iP (a : KN) (a1 : KN) : Prop := (↑a.i : Int) = Dz a1
abbrev pV (a : KN) (a1 : KN) : Prop := a.x.s.bs.length = a1.x.s.bs.length
abbrev jP (a : KN) (a1 : KN) : Prop := ∀ (i : Nat), YG i a -> gD a.x.s.bs i = gD a1.x.s.bs i
abbrev rX (a : KN) (a1 : KN) : Prop := a.x.s.used = a1.x.s.used
abbrev kN (a : KN) (a1 : KN) : Prop := a.x.s.mix = a1.x.s.mix
abbrev iG (a : KN) (a1 : KN) : Prop := Dp a < Dp a1
abbrev Mu (a : KN) (a1 : KN) : Prop := a.x.ns.length = a1.x.ns.length
abbrev nN (a : MkI) (a1 : KN) : Prop := oK a a1 /\ oI a1
abbrev Up (a : MkI) (a1 : KN) : Prop := ∀ (a_1 : KN), Lr a a_1 a1 -> ∃ (a_3 : KN), (iP a_3 a_1 /\ pV a_3 a_1 /\ jP a_3 a_1 /\ rX a_3 a_1 /\ kN a_3 a_1 /\
 AD /\ AD /\ AD /\ AD /\ AD /\ AA /\ AB /\ AA /\ AB /\ AA /\ AB /\ AA /\ AB /\ AA /\ AB /\ QS a.s = QS a.s /\ XE
 a.s = XE a.s /\ ZE a.s = ZE a.s /\ VN a.s = VN a.s /\ TH a.s = TH a.s /\ OX a /\ PC a /\ AA /\ Mu a_3 a_1 /\ PA a /\ OS a /\ OR a /\ OZ a /\ OV a
 /\ OT a /\ Mu a_3 a_1 /\ ∀ (i : Nat), i < a_3.x.ns.length -> (gD a_3.x.ns i).mi = (gD a_1.x.ns i).mi /\ (gD a_3.x.ns i).t.lo = (gD a_1.x.ns i).t.lo /\ (gD a_3.x.ns i).t.hi = (gD a_1.x.ns i).t.hi /\ (gD
 a_3.x.ns i).s.lo = (gD a_1.x.ns i).s.lo /\ (gD a_3.x.ns i).s.hi = (gD a_1.x.ns i).s.hi) /\ nN a a_3 /\ iG a_3 a1
abbrev pL (a : MkI) (a1 : KN) : Prop := (Df a).s.bs.length = a1.x.s.bs.length
abbrev mV (a : MkI) (a1 : KN) : Prop := ∀ (i : Nat), i < (Df a).s.bs.length -> gD (Df a).s.bs i = gD a1.x.s.bs i
abbrev qH (a : MkI) (a1 : KN) : Prop := (Df a).s.used = a1.x.s.used
abbrev kM (a : MkI) (a1 : KN) : Prop := (Df a).s.mix = a1.x.s.mix
abbrev oZ (a : MkI) : Prop := NH a /\ (Df a).ns = []
abbrev jS (a : KNb) (a1 : KN) : Prop := a.x.ns.length = a1.x.ns.length
abbrev pU (a : MkI) (a1 : KNb) (a2 : KN) : Prop := jQ a a1 a2 /\ (1 : Nat) <= a1.x.ns.length
abbrev Wo (a : KNb) : Nat := a.x.ns.length + (1 : Nat)
abbrev oE (a : KN) (a1 : KNb) : Prop := a.x.ns.length = Wo a1
abbrev Dh (i : Nat) (a : KNb) : Bool := decide (i < a.x.ns.length)
abbrev rV (a : KN) (a1 : KNb) : Prop := a.x.ns.length = a1.x.ns.length
abbrev mJ (a : MkI) (a1 : KN) : Prop := (Df a).ns.length = a1.x.ns.length
abbrev jH (a : MkI) : Int := jN a + (5 : Int) * a.m
abbrev kZ (a : MkI) : Prop := NH a /\ StmB (jH a) (Df a).s /\ (1 : Nat) <= (Df a).ns.length /\ (↑(Df a).ns.length : Int) <= a.m
abbrev Tv (i : Nat) (a : MkI) : Prop := i < (mE a).s.bs.length
abbrev nY (a : MkI) : Prop := (XB a).ms.length = (mS a).ms.length
abbrev nS (a : MkI) : Prop := ∀ (i : Nat), i < (XB a).ms.length -> (gD (XB a).ms i).pl = (gD (mS a).ms i).pl /\ (gD (XB a).ms i).ht = (gD (mS a).ms i).ht
abbrev rR (a : MkI) : Prop := (XB a).ns.length = (0 : Nat)
abbrev nD (a : MkI) : Prop := (F2 a).t.length = (mS a).t.length
abbrev kS (a : MkI) : Prop := ∀ (i : Nat), i < (F2 a).t.length -> gD (F2 a).t i = gD (mS a).t i
abbrev qD (a : MkI) : Prop := (F2 a).s.length = (mS a).st.length
abbrev oT (a : MkI) : Prop := ∀ (i : Nat), i < (F2 a).s.length -> gD (F2 a).s i = gD (mS a).st i
abbrev oD (a : MkI) : Prop := (F2 a).z.length = (mS a).z.length
abbrev mW (a : MkI) : Prop := ∀ (i : Nat), i < (F2 a).z.length -> gD (F2 a).z i = gD (mS a).z i
abbrev lQ (a : KN) (a1 : MkI) : Prop := a.x.ns.length = (Df a1).ns.length
abbrev To (a : MkI) (a1 : KN) : Prop := NH a /\ a1.i < a1.x.ns.length /\ StmB (jH a + a.m - (↑a1.i : Int)) a1.x.s /\ shK a1.i a1.x = mE a /\ (↑a1.x.ns.length : Int) <= a.m
abbrev Wf (a : KN) : Int := BZ (Mx a) (Dz a)
abbrev rW (a : KN) : Prop := (0 : Int) <= Wf a /\ Wf a < (↑a.x.ns.length : Int)
abbrev Mq (a : KN) : Nat := (0 : Nat) + (Wf a).toNat
abbrev kR (a : KN) : Prop := (0 : Int) <= (↑a.i : Int) /\ (↑a.i : Int) < (↑a.x.ns.length : Int)
abbrev Tq (a : KN) : Nat := (0 : Nat) + a.i
abbrev nI (a : KN) : Prop := Tq a < a.x.ns.length
abbrev Vo (a : KN) : Stm := CP (Mx a) (Dz a)
abbrev sB (a : KN) : List Int := (Vo a).bs
abbrev Dj (i : Nat) (a : KN) : Bool := decide (i = Mq a)
abbrev Uk (a : KN) : Nt := gD a.x.ns (Tq a)
abbrev Dm (i : Nat) (a : KN) : Bool := decide (i = Tq a)
abbrev Vq (a : KN) : Nt := gD a.x.ns (Mq a)
abbrev qR (a : KN) : Span := (Uk a).t
abbrev qV (a : KN) : Span := (Vq a).t
abbrev sI (a : KN) : Span := (Uk a).s
abbrev kX (a : KN) : Span := (Vq a).s
abbrev Wn (a : KN) (j : Nat) : Nt := gD a.x.ns (Do j)
abbrev qK (a : KN) (j : Nat) : Span := (Wn a j).t
abbrev rA (a : KN) (j : Nat) : Span := (Wn a j).s
abbrev rG (a : MkI) : Prop := ∀ (a_1 : One), NH a -> ((∃ (a_3 : KN), ((↑a_3.i : Int) = (0 : Int) /\ a_3.x.s.bs.length = (mS a).s.bs.length /\ (∀ (i : Nat), YG i a_3 -> gD a_3.x.s.bs i = gD (mS
 a).s.bs i) /\ a_3.x.s.used = (mS a).s.used /\ a_3.x.s.mix = (mS a).s.mix /\ YM a) /\ Uu a a_3) /\ (∀ (a_3 : KN), Uu a a_3 -> bif bif sV a_3 a then decide ((↑(0 : Nat) : Int) < (20 : Int))
 else false then ((oX a_3 /\ ∃ (a_5 : KNb), (sR a_5 a_3 /\ kQ a_5 a_3 /\ nF a_5 a_3 /\ pX a_5 a_3 /\ tA a_5 a_3 /\ lY a_5 a_3 /\ YM a) /\ pO a a_5
 a_3) /\ ∀ (a_5 : KNb), pO a a_5 a_3 -> bif a_5.b then (Mw a_5 a /\ Lt /\ oR a_5 /\ nL a_5 /\ lM a_5 /\ rJ a_5 /\ lE a_5 /\ Mw a_5 a /\ Lt /\
 sW a_5 /\ pW a_5 /\ mU a_5 /\ jA a_5 /\ rM a_5 /\ Lp a_5 a /\ Ir /\ lP a_5 /\ pH a_5 /\ oA a_5 /\ pK a_5 /\ iR a_5 /\
 Lp a_5 a /\ Ir /\ jT a_5 /\ iD a_5 /\ kT a_5 /\ kP a_5 /\ sM a_5 /\ (True /\ (gB -> (0 : Nat) = (5 : Nat))) /\ sP /\ eE /\ eX /\ (40 :
 Nat) <= (140737488355328 : Nat)) /\ ∃ (a_7 : KN), (Me a_7 a_5 /\ kA a_7 a_5 /\ nJ a_7 a_5 /\ pP a_7 a_5 /\ oG a_7 a_5 /\ AD /\ AD /\ AD /\ AD /\
 AD /\ AA /\ AB /\ AA /\ AB /\ AA /\ AB /\ AA /\ AB /\ AA /\ AB /\ QS a.s = QS a.s /\ XE a.s = XE a.s /\ ZE a.s = ZE a.s /\ VN a.s = VN a.s
 /\ TH a.s = TH a.s /\ OX a /\ PC a /\ AA /\ oJ a_7 /\ PA a /\ OS a /\ OR a /\ OZ a /\ OV a /\ OT a /\ oJ a_7 /\ ∀ (i : Nat), i <
 a_7.x.ns.length -> (gD a_7.x.ns i).mi = (↑a_5.i : Int) /\ (gD a_7.x.ns i).t.lo = lB a a_5 /\ (gD a_7.x.ns i).t.hi = sK a a_5 /\ (gD a_7.x.ns i).s.lo = jO a a_5 /\ (gD a_7.x.ns i).s.hi = qG
 a a_5) /\ Lr a a_7 a_3 else ∃ (a_7 : KN), (Me a_7 a_5 /\ nH a_7 a_5 /\ oW a_7 a_5 /\ nE a_7 a_5 /\ iE a_7 a_5 /\ YM a) /\ jK a a_7 a_3) /\ (∀ (a_5 : KN),
 jK a a_5 a_3 -> ∃ (a_7 : KN), (iP a_7 a_5 /\ pV a_7 a_5 /\ jP a_7 a_5 /\ rX a_7 a_5 /\ kN a_7 a_5 /\ YM a) /\ Uu a a_7 /\ iG a_7 a_3) /\ Up
 a a_3 else ∃ (a_5 : One), (pL a a_3 /\ mV a a_3 /\ qH a a_3 /\ kM a a_3 /\ YM a) /\ oZ a) /\ ∀ (a_3 : KN), nN a a_3 -> bif bif sV a_3 a then decide
 ((↑a_3.x.ns.length : Int) < (20 : Int)) else false then ((oX a_3 /\ ∃ (a_5 : KNb), (sR a_5 a_3 /\ kQ a_5 a_3 /\ nF a_5 a_3 /\ pX a_5 a_3 /\ tA a_5 a_3 /\ lY a_5
 a_3 /\ AD /\ AD /\ AD /\ AD /\ AD /\ AA /\ AB /\ AA /\ AB /\ AA /\ AB /\ AA /\ AB /\ AA /\ AB /\ QS a.s = QS a.s /\
 XE a.s = XE a.s /\ ZE a.s = ZE a.s /\ VN a.s = VN a.s /\ TH a.s = TH a.s /\ OX a /\ PC a /\ AA /\ jS a_5 a_3 /\ PA a /\ OS a /\ OR a /\ OZ a /\
 OV a /\ OT a /\ jS a_5 a_3 /\ ∀ (i : Nat), i < a_5.x.ns.length -> (gD a_5.x.ns i).mi = (gD a_3.x.ns i).mi /\ (gD a_5.x.ns i).t.lo = (gD a_3.x.ns i).t.lo /\ (gD a_5.x.ns i).t.hi = (gD a_3.x.ns i).t.hi
 /\ (gD a_5.x.ns i).s.lo = (gD a_3.x.ns i).s.lo /\ (gD a_5.x.ns i).s.hi = (gD a_3.x.ns i).s.hi) /\ pU a a_5 a_3) /\ ∀ (a_5 : KNb), pU a a_5 a_3 -> bif a_5.b then (Mw a_5 a /\ Lt /\ oR
 a_5 /\ nL a_5 /\ lM a_5 /\ rJ a_5 /\ lE a_5 /\ Mw a_5 a /\ Lt /\ sW a_5 /\ pW a_5 /\ mU a_5 /\ jA a_5 /\ rM a_5 /\ Lp a_5 a
 /\ Ir /\ lP a_5 /\ pH a_5 /\ oA a_5 /\ pK a_5 /\ iR a_5 /\ Lp a_5 a /\ Ir /\ jT a_5 /\ iD a_5 /\ kT a_5 /\ kP a_5 /\
 sM a_5 /\ (a_5.x.ns.length = a_5.x.ns.length /\ ((0 : Nat) < a_5.x.ns.length -> nO)) /\ sP /\ Dw /\ Wo a_5 <= (9223372036854775807 : Nat) /\ Wo a_5 * (40 : Nat) <=
 (140737488355328 : Nat)) /\ ∃ (a_7 : KN), (Me a_7 a_5 /\ kA a_7 a_5 /\ nJ a_7 a_5 /\ pP a_7 a_5 /\ oG a_7 a_5 /\ AD /\ AD /\ AD /\ AD /\ AD /\
 AA /\ AB /\ AA /\ AB /\ AA /\ AB /\ AA /\ AB /\ AA /\ AB /\ QS a.s = QS a.s /\ XE a.s = XE a.s /\ ZE a.s = ZE a.s /\ VN a.s = VN a.s /\ TH a.s =
 TH a.s /\ OX a /\ PC a /\ AA /\ oE a_7 a_5 /\ PA a /\ OS a /\ OR a /\ OZ a /\ OV a /\ OT a /\ oE a_7 a_5 /\ ∀ (i : Nat), i <
 a_7.x.ns.length -> ((gD a_7.x.ns i).mi = bif Dh i a_5 then (gD a_5.x.ns i).mi else (↑a_5.i : Int)) /\ ((gD a_7.x.ns i).t.lo = bif Dh i a_5 then (gD a_5.x.ns i).t.lo else lB a a_5) /\ ((gD a_7.x.ns
 i).t.hi = bif Dh i a_5 then (gD a_5.x.ns i).t.hi else sK a a_5) /\ ((gD a_7.x.ns i).s.lo = bif Dh i a_5 then (gD a_5.x.ns i).s.lo else jO a a_5) /\ (gD a_7.x.ns i).s.hi = bif Dh
 i a_5 then (gD a_5.x.ns i).s.hi else qG a a_5) /\ Lr a a_7 a_3 else ∃ (a_7 : KN), (Me a_7 a_5 /\ nH a_7 a_5 /\ oW a_7 a_5 /\ nE a_7 a_5 /\ iE a_7 a_5 /\ AD
 /\ AD /\ AD /\ AD /\ AD /\ AA /\ AB /\ AA /\ AB /\ AA /\ AB /\ AA /\ AB /\ AA /\ AB /\ QS a.s = QS a.s /\ XE a.s = XE
 a.s /\ ZE a.s = ZE a.s /\ VN a.s = VN a.s /\ TH a.s = TH a.s /\ OX a /\ PC a /\ AA /\ rV a_7 a_5 /\ PA a /\ OS a /\ OR a /\ OZ a /\ OV a /\
 OT a /\ rV a_7 a_5 /\ ∀ (i : Nat), i < a_7.x.ns.length -> (gD a_7.x.ns i).mi = (gD a_5.x.ns i).mi /\ (gD a_7.x.ns i).t.lo = (gD a_5.x.ns i).t.lo /\ (gD a_7.x.ns i).t.hi = (gD a_5.x.ns i).t.hi /\ (gD a_7.x.ns
 i).s.lo = (gD a_5.x.ns i).s.lo /\ (gD a_7.x.ns i).s.hi = (gD a_5.x.ns i).s.hi) /\ Lr a a_7 a_3) /\ Up a a_3 /\ Up a a_3 else ∃ (a_5 : One), (pL a a_3 /\ mV a a_3 /\ qH a
 a_3 /\ kM a a_3 /\ AD /\ AD /\ AD /\ AD /\ AD /\ AA /\ AB /\ AA /\ AB /\ AA /\ AB /\ AA /\ AB /\ AA /\ AB /\
 QS a.s = QS a.s /\ XE a.s = XE a.s /\ ZE a.s = ZE a.s /\ VN a.s = VN a.s /\ TH a.s = TH a.s /\ OX a /\ PC a /\ AA /\ mJ a a_3 /\ PA a /\ OS a /\ OR a /\
 OZ a /\ OV a /\ OT a /\ mJ a a_3 /\ ∀ (i : Nat), i < (Df a).ns.length -> (gD (Df a).ns i).mi = (gD a_3.x.ns i).mi /\ (gD (Df a).ns i).t.lo = (gD a_3.x.ns i).t.lo /\ (gD (Df a).ns i).t.hi
 = (gD a_3.x.ns i).t.hi /\ (gD (Df a).ns i).s.lo = (gD a_3.x.ns i).s.lo /\ (gD (Df a).ns i).s.hi = (gD a_3.x.ns i).s.hi) /\ kZ a) /\ (∀ (a_3 : One), oZ a -> (∃ (a_5 : One), (Int.negSucc (0 : Nat) =
 Int.negSucc (0 : Nat) /\ (mE a).s.bs.length = (Df a).s.bs.length /\ (∀ (i : Nat), Tv i a -> gD (mE a).s.bs i = gD (Df a).s.bs i) /\ (mE a).s.used = (Df a).s.used /\ (mE a).s.mix = (Df a).s.mix /\ YM a) /\
 (mE a).ns = []) /\ ∀ (a_5 : One), (mE a).ns = [] -> (XB a).p.lo = QS a.s /\ (XB a).p.hi = XE a.s /\ (XB a).base = ZE a.s /\ (XB a).scale = VN a.s /\ (XB a).off = TH a.s /\ nY a /\ nS a /\ rR a
 /\ rR a /\ nD a /\ kS a /\ qD a /\ oT a /\ oD a /\ mW a /\ (mE a).s.bs.length = (mE a).s.bs.length /\ (∀ (i : Nat), Tv i a -> gD (mE a).s.bs i = gD (mE
 a).s.bs i) /\ (mE a).s.used = (mE a).s.used /\ (mE a).s.mix = (mE a).s.mix) /\ ∀ (a_3 : One), kZ a -> (∃ (a_5 : KN), ((↑a_5.i : Int) = IntKind.i64.wrap ((↑(Df a).ns.length : Int) - (1 : Int)) /\ a_5.x.s.bs.length =
 (Df a).s.bs.length /\ (∀ (i : Nat), YG i a_5 -> gD a_5.x.s.bs i = gD (Df a).s.bs i) /\ a_5.x.s.used = (Df a).s.used /\ a_5.x.s.mix = (Df a).s.mix /\ AD /\ AD /\ AD /\ AD /\ AD
 /\ AA /\ AB /\ AA /\ AB /\ AA /\ AB /\ AA /\ AB /\ AA /\ AB /\ QS a.s = QS a.s /\ XE a.s = XE a.s /\ ZE a.s = ZE a.s /\ VN a.s = VN a.s /\ TH a.s
 = TH a.s /\ OX a /\ PC a /\ AA /\ lQ a_5 a /\ PA a /\ OS a /\ OR a /\ OZ a /\ OV a /\ OT a /\ lQ a_5 a /\ ∀ (i : Nat), i <
 a_5.x.ns.length -> (gD a_5.x.ns i).mi = (gD (Df a).ns i).mi /\ (gD a_5.x.ns i).t.lo = (gD (Df a).ns i).t.lo /\ (gD a_5.x.ns i).t.hi = (gD (Df a).ns i).t.hi /\ (gD a_5.x.ns i).s.lo = (gD (Df a).ns i).s.lo /\ (gD a_5.x.ns
 i).s.hi = (gD (Df a).ns i).s.hi) /\ To a a_5) /\ ∀ (a_5 : KN), To a a_5 -> bif decide ((↑a_5.i : Int) > (0 : Int)) then (Dz a_5 = Dz a_5 /\ kD a_5) /\ (rW a_5 /\
 Mq a_5 < a_5.x.ns.length /\ kR a_5 /\ nI a_5 /\ kR a_5 /\ nI a_5 /\ rW a_5 /\ (Mq a_5).succ.le a_5.x.ns.length) /\ ∃ (a_7 : KN), ((↑a_7.i : Int) = IntKind.i64.wrap
 ((↑a_5.i : Int) - (1 : Int)) /\ a_7.x.s.bs.length = (sB a_5).length /\ (∀ (i : Nat), YG i a_7 -> gD a_7.x.s.bs i = gD (sB a_5) i) /\ a_7.x.s.used = (Vo a_5).used /\ a_7.x.s.mix =
 (Vo a_5).mix /\ AD /\ AD /\ AD /\ AD /\ AD /\ AA /\ AB /\ AA /\ AB /\ AA /\ AB /\ AA /\ AB /\ AA /\ AB /\
 QS a.s = QS a.s /\ XE a.s = XE a.s /\ ZE a.s = ZE a.s /\ VN a.s = VN a.s /\ TH a.s = TH a.s /\ OX a /\ PC a /\ AA /\ Mu a_7 a_5 /\ PA a /\ OS a /\ OR a /\
 OZ a /\ OV a /\ OT a /\ Mu a_7 a_5 /\ ∀ (i : Nat), i < a_7.x.ns.length -> ((gD a_7.x.ns i).mi = bif Dj i a_5 then (Uk a_5).mi else bif Dm i a_5 then (Vq
 a_5).mi else (gD a_5.x.ns i).mi) /\ ((gD a_7.x.ns i).t.lo = bif Dj i a_5 then (qR a_5).lo else bif Dm i a_5 then (qV a_5).lo else (gD a_5.x.ns i).t.lo) /\ ((gD a_7.x.ns i).t.hi = bif
 Dj i a_5 then (qR a_5).hi else bif Dm i a_5 then (qV a_5).hi else (gD a_5.x.ns i).t.hi) /\ ((gD a_7.x.ns i).s.lo = bif Dj i a_5 then (sI a_5).lo else bif Dm i
 a_5 then (kX a_5).lo else (gD a_5.x.ns i).s.lo) /\ (gD a_7.x.ns i).s.hi = bif Dj i a_5 then (sI a_5).hi else bif Dm i a_5 then (kX a_5).hi else (gD a_5.x.ns i).s.hi) /\
 To a a_7 /\ a_7.i < a_5.i else (XB a).p.lo = QS a.s /\ (XB a).p.hi = XE a.s /\ (XB a).base = ZE a.s /\ (XB a).scale = VN a.s /\ (XB a).off = TH a.s /\ nY a /\ nS a /\ (XB a).ns.length =
 a_5.x.ns.length /\ (0 : Nat) + a_5.x.ns.length <= a_5.x.ns.length /\ (∀ (j : Nat), j < (XB a).ns.length -> (gD (XB a).ns j).mi = (Wn a_5 j).mi /\ (gD (XB a).ns j).t.lo = (qK a_5 j).lo /\ (gD (XB a).ns
 j).t.hi = (qK a_5 j).hi /\ (gD (XB a).ns j).s.lo = (rA a_5 j).lo /\ (gD (XB a).ns j).s.hi = (rA a_5 j).hi) /\ nD a /\ kS a /\ qD a /\ oT a /\ oD a /\
 mW a /\ (mE a).s.bs.length = a_5.x.s.bs.length /\ (∀ (i : Nat), Tv i a -> gD (mE a).s.bs i = gD a_5.x.s.bs i) /\ (mE a).s.used = a_5.x.s.used /\ (mE a).s.mix = a_5.x.s.mix
theorem BIH (a : MkI) : (AWW a) = (((uW /\ R7 /\ AAC a = a.s.bs.length /\ (∀ (i : Nat), i < AAC a -> gD (vF a) i = gD a.s.bs i) /\ a.s.used = a.s.used /\ a.s.mix = a.s.mix /\ (0 : Int)
 <= a.s.used /\ (-50 : Int) = Int.negSucc (49 : Nat) /\ N7 /\ E5 a = AAN a /\ (∀ (i : Nat), i < E5 a -> gD (cC a) i = AAD a i) /\ Qs a = Qs a /\ gM a = gM
 a /\ (0 : Int) <= Qs a /\ R7 /\ xX a = B6 a /\ (∀ (i : Nat), i < xX a -> gD (dC a) i = zS a i) /\ Rq a = Rq a /\ eN a = eN a /\ (0 : Int) <=
 Rq a /\ Ir /\ zN a = A8 a /\ (∀ (i : Nat), i < zN a -> gD (cF a) i = E7 a i) /\ Sc a = Sc a /\ gO a = gO a /\ (Sc a - (0 :
 Int)).NonNeg) /\ ∃ (a_1 : One), (a.m = a.m /\ true = true /\ (gS4 a.s).bs.length = (xQ a).length /\ (∀ (i : Nat), i < (gS4 a.s).bs.length -> gD (gS4 a.s).bs i = gD (xQ a) i) /\ (gS4 a.s).used = (eO
 a).used /\ (gS4 a.s).mix = (eO a).mix /\ AD /\ AD /\ AD /\ AD /\ AD /\ AA /\ AB /\ AA /\ AB /\ AA /\ AB /\ AA /\ AB /\
 AA /\ AB /\ QS a.s = Rj (AAJ a) (1 : Int) (12 : Int) /\ AD /\ ZE a.s = Rj (yC a) (-50 : Int) (400 : Int) /\ VN a.s = BZ (xT a) (12 : Int) /\ TH a.s = BZ (zW
 a) (9 : Int) /\ dO) /\ StmB (4 : Int) (gS4 a.s)) /\ ∀ (a_1 : One), StmB (4 : Int) (gS4 a.s) -> (((6 : Int) = Int.ofNat (6 : Nat) /\ zZ a = (gS4 a.s).bs.length /\ (∀ (i : Nat), i < zZ a -> gD (dR
 a) i = gD (gS4 a.s).bs i) /\ (gS4 a.s).used = (gS4 a.s).used /\ (gS4 a.s).mix = (gS4 a.s).mix /\ ((gS4 a.s).used - (0 : Int)).NonNeg) /\ ∃ (a_3 : One), (a.m = a.m /\ true = true /\ (gS5 a.s).bs.length = (F1 a).length /\
 (∀ (i : Nat), i < (gS5 a.s).bs.length -> gD (gS5 a.s).bs i = gD (F1 a) i) /\ (gS5 a.s).used = (gE a).used /\ (gS5 a.s).mix = (gE a).mix /\ AD /\ AD /\ AD /\ AD /\
 AD /\ AA /\ AB /\ AA /\ AB /\ AA /\ AB /\ AA /\ AB /\ AA /\ AB /\ QS a.s = QS a.s /\ XE a.s = IntKind.i64.wrap (QS a.s + BZ (E2
 a) (6 : Int)) /\ ZE a.s = ZE a.s /\ VN a.s = VN a.s /\ TH a.s = TH a.s /\ dO) /\ StmB (5 : Int) (gS5 a.s)) /\ ∀ (a_3 : One), StmB (5 : Int) (gS5 a.s) -> (((300 : Int) = Int.ofNat (300 : Nat) /\ yH a = (gS5
 a.s).bs.length /\ (∀ (i : Nat), i < yH a -> gD (cT a) i = gD (gS5 a.s).bs i) /\ (gS5 a.s).used = (gS5 a.s).used /\ (gS5 a.s).mix = (gS5 a.s).mix /\ ((gS5 a.s).used - (0 : Int)).NonNeg) /\ ∃ (a_5 : One), (a.m =
 a.m /\ true = true /\ AD /\ hTm a.s = BZ (zU a) (300 : Int) /\ (gS6 a.s).bs.length = (xM a).length /\ (∀ (i : Nat), i < (gS6 a.s).bs.length -> gD (gS6 a.s).bs i = gD (xM a) i) /\ (gS6
 a.s).used = (fF a).used /\ (gS6 a.s).mix = (fF a).mix /\ fA a) /\ StmB (6 : Int) (gS6 a.s)) /\ ∀ (a_5 : One), StmB (6 : Int) (gS6 a.s) -> ((uW /\ a.m = a.m /\ B5 a = (gS6 a.s).bs.length /\
 (∀ (i : Nat), i < B5 a -> gD (eV a) i = gD (gS6 a.s).bs i) /\ (gS6 a.s).used = (gS6 a.s).used /\ (gS6 a.s).mix = (gS6 a.s).mix /\ ((gS6 a.s).used - (0 : Int)).NonNeg) /\ (∃ (a_7 : KS), (true = true /\ a_7.x.pl
 = (0 : Int) /\ a_7.x.tm = hTm a.s /\ (↑a_7.k : Int) = Rj (E3 a) (1 : Int) a.m /\ a_7.x.s.bs.length = (yD a).length /\ (∀ (i : Nat), Bp i a_7 -> gD a_7.x.s.bs i = gD (yD a) i) /\ a_7.x.s.used =
 (dV a).used /\ a_7.x.s.mix = (dV a).mix /\ fA a) /\ yT a a_7) /\ (∀ (a_7 : KS), yT a a_7 -> bif bU a_7 then (∃ (a_9 : KS), (true = true /\ a_9.x.pl = a_7.x.pl /\ a_9.x.tm =
 a_7.x.tm /\ RO a_9 a_7 /\ cV a_9 a_7 /\ cZ a_9 a_7 /\ dN a_9 a_7 /\ gN a_9 a_7 /\ fA a) /\ E1 a a_9) /\ ∀ (a_9 : KS), E1 a a_9 -> Tj a_9 /\ (((True /\
 (gB -> (0 : Nat) = (2 : Nat))) /\ zF /\ eE /\ eX /\ (16 : Nat) <= (140737488355328 : Nat)) /\ cW /\ A1 a a_9 /\ D7 a a_9 /\ lJ a_9 /\ jD a_9 /\ jV
 a_9 /\ pY a_9 /\ qT a_9 /\ cW) /\ ∃ (a_11 : KS), (true = true /\ a_11.x.pl = a_9.x.pl /\ a_11.x.tm = a_9.x.tm /\ Ux a_11 a_9 /\ Wc a_11 a_9 a /\ Vz a_11 a_9 a /\ Vm
 a_11 a_9 a /\ Vs a_11 a_9 a /\ AD /\ AD /\ AD /\ AD /\ AD /\ AA /\ AB /\ AA /\ AB /\ AA /\ AB /\ AA /\ AB /\ AA /\
 AB /\ QS a.s = QS a.s /\ XE a.s = XE a.s /\ ZE a.s = ZE a.s /\ VN a.s = VN a.s /\ TH a.s = TH a.s /\ AA /\ lC a_11 /\ AA /\ AB /\ AA /\ qQ a_11 /\ AA /\
 mP a_11 /\ AA /\ AB /\ lC a_11 /\ (∀ (i : Nat), i < a_11.x.ms.length -> (gD a_11.x.ms i).pl = a_9.x.pl /\ (gD a_11.x.ms i).ht = eS a_9) /\ qQ a_11 /\ (∀ (i : Nat), i <
 a_11.x.t.length -> gD a_11.x.t i = a_9.x.tm) /\ mP a_11 /\ ∀ (i : Nat), i < a_11.x.st.length -> gD a_11.x.st i = rY a_9 a) /\ Us a a_11 /\ UH a_11 < (100 : Nat) else ∃ (a_9 : One),
 (Ts a a_7 /\ Uv a a_7 /\ Ui a a_7 /\ Tn a a_7 /\ AD /\ AD /\ AD /\ AD /\ AD /\ AA /\ AB /\ AA /\ AB /\ AA /\
 AB /\ AA /\ AB /\ AA /\ AB /\ QS a.s = QS a.s /\ XE a.s = XE a.s /\ ZE a.s = ZE a.s /\ VN a.s = VN a.s /\ TH a.s = TH a.s /\ mT a /\ mT a /\ AA /\ AB
 /\ qP a /\ qP a /\ pS a /\ pS a /\ kU a) /\ NH a) /\ (∀ (a_7 : KS), Us a a_7 -> bif bU a_7 then (bif lF a_7 then oH a_7 /\ (iZ a
 a_7 /\ ∃ (a_9 : KS), (true = true /\ rP a_9 a_7 /\ kO a_9 a_7 a /\ RO a_9 a_7 /\ rK a_9 a_7 a /\ jU a_9 a_7 a /\ sH a_9 a_7 a /\ kI a_9 a_7 a /\ Uj a a_9 a_7)
 /\ pR a a_9 a_7) /\ ∀ (a_9 : KS), pR a a_9 a_7 -> true = true /\ true = true /\ mX a_9 /\ true = true /\ bif lA a_9 then cW /\ nK a_9 /\ ∃ (a_11 : KS), (true = true /\ a_11.x.pl
 = a_9.x.pl /\ jF a_11 a_9 /\ RO a_11 a_9 /\ sS a_11 a_9 /\ sF a_11 a_9 /\ iL a_11 a_9 /\ kW a_11 a_9 /\ AD /\ AD /\ AD /\ AD /\ AD /\
 AA /\ AB /\ AA /\ AB /\ AA /\ AB /\ AA /\ AB /\ AA /\ AB /\ QS a.s = QS a.s /\ XE a.s = XE a.s /\ ZE a.s = ZE a.s /\ VN a.s = VN a.s /\ TH a.s =
 TH a.s /\ AA /\ QY a_11 a_9 /\ AA /\ AB /\ AA /\ RC a_11 a_9 /\ AA /\ RB a_11 a_9 /\ AA /\ pI a_11 /\ QY a_11 a_9 /\ Ls a_11 a_9
 /\ RC a_11 a_9 /\ Mn a_11 a_9 /\ RB a_11 a_9 /\ Ml a_11 a_9 /\ pI a_11 /\ ∀ (i : Nat), i < a_11.x.z.length -> gD a_11.x.z i = pT a_9) /\ nT a a_11 a_7 else ∃ (a_11 :
 KS), (true = true /\ a_11.x.pl = a_9.x.pl /\ a_11.x.tm = a_9.x.tm /\ RO a_11 a_9 /\ lD a_11 a_9 /\ iV a_11 a_9 /\ oF a_11 a_9 /\ qU a_11 a_9 /\ Uj a a_11 a_9) /\ Uy a
 a_11 a_7 else ∃ (a_9 : KS), (true = true /\ a_9.x.pl = a_7.x.pl /\ a_9.x.tm = a_7.x.tm /\ RO a_9 a_7 /\ cV a_9 a_7 /\ cZ a_9 a_7 /\ dN a_9 a_7 /\ gN a_9 a_7 /\ Uj a a_9 a_7) /\
 Uy a a_9 a_7) /\ (∀ (a_9 : KS), Uy a a_9 a_7 -> Tj a_9 /\ Uf a_9 a /\ ∃ (a_11 : KS), (true = true /\ a_11.x.pl = a_9.x.pl /\ a_11.x.tm = a_9.x.tm /\ Ux a_11 a_9 /\ Wc a_11 a_9
 a /\ Vz a_11 a_9 a /\ Vm a_11 a_9 a /\ Vs a_11 a_9 a /\ AD /\ AD /\ AD /\ AD /\ AD /\ AA /\ AB /\ AA /\ AB /\ AA /\ AB
 /\ AA /\ AB /\ AA /\ AB /\ QS a.s = QS a.s /\ XE a.s = XE a.s /\ ZE a.s = ZE a.s /\ VN a.s = VN a.s /\ TH a.s = TH a.s /\ AA /\ Mc a_11 a_9 /\ AA /\ AB /\
 AA /\ Mi a_11 a_9 /\ AA /\ Lh a_11 a_9 /\ AA /\ AB /\ Mc a_11 a_9 /\ nR a_11 a_9 /\ Mi a_11 a_9 /\ kY a_11 a_9 /\ Lh a_11 a_9 /\
 qC a_11 a_9 a) /\ Us a a_11 /\ UH a_11 < UH a_7) /\ ∀ (a_9 : KS), nT a a_9 a_7 -> Tj a_9 /\ Uf a_9 a /\ ∃ (a_11 : KS), kB a_11 a_9 a /\ Wl a a_11 /\
 a_11.k < UH a_7 else ∃ (a_9 : One), (Ts a a_7 /\ Uv a a_7 /\ Ui a a_7 /\ Tn a a_7 /\ AD /\ AD /\ AD /\ AD /\ AD /\ AA /\ AB /\
 AA /\ AB /\ AA /\ AB /\ AA /\ AB /\ AA /\ AB /\ QS a.s = QS a.s /\ XE a.s = XE a.s /\ ZE a.s = ZE a.s /\ VN a.s = VN a.s /\ TH a.s = TH a.s /\ kJ a
 a_7 /\ qA a_7 /\ jB a a_7 /\ AA /\ AB /\ jI a a_7 /\ sU a_7 /\ nG a a_7 /\ lW a a_7 /\ lN a_7 /\ nU a a_7 /\ kU a) /\ NH a) /\
 ∀ (a_7 : KS), Wl a a_7 -> bif bU a_7 then (bif lF a_7 then oH a_7 /\ (iZ a a_7 /\ ∃ (a_9 : KS), (true = true /\ rP a_9 a_7 /\ kO a_9 a_7 a /\ RO a_9 a_7 /\
 rK a_9 a_7 a /\ jU a_9 a_7 a /\ sH a_9 a_7 a /\ kI a_9 a_7 a /\ Uh a a_9 a_7) /\ lO a a_9 a_7) /\ ∀ (a_9 : KS), lO a a_9 a_7 -> true = true /\ true = true /\
 mX a_9 /\ true = true /\ bif lA a_9 then ((a_9.x.z.length = a_9.x.z.length /\ ((0 : Nat) < a_9.x.z.length -> Qv)) /\ Sg /\ Dw /\ Rr a_9 <= (9223372036854775807 : Nat) /\
 Rr a_9 * (8 : Nat) <= (140737488355328 : Nat)) /\ nK a_9 /\ ∃ (a_11 : KS), (true = true /\ a_11.x.pl = a_9.x.pl /\ jF a_11 a_9 /\ RO a_11 a_9 /\ sS a_11 a_9 /\ sF a_11 a_9 /\
 iL a_11 a_9 /\ kW a_11 a_9 /\ AD /\ AD /\ AD /\ AD /\ AD /\ AA /\ AB /\ AA /\ AB /\ AA /\ AB /\ AA /\ AB /\
 AA /\ AB /\ QS a.s = QS a.s /\ XE a.s = XE a.s /\ ZE a.s = ZE a.s /\ VN a.s = VN a.s /\ TH a.s = TH a.s /\ AA /\ QY a_11 a_9 /\ AA /\ AB /\ AA /\ RC a_11
 a_9 /\ AA /\ RB a_11 a_9 /\ AA /\ oN a_11 a_9 /\ QY a_11 a_9 /\ Ls a_11 a_9 /\ RC a_11 a_9 /\ Mn a_11 a_9 /\ RB a_11 a_9 /\ Ml a_11 a_9 /\
 oN a_11 a_9 /\ ∀ (i : Nat), i < a_11.x.z.length -> gD a_11.x.z i = bif decide (i < a_9.x.z.length) then gD a_9.x.z i else pT a_9) /\ Mr a a_11 a_7 else ∃ (a_11 : KS), (true = true /\ a_11.x.pl =
 a_9.x.pl /\ a_11.x.tm = a_9.x.tm /\ RO a_11 a_9 /\ lD a_11 a_9 /\ iV a_11 a_9 /\ oF a_11 a_9 /\ qU a_11 a_9 /\ Uh a a_11 a_9) /\ Mr a a_11 a_7 else ∃ (a_9 : KS),
 (true = true /\ a_9.x.pl = a_7.x.pl /\ a_9.x.tm = a_7.x.tm /\ RO a_9 a_7 /\ cV a_9 a_7 /\ cZ a_9 a_7 /\ dN a_9 a_7 /\ gN a_9 a_7 /\ Uh a a_9 a_7) /\ Mr a a_9 a_7) /\
 qM a a_7 /\ qM a a_7 else ∃ (a_9 : One), (Ts a a_7 /\ Uv a a_7 /\ Ui a a_7 /\ Tn a a_7 /\ AD /\ AD /\ AD /\ AD /\ AD /\ AA /\
 AB /\ AA /\ AB /\ AA /\ AB /\ AA /\ AB /\ AA /\ AB /\ QS a.s = QS a.s /\ XE a.s = XE a.s /\ ZE a.s = ZE a.s /\ VN a.s = VN a.s /\ TH a.s = TH a.s /\
 kJ a a_7 /\ qA a_7 /\ jB a a_7 /\ AA /\ AB /\ jI a a_7 /\ sU a_7 /\ nG a a_7 /\ lW a a_7 /\ lN a_7 /\ nU a a_7 /\ (mS a).z.length =
 a_7.x.z.length /\ (0 : Nat) + a_7.x.z.length <= a_7.x.z.length /\ ∀ (j : Nat), j < (mS a).z.length -> gD (mS a).z j = gD a_7.x.z (Do j)) /\ NH a) /\ rG a /\ rG a) := by kernel_rfl
end Go.Bal
