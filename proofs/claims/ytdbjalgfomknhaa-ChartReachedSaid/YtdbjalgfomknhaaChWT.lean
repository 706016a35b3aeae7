/- Package chart: charts that are made of numbers, with stops. -/
import Derived.Test.YtdbjalgfomknhaaChW
set_option linter.unusedVariables false
set_option linter.unusedSimpArgs false
namespace Go.Bal
open Go Go.Sym Go.Proofs
def CYX (a : MkI) : Prop := BA Try.prog (DFD true a) CVC (AL CVC) ((uM true).xs a) (AG ((uM true).L a)) ((uM true).val a) ((uM true).keep a) [] [305]
abbrev gP : Prop := (1 : Int) = Int.ofNat (1 : Nat)
abbrev BEI : Prop := (12 : Int) = Int.ofNat (12 : Nat)
abbrev oN (a : MkI) : List Int := AF a.s.bs.length λ (i : Nat) => gD a.s.bs i
abbrev ATX (a : MkI) : Nat := (oN a).length
abbrev AQB : Prop := (400 : Int) = Int.ofNat (400 : Nat)
abbrev AOU (a : MkI) : Stm := Stm.mk (oN a) a.s.used a.s.mix
abbrev kP (a : MkI) : Stm := LS (AOU a) (1 : Int) (12 : Int)
abbrev AYM (a : MkI) : List Int := (kP a).bs
abbrev ANP (a : MkI) : Nat := (AYM a).length
abbrev ASN (a : MkI) (i : Nat) : Int := gD (AYM a) i
abbrev Qh (a : MkI) : List Int := AF (ANP a) λ (i : Nat) => ASN a i
abbrev R9 (a : MkI) : Nat := (Qh a).length
abbrev YH (a : MkI) : Int := (kP a).used
abbrev On (a : MkI) : Int := (kP a).mix
abbrev M8 (a : MkI) : Stm := Stm.mk (Qh a) (YH a) (On a)
abbrev Qc (a : MkI) : Stm := LS (M8 a) (-50 : Int) (400 : Int)
abbrev uL (a : MkI) : List Int := (Qc a).bs
abbrev L7 (a : MkI) : Nat := (uL a).length
abbrev W8 (a : MkI) (i : Nat) : Int := gD (uL a) i
abbrev Ow (a : MkI) : List Int := AF (L7 a) λ (i : Nat) => W8 a i
abbrev uF (a : MkI) : Nat := (Ow a).length
abbrev YJ (a : MkI) : Int := (Qc a).used
abbrev Mz (a : MkI) : Int := (Qc a).mix
abbrev OX : Prop := (9 : Int) = Int.ofNat (9 : Nat)
abbrev L0 (a : MkI) : Stm := Stm.mk (Ow a) (YJ a) (Mz a)
abbrev Mn (a : MkI) : Stm := AR (L0 a) (12 : Int)
abbrev wY (a : MkI) : List Int := (Mn a).bs
abbrev E0 (a : MkI) : Nat := (wY a).length
abbrev X4 (a : MkI) (i : Nat) : Int := gD (wY a) i
abbrev Pu (a : MkI) : List Int := AF (E0 a) λ (i : Nat) => X4 a i
abbrev yK (a : MkI) : Nat := (Pu a).length
abbrev XT (a : MkI) : Int := (Mn a).used
abbrev Kt (a : MkI) : Int := (Mn a).mix
abbrev O2 (a : MkI) : Stm := Stm.mk (Pu a) (XT a) (Kt a)
abbrev Ll (a : MkI) : Stm := AR (O2 a) (9 : Int)
abbrev G5 (a : MkI) : List Int := (Ll a).bs
abbrev AE : Prop := Int.ofNat (0 : Nat) = Int.ofNat (0 : Nat)
abbrev AA : Prop := (0 : Nat) = (0 : Nat)
abbrev AC : Prop := ∀ (i : Nat), i < (0 : Nat) -> false = false
abbrev Lh : Prop := AA /\ AC /\ AA /\ AC
abbrev Jw (a : MkI) : List Int := AF (gS4 a.s).bs.length λ (i : Nat) => gD (gS4 a.s).bs i
abbrev tJ (a : MkI) : Nat := (Jw a).length
abbrev Q3 (a : MkI) : Stm := Stm.mk (Jw a) (gS4 a.s).used (gS4 a.s).mix
abbrev Np (a : MkI) : Stm := AR (Q3 a) (6 : Int)
abbrev zS (a : MkI) : List Int := (Np a).bs
abbrev Ko (a : MkI) : List Int := AF (gS5 a.s).bs.length λ (i : Nat) => gD (gS5 a.s).bs i
abbrev M5 (a : MkI) : Nat := (Ko a).length
abbrev zH (a : MkI) : Stm := Stm.mk (Ko a) (gS5 a.s).used (gS5 a.s).mix
abbrev Nl (a : MkI) : Stm := AR (zH a) (300 : Int)
abbrev A9 (a : MkI) : List Int := (Nl a).bs
abbrev Kg (a : MkI) : Prop := AE /\ AE /\ AE /\ AE /\ AE /\ AA /\ AC /\ AA /\ AC /\ AA /\ AC /\ AA /\ AC /\ AA /\
 AC /\ FP a.s = FP a.s /\ IE a.s = IE a.s /\ JJ a.s = JJ a.s /\ HQ a.s = HQ a.s /\ HA a.s = HA a.s /\ AA /\ AC /\ AA /\ AC /\ AA /\ AC /\ Lh
abbrev Jy (a : MkI) : List Int := AF (gS6 a.s).bs.length λ (i : Nat) => gD (gS6 a.s).bs i
abbrev A7 (a : MkI) : Nat := (Jy a).length
abbrev R7 (a : MkI) : Stm := Stm.mk (Jy a) (gS6 a.s).used (gS6 a.s).mix
abbrev Jr (a : MkI) : Stm := LS (R7 a) (1 : Int) a.m
abbrev K3 (a : MkI) : List Int := (Jr a).bs
abbrev KE (i : Nat) (a : KS) : Prop := i < a.x.s.bs.length
abbrev uQ (a : KS) (a1 : MkI) : Prop := (↑a.k : Int) <= a1.m
abbrev Ky (a : MkI) (a1 : KS) : Int := (7 : Int) * (a.m - (↑a1.k : Int))
abbrev Oo (a : KS) (a1 : MkI) : Prop := (↑a.x.ms.length : Int) + (↑a.k : Int) <= a1.m
abbrev Oj (a : KS) : Prop := a.x.t.length = a.x.ms.length
abbrev Le (a : KS) : Prop := a.x.st.length = a.x.ms.length
abbrev XF (a : KS) : Nat := a.x.z.length + (1 : Nat)
abbrev sN (a : KS) : Prop := XF a <= a.x.ms.length
abbrev Pt (a : MkI) (a1 : KS) : Prop := Pz a a1.k a1.x = mS a /\ uQ a1 a /\ StmB ((7 : Int) + Ky a a1) a1.x.s /\ Oo a1 a /\ Oj a1 /\ Le a1 /\ (a1.x.z = [] ∨ sN a1)
abbrev zV (a : KS) : Prop := (1 : Nat) <= a.k
abbrev M2 (a : KS) : Prop := a.x.ms = [] /\ a.x.z = []
abbrev K1 (a : MkI) (a1 : KS) : Prop := Pt a a1 /\ zV a1 /\ M2 a1
abbrev Lu (a : KS) : Bool := decide ((↑a.k : Int) > (0 : Int))
abbrev GT (a : KS) (a1 : KS) : Prop := (↑a.k : Int) = (↑a1.k : Int)
abbrev Ov (a : KS) (a1 : KS) : Prop := a.x.s.bs.length = a1.x.s.bs.length
abbrev Jk (a : KS) (a1 : KS) : Prop := ∀ (i : Nat), KE i a -> gD a.x.s.bs i = gD a1.x.s.bs i
abbrev Jm (a : KS) (a1 : KS) : Prop := a.x.s.used = a1.x.s.used
abbrev Nw (a : KS) (a1 : KS) : Prop := a.x.s.mix = a1.x.s.mix
abbrev X9 (a : KS) : Nat := a.k - (1 : Nat)
abbrev sL (a : KS) (a1 : MkI) : Prop := zV a /\ uQ a a1
abbrev WV (a : MkI) (a1 : KS) : Prop := Pz a (X9 a1) (G8 a a1.x) = mS a /\ sL a1 a /\ StmB ((11 : Int) + Ky a a1) a1.x.s /\ Oo a1 a /\ Oj a1 /\ Le a1 /\ a1.x.z.length
 <= a1.x.ms.length
abbrev xO (a : MkI) (a1 : KS) : Prop := WV a a1 /\ (100 : Nat) = (100 : Nat) /\ M2 a1
abbrev My (a : KS) : List Int := AF a.x.s.bs.length λ (i : Nat) => gD a.x.s.bs i
abbrev zY (a : KS) : Nat := (My a).length
abbrev Ms (a : KS) : Prop := zY a = a.x.s.bs.length /\ (∀ (i : Nat), i < zY a -> gD (My a) i = gD a.x.s.bs i) /\ a.x.s.used = a.x.s.used /\ a.x.s.mix = a.x.s.mix /\ (a.x.s.used - (0 :
 Int)).NonNeg
abbrev VN (a : KS) : Prop := (60 : Int) = Int.ofNat (60 : Nat) /\ Ms a
abbrev Pm : Prop := (0 : Nat) < (0 : Nat)
abbrev Qg : Prop := (1 : Nat) <= (1 : Nat)
abbrev NK : Prop := (0 : Nat) < (1 : Nat)
abbrev F3 : Prop := (2 : Nat) = (2 : Nat)
abbrev J8 : Prop := Qg /\ (NK -> F3)
abbrev Lw : Prop := true = true -> NK
abbrev Od : Prop := (1 : Nat) <= (9223372036854775807 : Nat)
abbrev YS : Prop := (1 : Nat) = (1 : Nat)
abbrev WC : Prop := Qg /\ (NK -> YS)
abbrev Ol : Prop := (True /\ (Pm -> (0 : Nat) = (1 : Nat))) /\ WC /\ Lw /\ Od /\ (8 : Nat) <= (140737488355328 : Nat)
abbrev KD (a : KS) : Stm := Stm.mk (My a) a.x.s.used a.x.s.mix
abbrev Mv (a : KS) : Int := AP (KD a) (60 : Int)
abbrev F6 (a : MkI) (a1 : KS) : Int := IntKind.i64.wrap (JJ a.s + IntKind.i64.wrap (HQ a.s * Mv a1))
abbrev VX (a : MkI) (a1 : KS) : Int := IntKind.i64.wrap (F6 a a1 - HA a.s)
abbrev Y2 (a : MkI) (a1 : KS) : Prop := VX a a1 = VX a a1
abbrev YO (a : MkI) (a1 : KS) : Int := IntKind.i64.wrap (F6 a a1 + HA a.s)
abbrev P1 (a : MkI) (a1 : KS) : Prop := YO a a1 = YO a a1
abbrev Lj (a : KS) : Stm := AR (KD a) (60 : Int)
abbrev Zy (a : KS) : List Int := (Lj a).bs
abbrev Wj (a : KS) : Nat := (Zy a).length
abbrev Rq (a : KS) (i : Nat) : Int := gD (Zy a) i
abbrev Bk (a : KS) : List Int := AF (Wj a) λ (i : Nat) => Rq a i
abbrev Yj (a : KS) : Nat := (Bk a).length
abbrev Tp (a : KS) : Prop := Yj a = Wj a
abbrev Ze (a : KS) : Prop := ∀ (i : Nat), i < Yj a -> gD (Bk a) i = Rq a i
abbrev RG (a : KS) : Int := (Lj a).used
abbrev aC (a : KS) : Prop := RG a = RG a
abbrev Cp (a : KS) : Int := (Lj a).mix
abbrev Qv (a : KS) : Prop := Cp a = Cp a
abbrev eH (a : KS) : Prop := (0 : Int) <= RG a
abbrev Cm (a : KS) (a1 : KS) : Prop := (↑a.k : Int) = IntKind.i64.wrap ((↑a1.k : Int) - (1 : Int))
abbrev cN (a : KS) : Stm := Stm.mk (Bk a) (RG a) (Cp a)
abbrev Bm (a : KS) (a1 : MkI) : Stm := LS (cN a) (VX a1 a) (YO a1 a)
abbrev Tq (a : KS) (a1 : MkI) : List Int := (Bm a a1).bs
abbrev ZP (a : KS) (a1 : KS) (a2 : MkI) : Prop := a.x.s.bs.length = (Tq a1 a2).length
abbrev Bd (a : KS) (a1 : KS) (a2 : MkI) : Prop := ∀ (i : Nat), KE i a -> gD a.x.s.bs i = gD (Tq a1 a2) i
abbrev Ca (a : KS) (a1 : KS) (a2 : MkI) : Prop := a.x.s.used = (Bm a1 a2).used
abbrev YZ (a : KS) (a1 : KS) (a2 : MkI) : Prop := a.x.s.mix = (Bm a1 a2).mix
abbrev dX (a : KS) : Prop := a.x.ms.length = (1 : Nat)
abbrev Vq (a : KS) : Prop := a.x.t.length = (1 : Nat)
abbrev eF (a : KS) : Prop := a.x.st.length = (1 : Nat)
abbrev eC (a : KS) (a1 : MkI) : Int := WZ (cN a) (VX a1 a) (YO a1 a)
abbrev Vr (a : KS) : Prop := (1 : Nat) <= a.x.ms.length
abbrev Xn (a : KS) : Prop := Vr a /\ a.x.z = []
abbrev Cu (a : MkI) (a1 : KS) : Prop := Pt a a1 /\ Xn a1
abbrev HE (a : KS) : Nat := a.k + (20 : Nat)
abbrev Bb (a : MkI) (a1 : KS) : Prop := (mS a).s.bs.length = a1.x.s.bs.length
abbrev ZF (a : MkI) (a1 : KS) : Prop := ∀ (i : Nat), i < (mS a).s.bs.length -> gD (mS a).s.bs i = gD a1.x.s.bs i
abbrev Be (a : MkI) (a1 : KS) : Prop := (mS a).s.used = a1.x.s.used
abbrev Bs (a : MkI) (a1 : KS) : Prop := (mS a).s.mix = a1.x.s.mix
abbrev Tn (a : MkI) : Prop := (mS a).ms.length = (0 : Nat)
abbrev bB (a : MkI) : Prop := (mS a).t.length = (0 : Nat)
abbrev Wx (a : MkI) : Prop := (mS a).st.length = (0 : Nat)
abbrev cV (a : MkI) : Prop := (mS a).z.length = (0 : Nat)
abbrev Xy (a : MkI) : Prop := cV a /\ cV a
abbrev DV (a : MkI) : Prop := Pz a (0 : Nat) (mS a) = mS a /\ (↑(0 : Nat) : Int) <= a.m /\ StmB ((7 : Int) + (7 : Int) * (a.m - (↑(0 : Nat) : Int))) (mS a).s /\ (↑(mS a).ms.length : Int) + (↑(0 : Nat) : Int) <= a.m
 /\ (mS a).t.length = (mS a).ms.length /\ (mS a).st.length = (mS a).ms.length /\ ((mS a).z = [] ∨ (mS a).z.length + (1 : Nat) <= (mS a).ms.length)
abbrev aP (a : KS) : Bool := decide ((↑a.x.ms.length : Int) > (0 : Int))
abbrev cA (a : KS) : Prop := gP /\ (30 : Int) = Int.ofNat (30 : Nat) /\ Ms a
abbrev Cn (a : KS) : Int := WZ (KD a) (1 : Int) (30 : Int)
abbrev QH (a : MkI) (a1 : KS) : Int := IntKind.i64.wrap (FP a.s * Cn a1)
abbrev QS (a : MkI) (a1 : KS) : Int := IntKind.i64.wrap (IE a.s * Cn a1)
abbrev ZC (a : KS) : Stm := LS (KD a) (1 : Int) (30 : Int)
abbrev Uq (a : KS) : List Int := (ZC a).bs
abbrev Ry (a : KS) : Nat := (Uq a).length
abbrev Vw (a : KS) (i : Nat) : Int := gD (Uq a) i
abbrev Ai (a : KS) : List Int := AF (Ry a) λ (i : Nat) => Vw a i
abbrev dD (a : KS) : Nat := (Ai a).length
abbrev QN (a : KS) : Int := (ZC a).used
abbrev Ba (a : KS) : Int := (ZC a).mix
abbrev Rc (a : MkI) (a1 : KS) : Prop := QH a a1 = QH a a1 /\ QS a a1 = QS a a1 /\ dD a1 = Ry a1 /\ (∀ (i : Nat), i < dD a1 -> gD (Ai a1) i =
 Vw a1 i) /\ QN a1 = QN a1 /\ Ba a1 = Ba a1 /\ (QN a1 - (0 : Int)).NonNeg
abbrev Xg (a : KS) (a1 : KS) : Prop := a.x.pl = IntKind.i64.wrap (a1.x.pl + Cn a1)
abbrev Sk (a : KS) : Stm := Stm.mk (Ai a) (QN a) (Ba a)
abbrev Qn (a : KS) (a1 : KS) (a2 : MkI) : Prop := a.x.tm = IntKind.i64.wrap (a1.x.tm + WZ (Sk a1) (QH a2 a1) (QS a2 a1))
abbrev Ck (a : KS) (a1 : MkI) : Stm := LS (Sk a) (QH a1 a) (QS a1 a)
abbrev Rx (a : KS) (a1 : MkI) : List Int := (Ck a a1).bs
abbrev Vd (a : KS) (a1 : KS) (a2 : MkI) : Prop := a.x.s.bs.length = (Rx a1 a2).length
abbrev Zb (a : KS) (a1 : KS) (a2 : MkI) : Prop := ∀ (i : Nat), KE i a -> gD a.x.s.bs i = gD (Rx a1 a2) i
abbrev Wf (a : KS) (a1 : KS) (a2 : MkI) : Prop := a.x.s.used = (Ck a1 a2).used
abbrev cZ (a : KS) (a1 : KS) (a2 : MkI) : Prop := a.x.s.mix = (Ck a1 a2).mix
abbrev GA (a : KS) (a1 : KS) : Prop := a.x.ms.length = a1.x.ms.length
abbrev FZ (a : KS) (a1 : KS) : Prop := a.x.t.length = a1.x.t.length
abbrev GE (a : KS) (a1 : KS) : Prop := a.x.st.length = a1.x.st.length
abbrev QM (a : KS) (a1 : KS) : Prop := ∀ (i : Nat), i < a.x.ms.length -> (gD a.x.ms i).pl = (gD a1.x.ms i).pl /\ (gD a.x.ms i).ht = (gD a1.x.ms i).ht
abbrev QX (a : KS) (a1 : KS) : Prop := ∀ (i : Nat), i < a.x.t.length -> gD a.x.t i = gD a1.x.t i
abbrev PS (a : KS) (a1 : KS) : Prop := ∀ (i : Nat), i < a.x.st.length -> gD a.x.st i = gD a1.x.st i
abbrev Cl (a : MkI) (a1 : KS) (a2 : KS) : Prop := AE /\ AE /\ AE /\ AE /\ AE /\ AA /\ AC /\ AA /\ AC /\ AA /\ AC /\ AA /\
 AC /\ AA /\ AC /\ FP a.s = FP a.s /\ IE a.s = IE a.s /\ JJ a.s = JJ a.s /\ HQ a.s = HQ a.s /\ HA a.s = HA a.s /\ AA /\ GA a1 a2 /\ AA /\ AC /\ AA /\
 FZ a1 a2 /\ AA /\ GE a1 a2 /\ AA /\ AC /\ GA a1 a2 /\ QM a1 a2 /\ FZ a1 a2 /\ QX a1 a2 /\ GE a1 a2 /\ PS a1 a2
abbrev dU (a : MkI) (a1 : KS) : Prop := Pz a (X9 a1) (G8 a (advZ a a1.x)) = mS a /\ sL a1 a /\ StmB ((9 : Int) + Ky a a1) a1.x.s /\ Oo a1 a /\ Oj a1 /\ Le a1 /\
 sN a1
abbrev eD (a : KS) (a1 : KS) : Prop := HE a <= HE a1 /\ Xn a
abbrev Zs (a : MkI) (a1 : KS) (a2 : KS) : Prop := dU a a1 /\ eD a1 a2
abbrev dF (a : KS) : Prop := (5 : Int) = Int.ofNat (5 : Nat) /\ Ms a
abbrev Th (a : KS) : Bool := bif true then AP (KD a) (5 : Int) == (0 : Int) else false
abbrev Da (a : KS) : Stm := AR (KD a) (5 : Int)
abbrev Sr (a : KS) : List Int := (Da a).bs
abbrev Cr (a : KS) : Nat := (Sr a).length
abbrev By (a : KS) (i : Nat) : Int := gD (Sr a) i
abbrev ZQ (a : KS) : List Int := AF (Cr a) λ (i : Nat) => By a i
abbrev aQ (a : KS) : Nat := (ZQ a).length
abbrev LC (a : KS) : Int := (Da a).used
abbrev RF (a : KS) : Int := (Da a).mix
abbrev aL (a : KS) : Prop := AQB /\ aQ a = Cr a /\ (∀ (i : Nat), i < aQ a -> gD (ZQ a) i = By a i) /\ LC a = LC a /\ RF a = RF a
 /\ (LC a - (0 : Int)).NonNeg
abbrev Un (a : KS) : Stm := Stm.mk (ZQ a) (LC a) (RF a)
abbrev aR (a : KS) (a1 : KS) : Prop := a.x.tm = IntKind.i64.wrap (a1.x.tm + AP (Un a1) (400 : Int))
abbrev Cc (a : KS) : Stm := AR (Un a) (400 : Int)
abbrev Tl (a : KS) : List Int := (Cc a).bs
abbrev bW (a : KS) (a1 : KS) : Prop := a.x.s.bs.length = (Tl a1).length
abbrev Wh (a : KS) (a1 : KS) : Prop := ∀ (i : Nat), KE i a -> gD a.x.s.bs i = gD (Tl a1) i
abbrev Re (a : KS) (a1 : KS) : Prop := a.x.s.used = (Cc a1).used
abbrev Za (a : KS) (a1 : KS) : Prop := a.x.s.mix = (Cc a1).mix
abbrev aF (a : KS) : Prop := a.x.z.length = (1 : Nat)
abbrev Yk (a : KS) : Int := IntKind.i64.wrap ((↑a.x.ms.length : Int) - (1 : Int))
abbrev Aa (a : KS) : Prop := Vr a /\ (1 : Nat) <= a.x.z.length
abbrev Zv (a : MkI) (a1 : KS) (a2 : KS) : Prop := WV a a1 /\ a1.k <= HE a2 /\ Aa a1
abbrev Xu (a : KS) (a1 : KS) : Prop := a.x.s.bs.length = Cr a1
abbrev Rm (a : KS) (a1 : KS) : Prop := ∀ (i : Nat), KE i a -> gD a.x.s.bs i = By a1 i
abbrev Rd (a : KS) (a1 : KS) : Prop := a.x.s.used = LC a1
abbrev dP (a : KS) (a1 : KS) : Prop := a.x.s.mix = RF a1
abbrev Av (a : MkI) (a1 : KS) (a2 : KS) : Prop := WV a a1 /\ eD a1 a2
abbrev KR : Prop := false = true -> NK
abbrev Ab (a : KS) : Nat := a.x.ms.length + (1 : Nat)
abbrev Au (a : KS) : Nat := a.x.t.length + (1 : Nat)
abbrev YY (a : KS) : Nat := a.x.st.length + (1 : Nat)
abbrev Ce (a : KS) (a1 : MkI) : Prop := ((a.x.ms.length = a.x.ms.length /\ ((0 : Nat) < a.x.ms.length -> F3)) /\ J8 /\ KR /\ Ab a <= (9223372036854775807 : Nat) /\ Ab a * (16
 : Nat) <= (140737488355328 : Nat)) /\ ((a.x.t.length = a.x.t.length /\ ((0 : Nat) < a.x.t.length -> YS)) /\ WC /\ KR /\ Au a <= (9223372036854775807 : Nat) /\ Au a * (8 : Nat) <=
 (140737488355328 : Nat)) /\ Y2 a1 a /\ P1 a1 a /\ Tp a /\ Ze a /\ aC a /\ Qv a /\ eH a /\ (a.x.st.length = a.x.st.length /\ ((0 : Nat) < a.x.st.length -> YS)) /\
 WC /\ KR /\ YY a <= (9223372036854775807 : Nat) /\ YY a * (8 : Nat) <= (140737488355328 : Nat)
abbrev QQ (a : KS) (a1 : KS) : Prop := a.x.ms.length = Ab a1
abbrev QD (a : KS) (a1 : KS) : Prop := a.x.t.length = Au a1
abbrev QL (a : KS) (a1 : KS) : Prop := a.x.st.length = YY a1
abbrev Wt (i : Nat) (a : KS) : Bool := decide (i < a.x.ms.length)
abbrev Uh (a : KS) (a1 : KS) : Prop := ∀ (i : Nat), i < a.x.ms.length -> ((gD a.x.ms i).pl = bif Wt i a1 then (gD a1.x.ms i).pl else a1.x.pl) /\ (gD a.x.ms i).ht = bif Wt i a1 then (gD a1.x.ms
 i).ht else Mv a1
abbrev Wi (a : KS) (a1 : KS) : Prop := ∀ (i : Nat), i < a.x.t.length -> gD a.x.t i = bif decide (i < a1.x.t.length) then gD a1.x.t i else a1.x.tm
abbrev dC (a : KS) (a1 : KS) (a2 : MkI) : Prop := ∀ (i : Nat), i < a.x.st.length -> gD a.x.st i = bif decide (i < a1.x.st.length) then gD a1.x.st i else eC a1 a2
abbrev Cd (a : KS) (a1 : KS) : Prop := a.x.z.length = a1.x.z.length
abbrev Te (a : KS) (a1 : KS) : Prop := Cd a a1 /\ ∀ (i : Nat), i < a.x.z.length -> gD a.x.z i = gD a1.x.z i
abbrev Xd (a : KS) (a1 : KS) (a2 : MkI) : Prop := true = true /\ a.x.pl = a1.x.pl /\ a.x.tm = a1.x.tm /\ Cm a a1 /\ ZP a a1 a2 /\ Bd a a1 a2 /\ Ca a a1 a2 /\ YZ a a1 a2 /\
 AE /\ AE /\ AE /\ AE /\ AE /\ AA /\ AC /\ AA /\ AC /\ AA /\ AC /\ AA /\ AC /\ AA /\ AC /\ FP a2.s = FP a2.s /\ IE
 a2.s = IE a2.s /\ JJ a2.s = JJ a2.s /\ HQ a2.s = HQ a2.s /\ HA a2.s = HA a2.s /\ AA /\ QQ a a1 /\ AA /\ AC /\ AA /\ QD a a1 /\ AA /\ QL a a1 /\ AA /\
 Cd a a1 /\ QQ a a1 /\ Uh a a1 /\ QD a a1 /\ Wi a a1 /\ QL a a1 /\ dC a a1 a2 /\ Te a a1
abbrev Bl (a : MkI) (a1 : KS) : Prop := Pt a a1 /\ Aa a1
abbrev Tu (a : MkI) (a1 : KS) : Prop := (mS a).ms.length = a1.x.ms.length
abbrev Ye (a : KS) : Prop := (0 : Nat) + a.x.ms.length <= a.x.ms.length
abbrev KU (j : Nat) : Nat := (0 : Nat) + j
abbrev Vp (a : KS) (j : Nat) : Mk := gD a.x.ms (KU j)
abbrev Xj (a : MkI) (a1 : KS) : Prop := ∀ (j : Nat), j < (mS a).ms.length -> (gD (mS a).ms j).pl = (Vp a1 j).pl /\ (gD (mS a).ms j).ht = (Vp a1 j).ht
abbrev Rr (a : MkI) (a1 : KS) : Prop := (mS a).t.length = a1.x.t.length
abbrev Qs (a : KS) : Prop := (0 : Nat) + a.x.t.length <= a.x.t.length
abbrev eE (a : MkI) (a1 : KS) : Prop := ∀ (j : Nat), j < (mS a).t.length -> gD (mS a).t j = gD a1.x.t (KU j)
abbrev aT (a : MkI) (a1 : KS) : Prop := (mS a).st.length = a1.x.st.length
abbrev Ss (a : KS) : Prop := (0 : Nat) + a.x.st.length <= a.x.st.length
abbrev We (a : MkI) (a1 : KS) : Prop := ∀ (j : Nat), j < (mS a).st.length -> gD (mS a).st j = gD a1.x.st (KU j)
abbrev Cy (a : MkI) (a1 : KS) (a2 : KS) : Prop := AE /\ AE /\ AE /\ AE /\ AE /\ AA /\ AC /\ AA /\ AC /\ AA /\ AC /\ AA /\
 AC /\ AA /\ AC /\ FP a.s = FP a.s /\ IE a.s = IE a.s /\ JJ a.s = JJ a.s /\ HQ a.s = HQ a.s /\ HA a.s = HA a.s /\ AA /\ GA a1 a2 /\ AA /\ AC /\ AA /\
 FZ a1 a2 /\ AA /\ GE a1 a2 /\ AA /\ Cd a1 a2 /\ GA a1 a2 /\ QM a1 a2 /\ FZ a1 a2 /\ QX a1 a2 /\ GE a1 a2 /\ PS a1 a2 /\ Te a1
 a2
abbrev Tg (a : KS) (a1 : KS) : Prop := a.k <= a1.k /\ Aa a
abbrev Vx (a : MkI) (a1 : KS) (a2 : KS) : Prop := dU a a1 /\ Tg a1 a2
abbrev dZ (a : KS) (a1 : KS) : Prop := a.x.z.length = XF a1
abbrev PU (a : MkI) (a1 : KS) (a2 : KS) : Prop := WV a a1 /\ Tg a1 a2
abbrev Zl (a : MkI) (a1 : KS) : Prop := ∀ (a_1 : KS), PU a a_1 a1 -> VN a_1 /\ Ce a_1 a /\ ∃ (a_3 : KS), Xd a_3 a_1 a /\ Bl a a_3 /\ a_3.k < a1.k
abbrev IS (i : Nat) (a : KN) : Prop := i < a.x.s.bs.length
abbrev FC (a : MkI) : Prop := (mS a).ms.length = (mS a).ms.length
abbrev EV (a : MkI) : Prop := ∀ (i : Nat), i < (mS a).ms.length -> (gD (mS a).ms i).pl = (gD (mS a).ms i).pl /\ (gD (mS a).ms i).ht = (gD (mS a).ms i).ht
abbrev FA (a : MkI) : Prop := (mS a).t.length = (mS a).t.length
abbrev EW (a : MkI) : Prop := ∀ (i : Nat), i < (mS a).t.length -> gD (mS a).t i = gD (mS a).t i
abbrev FB (a : MkI) : Prop := (mS a).st.length = (mS a).st.length
abbrev EZ (a : MkI) : Prop := ∀ (i : Nat), i < (mS a).st.length -> gD (mS a).st i = gD (mS a).st i
abbrev FD (a : MkI) : Prop := (mS a).z.length = (mS a).z.length
abbrev EY (a : MkI) : Prop := ∀ (i : Nat), i < (mS a).z.length -> gD (mS a).z i = gD (mS a).z i
abbrev IL (a : MkI) : Prop := AE /\ AE /\ AE /\ AE /\ AE /\ AA /\ AC /\ AA /\ AC /\ AA /\ AC /\ AA /\ AC /\ AA /\
 AC /\ FP a.s = FP a.s /\ IE a.s = IE a.s /\ JJ a.s = JJ a.s /\ HQ a.s = HQ a.s /\ HA a.s = HA a.s /\ FC a /\ EV a /\ AA /\ AC /\ FA a /\ EW a /\ FB a /\
 EZ a /\ FD a /\ EY a
abbrev Ct (a : MkI) : Int := (7 : Int) * a.m
abbrev aJ (a : MkI) : Int := (7 : Int) + Ct a
abbrev Sy (a : KN) : Int := (5 : Int) * (↑a.i : Int)
abbrev Ty (a : MkI) (a1 : KN) : Prop := DV a /\ a1.i <= (mS a).ms.length /\ StmB (aJ a + Sy a1) a1.x.s /\ mkN a ((mS a).ms.length - a1.i) a1.i a1.x = KV a /\ a1.x.ns.length <= a1.i
abbrev Cg (a : MkI) (a1 : KN) : Prop := Ty a a1 /\ a1.x.ns = []
abbrev aK (a : KN) (a1 : MkI) : Bool := decide ((↑a.i : Int) < (↑(mS a1).ms.length : Int))
abbrev Bg (a : KN) : List Int := AF a.x.s.bs.length λ (i : Nat) => gD a.x.s.bs i
abbrev Wr (a : KN) : Nat := (Bg a).length
abbrev Yl (a : KN) : Prop := Wr a = a.x.s.bs.length /\ (∀ (i : Nat), i < Wr a -> gD (Bg a) i = gD a.x.s.bs i) /\ a.x.s.used = a.x.s.used /\ a.x.s.mix = a.x.s.mix /\ (a.x.s.used - (0 :
 Int)).NonNeg
abbrev Xm (a : KN) : Prop := (2 : Int) = Int.ofNat (2 : Nat) /\ Yl a
abbrev bA (a : KNb) (a1 : KN) : Prop := (↑a.i : Int) = (↑a1.i : Int)
abbrev QT (a : KN) : Stm := Stm.mk (Bg a) a.x.s.used a.x.s.mix
abbrev Yc (a : KNb) (a1 : KN) : Prop := a.b = (AP (QT a1) (2 : Int) == (0 : Int))
abbrev Bv (a : KN) : Stm := AR (QT a) (2 : Int)
abbrev Ub (a : KN) : List Int := (Bv a).bs
abbrev cL (a : KNb) (a1 : KN) : Prop := a.x.s.bs.length = (Ub a1).length
abbrev aN (a : KNb) (a1 : KN) : Prop := ∀ (i : Nat), i < a.x.s.bs.length -> gD a.x.s.bs i = gD (Ub a1) i
abbrev dT (a : KNb) (a1 : KN) : Prop := a.x.s.used = (Bv a1).used
abbrev Xf (a : KNb) (a1 : KN) : Prop := a.x.s.mix = (Bv a1).mix
abbrev LB (a : KN) : Nat := (100 : Nat) - a.i
abbrev dA (a : KNb) : Nat := a.i + (1 : Nat)
abbrev Ui (a : MkI) (a1 : KNb) (a2 : KN) : Prop := DV a /\ (a1.i < (mS a).ms.length /\ (100 : Nat) - a1.i = LB a2) /\ StmB ((8 : Int) + Ct a + (5 : Int) * (↑a1.i : Int)) a1.x.s /\ mkN a
 ((mS a).ms.length - dA a1) (dA a1) (addN a a1.b a1.i a1.x) = KV a /\ a1.x.ns.length <= a1.i
abbrev Vj (a : MkI) (a1 : KNb) (a2 : KN) : Prop := Ui a a1 a2 /\ a1.x.ns = []
abbrev Yy (a : KNb) : Prop := (0 : Int) <= (↑a.i : Int)
abbrev PQ (a : KNb) (a1 : MkI) : Prop := Yy a /\ (↑a.i : Int) < (↑(mS a1).t.length : Int)
abbrev RH : Prop := (40 : Int) = Int.ofNat (40 : Nat)
abbrev ZN (a : KNb) : List Int := AF a.x.s.bs.length λ (i : Nat) => gD a.x.s.bs i
abbrev Zf (a : KNb) : Nat := (ZN a).length
abbrev eJ (a : KNb) : Prop := Zf a = a.x.s.bs.length
abbrev aZ (a : KNb) : Prop := ∀ (i : Nat), i < Zf a -> gD (ZN a) i = gD a.x.s.bs i
abbrev Wy (a : KNb) : Prop := a.x.s.used = a.x.s.used
abbrev Zq (a : KNb) : Prop := a.x.s.mix = a.x.s.mix
abbrev dM (a : KNb) : Prop := (0 : Int) <= a.x.s.used
abbrev Xo (a : KNb) : Stm := Stm.mk (ZN a) a.x.s.used a.x.s.mix
abbrev Cz (a : KNb) : Stm := AR (Xo a) (40 : Int)
abbrev Ua (a : KNb) : List Int := (Cz a).bs
abbrev bD (a : KNb) : Nat := (Ua a).length
abbrev Zh (a : KNb) (i : Nat) : Int := gD (Ua a) i
abbrev ZK (a : KNb) : List Int := AF (bD a) λ (i : Nat) => Zh a i
abbrev aM (a : KNb) : Nat := (ZK a).length
abbrev Td (a : KNb) : Prop := aM a = bD a
abbrev Yq (a : KNb) : Prop := ∀ (i : Nat), i < aM a -> gD (ZK a) i = Zh a i
abbrev PR (a : KNb) : Int := (Cz a).used
abbrev Rw (a : KNb) : Prop := PR a = PR a
abbrev ZU (a : KNb) : Int := (Cz a).mix
abbrev Yz (a : KNb) : Prop := ZU a = ZU a
abbrev aA (a : KNb) : Prop := (0 : Int) <= PR a
abbrev QG (a : KNb) (a1 : MkI) : Prop := Yy a /\ (↑a.i : Int) < (↑(mS a1).st.length : Int)
abbrev Rv (a : KNb) : Stm := Stm.mk (ZK a) (PR a) (ZU a)
abbrev As (a : KNb) : Stm := AR (Rv a) (40 : Int)
abbrev Rk (a : KNb) : List Int := (As a).bs
abbrev Tx (a : KNb) : Nat := (Rk a).length
abbrev dW (a : KNb) (i : Nat) : Int := gD (Rk a) i
abbrev An (a : KNb) : List Int := AF (Tx a) λ (i : Nat) => dW a i
abbrev Rs (a : KNb) : Nat := (An a).length
abbrev bH (a : KNb) : Prop := Rs a = Tx a
abbrev Tz (a : KNb) : Prop := ∀ (i : Nat), i < Rs a -> gD (An a) i = dW a i
abbrev RD (a : KNb) : Int := (As a).used
abbrev Xt (a : KNb) : Prop := RD a = RD a
abbrev ZI (a : KNb) : Int := (As a).mix
abbrev Su (a : KNb) : Prop := ZI a = ZI a
abbrev Ym (a : KNb) : Prop := (0 : Int) <= RD a
abbrev eK (a : KNb) : Stm := Stm.mk (An a) (RD a) (ZI a)
abbrev Cq (a : KNb) : Stm := AR (eK a) (9 : Int)
abbrev Rl (a : KNb) : List Int := (Cq a).bs
abbrev Rj (a : KNb) : Nat := (Rl a).length
abbrev dI (a : KNb) (i : Nat) : Int := gD (Rl a) i
abbrev Bo (a : KNb) : List Int := AF (Rj a) λ (i : Nat) => dI a i
abbrev Ug (a : KNb) : Nat := (Bo a).length
abbrev Qr (a : KNb) : Prop := Ug a = Rj a
abbrev Qt (a : KNb) : Prop := ∀ (i : Nat), i < Ug a -> gD (Bo a) i = dI a i
abbrev QJ (a : KNb) : Int := (Cq a).used
abbrev Wb (a : KNb) : Prop := QJ a = QJ a
abbrev Ar (a : KNb) : Int := (Cq a).mix
abbrev cW (a : KNb) : Prop := Ar a = Ar a
abbrev Zp (a : KNb) : Prop := (0 : Int) <= QJ a
abbrev Qy : Prop := (5 : Nat) = (5 : Nat)
abbrev bY : Prop := Qg /\ (NK -> Qy)
abbrev QA (a : KN) (a1 : KNb) : Prop := (↑a.i : Int) = (↑a1.i : Int)
abbrev Ya (a : KNb) : Stm := Stm.mk (Bo a) (QJ a) (Ar a)
abbrev ZL (a : KNb) : Stm := AR (Ya a) (9 : Int)
abbrev Yg (a : KNb) : List Int := (ZL a).bs
abbrev Us (a : KN) (a1 : KNb) : Prop := a.x.s.bs.length = (Yg a1).length
abbrev Rf (a : KN) (a1 : KNb) : Prop := ∀ (i : Nat), IS i a -> gD a.x.s.bs i = gD (Yg a1) i
abbrev bN (a : KN) (a1 : KNb) : Prop := a.x.s.used = (ZL a1).used
abbrev Zd (a : KN) (a1 : KNb) : Prop := a.x.s.mix = (ZL a1).mix
abbrev Wv (a : KN) : Prop := a.x.ns.length = (1 : Nat)
abbrev Uz (a : MkI) (a1 : KNb) : Int := DD (0 : Int) (IntKind.i64.wrap (gD (mS a).t a1.i - AP (Xo a1) (40 : Int)))
abbrev Vl (a : MkI) (a1 : KNb) : Int := IntKind.i64.wrap (gD (mS a).t a1.i + AP (Rv a1) (40 : Int))
abbrev dE (a : MkI) (a1 : KNb) : Int := IntKind.i64.wrap (gD (mS a).st a1.i - AP (eK a1) (9 : Int))
abbrev Yx (a : MkI) (a1 : KNb) : Int := IntKind.i64.wrap (gD (mS a).st a1.i + AP (Ya a1) (9 : Int))
abbrev At (a : KN) : Nat := a.i + (1 : Nat)
abbrev Ud (a : MkI) (a1 : KN) (a2 : KN) : Prop := DV a /\ (a1.i < (mS a).ms.length /\ LB a1 = LB a2) /\ StmB ((12 : Int) + Ct a + Sy a1) a1.x.s /\ mkN a ((mS a).ms.length
 - At a1) (At a1) a1.x = KV a /\ a1.x.ns.length <= At a1
abbrev Qp (a : KN) : Prop := (1 : Nat) <= a.x.ns.length
abbrev QE (a : MkI) (a1 : KN) (a2 : KN) : Prop := Ud a a1 a2 /\ Qp a1
abbrev Wa (a : KN) (a1 : KNb) : Prop := a.x.s.bs.length = a1.x.s.bs.length
abbrev cH (a : KN) (a1 : KNb) : Prop := ∀ (i : Nat), IS i a -> gD a.x.s.bs i = gD a1.x.s.bs i
abbrev Sm (a : KN) (a1 : KNb) : Prop := a.x.s.used = a1.x.s.used
abbrev Vs (a : KN) (a1 : KNb) : Prop := a.x.s.mix = a1.x.s.mix
abbrev Ys (a : MkI) (a1 : KN) (a2 : KN) : Prop := Ud a a1 a2 /\ a1.x.ns = []
abbrev KX (a : KN) : Int := IntKind.i64.wrap ((↑a.i : Int) + (1 : Int))
abbrev Tb (a : KN) (a1 : KN) : Prop := (↑a.i : Int) = KX a1
abbrev Ue (a : KN) (a1 : KN) : Prop := a.x.s.bs.length = a1.x.s.bs.length
abbrev Wq (a : KN) (a1 : KN) : Prop := ∀ (i : Nat), IS i a -> gD a.x.s.bs i = gD a1.x.s.bs i
abbrev Xe (a : KN) (a1 : KN) : Prop := a.x.s.used = a1.x.s.used
abbrev dQ (a : KN) (a1 : KN) : Prop := a.x.s.mix = a1.x.s.mix
abbrev Rb (a : KN) (a1 : KN) : Prop := LB a < LB a1
abbrev PZ (a : KN) (a1 : KN) : Prop := a.x.ns.length = a1.x.ns.length
abbrev bX (a : MkI) (a1 : KN) : Prop := Ty a a1 /\ Qp a1
abbrev Ak (a : MkI) (a1 : KN) : Prop := ∀ (a_1 : KN), QE a a_1 a1 -> ∃ (a_3 : KN), (Tb a_3 a_1 /\ Ue a_3 a_1 /\ Wq a_3 a_1 /\ Xe a_3 a_1 /\ dQ a_3 a_1 /\
 AE /\ AE /\ AE /\ AE /\ AE /\ AA /\ AC /\ AA /\ AC /\ AA /\ AC /\ AA /\ AC /\ AA /\ AC /\ FP a.s = FP a.s /\ IE
 a.s = IE a.s /\ JJ a.s = JJ a.s /\ HQ a.s = HQ a.s /\ HA a.s = HA a.s /\ FC a /\ EV a /\ AA /\ PZ a_3 a_1 /\ FA a /\ EW a /\ FB a /\ EZ a /\ FD a
 /\ EY a /\ PZ a_3 a_1 /\ ∀ (i : Nat), i < a_3.x.ns.length -> (gD a_3.x.ns i).mi = (gD a_1.x.ns i).mi /\ (gD a_3.x.ns i).t.lo = (gD a_1.x.ns i).t.lo /\ (gD a_3.x.ns i).t.hi = (gD a_1.x.ns i).t.hi /\ (gD
 a_3.x.ns i).s.lo = (gD a_1.x.ns i).s.lo /\ (gD a_3.x.ns i).s.hi = (gD a_1.x.ns i).s.hi) /\ bX a a_3 /\ Rb a_3 a1
abbrev bI (a : MkI) (a1 : KN) : Prop := (KV a).s.bs.length = a1.x.s.bs.length
abbrev Uv (a : MkI) (a1 : KN) : Prop := ∀ (i : Nat), i < (KV a).s.bs.length -> gD (KV a).s.bs i = gD a1.x.s.bs i
abbrev bT (a : MkI) (a1 : KN) : Prop := (KV a).s.used = a1.x.s.used
abbrev Xi (a : MkI) (a1 : KN) : Prop := (KV a).s.mix = a1.x.s.mix
abbrev Vy (a : MkI) : Prop := DV a /\ (KV a).ns = []
abbrev Tc (a : KNb) (a1 : KN) : Prop := a.x.ns.length = a1.x.ns.length
abbrev Yt (a : MkI) (a1 : KNb) (a2 : KN) : Prop := Ui a a1 a2 /\ (1 : Nat) <= a1.x.ns.length
abbrev Cw (a : KNb) : Nat := a.x.ns.length + (1 : Nat)
abbrev Zr (a : KN) (a1 : KNb) : Prop := a.x.ns.length = Cw a1
abbrev LN (i : Nat) (a : KNb) : Bool := decide (i < a.x.ns.length)
abbrev Uy (a : KN) (a1 : KNb) : Prop := a.x.ns.length = a1.x.ns.length
abbrev bC (a : MkI) (a1 : KN) : Prop := (KV a).ns.length = a1.x.ns.length
abbrev Vz (a : MkI) : Int := aJ a + (5 : Int) * a.m
abbrev Yd (a : MkI) : Prop := DV a /\ StmB (Vz a) (KV a).s /\ (1 : Nat) <= (KV a).ns.length /\ (↑(KV a).ns.length : Int) <= a.m
abbrev Aq (i : Nat) (a : MkI) : Prop := i < (mE a).s.bs.length
abbrev Uj (a : MkI) : Prop := (ID a).ms.length = (mS a).ms.length
abbrev Ra (a : MkI) : Prop := ∀ (i : Nat), i < (ID a).ms.length -> (gD (ID a).ms i).pl = (gD (mS a).ms i).pl /\ (gD (ID a).ms i).ht = (gD (mS a).ms i).ht
abbrev Ws (a : MkI) : Prop := (ID a).ns.length = (0 : Nat)
abbrev Vh (a : MkI) : Prop := (mdT a).t.length = (mS a).t.length
abbrev Zj (a : MkI) : Prop := ∀ (i : Nat), i < (mdT a).t.length -> gD (mdT a).t i = gD (mS a).t i
abbrev Tf (a : MkI) : Prop := (mdT a).s.length = (mS a).st.length
abbrev Ri (a : MkI) : Prop := ∀ (i : Nat), i < (mdT a).s.length -> gD (mdT a).s i = gD (mS a).st i
abbrev Uo (a : MkI) : Prop := (mdT a).z.length = (mS a).z.length
abbrev cX (a : MkI) : Prop := ∀ (i : Nat), i < (mdT a).z.length -> gD (mdT a).z i = gD (mS a).z i
abbrev Xk (a : KN) (a1 : MkI) : Prop := a.x.ns.length = (KV a1).ns.length
abbrev ZW (a : MkI) (a1 : KN) : Prop := DV a /\ a1.i < a1.x.ns.length /\ StmB (Vz a + a.m - (↑a1.i : Int)) a1.x.s /\ shK a1.i a1.x = mE a /\ (↑a1.x.ns.length : Int) <= a.m
abbrev Bq (a : KN) : Int := AP (QT a) (KX a)
abbrev Vg (a : KN) : Prop := (0 : Int) <= Bq a /\ Bq a < (↑a.x.ns.length : Int)
abbrev PP (a : KN) : Nat := (0 : Nat) + (Bq a).toNat
abbrev dL (a : KN) : Prop := (0 : Int) <= (↑a.i : Int) /\ (↑a.i : Int) < (↑a.x.ns.length : Int)
abbrev Bx (a : KN) : Nat := (0 : Nat) + a.i
abbrev Xx (a : KN) : Prop := Bx a < a.x.ns.length
abbrev ZR (a : KN) : Stm := AR (QT a) (KX a)
abbrev bP (a : KN) : List Int := (ZR a).bs
abbrev LH (i : Nat) (a : KN) : Bool := decide (i = PP a)
abbrev Ae (a : KN) : Nt := gD a.x.ns (Bx a)
abbrev LG (i : Nat) (a : KN) : Bool := decide (i = Bx a)
abbrev ZB (a : KN) : Nt := gD a.x.ns (PP a)
abbrev dG (a : KN) : Span := (Ae a).t
abbrev Qo (a : KN) : Span := (ZB a).t
abbrev dJ (a : KN) : Span := (Ae a).s
abbrev Ru (a : KN) : Span := (ZB a).s
abbrev Cs (a : KN) (j : Nat) : Nt := gD a.x.ns (KU j)
abbrev Wg (a : KN) (j : Nat) : Span := (Cs a j).t
abbrev dB (a : KN) (j : Nat) : Span := (Cs a j).s
abbrev Sa (a : MkI) : Prop := ∀ (a_1 : One), DV a -> ((∃ (a_3 : KN), ((↑a_3.i : Int) = (0 : Int) /\ a_3.x.s.bs.length = (mS a).s.bs.length /\ (∀ (i : Nat), IS i a_3 -> gD a_3.x.s.bs i = gD (mS
 a).s.bs i) /\ a_3.x.s.used = (mS a).s.used /\ a_3.x.s.mix = (mS a).s.mix /\ IL a) /\ Cg a a_3) /\ (∀ (a_3 : KN), Cg a a_3 -> bif bif aK a_3 a then decide ((↑(0 : Nat) : Int) < (20 : Int))
 else false then ((Xm a_3 /\ ∃ (a_5 : KNb), (bA a_5 a_3 /\ Yc a_5 a_3 /\ cL a_5 a_3 /\ aN a_5 a_3 /\ dT a_5 a_3 /\ Xf a_5 a_3 /\ IL a) /\ Vj a a_5
 a_3) /\ ∀ (a_5 : KNb), Vj a a_5 a_3 -> bif a_5.b then (PQ a_5 a /\ RH /\ eJ a_5 /\ aZ a_5 /\ Wy a_5 /\ Zq a_5 /\ dM a_5 /\ PQ a_5 a /\ RH /\
 Td a_5 /\ Yq a_5 /\ Rw a_5 /\ Yz a_5 /\ aA a_5 /\ QG a_5 a /\ OX /\ bH a_5 /\ Tz a_5 /\ Xt a_5 /\ Su a_5 /\ Ym a_5 /\
 QG a_5 a /\ OX /\ Qr a_5 /\ Qt a_5 /\ Wb a_5 /\ cW a_5 /\ Zp a_5 /\ (True /\ (Pm -> (0 : Nat) = (5 : Nat))) /\ bY /\ Lw /\ Od /\ (40 :
 Nat) <= (140737488355328 : Nat)) /\ ∃ (a_7 : KN), (QA a_7 a_5 /\ Us a_7 a_5 /\ Rf a_7 a_5 /\ bN a_7 a_5 /\ Zd a_7 a_5 /\ AE /\ AE /\ AE /\ AE /\
 AE /\ AA /\ AC /\ AA /\ AC /\ AA /\ AC /\ AA /\ AC /\ AA /\ AC /\ FP a.s = FP a.s /\ IE a.s = IE a.s /\ JJ a.s = JJ a.s /\ HQ a.s = HQ a.s
 /\ HA a.s = HA a.s /\ FC a /\ EV a /\ AA /\ Wv a_7 /\ FA a /\ EW a /\ FB a /\ EZ a /\ FD a /\ EY a /\ Wv a_7 /\ ∀ (i : Nat), i <
 a_7.x.ns.length -> (gD a_7.x.ns i).mi = (↑a_5.i : Int) /\ (gD a_7.x.ns i).t.lo = Uz a a_5 /\ (gD a_7.x.ns i).t.hi = Vl a a_5 /\ (gD a_7.x.ns i).s.lo = dE a a_5 /\ (gD a_7.x.ns i).s.hi = Yx
 a a_5) /\ QE a a_7 a_3 else ∃ (a_7 : KN), (QA a_7 a_5 /\ Wa a_7 a_5 /\ cH a_7 a_5 /\ Sm a_7 a_5 /\ Vs a_7 a_5 /\ IL a) /\ Ys a a_7 a_3) /\ (∀ (a_5 : KN),
 Ys a a_5 a_3 -> ∃ (a_7 : KN), (Tb a_7 a_5 /\ Ue a_7 a_5 /\ Wq a_7 a_5 /\ Xe a_7 a_5 /\ dQ a_7 a_5 /\ IL a) /\ Cg a a_7 /\ Rb a_7 a_3) /\ Ak
 a a_3 else ∃ (a_5 : One), (bI a a_3 /\ Uv a a_3 /\ bT a a_3 /\ Xi a a_3 /\ IL a) /\ Vy a) /\ ∀ (a_3 : KN), bX a a_3 -> bif bif aK a_3 a then decide
 ((↑a_3.x.ns.length : Int) < (20 : Int)) else false then ((Xm a_3 /\ ∃ (a_5 : KNb), (bA a_5 a_3 /\ Yc a_5 a_3 /\ cL a_5 a_3 /\ aN a_5 a_3 /\ dT a_5 a_3 /\ Xf a_5
 a_3 /\ AE /\ AE /\ AE /\ AE /\ AE /\ AA /\ AC /\ AA /\ AC /\ AA /\ AC /\ AA /\ AC /\ AA /\ AC /\ FP a.s = FP a.s /\
 IE a.s = IE a.s /\ JJ a.s = JJ a.s /\ HQ a.s = HQ a.s /\ HA a.s = HA a.s /\ FC a /\ EV a /\ AA /\ Tc a_5 a_3 /\ FA a /\ EW a /\ FB a /\ EZ a /\
 FD a /\ EY a /\ Tc a_5 a_3 /\ ∀ (i : Nat), i < a_5.x.ns.length -> (gD a_5.x.ns i).mi = (gD a_3.x.ns i).mi /\ (gD a_5.x.ns i).t.lo = (gD a_3.x.ns i).t.lo /\ (gD a_5.x.ns i).t.hi = (gD a_3.x.ns i).t.hi
 /\ (gD a_5.x.ns i).s.lo = (gD a_3.x.ns i).s.lo /\ (gD a_5.x.ns i).s.hi = (gD a_3.x.ns i).s.hi) /\ Yt a a_5 a_3) /\ ∀ (a_5 : KNb), Yt a a_5 a_3 -> bif a_5.b then (PQ a_5 a /\ RH /\ eJ
 a_5 /\ aZ a_5 /\ Wy a_5 /\ Zq a_5 /\ dM a_5 /\ PQ a_5 a /\ RH /\ Td a_5 /\ Yq a_5 /\ Rw a_5 /\ Yz a_5 /\ aA a_5 /\ QG a_5 a
 /\ OX /\ bH a_5 /\ Tz a_5 /\ Xt a_5 /\ Su a_5 /\ Ym a_5 /\ QG a_5 a /\ OX /\ Qr a_5 /\ Qt a_5 /\ Wb a_5 /\ cW a_5 /\
 Zp a_5 /\ (a_5.x.ns.length = a_5.x.ns.length /\ ((0 : Nat) < a_5.x.ns.length -> Qy)) /\ bY /\ KR /\ Cw a_5 <= (9223372036854775807 : Nat) /\ Cw a_5 * (40 : Nat) <=
 (140737488355328 : Nat)) /\ ∃ (a_7 : KN), (QA a_7 a_5 /\ Us a_7 a_5 /\ Rf a_7 a_5 /\ bN a_7 a_5 /\ Zd a_7 a_5 /\ AE /\ AE /\ AE /\ AE /\ AE /\
 AA /\ AC /\ AA /\ AC /\ AA /\ AC /\ AA /\ AC /\ AA /\ AC /\ FP a.s = FP a.s /\ IE a.s = IE a.s /\ JJ a.s = JJ a.s /\ HQ a.s = HQ a.s /\ HA a.s =
 HA a.s /\ FC a /\ EV a /\ AA /\ Zr a_7 a_5 /\ FA a /\ EW a /\ FB a /\ EZ a /\ FD a /\ EY a /\ Zr a_7 a_5 /\ ∀ (i : Nat), i <
 a_7.x.ns.length -> ((gD a_7.x.ns i).mi = bif LN i a_5 then (gD a_5.x.ns i).mi else (↑a_5.i : Int)) /\ ((gD a_7.x.ns i).t.lo = bif LN i a_5 then (gD a_5.x.ns i).t.lo else Uz a a_5) /\ ((gD a_7.x.ns
 i).t.hi = bif LN i a_5 then (gD a_5.x.ns i).t.hi else Vl a a_5) /\ ((gD a_7.x.ns i).s.lo = bif LN i a_5 then (gD a_5.x.ns i).s.lo else dE a a_5) /\ (gD a_7.x.ns i).s.hi = bif LN
 i a_5 then (gD a_5.x.ns i).s.hi else Yx a a_5) /\ QE a a_7 a_3 else ∃ (a_7 : KN), (QA a_7 a_5 /\ Wa a_7 a_5 /\ cH a_7 a_5 /\ Sm a_7 a_5 /\ Vs a_7 a_5 /\ AE
 /\ AE /\ AE /\ AE /\ AE /\ AA /\ AC /\ AA /\ AC /\ AA /\ AC /\ AA /\ AC /\ AA /\ AC /\ FP a.s = FP a.s /\ IE a.s = IE
 a.s /\ JJ a.s = JJ a.s /\ HQ a.s = HQ a.s /\ HA a.s = HA a.s /\ FC a /\ EV a /\ AA /\ Uy a_7 a_5 /\ FA a /\ EW a /\ FB a /\ EZ a /\ FD a /\
 EY a /\ Uy a_7 a_5 /\ ∀ (i : Nat), i < a_7.x.ns.length -> (gD a_7.x.ns i).mi = (gD a_5.x.ns i).mi /\ (gD a_7.x.ns i).t.lo = (gD a_5.x.ns i).t.lo /\ (gD a_7.x.ns i).t.hi = (gD a_5.x.ns i).t.hi /\ (gD a_7.x.ns
 i).s.lo = (gD a_5.x.ns i).s.lo /\ (gD a_7.x.ns i).s.hi = (gD a_5.x.ns i).s.hi) /\ QE a a_7 a_3) /\ Ak a a_3 /\ Ak a a_3 else ∃ (a_5 : One), (bI a a_3 /\ Uv a a_3 /\ bT a
 a_3 /\ Xi a a_3 /\ AE /\ AE /\ AE /\ AE /\ AE /\ AA /\ AC /\ AA /\ AC /\ AA /\ AC /\ AA /\ AC /\ AA /\ AC /\
 FP a.s = FP a.s /\ IE a.s = IE a.s /\ JJ a.s = JJ a.s /\ HQ a.s = HQ a.s /\ HA a.s = HA a.s /\ FC a /\ EV a /\ AA /\ bC a a_3 /\ FA a /\ EW a /\ FB a /\
 EZ a /\ FD a /\ EY a /\ bC a a_3 /\ ∀ (i : Nat), i < (KV a).ns.length -> (gD (KV a).ns i).mi = (gD a_3.x.ns i).mi /\ (gD (KV a).ns i).t.lo = (gD a_3.x.ns i).t.lo /\ (gD (KV a).ns i).t.hi
 = (gD a_3.x.ns i).t.hi /\ (gD (KV a).ns i).s.lo = (gD a_3.x.ns i).s.lo /\ (gD (KV a).ns i).s.hi = (gD a_3.x.ns i).s.hi) /\ Yd a) /\ (∀ (a_3 : One), Vy a -> (∃ (a_5 : One), (Int.negSucc (0 : Nat) =
 Int.negSucc (0 : Nat) /\ (mE a).s.bs.length = (KV a).s.bs.length /\ (∀ (i : Nat), Aq i a -> gD (mE a).s.bs i = gD (KV a).s.bs i) /\ (mE a).s.used = (KV a).s.used /\ (mE a).s.mix = (KV a).s.mix /\ IL a) /\
 (mE a).ns = []) /\ ∀ (a_5 : One), (mE a).ns = [] -> (ID a).p.lo = FP a.s /\ (ID a).p.hi = IE a.s /\ (ID a).base = JJ a.s /\ (ID a).scale = HQ a.s /\ (ID a).off = HA a.s /\ Uj a /\ Ra a /\ Ws a
 /\ Ws a /\ Vh a /\ Zj a /\ Tf a /\ Ri a /\ Uo a /\ cX a /\ (mE a).s.bs.length = (mE a).s.bs.length /\ (∀ (i : Nat), Aq i a -> gD (mE a).s.bs i = gD (mE
 a).s.bs i) /\ (mE a).s.used = (mE a).s.used /\ (mE a).s.mix = (mE a).s.mix) /\ ∀ (a_3 : One), Yd a -> (∃ (a_5 : KN), ((↑a_5.i : Int) = IntKind.i64.wrap ((↑(KV a).ns.length : Int) - (1 : Int)) /\ a_5.x.s.bs.length =
 (KV a).s.bs.length /\ (∀ (i : Nat), IS i a_5 -> gD a_5.x.s.bs i = gD (KV a).s.bs i) /\ a_5.x.s.used = (KV a).s.used /\ a_5.x.s.mix = (KV a).s.mix /\ AE /\ AE /\ AE /\ AE /\ AE
 /\ AA /\ AC /\ AA /\ AC /\ AA /\ AC /\ AA /\ AC /\ AA /\ AC /\ FP a.s = FP a.s /\ IE a.s = IE a.s /\ JJ a.s = JJ a.s /\ HQ a.s = HQ a.s /\ HA a.s
 = HA a.s /\ FC a /\ EV a /\ AA /\ Xk a_5 a /\ FA a /\ EW a /\ FB a /\ EZ a /\ FD a /\ EY a /\ Xk a_5 a /\ ∀ (i : Nat), i <
 a_5.x.ns.length -> (gD a_5.x.ns i).mi = (gD (KV a).ns i).mi /\ (gD a_5.x.ns i).t.lo = (gD (KV a).ns i).t.lo /\ (gD a_5.x.ns i).t.hi = (gD (KV a).ns i).t.hi /\ (gD a_5.x.ns i).s.lo = (gD (KV a).ns i).s.lo /\ (gD a_5.x.ns
 i).s.hi = (gD (KV a).ns i).s.hi) /\ ZW a a_5) /\ ∀ (a_5 : KN), ZW a a_5 -> bif decide ((↑a_5.i : Int) > (0 : Int)) then (KX a_5 = KX a_5 /\ Yl a_5) /\ (Vg a_5 /\
 PP a_5 < a_5.x.ns.length /\ dL a_5 /\ Xx a_5 /\ dL a_5 /\ Xx a_5 /\ Vg a_5 /\ (PP a_5).succ.le a_5.x.ns.length) /\ ∃ (a_7 : KN), ((↑a_7.i : Int) = IntKind.i64.wrap
 ((↑a_5.i : Int) - (1 : Int)) /\ a_7.x.s.bs.length = (bP a_5).length /\ (∀ (i : Nat), IS i a_7 -> gD a_7.x.s.bs i = gD (bP a_5) i) /\ a_7.x.s.used = (ZR a_5).used /\ a_7.x.s.mix =
 (ZR a_5).mix /\ AE /\ AE /\ AE /\ AE /\ AE /\ AA /\ AC /\ AA /\ AC /\ AA /\ AC /\ AA /\ AC /\ AA /\ AC /\
 FP a.s = FP a.s /\ IE a.s = IE a.s /\ JJ a.s = JJ a.s /\ HQ a.s = HQ a.s /\ HA a.s = HA a.s /\ FC a /\ EV a /\ AA /\ PZ a_7 a_5 /\ FA a /\ EW a /\ FB a /\
 EZ a /\ FD a /\ EY a /\ PZ a_7 a_5 /\ ∀ (i : Nat), i < a_7.x.ns.length -> ((gD a_7.x.ns i).mi = bif LH i a_5 then (Ae a_5).mi else bif LG i a_5 then (ZB
 a_5).mi else (gD a_5.x.ns i).mi) /\ ((gD a_7.x.ns i).t.lo = bif LH i a_5 then (dG a_5).lo else bif LG i a_5 then (Qo a_5).lo else (gD a_5.x.ns i).t.lo) /\ ((gD a_7.x.ns i).t.hi = bif
 LH i a_5 then (dG a_5).hi else bif LG i a_5 then (Qo a_5).hi else (gD a_5.x.ns i).t.hi) /\ ((gD a_7.x.ns i).s.lo = bif LH i a_5 then (dJ a_5).lo else bif LG i
 a_5 then (Ru a_5).lo else (gD a_5.x.ns i).s.lo) /\ (gD a_7.x.ns i).s.hi = bif LH i a_5 then (dJ a_5).hi else bif LG i a_5 then (Ru a_5).hi else (gD a_5.x.ns i).s.hi) /\
 ZW a a_7 /\ a_7.i < a_5.i else (ID a).p.lo = FP a.s /\ (ID a).p.hi = IE a.s /\ (ID a).base = JJ a.s /\ (ID a).scale = HQ a.s /\ (ID a).off = HA a.s /\ Uj a /\ Ra a /\ (ID a).ns.length =
 a_5.x.ns.length /\ (0 : Nat) + a_5.x.ns.length <= a_5.x.ns.length /\ (∀ (j : Nat), j < (ID a).ns.length -> (gD (ID a).ns j).mi = (Cs a_5 j).mi /\ (gD (ID a).ns j).t.lo = (Wg a_5 j).lo /\ (gD (ID a).ns
 j).t.hi = (Wg a_5 j).hi /\ (gD (ID a).ns j).s.lo = (dB a_5 j).lo /\ (gD (ID a).ns j).s.hi = (dB a_5 j).hi) /\ Vh a /\ Zj a /\ Tf a /\ Ri a /\ Uo a /\
 cX a /\ (mE a).s.bs.length = a_5.x.s.bs.length /\ (∀ (i : Nat), Aq i a -> gD (mE a).s.bs i = gD a_5.x.s.bs i) /\ (mE a).s.used = a_5.x.s.used /\ (mE a).s.mix = a_5.x.s.mix
theorem DCQ (a : MkI) : (CYX a) = (((gP /\ BEI /\ ATX a = a.s.bs.length /\ (∀ (i : Nat), i < ATX a -> gD (oN a) i = gD a.s.bs i) /\ a.s.used = a.s.used /\ a.s.mix = a.s.mix /\ (0 : Int)
 <= a.s.used /\ (-50 : Int) = Int.negSucc (49 : Nat) /\ AQB /\ R9 a = ANP a /\ (∀ (i : Nat), i < R9 a -> gD (Qh a) i = ASN a i) /\ YH a = YH a /\ On a = On
 a /\ (0 : Int) <= YH a /\ BEI /\ uF a = L7 a /\ (∀ (i : Nat), i < uF a -> gD (Ow a) i = W8 a i) /\ YJ a = YJ a /\ Mz a = Mz a /\ (0 : Int) <=
 YJ a /\ OX /\ yK a = E0 a /\ (∀ (i : Nat), i < yK a -> gD (Pu a) i = X4 a i) /\ XT a = XT a /\ Kt a = Kt a /\ (XT a - (0 :
 Int)).NonNeg) /\ ∃ (a_1 : One), (a.m = a.m /\ true = true /\ (gS4 a.s).bs.length = (G5 a).length /\ (∀ (i : Nat), i < (gS4 a.s).bs.length -> gD (gS4 a.s).bs i = gD (G5 a) i) /\ (gS4 a.s).used = (Ll
 a).used /\ (gS4 a.s).mix = (Ll a).mix /\ AE /\ AE /\ AE /\ AE /\ AE /\ AA /\ AC /\ AA /\ AC /\ AA /\ AC /\ AA /\ AC /\
 AA /\ AC /\ FP a.s = WZ (AOU a) (1 : Int) (12 : Int) /\ AE /\ JJ a.s = WZ (M8 a) (-50 : Int) (400 : Int) /\ HQ a.s = AP (L0 a) (12 : Int) /\ HA a.s = AP (O2
 a) (9 : Int) /\ Lh) /\ StmB (4 : Int) (gS4 a.s)) /\ ∀ (a_1 : One), StmB (4 : Int) (gS4 a.s) -> (((6 : Int) = Int.ofNat (6 : Nat) /\ tJ a = (gS4 a.s).bs.length /\ (∀ (i : Nat), i < tJ a -> gD (Jw
 a) i = gD (gS4 a.s).bs i) /\ (gS4 a.s).used = (gS4 a.s).used /\ (gS4 a.s).mix = (gS4 a.s).mix /\ ((gS4 a.s).used - (0 : Int)).NonNeg) /\ ∃ (a_3 : One), (a.m = a.m /\ true = true /\ (gS5 a.s).bs.length = (zS a).length /\
 (∀ (i : Nat), i < (gS5 a.s).bs.length -> gD (gS5 a.s).bs i = gD (zS a) i) /\ (gS5 a.s).used = (Np a).used /\ (gS5 a.s).mix = (Np a).mix /\ AE /\ AE /\ AE /\ AE /\
 AE /\ AA /\ AC /\ AA /\ AC /\ AA /\ AC /\ AA /\ AC /\ AA /\ AC /\ FP a.s = FP a.s /\ IE a.s = IntKind.i64.wrap (FP a.s + AP (Q3
 a) (6 : Int)) /\ JJ a.s = JJ a.s /\ HQ a.s = HQ a.s /\ HA a.s = HA a.s /\ Lh) /\ StmB (5 : Int) (gS5 a.s)) /\ ∀ (a_3 : One), StmB (5 : Int) (gS5 a.s) -> (((300 : Int) = Int.ofNat (300 : Nat) /\ M5 a = (gS5
 a.s).bs.length /\ (∀ (i : Nat), i < M5 a -> gD (Ko a) i = gD (gS5 a.s).bs i) /\ (gS5 a.s).used = (gS5 a.s).used /\ (gS5 a.s).mix = (gS5 a.s).mix /\ ((gS5 a.s).used - (0 : Int)).NonNeg) /\ ∃ (a_5 : One), (a.m =
 a.m /\ true = true /\ AE /\ hTm a.s = AP (zH a) (300 : Int) /\ (gS6 a.s).bs.length = (A9 a).length /\ (∀ (i : Nat), i < (gS6 a.s).bs.length -> gD (gS6 a.s).bs i = gD (A9 a) i) /\ (gS6
 a.s).used = (Nl a).used /\ (gS6 a.s).mix = (Nl a).mix /\ Kg a) /\ StmB (6 : Int) (gS6 a.s)) /\ ∀ (a_5 : One), StmB (6 : Int) (gS6 a.s) -> ((gP /\ a.m = a.m /\ A7 a = (gS6 a.s).bs.length /\
 (∀ (i : Nat), i < A7 a -> gD (Jy a) i = gD (gS6 a.s).bs i) /\ (gS6 a.s).used = (gS6 a.s).used /\ (gS6 a.s).mix = (gS6 a.s).mix /\ ((gS6 a.s).used - (0 : Int)).NonNeg) /\ (∃ (a_7 : KS), (true = true /\ a_7.x.pl
 = (0 : Int) /\ a_7.x.tm = hTm a.s /\ (↑a_7.k : Int) = WZ (R7 a) (1 : Int) a.m /\ a_7.x.s.bs.length = (K3 a).length /\ (∀ (i : Nat), KE i a_7 -> gD a_7.x.s.bs i = gD (K3 a) i) /\ a_7.x.s.used =
 (Jr a).used /\ a_7.x.s.mix = (Jr a).mix /\ Kg a) /\ K1 a a_7) /\ (∀ (a_7 : KS), K1 a a_7 -> bif Lu a_7 then (∃ (a_9 : KS), (true = true /\ a_9.x.pl = a_7.x.pl /\ a_9.x.tm =
 a_7.x.tm /\ GT a_9 a_7 /\ Ov a_9 a_7 /\ Jk a_9 a_7 /\ Jm a_9 a_7 /\ Nw a_9 a_7 /\ Kg a) /\ xO a a_9) /\ ∀ (a_9 : KS), xO a a_9 -> VN a_9 /\ (((True /\
 (Pm -> (0 : Nat) = (2 : Nat))) /\ J8 /\ Lw /\ Od /\ (16 : Nat) <= (140737488355328 : Nat)) /\ Ol /\ Y2 a a_9 /\ P1 a a_9 /\ Tp a_9 /\ Ze a_9 /\ aC
 a_9 /\ Qv a_9 /\ eH a_9 /\ Ol) /\ ∃ (a_11 : KS), (true = true /\ a_11.x.pl = a_9.x.pl /\ a_11.x.tm = a_9.x.tm /\ Cm a_11 a_9 /\ ZP a_11 a_9 a /\ Bd a_11 a_9 a /\ Ca
 a_11 a_9 a /\ YZ a_11 a_9 a /\ AE /\ AE /\ AE /\ AE /\ AE /\ AA /\ AC /\ AA /\ AC /\ AA /\ AC /\ AA /\ AC /\ AA /\
 AC /\ FP a.s = FP a.s /\ IE a.s = IE a.s /\ JJ a.s = JJ a.s /\ HQ a.s = HQ a.s /\ HA a.s = HA a.s /\ AA /\ dX a_11 /\ AA /\ AC /\ AA /\ Vq a_11 /\ AA /\
 eF a_11 /\ AA /\ AC /\ dX a_11 /\ (∀ (i : Nat), i < a_11.x.ms.length -> (gD a_11.x.ms i).pl = a_9.x.pl /\ (gD a_11.x.ms i).ht = Mv a_9) /\ Vq a_11 /\ (∀ (i : Nat), i <
 a_11.x.t.length -> gD a_11.x.t i = a_9.x.tm) /\ eF a_11 /\ ∀ (i : Nat), i < a_11.x.st.length -> gD a_11.x.st i = eC a_9 a) /\ Cu a a_11 /\ HE a_11 < (100 : Nat) else ∃ (a_9 : One),
 (Bb a a_7 /\ ZF a a_7 /\ Be a a_7 /\ Bs a a_7 /\ AE /\ AE /\ AE /\ AE /\ AE /\ AA /\ AC /\ AA /\ AC /\ AA /\
 AC /\ AA /\ AC /\ AA /\ AC /\ FP a.s = FP a.s /\ IE a.s = IE a.s /\ JJ a.s = JJ a.s /\ HQ a.s = HQ a.s /\ HA a.s = HA a.s /\ Tn a /\ Tn a /\ AA /\ AC
 /\ bB a /\ bB a /\ Wx a /\ Wx a /\ Xy a) /\ DV a) /\ (∀ (a_7 : KS), Cu a a_7 -> bif Lu a_7 then (bif aP a_7 then cA a_7 /\ (Rc a
 a_7 /\ ∃ (a_9 : KS), (true = true /\ Xg a_9 a_7 /\ Qn a_9 a_7 a /\ GT a_9 a_7 /\ Vd a_9 a_7 a /\ Zb a_9 a_7 a /\ Wf a_9 a_7 a /\ cZ a_9 a_7 a /\ Cl a a_9 a_7)
 /\ Zs a a_9 a_7) /\ ∀ (a_9 : KS), Zs a a_9 a_7 -> true = true /\ true = true /\ dF a_9 /\ true = true /\ bif Th a_9 then Ol /\ aL a_9 /\ ∃ (a_11 : KS), (true = true /\ a_11.x.pl
 = a_9.x.pl /\ aR a_11 a_9 /\ GT a_11 a_9 /\ bW a_11 a_9 /\ Wh a_11 a_9 /\ Re a_11 a_9 /\ Za a_11 a_9 /\ AE /\ AE /\ AE /\ AE /\ AE /\
 AA /\ AC /\ AA /\ AC /\ AA /\ AC /\ AA /\ AC /\ AA /\ AC /\ FP a.s = FP a.s /\ IE a.s = IE a.s /\ JJ a.s = JJ a.s /\ HQ a.s = HQ a.s /\ HA a.s =
 HA a.s /\ AA /\ GA a_11 a_9 /\ AA /\ AC /\ AA /\ FZ a_11 a_9 /\ AA /\ GE a_11 a_9 /\ AA /\ aF a_11 /\ GA a_11 a_9 /\ QM a_11 a_9
 /\ FZ a_11 a_9 /\ QX a_11 a_9 /\ GE a_11 a_9 /\ PS a_11 a_9 /\ aF a_11 /\ ∀ (i : Nat), i < a_11.x.z.length -> gD a_11.x.z i = Yk a_9) /\ Zv a a_11 a_7 else ∃ (a_11 :
 KS), (true = true /\ a_11.x.pl = a_9.x.pl /\ a_11.x.tm = a_9.x.tm /\ GT a_11 a_9 /\ Xu a_11 a_9 /\ Rm a_11 a_9 /\ Rd a_11 a_9 /\ dP a_11 a_9 /\ Cl a a_11 a_9) /\ Av a
 a_11 a_7 else ∃ (a_9 : KS), (true = true /\ a_9.x.pl = a_7.x.pl /\ a_9.x.tm = a_7.x.tm /\ GT a_9 a_7 /\ Ov a_9 a_7 /\ Jk a_9 a_7 /\ Jm a_9 a_7 /\ Nw a_9 a_7 /\ Cl a a_9 a_7) /\
 Av a a_9 a_7) /\ (∀ (a_9 : KS), Av a a_9 a_7 -> VN a_9 /\ Ce a_9 a /\ ∃ (a_11 : KS), (true = true /\ a_11.x.pl = a_9.x.pl /\ a_11.x.tm = a_9.x.tm /\ Cm a_11 a_9 /\ ZP a_11 a_9
 a /\ Bd a_11 a_9 a /\ Ca a_11 a_9 a /\ YZ a_11 a_9 a /\ AE /\ AE /\ AE /\ AE /\ AE /\ AA /\ AC /\ AA /\ AC /\ AA /\ AC
 /\ AA /\ AC /\ AA /\ AC /\ FP a.s = FP a.s /\ IE a.s = IE a.s /\ JJ a.s = JJ a.s /\ HQ a.s = HQ a.s /\ HA a.s = HA a.s /\ AA /\ QQ a_11 a_9 /\ AA /\ AC /\
 AA /\ QD a_11 a_9 /\ AA /\ QL a_11 a_9 /\ AA /\ AC /\ QQ a_11 a_9 /\ Uh a_11 a_9 /\ QD a_11 a_9 /\ Wi a_11 a_9 /\ QL a_11 a_9 /\
 dC a_11 a_9 a) /\ Cu a a_11 /\ HE a_11 < HE a_7) /\ ∀ (a_9 : KS), Zv a a_9 a_7 -> VN a_9 /\ Ce a_9 a /\ ∃ (a_11 : KS), Xd a_11 a_9 a /\ Bl a a_11 /\
 a_11.k < HE a_7 else ∃ (a_9 : One), (Bb a a_7 /\ ZF a a_7 /\ Be a a_7 /\ Bs a a_7 /\ AE /\ AE /\ AE /\ AE /\ AE /\ AA /\ AC /\
 AA /\ AC /\ AA /\ AC /\ AA /\ AC /\ AA /\ AC /\ FP a.s = FP a.s /\ IE a.s = IE a.s /\ JJ a.s = JJ a.s /\ HQ a.s = HQ a.s /\ HA a.s = HA a.s /\ Tu a
 a_7 /\ Ye a_7 /\ Xj a a_7 /\ AA /\ AC /\ Rr a a_7 /\ Qs a_7 /\ eE a a_7 /\ aT a a_7 /\ Ss a_7 /\ We a a_7 /\ Xy a) /\ DV a) /\
 ∀ (a_7 : KS), Bl a a_7 -> bif Lu a_7 then (bif aP a_7 then cA a_7 /\ (Rc a a_7 /\ ∃ (a_9 : KS), (true = true /\ Xg a_9 a_7 /\ Qn a_9 a_7 a /\ GT a_9 a_7 /\
 Vd a_9 a_7 a /\ Zb a_9 a_7 a /\ Wf a_9 a_7 a /\ cZ a_9 a_7 a /\ Cy a a_9 a_7) /\ Vx a a_9 a_7) /\ ∀ (a_9 : KS), Vx a a_9 a_7 -> true = true /\ true = true /\
 dF a_9 /\ true = true /\ bif Th a_9 then ((a_9.x.z.length = a_9.x.z.length /\ ((0 : Nat) < a_9.x.z.length -> YS)) /\ WC /\ KR /\ XF a_9 <= (9223372036854775807 : Nat) /\
 XF a_9 * (8 : Nat) <= (140737488355328 : Nat)) /\ aL a_9 /\ ∃ (a_11 : KS), (true = true /\ a_11.x.pl = a_9.x.pl /\ aR a_11 a_9 /\ GT a_11 a_9 /\ bW a_11 a_9 /\ Wh a_11 a_9 /\
 Re a_11 a_9 /\ Za a_11 a_9 /\ AE /\ AE /\ AE /\ AE /\ AE /\ AA /\ AC /\ AA /\ AC /\ AA /\ AC /\ AA /\ AC /\
 AA /\ AC /\ FP a.s = FP a.s /\ IE a.s = IE a.s /\ JJ a.s = JJ a.s /\ HQ a.s = HQ a.s /\ HA a.s = HA a.s /\ AA /\ GA a_11 a_9 /\ AA /\ AC /\ AA /\ FZ a_11
 a_9 /\ AA /\ GE a_11 a_9 /\ AA /\ dZ a_11 a_9 /\ GA a_11 a_9 /\ QM a_11 a_9 /\ FZ a_11 a_9 /\ QX a_11 a_9 /\ GE a_11 a_9 /\ PS a_11 a_9 /\
 dZ a_11 a_9 /\ ∀ (i : Nat), i < a_11.x.z.length -> gD a_11.x.z i = bif decide (i < a_9.x.z.length) then gD a_9.x.z i else Yk a_9) /\ PU a a_11 a_7 else ∃ (a_11 : KS), (true = true /\ a_11.x.pl =
 a_9.x.pl /\ a_11.x.tm = a_9.x.tm /\ GT a_11 a_9 /\ Xu a_11 a_9 /\ Rm a_11 a_9 /\ Rd a_11 a_9 /\ dP a_11 a_9 /\ Cy a a_11 a_9) /\ PU a a_11 a_7 else ∃ (a_9 : KS),
 (true = true /\ a_9.x.pl = a_7.x.pl /\ a_9.x.tm = a_7.x.tm /\ GT a_9 a_7 /\ Ov a_9 a_7 /\ Jk a_9 a_7 /\ Jm a_9 a_7 /\ Nw a_9 a_7 /\ Cy a a_9 a_7) /\ PU a a_9 a_7) /\
 Zl a a_7 /\ Zl a a_7 else ∃ (a_9 : One), (Bb a a_7 /\ ZF a a_7 /\ Be a a_7 /\ Bs a a_7 /\ AE /\ AE /\ AE /\ AE /\ AE /\ AA /\
 AC /\ AA /\ AC /\ AA /\ AC /\ AA /\ AC /\ AA /\ AC /\ FP a.s = FP a.s /\ IE a.s = IE a.s /\ JJ a.s = JJ a.s /\ HQ a.s = HQ a.s /\ HA a.s = HA a.s /\
 Tu a a_7 /\ Ye a_7 /\ Xj a a_7 /\ AA /\ AC /\ Rr a a_7 /\ Qs a_7 /\ eE a a_7 /\ aT a a_7 /\ Ss a_7 /\ We a a_7 /\ (mS a).z.length =
 a_7.x.z.length /\ (0 : Nat) + a_7.x.z.length <= a_7.x.z.length /\ ∀ (j : Nat), j < (mS a).z.length -> gD (mS a).z j = gD a_7.x.z (KU j)) /\ DV a) /\ Sa a /\ Sa a) := by kernel_rfl
end Go.Bal
