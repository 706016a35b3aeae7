/- Package chart: charts that are made of numbers, with stops. -/
import Derived.Test.YtdbjalgfomknhaaChW
set_option linter.unusedVariables false
set_option linter.unusedSimpArgs false
namespace Go.Bal
open Go Go.Sym Go.Proofs
def CUU (a : MkI) : Prop := AZ Try.prog (DEZ true a) CSJ (AN CSJ) ((C2 true).xs a) (AF ((C2 true).L a)) ((C2 true).val a) ((C2 true).keep a) [] [305]
abbrev gC : Prop := (1 : Int) = Int.ofNat (1 : Nat)
abbrev AVD : Prop := (12 : Int) = Int.ofNat (12 : Nat)
abbrev qX (a : MkI) : List Int := AE a.s.bs.length λ (i : Nat) => gD a.s.bs i
abbrev ARP (a : MkI) : Nat := (qX a).length
abbrev AGO : Prop := (400 : Int) = Int.ofNat (400 : Nat)
abbrev AKL (a : MkI) : Stm := Stm.mk (qX a) a.s.used a.s.mix
abbrev qO (a : MkI) : Stm := MD (AKL a) (1 : Int) (12 : Int)
abbrev AYY (a : MkI) : List Int := (qO a).bs
abbrev BAJ (a : MkI) : Nat := (AYY a).length
abbrev AKT (a : MkI) (i : Nat) : Int := gD (AYY a) i
abbrev Io (a : MkI) : List Int := AE (BAJ a) λ (i : Nat) => AKT a i
abbrev G6 (a : MkI) : Nat := (Io a).length
abbrev VM (a : MkI) : Int := (qO a).used
abbrev Kj (a : MkI) : Int := (qO a).mix
abbrev tS (a : MkI) : Stm := Stm.mk (Io a) (VM a) (Kj a)
abbrev Mo (a : MkI) : Stm := MD (tS a) (-50 : Int) (400 : Int)
abbrev yE (a : MkI) : List Int := (Mo a).bs
abbrev uW (a : MkI) : Nat := (yE a).length
abbrev wV (a : MkI) (i : Nat) : Int := gD (yE a) i
abbrev Mb (a : MkI) : List Int := AE (uW a) λ (i : Nat) => wV a i
abbrev yR (a : MkI) : Nat := (Mb a).length
abbrev UO (a : MkI) : Int := (Mo a).used
abbrev Km (a : MkI) : Int := (Mo a).mix
abbrev NL : Prop := (9 : Int) = Int.ofNat (9 : Nat)
abbrev uZ (a : MkI) : Stm := Stm.mk (Mb a) (UO a) (Km a)
abbrev Lb (a : MkI) : Stm := AQ (uZ a) (12 : Int)
abbrev zF (a : MkI) : List Int := (Lb a).bs
abbrev uT (a : MkI) : Nat := (zF a).length
abbrev vW (a : MkI) (i : Nat) : Int := gD (zF a) i
abbrev Hg (a : MkI) : List Int := AE (uT a) λ (i : Nat) => vW a i
abbrev vX (a : MkI) : Nat := (Hg a).length
abbrev WC (a : MkI) : Int := (Lb a).used
abbrev Hn (a : MkI) : Int := (Lb a).mix
abbrev xM (a : MkI) : Stm := Stm.mk (Hg a) (WC a) (Hn a)
abbrev Jq (a : MkI) : Stm := AQ (xM a) (9 : Int)
abbrev zA (a : MkI) : List Int := (Jq a).bs
abbrev AC : Prop := Int.ofNat (0 : Nat) = Int.ofNat (0 : Nat)
abbrev AA : Prop := (0 : Nat) = (0 : Nat)
abbrev AB : Prop := ∀ (i : Nat), i < (0 : Nat) -> false = false
abbrev Jm : Prop := AA /\ AB /\ AA /\ AB
abbrev Jk (a : MkI) : List Int := AE (gS4 a.s).bs.length λ (i : Nat) => gD (gS4 a.s).bs i
abbrev vG (a : MkI) : Nat := (Jk a).length
abbrev D2 (a : MkI) : Stm := Stm.mk (Jk a) (gS4 a.s).used (gS4 a.s).mix
abbrev Kr (a : MkI) : Stm := AQ (D2 a) (6 : Int)
abbrev sY (a : MkI) : List Int := (Kr a).bs
abbrev Kh (a : MkI) : List Int := AE (gS5 a.s).bs.length λ (i : Nat) => gD (gS5 a.s).bs i
abbrev vY (a : MkI) : Nat := (Kh a).length
abbrev E6 (a : MkI) : Stm := Stm.mk (Kh a) (gS5 a.s).used (gS5 a.s).mix
abbrev La (a : MkI) : Stm := AQ (E6 a) (300 : Int)
abbrev uQ (a : MkI) : List Int := (La a).bs
abbrev Hi (a : MkI) : Prop := AC /\ AC /\ AC /\ AC /\ AC /\ AA /\ AB /\ AA /\ AB /\ AA /\ AB /\ AA /\ AB /\ AA /\
 AB /\ EV a.s = EV a.s /\ IH a.s = IH a.s /\ JU a.s = JU a.s /\ HF a.s = HF a.s /\ GQ a.s = GQ a.s /\ AA /\ AB /\ AA /\ AB /\ AA /\ AB /\ Jm
abbrev Hx (a : MkI) : List Int := AE (gS6 a.s).bs.length λ (i : Nat) => gD (gS6 a.s).bs i
abbrev uR (a : MkI) : Nat := (Hx a).length
abbrev K6 (a : MkI) : Stm := Stm.mk (Hx a) (gS6 a.s).used (gS6 a.s).mix
abbrev Lq (a : MkI) : Stm := MD (K6 a) (1 : Int) a.m
abbrev yB (a : MkI) : List Int := (Lq a).bs
abbrev KX (i : Nat) (a : KS) : Prop := i < a.x.s.bs.length
abbrev K7 (a : KS) (a1 : MkI) : Prop := (↑a.k : Int) <= a1.m
abbrev Ik (a : MkI) (a1 : KS) : Int := (7 : Int) * (a.m - (↑a1.k : Int))
abbrev Lc (a : KS) (a1 : MkI) : Prop := (↑a.x.ms.length : Int) + (↑a.k : Int) <= a1.m
abbrev Mc (a : KS) : Prop := a.x.t.length = a.x.ms.length
abbrev Ky (a : KS) : Prop := a.x.st.length = a.x.ms.length
abbrev WF (a : KS) : Nat := a.x.z.length + (1 : Nat)
abbrev xC (a : KS) : Prop := WF a <= a.x.ms.length
abbrev Je (a : MkI) (a1 : KS) : Prop := Kt a a1.k a1.x = mS a /\ K7 a1 a /\ StmB ((7 : Int) + Ik a a1) a1.x.s /\ Lc a1 a /\ Mc a1 /\ Ky a1 /\ (a1.x.z = [] ∨ xC a1)
abbrev wI (a : KS) : Prop := (1 : Nat) <= a.k
abbrev xB (a : KS) : Prop := a.x.ms = [] /\ a.x.z = []
abbrev vP (a : MkI) (a1 : KS) : Prop := Je a a1 /\ wI a1 /\ xB a1
abbrev Ms (a : KS) : Bool := decide ((↑a.k : Int) > (0 : Int))
abbrev FY (a : KS) (a1 : KS) : Prop := (↑a.k : Int) = (↑a1.k : Int)
abbrev Ix (a : KS) (a1 : KS) : Prop := a.x.s.bs.length = a1.x.s.bs.length
abbrev Jv (a : KS) (a1 : KS) : Prop := ∀ (i : Nat), KX i a -> gD a.x.s.bs i = gD a1.x.s.bs i
abbrev Li (a : KS) (a1 : KS) : Prop := a.x.s.used = a1.x.s.used
abbrev Ld (a : KS) (a1 : KS) : Prop := a.x.s.mix = a1.x.s.mix
abbrev xW (a : KS) : Nat := a.k - (1 : Nat)
abbrev yP (a : KS) (a1 : MkI) : Prop := wI a /\ K7 a a1
abbrev UP (a : MkI) (a1 : KS) : Prop := Kt a (xW a1) (sC a a1.x) = mS a /\ yP a1 a /\ StmB ((11 : Int) + Ik a a1) a1.x.s /\ Lc a1 a /\ Mc a1 /\ Ky a1 /\ a1.x.z.length
 <= a1.x.ms.length
abbrev zV (a : MkI) (a1 : KS) : Prop := UP a a1 /\ (100 : Nat) = (100 : Nat) /\ xB a1
abbrev Mi (a : KS) : List Int := AE a.x.s.bs.length λ (i : Nat) => gD a.x.s.bs i
abbrev uA (a : KS) : Nat := (Mi a).length
abbrev Mn (a : KS) : Prop := uA a = a.x.s.bs.length /\ (∀ (i : Nat), i < uA a -> gD (Mi a) i = gD a.x.s.bs i) /\ a.x.s.used = a.x.s.used /\ a.x.s.mix = a.x.s.mix /\ (a.x.s.used - (0 :
 Int)).NonNeg
abbrev WR (a : KS) : Prop := (60 : Int) = Int.ofNat (60 : Nat) /\ Mn a
abbrev Hd : Prop := (0 : Nat) < (0 : Nat)
abbrev Mh : Prop := (1 : Nat) <= (1 : Nat)
abbrev PF : Prop := (0 : Nat) < (1 : Nat)
abbrev zT : Prop := (2 : Nat) = (2 : Nat)
abbrev A9 : Prop := Mh /\ (PF -> zT)
abbrev Ku : Prop := true = true -> PF
abbrev Jt : Prop := (1 : Nat) <= (9223372036854775807 : Nat)
abbrev WE : Prop := (1 : Nat) = (1 : Nat)
abbrev XC : Prop := Mh /\ (PF -> WE)
abbrev Lz : Prop := (True /\ (Hd -> (0 : Nat) = (1 : Nat))) /\ XC /\ Ku /\ Jt /\ (8 : Nat) <= (140737488355328 : Nat)
abbrev KR (a : KS) : Stm := Stm.mk (Mi a) a.x.s.used a.x.s.mix
abbrev Ln (a : KS) : Int := AL (KR a) (60 : Int)
abbrev I7 (a : MkI) (a1 : KS) : Int := IntKind.i64.wrap (JU a.s + IntKind.i64.wrap (HF a.s * Ln a1))
abbrev UT (a : MkI) (a1 : KS) : Int := IntKind.i64.wrap (I7 a a1 - GQ a.s)
abbrev zS (a : MkI) (a1 : KS) : Prop := UT a a1 = UT a a1
abbrev VN (a : MkI) (a1 : KS) : Int := IntKind.i64.wrap (I7 a a1 + GQ a.s)
abbrev xY (a : MkI) (a1 : KS) : Prop := VN a a1 = VN a a1
abbrev Ju (a : KS) : Stm := AQ (KR a) (60 : Int)
abbrev Uo (a : KS) : List Int := (Ju a).bs
abbrev My (a : KS) : Nat := (Uo a).length
abbrev Vl (a : KS) (i : Nat) : Int := gD (Uo a) i
abbrev XI (a : KS) : List Int := AE (My a) λ (i : Nat) => Vl a i
abbrev Pi (a : KS) : Nat := (XI a).length
abbrev Pw (a : KS) : Prop := Pi a = My a
abbrev Zk (a : KS) : Prop := ∀ (i : Nat), i < Pi a -> gD (XI a) i = Vl a i
abbrev PW (a : KS) : Int := (Ju a).used
abbrev aJ (a : KS) : Prop := PW a = PW a
abbrev XK (a : KS) : Int := (Ju a).mix
abbrev Tu (a : KS) : Prop := XK a = XK a
abbrev Vp (a : KS) : Prop := (0 : Int) <= PW a
abbrev At (a : KS) (a1 : KS) : Prop := (↑a.k : Int) = IntKind.i64.wrap ((↑a1.k : Int) - (1 : Int))
abbrev Rt (a : KS) : Stm := Stm.mk (XI a) (PW a) (XK a)
abbrev YJ (a : KS) (a1 : MkI) : Stm := MD (Rt a) (UT a1 a) (VN a1 a)
abbrev Su (a : KS) (a1 : MkI) : List Int := (YJ a a1).bs
abbrev YF (a : KS) (a1 : KS) (a2 : MkI) : Prop := a.x.s.bs.length = (Su a1 a2).length
abbrev YM (a : KS) (a1 : KS) (a2 : MkI) : Prop := ∀ (i : Nat), KX i a -> gD a.x.s.bs i = gD (Su a1 a2) i
abbrev Bb (a : KS) (a1 : KS) (a2 : MkI) : Prop := a.x.s.used = (YJ a1 a2).used
abbrev ZF (a : KS) (a1 : KS) (a2 : MkI) : Prop := a.x.s.mix = (YJ a1 a2).mix
abbrev Vn (a : KS) : Prop := a.x.ms.length = (1 : Nat)
abbrev Ub (a : KS) : Prop := a.x.t.length = (1 : Nat)
abbrev Tf (a : KS) : Prop := a.x.st.length = (1 : Nat)
abbrev Um (a : KS) (a1 : MkI) : Int := WH (Rt a) (UT a1 a) (VN a1 a)
abbrev Uk (a : KS) : Prop := (1 : Nat) <= a.x.ms.length
abbrev Ru (a : KS) : Prop := Uk a /\ a.x.z = []
abbrev ZA (a : MkI) (a1 : KS) : Prop := Je a a1 /\ Ru a1
abbrev GW (a : KS) : Nat := a.k + (20 : Nat)
abbrev XO (a : MkI) (a1 : KS) : Prop := (mS a).s.bs.length = a1.x.s.bs.length
abbrev XV (a : MkI) (a1 : KS) : Prop := ∀ (i : Nat), i < (mS a).s.bs.length -> gD (mS a).s.bs i = gD a1.x.s.bs i
abbrev XQ (a : MkI) (a1 : KS) : Prop := (mS a).s.used = a1.x.s.used
abbrev ZQ (a : MkI) (a1 : KS) : Prop := (mS a).s.mix = a1.x.s.mix
abbrev Ps (a : MkI) : Prop := (mS a).ms.length = (0 : Nat)
abbrev Xo (a : MkI) : Prop := (mS a).t.length = (0 : Nat)
abbrev Po (a : MkI) : Prop := (mS a).st.length = (0 : Nat)
abbrev Vm (a : MkI) : Prop := (mS a).z.length = (0 : Nat)
abbrev Tq (a : MkI) : Prop := Vm a /\ Vm a
abbrev DT (a : MkI) : Prop := Kt a (0 : Nat) (mS a) = mS a /\ (↑(0 : Nat) : Int) <= a.m /\ StmB ((7 : Int) + (7 : Int) * (a.m - (↑(0 : Nat) : Int))) (mS a).s /\ (↑(mS a).ms.length : Int) + (↑(0 : Nat) : Int) <= a.m
 /\ (mS a).t.length = (mS a).ms.length /\ (mS a).st.length = (mS a).ms.length /\ ((mS a).z = [] ∨ (mS a).z.length + (1 : Nat) <= (mS a).ms.length)
abbrev Tn (a : KS) : Bool := decide ((↑a.x.ms.length : Int) > (0 : Int))
abbrev Yz (a : KS) : Prop := gC /\ (30 : Int) = Int.ofNat (30 : Nat) /\ Mn a
abbrev XY (a : KS) : Int := WH (KR a) (1 : Int) (30 : Int)
abbrev QM (a : MkI) (a1 : KS) : Int := IntKind.i64.wrap (EV a.s * XY a1)
abbrev PN (a : MkI) (a1 : KS) : Int := IntKind.i64.wrap (IH a.s * XY a1)
abbrev XG (a : KS) : Stm := MD (KR a) (1 : Int) (30 : Int)
abbrev Yf (a : KS) : List Int := (XG a).bs
abbrev Sy (a : KS) : Nat := (Yf a).length
abbrev Nb (a : KS) (i : Nat) : Int := gD (Yf a) i
abbrev Ar (a : KS) : List Int := AE (Sy a) λ (i : Nat) => Nb a i
abbrev Sc (a : KS) : Nat := (Ar a).length
abbrev PY (a : KS) : Int := (XG a).used
abbrev XE (a : KS) : Int := (XG a).mix
abbrev Pt (a : MkI) (a1 : KS) : Prop := QM a a1 = QM a a1 /\ PN a a1 = PN a a1 /\ Sc a1 = Sy a1 /\ (∀ (i : Nat), i < Sc a1 -> gD (Ar a1) i =
 Nb a1 i) /\ PY a1 = PY a1 /\ XE a1 = XE a1 /\ (PY a1 - (0 : Int)).NonNeg
abbrev Va (a : KS) (a1 : KS) : Prop := a.x.pl = IntKind.i64.wrap (a1.x.pl + XY a1)
abbrev Nf (a : KS) : Stm := Stm.mk (Ar a) (PY a) (XE a)
abbrev Mz (a : KS) (a1 : KS) (a2 : MkI) : Prop := a.x.tm = IntKind.i64.wrap (a1.x.tm + WH (Nf a1) (QM a2 a1) (PN a2 a1))
abbrev ZP (a : KS) (a1 : MkI) : Stm := MD (Nf a) (QM a1 a) (PN a1 a)
abbrev bZ (a : KS) (a1 : MkI) : List Int := (ZP a a1).bs
abbrev Yv (a : KS) (a1 : KS) (a2 : MkI) : Prop := a.x.s.bs.length = (bZ a1 a2).length
abbrev Pm (a : KS) (a1 : KS) (a2 : MkI) : Prop := ∀ (i : Nat), KX i a -> gD a.x.s.bs i = gD (bZ a1 a2) i
abbrev Wv (a : KS) (a1 : KS) (a2 : MkI) : Prop := a.x.s.used = (ZP a1 a2).used
abbrev aA (a : KS) (a1 : KS) (a2 : MkI) : Prop := a.x.s.mix = (ZP a1 a2).mix
abbrev FF (a : KS) (a1 : KS) : Prop := a.x.ms.length = a1.x.ms.length
abbrev FS (a : KS) (a1 : KS) : Prop := a.x.t.length = a1.x.t.length
abbrev FB (a : KS) (a1 : KS) : Prop := a.x.st.length = a1.x.st.length
abbrev PS (a : KS) (a1 : KS) : Prop := ∀ (i : Nat), i < a.x.ms.length -> (gD a.x.ms i).pl = (gD a1.x.ms i).pl /\ (gD a.x.ms i).ht = (gD a1.x.ms i).ht
abbrev QE (a : KS) (a1 : KS) : Prop := ∀ (i : Nat), i < a.x.t.length -> gD a.x.t i = gD a1.x.t i
abbrev QK (a : KS) (a1 : KS) : Prop := ∀ (i : Nat), i < a.x.st.length -> gD a.x.st i = gD a1.x.st i
abbrev ZL (a : MkI) (a1 : KS) (a2 : KS) : Prop := AC /\ AC /\ AC /\ AC /\ AC /\ AA /\ AB /\ AA /\ AB /\ AA /\ AB /\ AA /\
 AB /\ AA /\ AB /\ EV a.s = EV a.s /\ IH a.s = IH a.s /\ JU a.s = JU a.s /\ HF a.s = HF a.s /\ GQ a.s = GQ a.s /\ AA /\ FF a1 a2 /\ AA /\ AB /\ AA /\
 FS a1 a2 /\ AA /\ FB a1 a2 /\ AA /\ AB /\ FF a1 a2 /\ PS a1 a2 /\ FS a1 a2 /\ QE a1 a2 /\ FB a1 a2 /\ QK a1 a2
abbrev Sh (a : MkI) (a1 : KS) : Prop := Kt a (xW a1) (sC a (advZ a a1.x)) = mS a /\ yP a1 a /\ StmB ((9 : Int) + Ik a a1) a1.x.s /\ Lc a1 a /\ Mc a1 /\ Ky a1 /\
 xC a1
abbrev Ys (a : KS) (a1 : KS) : Prop := GW a <= GW a1 /\ Ru a
abbrev Tt (a : MkI) (a1 : KS) (a2 : KS) : Prop := Sh a a1 /\ Ys a1 a2
abbrev Xb (a : KS) : Prop := (5 : Int) = Int.ofNat (5 : Nat) /\ Mn a
abbrev aG (a : KS) : Bool := bif true then AL (KR a) (5 : Int) == (0 : Int) else false
abbrev ZM (a : KS) : Stm := AQ (KR a) (5 : Int)
abbrev Qh (a : KS) : List Int := (ZM a).bs
abbrev XW (a : KS) : Nat := (Qh a).length
abbrev YZ (a : KS) (i : Nat) : Int := gD (Qh a) i
abbrev XZ (a : KS) : List Int := AE (XW a) λ (i : Nat) => YZ a i
abbrev bQ (a : KS) : Nat := (XZ a).length
abbrev LI (a : KS) : Int := (ZM a).used
abbrev PO (a : KS) : Int := (ZM a).mix
abbrev Pf (a : KS) : Prop := AGO /\ bQ a = XW a /\ (∀ (i : Nat), i < bQ a -> gD (XZ a) i = YZ a i) /\ LI a = LI a /\ PO a = PO a
 /\ (LI a - (0 : Int)).NonNeg
abbrev Wp (a : KS) : Stm := Stm.mk (XZ a) (LI a) (PO a)
abbrev Ur (a : KS) (a1 : KS) : Prop := a.x.tm = IntKind.i64.wrap (a1.x.tm + AL (Wp a1) (400 : Int))
abbrev As (a : KS) : Stm := AQ (Wp a) (400 : Int)
abbrev Vr (a : KS) : List Int := (As a).bs
abbrev Sx (a : KS) (a1 : KS) : Prop := a.x.s.bs.length = (Vr a1).length
abbrev Xx (a : KS) (a1 : KS) : Prop := ∀ (i : Nat), KX i a -> gD a.x.s.bs i = gD (Vr a1) i
abbrev aF (a : KS) (a1 : KS) : Prop := a.x.s.used = (As a1).used
abbrev Yo (a : KS) (a1 : KS) : Prop := a.x.s.mix = (As a1).mix
abbrev Ob (a : KS) : Prop := a.x.z.length = (1 : Nat)
abbrev Qa (a : KS) : Int := IntKind.i64.wrap ((↑a.x.ms.length : Int) - (1 : Int))
abbrev XN (a : KS) : Prop := Uk a /\ (1 : Nat) <= a.x.z.length
abbrev Rf (a : MkI) (a1 : KS) (a2 : KS) : Prop := UP a a1 /\ a1.k <= GW a2 /\ XN a1
abbrev Td (a : KS) (a1 : KS) : Prop := a.x.s.bs.length = XW a1
abbrev Tb (a : KS) (a1 : KS) : Prop := ∀ (i : Nat), KX i a -> gD a.x.s.bs i = YZ a1 i
abbrev Zf (a : KS) (a1 : KS) : Prop := a.x.s.used = LI a1
abbrev Tg (a : KS) (a1 : KS) : Prop := a.x.s.mix = PO a1
abbrev ZJ (a : MkI) (a1 : KS) (a2 : KS) : Prop := UP a a1 /\ Ys a1 a2
abbrev LS : Prop := false = true -> PF
abbrev Bc (a : KS) : Nat := a.x.ms.length + (1 : Nat)
abbrev ZD (a : KS) : Nat := a.x.t.length + (1 : Nat)
abbrev ZI (a : KS) : Nat := a.x.st.length + (1 : Nat)
abbrev ZH (a : KS) (a1 : MkI) : Prop := ((a.x.ms.length = a.x.ms.length /\ ((0 : Nat) < a.x.ms.length -> zT)) /\ A9 /\ LS /\ Bc a <= (9223372036854775807 : Nat) /\ Bc a * (16
 : Nat) <= (140737488355328 : Nat)) /\ ((a.x.t.length = a.x.t.length /\ ((0 : Nat) < a.x.t.length -> WE)) /\ XC /\ LS /\ ZD a <= (9223372036854775807 : Nat) /\ ZD a * (8 : Nat) <=
 (140737488355328 : Nat)) /\ zS a1 a /\ xY a1 a /\ Pw a /\ Zk a /\ aJ a /\ Tu a /\ Vp a /\ (a.x.st.length = a.x.st.length /\ ((0 : Nat) < a.x.st.length -> WE)) /\
 XC /\ LS /\ ZI a <= (9223372036854775807 : Nat) /\ ZI a * (8 : Nat) <= (140737488355328 : Nat)
abbrev QA (a : KS) (a1 : KS) : Prop := a.x.ms.length = Bc a1
abbrev PT (a : KS) (a1 : KS) : Prop := a.x.t.length = ZD a1
abbrev PQ (a : KS) (a1 : KS) : Prop := a.x.st.length = ZI a1
abbrev So (i : Nat) (a : KS) : Bool := decide (i < a.x.ms.length)
abbrev Zj (a : KS) (a1 : KS) : Prop := ∀ (i : Nat), i < a.x.ms.length -> ((gD a.x.ms i).pl = bif So i a1 then (gD a1.x.ms i).pl else a1.x.pl) /\ (gD a.x.ms i).ht = bif So i a1 then (gD a1.x.ms
 i).ht else Ln a1
abbrev Xs (a : KS) (a1 : KS) : Prop := ∀ (i : Nat), i < a.x.t.length -> gD a.x.t i = bif decide (i < a1.x.t.length) then gD a1.x.t i else a1.x.tm
abbrev No (a : KS) (a1 : KS) (a2 : MkI) : Prop := ∀ (i : Nat), i < a.x.st.length -> gD a.x.st i = bif decide (i < a1.x.st.length) then gD a1.x.st i else Um a1 a2
abbrev ZK (a : KS) (a1 : KS) : Prop := a.x.z.length = a1.x.z.length
abbrev aH (a : KS) (a1 : KS) : Prop := ZK a a1 /\ ∀ (i : Nat), i < a.x.z.length -> gD a.x.z i = gD a1.x.z i
abbrev Tl (a : KS) (a1 : KS) (a2 : MkI) : Prop := true = true /\ a.x.pl = a1.x.pl /\ a.x.tm = a1.x.tm /\ At a a1 /\ YF a a1 a2 /\ YM a a1 a2 /\ Bb a a1 a2 /\ ZF a a1 a2 /\
 AC /\ AC /\ AC /\ AC /\ AC /\ AA /\ AB /\ AA /\ AB /\ AA /\ AB /\ AA /\ AB /\ AA /\ AB /\ EV a2.s = EV a2.s /\ IH
 a2.s = IH a2.s /\ JU a2.s = JU a2.s /\ HF a2.s = HF a2.s /\ GQ a2.s = GQ a2.s /\ AA /\ QA a a1 /\ AA /\ AB /\ AA /\ PT a a1 /\ AA /\ PQ a a1 /\ AA /\
 ZK a a1 /\ QA a a1 /\ Zj a a1 /\ PT a a1 /\ Xs a a1 /\ PQ a a1 /\ No a a1 a2 /\ aH a a1
abbrev XL (a : MkI) (a1 : KS) : Prop := Je a a1 /\ XN a1
abbrev Wb (a : MkI) (a1 : KS) : Prop := (mS a).ms.length = a1.x.ms.length
abbrev Ph (a : KS) : Prop := (0 : Nat) + a.x.ms.length <= a.x.ms.length
abbrev LD (j : Nat) : Nat := (0 : Nat) + j
abbrev Xy (a : KS) (j : Nat) : Mk := gD a.x.ms (LD j)
abbrev Tc (a : MkI) (a1 : KS) : Prop := ∀ (j : Nat), j < (mS a).ms.length -> (gD (mS a).ms j).pl = (Xy a1 j).pl /\ (gD (mS a).ms j).ht = (Xy a1 j).ht
abbrev Yc (a : MkI) (a1 : KS) : Prop := (mS a).t.length = a1.x.t.length
abbrev Rp (a : KS) : Prop := (0 : Nat) + a.x.t.length <= a.x.t.length
abbrev Vy (a : MkI) (a1 : KS) : Prop := ∀ (j : Nat), j < (mS a).t.length -> gD (mS a).t j = gD a1.x.t (LD j)
abbrev Vj (a : MkI) (a1 : KS) : Prop := (mS a).st.length = a1.x.st.length
abbrev bP (a : KS) : Prop := (0 : Nat) + a.x.st.length <= a.x.st.length
abbrev Tw (a : MkI) (a1 : KS) : Prop := ∀ (j : Nat), j < (mS a).st.length -> gD (mS a).st j = gD a1.x.st (LD j)
abbrev Ab (a : MkI) (a1 : KS) (a2 : KS) : Prop := AC /\ AC /\ AC /\ AC /\ AC /\ AA /\ AB /\ AA /\ AB /\ AA /\ AB /\ AA /\
 AB /\ AA /\ AB /\ EV a.s = EV a.s /\ IH a.s = IH a.s /\ JU a.s = JU a.s /\ HF a.s = HF a.s /\ GQ a.s = GQ a.s /\ AA /\ FF a1 a2 /\ AA /\ AB /\ AA /\
 FS a1 a2 /\ AA /\ FB a1 a2 /\ AA /\ ZK a1 a2 /\ FF a1 a2 /\ PS a1 a2 /\ FS a1 a2 /\ QE a1 a2 /\ FB a1 a2 /\ QK a1 a2 /\ aH a1
 a2
abbrev bJ (a : KS) (a1 : KS) : Prop := a.k <= a1.k /\ XN a
abbrev bE (a : MkI) (a1 : KS) (a2 : KS) : Prop := Sh a a1 /\ bJ a1 a2
abbrev Ny (a : KS) (a1 : KS) : Prop := a.x.z.length = WF a1
abbrev QS (a : MkI) (a1 : KS) (a2 : KS) : Prop := UP a a1 /\ bJ a1 a2
abbrev bA (a : MkI) (a1 : KS) : Prop := ∀ (a_1 : KS), QS a a_1 a1 -> WR a_1 /\ ZH a_1 a /\ ∃ (a_3 : KS), Tl a_3 a_1 a /\ XL a a_3 /\ a_3.k < a1.k
abbrev IW (i : Nat) (a : KN) : Prop := i < a.x.s.bs.length
abbrev EK (a : MkI) : Prop := (mS a).ms.length = (mS a).ms.length
abbrev EG (a : MkI) : Prop := ∀ (i : Nat), i < (mS a).ms.length -> (gD (mS a).ms i).pl = (gD (mS a).ms i).pl /\ (gD (mS a).ms i).ht = (gD (mS a).ms i).ht
abbrev EF (a : MkI) : Prop := (mS a).t.length = (mS a).t.length
abbrev EN (a : MkI) : Prop := ∀ (i : Nat), i < (mS a).t.length -> gD (mS a).t i = gD (mS a).t i
abbrev EH (a : MkI) : Prop := (mS a).st.length = (mS a).st.length
abbrev EE (a : MkI) : Prop := ∀ (i : Nat), i < (mS a).st.length -> gD (mS a).st i = gD (mS a).st i
abbrev EI (a : MkI) : Prop := (mS a).z.length = (mS a).z.length
abbrev EJ (a : MkI) : Prop := ∀ (i : Nat), i < (mS a).z.length -> gD (mS a).z i = gD (mS a).z i
abbrev IQ (a : MkI) : Prop := AC /\ AC /\ AC /\ AC /\ AC /\ AA /\ AB /\ AA /\ AB /\ AA /\ AB /\ AA /\ AB /\ AA /\
 AB /\ EV a.s = EV a.s /\ IH a.s = IH a.s /\ JU a.s = JU a.s /\ HF a.s = HF a.s /\ GQ a.s = GQ a.s /\ EK a /\ EG a /\ AA /\ AB /\ EF a /\ EN a /\ EH a /\
 EE a /\ EI a /\ EJ a
abbrev XR (a : MkI) : Int := (7 : Int) * a.m
abbrev Xi (a : MkI) : Int := (7 : Int) + XR a
abbrev Rn (a : KN) : Int := (5 : Int) * (↑a.i : Int)
abbrev Wy (a : MkI) (a1 : KN) : Prop := DT a /\ a1.i <= (mS a).ms.length /\ StmB (Xi a + Rn a1) a1.x.s /\ mkN a ((mS a).ms.length - a1.i) a1.i a1.x = LE a /\ a1.x.ns.length <= a1.i
abbrev YS (a : MkI) (a1 : KN) : Prop := Wy a a1 /\ a1.x.ns = []
abbrev Wx (a : KN) (a1 : MkI) : Bool := decide ((↑a.i : Int) < (↑(mS a1).ms.length : Int))
abbrev Az (a : KN) : List Int := AE a.x.s.bs.length λ (i : Nat) => gD a.x.s.bs i
abbrev Oi (a : KN) : Nat := (Az a).length
abbrev Nd (a : KN) : Prop := Oi a = a.x.s.bs.length /\ (∀ (i : Nat), i < Oi a -> gD (Az a) i = gD a.x.s.bs i) /\ a.x.s.used = a.x.s.used /\ a.x.s.mix = a.x.s.mix /\ (a.x.s.used - (0 :
 Int)).NonNeg
abbrev Yk (a : KN) : Prop := (2 : Int) = Int.ofNat (2 : Nat) /\ Nd a
abbrev Zu (a : KNb) (a1 : KN) : Prop := (↑a.i : Int) = (↑a1.i : Int)
abbrev QU (a : KN) : Stm := Stm.mk (Az a) a.x.s.used a.x.s.mix
abbrev bL (a : KNb) (a1 : KN) : Prop := a.b = (AL (QU a1) (2 : Int) == (0 : Int))
abbrev YC (a : KN) : Stm := AQ (QU a) (2 : Int)
abbrev Vg (a : KN) : List Int := (YC a).bs
abbrev Vf (a : KNb) (a1 : KN) : Prop := a.x.s.bs.length = (Vg a1).length
abbrev Ye (a : KNb) (a1 : KN) : Prop := ∀ (i : Nat), i < a.x.s.bs.length -> gD a.x.s.bs i = gD (Vg a1) i
abbrev bX (a : KNb) (a1 : KN) : Prop := a.x.s.used = (YC a1).used
abbrev Zd (a : KNb) (a1 : KN) : Prop := a.x.s.mix = (YC a1).mix
abbrev LV (a : KN) : Nat := (100 : Nat) - a.i
abbrev Yu (a : KNb) : Nat := a.i + (1 : Nat)
abbrev Qt (a : MkI) (a1 : KNb) (a2 : KN) : Prop := DT a /\ (a1.i < (mS a).ms.length /\ (100 : Nat) - a1.i = LV a2) /\ StmB ((8 : Int) + XR a + (5 : Int) * (↑a1.i : Int)) a1.x.s /\ mkN a
 ((mS a).ms.length - Yu a1) (Yu a1) (addN a a1.b a1.i a1.x) = LE a /\ a1.x.ns.length <= a1.i
abbrev Yl (a : MkI) (a1 : KNb) (a2 : KN) : Prop := Qt a a1 a2 /\ a1.x.ns = []
abbrev Si (a : KNb) : Prop := (0 : Int) <= (↑a.i : Int)
abbrev QB (a : KNb) (a1 : MkI) : Prop := Si a /\ (↑a.i : Int) < (↑(mS a1).t.length : Int)
abbrev QD : Prop := (40 : Int) = Int.ofNat (40 : Nat)
abbrev YB (a : KNb) : List Int := AE a.x.s.bs.length λ (i : Nat) => gD a.x.s.bs i
abbrev Xc (a : KNb) : Nat := (YB a).length
abbrev Ve (a : KNb) : Prop := Xc a = a.x.s.bs.length
abbrev Zo (a : KNb) : Prop := ∀ (i : Nat), i < Xc a -> gD (YB a) i = gD a.x.s.bs i
abbrev Qk (a : KNb) : Prop := a.x.s.used = a.x.s.used
abbrev Yh (a : KNb) : Prop := a.x.s.mix = a.x.s.mix
abbrev Xg (a : KNb) : Prop := (0 : Int) <= a.x.s.used
abbrev Zr (a : KNb) : Stm := Stm.mk (YB a) a.x.s.used a.x.s.mix
abbrev YL (a : KNb) : Stm := AQ (Zr a) (40 : Int)
abbrev Wo (a : KNb) : List Int := (YL a).bs
abbrev Om (a : KNb) : Nat := (Wo a).length
abbrev Xp (a : KNb) (i : Nat) : Int := gD (Wo a) i
abbrev ZB (a : KNb) : List Int := AE (Om a) λ (i : Nat) => Xp a i
abbrev Te (a : KNb) : Nat := (ZB a).length
abbrev Pe (a : KNb) : Prop := Te a = Om a
abbrev Xn (a : KNb) : Prop := ∀ (i : Nat), i < Te a -> gD (ZB a) i = Xp a i
abbrev QN (a : KNb) : Int := (YL a).used
abbrev Xq (a : KNb) : Prop := QN a = QN a
abbrev YD (a : KNb) : Int := (YL a).mix
abbrev bU (a : KNb) : Prop := YD a = YD a
abbrev Xh (a : KNb) : Prop := (0 : Int) <= QN a
abbrev PX (a : KNb) (a1 : MkI) : Prop := Si a /\ (↑a.i : Int) < (↑(mS a1).st.length : Int)
abbrev Oe (a : KNb) : Stm := Stm.mk (ZB a) (QN a) (YD a)
abbrev XJ (a : KNb) : Stm := AQ (Oe a) (40 : Int)
abbrev Uq (a : KNb) : List Int := (XJ a).bs
abbrev bN (a : KNb) : Nat := (Uq a).length
abbrev Zy (a : KNb) (i : Nat) : Int := gD (Uq a) i
abbrev ZW (a : KNb) : List Int := AE (bN a) λ (i : Nat) => Zy a i
abbrev Sl (a : KNb) : Nat := (ZW a).length
abbrev Ux (a : KNb) : Prop := Sl a = bN a
abbrev Vu (a : KNb) : Prop := ∀ (i : Nat), i < Sl a -> gD (ZW a) i = Zy a i
abbrev QR (a : KNb) : Int := (XJ a).used
abbrev Xe (a : KNb) : Prop := QR a = QR a
abbrev Al (a : KNb) : Int := (XJ a).mix
abbrev Sq (a : KNb) : Prop := Al a = Al a
abbrev Nn (a : KNb) : Prop := (0 : Int) <= QR a
abbrev Rz (a : KNb) : Stm := Stm.mk (ZW a) (QR a) (Al a)
abbrev An (a : KNb) : Stm := AQ (Rz a) (9 : Int)
abbrev Sb (a : KNb) : List Int := (An a).bs
abbrev Rx (a : KNb) : Nat := (Sb a).length
abbrev Ze (a : KNb) (i : Nat) : Int := gD (Sb a) i
abbrev Aj (a : KNb) : List Int := AE (Rx a) λ (i : Nat) => Ze a i
abbrev Za (a : KNb) : Nat := (Aj a).length
abbrev Ut (a : KNb) : Prop := Za a = Rx a
abbrev Qu (a : KNb) : Prop := ∀ (i : Nat), i < Za a -> gD (Aj a) i = Ze a i
abbrev QC (a : KNb) : Int := (An a).used
abbrev aR (a : KNb) : Prop := QC a = QC a
abbrev XU (a : KNb) : Int := (An a).mix
abbrev Oy (a : KNb) : Prop := XU a = XU a
abbrev Xr (a : KNb) : Prop := (0 : Int) <= QC a
abbrev Uj : Prop := (5 : Nat) = (5 : Nat)
abbrev Tm : Prop := Mh /\ (PF -> Uj)
abbrev PR (a : KN) (a1 : KNb) : Prop := (↑a.i : Int) = (↑a1.i : Int)
abbrev Zs (a : KNb) : Stm := Stm.mk (Aj a) (QC a) (XU a)
abbrev YG (a : KNb) : Stm := AQ (Zs a) (9 : Int)
abbrev bR (a : KNb) : List Int := (YG a).bs
abbrev Nc (a : KN) (a1 : KNb) : Prop := a.x.s.bs.length = (bR a1).length
abbrev Xf (a : KN) (a1 : KNb) : Prop := ∀ (i : Nat), IW i a -> gD a.x.s.bs i = gD (bR a1) i
abbrev aV (a : KN) (a1 : KNb) : Prop := a.x.s.used = (YG a1).used
abbrev Qv (a : KN) (a1 : KNb) : Prop := a.x.s.mix = (YG a1).mix
abbrev Xd (a : KN) : Prop := a.x.ns.length = (1 : Nat)
abbrev Zh (a : MkI) (a1 : KNb) : Int := BJ (0 : Int) (IntKind.i64.wrap (gD (mS a).t a1.i - AL (Zr a1) (40 : Int)))
abbrev aW (a : MkI) (a1 : KNb) : Int := IntKind.i64.wrap (gD (mS a).t a1.i + AL (Oe a1) (40 : Int))
abbrev Vo (a : MkI) (a1 : KNb) : Int := IntKind.i64.wrap (gD (mS a).st a1.i - AL (Rz a1) (9 : Int))
abbrev Oo (a : MkI) (a1 : KNb) : Int := IntKind.i64.wrap (gD (mS a).st a1.i + AL (Zs a1) (9 : Int))
abbrev YH (a : KN) : Nat := a.i + (1 : Nat)
abbrev Wz (a : MkI) (a1 : KN) (a2 : KN) : Prop := DT a /\ (a1.i < (mS a).ms.length /\ LV a1 = LV a2) /\ StmB ((12 : Int) + XR a + Rn a1) a1.x.s /\ mkN a ((mS a).ms.length
 - YH a1) (YH a1) a1.x = LE a /\ a1.x.ns.length <= YH a1
abbrev Na (a : KN) : Prop := (1 : Nat) <= a.x.ns.length
abbrev QT (a : MkI) (a1 : KN) (a2 : KN) : Prop := Wz a a1 a2 /\ Na a1
abbrev Uv (a : KN) (a1 : KNb) : Prop := a.x.s.bs.length = a1.x.s.bs.length
abbrev bG (a : KN) (a1 : KNb) : Prop := ∀ (i : Nat), IW i a -> gD a.x.s.bs i = gD a1.x.s.bs i
abbrev Xl (a : KN) (a1 : KNb) : Prop := a.x.s.used = a1.x.s.used
abbrev Tp (a : KN) (a1 : KNb) : Prop := a.x.s.mix = a1.x.s.mix
abbrev Vd (a : MkI) (a1 : KN) (a2 : KN) : Prop := Wz a a1 a2 /\ a1.x.ns = []
abbrev LZ (a : KN) : Int := IntKind.i64.wrap ((↑a.i : Int) + (1 : Int))
abbrev Rl (a : KN) (a1 : KN) : Prop := (↑a.i : Int) = LZ a1
abbrev Rb (a : KN) (a1 : KN) : Prop := a.x.s.bs.length = a1.x.s.bs.length
abbrev aS (a : KN) (a1 : KN) : Prop := ∀ (i : Nat), IW i a -> gD a.x.s.bs i = gD a1.x.s.bs i
abbrev bC (a : KN) (a1 : KN) : Prop := a.x.s.used = a1.x.s.used
abbrev Zc (a : KN) (a1 : KN) : Prop := a.x.s.mix = a1.x.s.mix
abbrev Rw (a : KN) (a1 : KN) : Prop := LV a < LV a1
abbrev QQ (a : KN) (a1 : KN) : Prop := a.x.ns.length = a1.x.ns.length
abbrev Tk (a : MkI) (a1 : KN) : Prop := Wy a a1 /\ Na a1
abbrev YP (a : MkI) (a1 : KN) : Prop := ∀ (a_1 : KN), QT a a_1 a1 -> ∃ (a_3 : KN), (Rl a_3 a_1 /\ Rb a_3 a_1 /\ aS a_3 a_1 /\ bC a_3 a_1 /\ Zc a_3 a_1 /\
 AC /\ AC /\ AC /\ AC /\ AC /\ AA /\ AB /\ AA /\ AB /\ AA /\ AB /\ AA /\ AB /\ AA /\ AB /\ EV a.s = EV a.s /\ IH
 a.s = IH a.s /\ JU a.s = JU a.s /\ HF a.s = HF a.s /\ GQ a.s = GQ a.s /\ EK a /\ EG a /\ AA /\ QQ a_3 a_1 /\ EF a /\ EN a /\ EH a /\ EE a /\ EI a
 /\ EJ a /\ QQ a_3 a_1 /\ ∀ (i : Nat), i < a_3.x.ns.length -> (gD a_3.x.ns i).mi = (gD a_1.x.ns i).mi /\ (gD a_3.x.ns i).t.lo = (gD a_1.x.ns i).t.lo /\ (gD a_3.x.ns i).t.hi = (gD a_1.x.ns i).t.hi /\ (gD
 a_3.x.ns i).s.lo = (gD a_1.x.ns i).s.lo /\ (gD a_3.x.ns i).s.hi = (gD a_1.x.ns i).s.hi) /\ Tk a a_3 /\ Rw a_3 a1
abbrev Np (a : MkI) (a1 : KN) : Prop := (LE a).s.bs.length = a1.x.s.bs.length
abbrev Sf (a : MkI) (a1 : KN) : Prop := ∀ (i : Nat), i < (LE a).s.bs.length -> gD (LE a).s.bs i = gD a1.x.s.bs i
abbrev Tj (a : MkI) (a1 : KN) : Prop := (LE a).s.used = a1.x.s.used
abbrev Wc (a : MkI) (a1 : KN) : Prop := (LE a).s.mix = a1.x.s.mix
abbrev bW (a : MkI) : Prop := DT a /\ (LE a).ns = []
abbrev Xk (a : KNb) (a1 : KN) : Prop := a.x.ns.length = a1.x.ns.length
abbrev Qr (a : MkI) (a1 : KNb) (a2 : KN) : Prop := Qt a a1 a2 /\ (1 : Nat) <= a1.x.ns.length
abbrev Ay (a : KNb) : Nat := a.x.ns.length + (1 : Nat)
abbrev Yj (a : KN) (a1 : KNb) : Prop := a.x.ns.length = Ay a1
abbrev LU (i : Nat) (a : KNb) : Bool := decide (i < a.x.ns.length)
abbrev Uc (a : KN) (a1 : KNb) : Prop := a.x.ns.length = a1.x.ns.length
abbrev Wl (a : MkI) (a1 : KN) : Prop := (LE a).ns.length = a1.x.ns.length
abbrev bF (a : MkI) : Int := Xi a + (5 : Int) * a.m
abbrev Ng (a : MkI) : Prop := DT a /\ StmB (bF a) (LE a).s /\ (1 : Nat) <= (LE a).ns.length /\ (↑(LE a).ns.length : Int) <= a.m
abbrev XF (i : Nat) (a : MkI) : Prop := i < (mE a).s.bs.length
abbrev Rc (a : MkI) : Prop := (HT a).ms.length = (mS a).ms.length
abbrev Rj (a : MkI) : Prop := ∀ (i : Nat), i < (HT a).ms.length -> (gD (HT a).ms i).pl = (gD (mS a).ms i).pl /\ (gD (HT a).ms i).ht = (gD (mS a).ms i).ht
abbrev Zw (a : MkI) : Prop := (HT a).ns.length = (0 : Nat)
abbrev Pz (a : MkI) : Prop := (xZ a).t.length = (mS a).t.length
abbrev Wa (a : MkI) : Prop := ∀ (i : Nat), i < (xZ a).t.length -> gD (xZ a).t i = gD (mS a).t i
abbrev Un (a : MkI) : Prop := (xZ a).s.length = (mS a).st.length
abbrev Qg (a : MkI) : Prop := ∀ (i : Nat), i < (xZ a).s.length -> gD (xZ a).s i = gD (mS a).st i
abbrev Nj (a : MkI) : Prop := (xZ a).z.length = (mS a).z.length
abbrev Ta (a : MkI) : Prop := ∀ (i : Nat), i < (xZ a).z.length -> gD (xZ a).z i = gD (mS a).z i
abbrev Qq (a : KN) (a1 : MkI) : Prop := a.x.ns.length = (LE a1).ns.length
abbrev ZC (a : MkI) (a1 : KN) : Prop := DT a /\ a1.i < a1.x.ns.length /\ StmB (bF a + a.m - (↑a1.i : Int)) a1.x.s /\ shK a1.i a1.x = mE a /\ (↑a1.x.ns.length : Int) <= a.m
abbrev YE (a : KN) : Int := AL (QU a) (LZ a)
abbrev Zv (a : KN) : Prop := (0 : Int) <= YE a /\ YE a < (↑a.x.ns.length : Int)
abbrev RB (a : KN) : Nat := (0 : Nat) + (YE a).toNat
abbrev Yi (a : KN) : Prop := (0 : Int) <= (↑a.i : Int) /\ (↑a.i : Int) < (↑a.x.ns.length : Int)
abbrev YV (a : KN) : Nat := (0 : Nat) + a.i
abbrev Qe (a : KN) : Prop := YV a < a.x.ns.length
abbrev XH (a : KN) : Stm := AQ (QU a) (LZ a)
abbrev aX (a : KN) : List Int := (XH a).bs
abbrev LN (i : Nat) (a : KN) : Bool := decide (i = RB a)
abbrev ZV (a : KN) : Nt := gD a.x.ns (YV a)
abbrev MA (i : Nat) (a : KN) : Bool := decide (i = YV a)
abbrev YT (a : KN) : Nt := gD a.x.ns (RB a)
abbrev Nm (a : KN) : Span := (ZV a).t
abbrev Uw (a : KN) : Span := (YT a).t
abbrev aM (a : KN) : Span := (ZV a).s
abbrev Yb (a : KN) : Span := (YT a).s
abbrev YY (a : KN) (j : Nat) : Nt := gD a.x.ns (LD j)
abbrev Nw (a : KN) (j : Nat) : Span := (YY a j).t
abbrev Xw (a : KN) (j : Nat) : Span := (YY a j).s
abbrev Yp (a : MkI) : Prop := ∀ (a_1 : One), DT a -> ((∃ (a_3 : KN), ((↑a_3.i : Int) = (0 : Int) /\ a_3.x.s.bs.length = (mS a).s.bs.length /\ (∀ (i : Nat), IW i a_3 -> gD a_3.x.s.bs i = gD (mS
 a).s.bs i) /\ a_3.x.s.used = (mS a).s.used /\ a_3.x.s.mix = (mS a).s.mix /\ IQ a) /\ YS a a_3) /\ (∀ (a_3 : KN), YS a a_3 -> bif bif Wx a_3 a then decide ((↑(0 : Nat) : Int) < (20 : Int))
 else false then ((Yk a_3 /\ ∃ (a_5 : KNb), (Zu a_5 a_3 /\ bL a_5 a_3 /\ Vf a_5 a_3 /\ Ye a_5 a_3 /\ bX a_5 a_3 /\ Zd a_5 a_3 /\ IQ a) /\ Yl a a_5
 a_3) /\ ∀ (a_5 : KNb), Yl a a_5 a_3 -> bif a_5.b then (QB a_5 a /\ QD /\ Ve a_5 /\ Zo a_5 /\ Qk a_5 /\ Yh a_5 /\ Xg a_5 /\ QB a_5 a /\ QD /\
 Pe a_5 /\ Xn a_5 /\ Xq a_5 /\ bU a_5 /\ Xh a_5 /\ PX a_5 a /\ NL /\ Ux a_5 /\ Vu a_5 /\ Xe a_5 /\ Sq a_5 /\ Nn a_5 /\
 PX a_5 a /\ NL /\ Ut a_5 /\ Qu a_5 /\ aR a_5 /\ Oy a_5 /\ Xr a_5 /\ (True /\ (Hd -> (0 : Nat) = (5 : Nat))) /\ Tm /\ Ku /\ Jt /\ (40 :
 Nat) <= (140737488355328 : Nat)) /\ ∃ (a_7 : KN), (PR a_7 a_5 /\ Nc a_7 a_5 /\ Xf a_7 a_5 /\ aV a_7 a_5 /\ Qv a_7 a_5 /\ AC /\ AC /\ AC /\ AC /\
 AC /\ AA /\ AB /\ AA /\ AB /\ AA /\ AB /\ AA /\ AB /\ AA /\ AB /\ EV a.s = EV a.s /\ IH a.s = IH a.s /\ JU a.s = JU a.s /\ HF a.s = HF a.s
 /\ GQ a.s = GQ a.s /\ EK a /\ EG a /\ AA /\ Xd a_7 /\ EF a /\ EN a /\ EH a /\ EE a /\ EI a /\ EJ a /\ Xd a_7 /\ ∀ (i : Nat), i <
 a_7.x.ns.length -> (gD a_7.x.ns i).mi = (↑a_5.i : Int) /\ (gD a_7.x.ns i).t.lo = Zh a a_5 /\ (gD a_7.x.ns i).t.hi = aW a a_5 /\ (gD a_7.x.ns i).s.lo = Vo a a_5 /\ (gD a_7.x.ns i).s.hi = Oo
 a a_5) /\ QT a a_7 a_3 else ∃ (a_7 : KN), (PR a_7 a_5 /\ Uv a_7 a_5 /\ bG a_7 a_5 /\ Xl a_7 a_5 /\ Tp a_7 a_5 /\ IQ a) /\ Vd a a_7 a_3) /\ (∀ (a_5 : KN),
 Vd a a_5 a_3 -> ∃ (a_7 : KN), (Rl a_7 a_5 /\ Rb a_7 a_5 /\ aS a_7 a_5 /\ bC a_7 a_5 /\ Zc a_7 a_5 /\ IQ a) /\ YS a a_7 /\ Rw a_7 a_3) /\ YP
 a a_3 else ∃ (a_5 : One), (Np a a_3 /\ Sf a a_3 /\ Tj a a_3 /\ Wc a a_3 /\ IQ a) /\ bW a) /\ ∀ (a_3 : KN), Tk a a_3 -> bif bif Wx a_3 a then decide
 ((↑a_3.x.ns.length : Int) < (20 : Int)) else false then ((Yk a_3 /\ ∃ (a_5 : KNb), (Zu a_5 a_3 /\ bL a_5 a_3 /\ Vf a_5 a_3 /\ Ye a_5 a_3 /\ bX a_5 a_3 /\ Zd a_5
 a_3 /\ AC /\ AC /\ AC /\ AC /\ AC /\ AA /\ AB /\ AA /\ AB /\ AA /\ AB /\ AA /\ AB /\ AA /\ AB /\ EV a.s = EV a.s /\
 IH a.s = IH a.s /\ JU a.s = JU a.s /\ HF a.s = HF a.s /\ GQ a.s = GQ a.s /\ EK a /\ EG a /\ AA /\ Xk a_5 a_3 /\ EF a /\ EN a /\ EH a /\ EE a /\
 EI a /\ EJ a /\ Xk a_5 a_3 /\ ∀ (i : Nat), i < a_5.x.ns.length -> (gD a_5.x.ns i).mi = (gD a_3.x.ns i).mi /\ (gD a_5.x.ns i).t.lo = (gD a_3.x.ns i).t.lo /\ (gD a_5.x.ns i).t.hi = (gD a_3.x.ns i).t.hi
 /\ (gD a_5.x.ns i).s.lo = (gD a_3.x.ns i).s.lo /\ (gD a_5.x.ns i).s.hi = (gD a_3.x.ns i).s.hi) /\ Qr a a_5 a_3) /\ ∀ (a_5 : KNb), Qr a a_5 a_3 -> bif a_5.b then (QB a_5 a /\ QD /\ Ve
 a_5 /\ Zo a_5 /\ Qk a_5 /\ Yh a_5 /\ Xg a_5 /\ QB a_5 a /\ QD /\ Pe a_5 /\ Xn a_5 /\ Xq a_5 /\ bU a_5 /\ Xh a_5 /\ PX a_5 a
 /\ NL /\ Ux a_5 /\ Vu a_5 /\ Xe a_5 /\ Sq a_5 /\ Nn a_5 /\ PX a_5 a /\ NL /\ Ut a_5 /\ Qu a_5 /\ aR a_5 /\ Oy a_5 /\
 Xr a_5 /\ (a_5.x.ns.length = a_5.x.ns.length /\ ((0 : Nat) < a_5.x.ns.length -> Uj)) /\ Tm /\ LS /\ Ay a_5 <= (9223372036854775807 : Nat) /\ Ay a_5 * (40 : Nat) <=
 (140737488355328 : Nat)) /\ ∃ (a_7 : KN), (PR a_7 a_5 /\ Nc a_7 a_5 /\ Xf a_7 a_5 /\ aV a_7 a_5 /\ Qv a_7 a_5 /\ AC /\ AC /\ AC /\ AC /\ AC /\
 AA /\ AB /\ AA /\ AB /\ AA /\ AB /\ AA /\ AB /\ AA /\ AB /\ EV a.s = EV a.s /\ IH a.s = IH a.s /\ JU a.s = JU a.s /\ HF a.s = HF a.s /\ GQ a.s =
 GQ a.s /\ EK a /\ EG a /\ AA /\ Yj a_7 a_5 /\ EF a /\ EN a /\ EH a /\ EE a /\ EI a /\ EJ a /\ Yj a_7 a_5 /\ ∀ (i : Nat), i <
 a_7.x.ns.length -> ((gD a_7.x.ns i).mi = bif LU i a_5 then (gD a_5.x.ns i).mi else (↑a_5.i : Int)) /\ ((gD a_7.x.ns i).t.lo = bif LU i a_5 then (gD a_5.x.ns i).t.lo else Zh a a_5) /\ ((gD a_7.x.ns
 i).t.hi = bif LU i a_5 then (gD a_5.x.ns i).t.hi else aW a a_5) /\ ((gD a_7.x.ns i).s.lo = bif LU i a_5 then (gD a_5.x.ns i).s.lo else Vo a a_5) /\ (gD a_7.x.ns i).s.hi = bif LU
 i a_5 then (gD a_5.x.ns i).s.hi else Oo a a_5) /\ QT a a_7 a_3 else ∃ (a_7 : KN), (PR a_7 a_5 /\ Uv a_7 a_5 /\ bG a_7 a_5 /\ Xl a_7 a_5 /\ Tp a_7 a_5 /\ AC
 /\ AC /\ AC /\ AC /\ AC /\ AA /\ AB /\ AA /\ AB /\ AA /\ AB /\ AA /\ AB /\ AA /\ AB /\ EV a.s = EV a.s /\ IH a.s = IH
 a.s /\ JU a.s = JU a.s /\ HF a.s = HF a.s /\ GQ a.s = GQ a.s /\ EK a /\ EG a /\ AA /\ Uc a_7 a_5 /\ EF a /\ EN a /\ EH a /\ EE a /\ EI a /\
 EJ a /\ Uc a_7 a_5 /\ ∀ (i : Nat), i < a_7.x.ns.length -> (gD a_7.x.ns i).mi = (gD a_5.x.ns i).mi /\ (gD a_7.x.ns i).t.lo = (gD a_5.x.ns i).t.lo /\ (gD a_7.x.ns i).t.hi = (gD a_5.x.ns i).t.hi /\ (gD a_7.x.ns
 i).s.lo = (gD a_5.x.ns i).s.lo /\ (gD a_7.x.ns i).s.hi = (gD a_5.x.ns i).s.hi) /\ QT a a_7 a_3) /\ YP a a_3 /\ YP a a_3 else ∃ (a_5 : One), (Np a a_3 /\ Sf a a_3 /\ Tj a
 a_3 /\ Wc a a_3 /\ AC /\ AC /\ AC /\ AC /\ AC /\ AA /\ AB /\ AA /\ AB /\ AA /\ AB /\ AA /\ AB /\ AA /\ AB /\
 EV a.s = EV a.s /\ IH a.s = IH a.s /\ JU a.s = JU a.s /\ HF a.s = HF a.s /\ GQ a.s = GQ a.s /\ EK a /\ EG a /\ AA /\ Wl a a_3 /\ EF a /\ EN a /\ EH a /\
 EE a /\ EI a /\ EJ a /\ Wl a a_3 /\ ∀ (i : Nat), i < (LE a).ns.length -> (gD (LE a).ns i).mi = (gD a_3.x.ns i).mi /\ (gD (LE a).ns i).t.lo = (gD a_3.x.ns i).t.lo /\ (gD (LE a).ns i).t.hi
 = (gD a_3.x.ns i).t.hi /\ (gD (LE a).ns i).s.lo = (gD a_3.x.ns i).s.lo /\ (gD (LE a).ns i).s.hi = (gD a_3.x.ns i).s.hi) /\ Ng a) /\ (∀ (a_3 : One), bW a -> (∃ (a_5 : One), (Int.negSucc (0 : Nat) =
 Int.negSucc (0 : Nat) /\ (mE a).s.bs.length = (LE a).s.bs.length /\ (∀ (i : Nat), XF i a -> gD (mE a).s.bs i = gD (LE a).s.bs i) /\ (mE a).s.used = (LE a).s.used /\ (mE a).s.mix = (LE a).s.mix /\ IQ a) /\
 (mE a).ns = []) /\ ∀ (a_5 : One), (mE a).ns = [] -> (HT a).p.lo = EV a.s /\ (HT a).p.hi = IH a.s /\ (HT a).base = JU a.s /\ (HT a).scale = HF a.s /\ (HT a).off = GQ a.s /\ Rc a /\ Rj a /\ Zw a
 /\ Zw a /\ Pz a /\ Wa a /\ Un a /\ Qg a /\ Nj a /\ Ta a /\ (mE a).s.bs.length = (mE a).s.bs.length /\ (∀ (i : Nat), XF i a -> gD (mE a).s.bs i = gD (mE
 a).s.bs i) /\ (mE a).s.used = (mE a).s.used /\ (mE a).s.mix = (mE a).s.mix) /\ ∀ (a_3 : One), Ng a -> (∃ (a_5 : KN), ((↑a_5.i : Int) = IntKind.i64.wrap ((↑(LE a).ns.length : Int) - (1 : Int)) /\ a_5.x.s.bs.length =
 (LE a).s.bs.length /\ (∀ (i : Nat), IW i a_5 -> gD a_5.x.s.bs i = gD (LE a).s.bs i) /\ a_5.x.s.used = (LE a).s.used /\ a_5.x.s.mix = (LE a).s.mix /\ AC /\ AC /\ AC /\ AC /\ AC
 /\ AA /\ AB /\ AA /\ AB /\ AA /\ AB /\ AA /\ AB /\ AA /\ AB /\ EV a.s = EV a.s /\ IH a.s = IH a.s /\ JU a.s = JU a.s /\ HF a.s = HF a.s /\ GQ a.s
 = GQ a.s /\ EK a /\ EG a /\ AA /\ Qq a_5 a /\ EF a /\ EN a /\ EH a /\ EE a /\ EI a /\ EJ a /\ Qq a_5 a /\ ∀ (i : Nat), i <
 a_5.x.ns.length -> (gD a_5.x.ns i).mi = (gD (LE a).ns i).mi /\ (gD a_5.x.ns i).t.lo = (gD (LE a).ns i).t.lo /\ (gD a_5.x.ns i).t.hi = (gD (LE a).ns i).t.hi /\ (gD a_5.x.ns i).s.lo = (gD (LE a).ns i).s.lo /\ (gD a_5.x.ns
 i).s.hi = (gD (LE a).ns i).s.hi) /\ ZC a a_5) /\ ∀ (a_5 : KN), ZC a a_5 -> bif decide ((↑a_5.i : Int) > (0 : Int)) then (LZ a_5 = LZ a_5 /\ Nd a_5) /\ (Zv a_5 /\
 RB a_5 < a_5.x.ns.length /\ Yi a_5 /\ Qe a_5 /\ Yi a_5 /\ Qe a_5 /\ Zv a_5 /\ (RB a_5).succ.le a_5.x.ns.length) /\ ∃ (a_7 : KN), ((↑a_7.i : Int) = IntKind.i64.wrap
 ((↑a_5.i : Int) - (1 : Int)) /\ a_7.x.s.bs.length = (aX a_5).length /\ (∀ (i : Nat), IW i a_7 -> gD a_7.x.s.bs i = gD (aX a_5) i) /\ a_7.x.s.used = (XH a_5).used /\ a_7.x.s.mix =
 (XH a_5).mix /\ AC /\ AC /\ AC /\ AC /\ AC /\ AA /\ AB /\ AA /\ AB /\ AA /\ AB /\ AA /\ AB /\ AA /\ AB /\
 EV a.s = EV a.s /\ IH a.s = IH a.s /\ JU a.s = JU a.s /\ HF a.s = HF a.s /\ GQ a.s = GQ a.s /\ EK a /\ EG a /\ AA /\ QQ a_7 a_5 /\ EF a /\ EN a /\ EH a /\
 EE a /\ EI a /\ EJ a /\ QQ a_7 a_5 /\ ∀ (i : Nat), i < a_7.x.ns.length -> ((gD a_7.x.ns i).mi = bif LN i a_5 then (ZV a_5).mi else bif MA i a_5 then (YT
 a_5).mi else (gD a_5.x.ns i).mi) /\ ((gD a_7.x.ns i).t.lo = bif LN i a_5 then (Nm a_5).lo else bif MA i a_5 then (Uw a_5).lo else (gD a_5.x.ns i).t.lo) /\ ((gD a_7.x.ns i).t.hi = bif
 LN i a_5 then (Nm a_5).hi else bif MA i a_5 then (Uw a_5).hi else (gD a_5.x.ns i).t.hi) /\ ((gD a_7.x.ns i).s.lo = bif LN i a_5 then (aM a_5).lo else bif MA i
 a_5 then (Yb a_5).lo else (gD a_5.x.ns i).s.lo) /\ (gD a_7.x.ns i).s.hi = bif LN i a_5 then (aM a_5).hi else bif MA i a_5 then (Yb a_5).hi else (gD a_5.x.ns i).s.hi) /\
 ZC a a_7 /\ a_7.i < a_5.i else (HT a).p.lo = EV a.s /\ (HT a).p.hi = IH a.s /\ (HT a).base = JU a.s /\ (HT a).scale = HF a.s /\ (HT a).off = GQ a.s /\ Rc a /\ Rj a /\ (HT a).ns.length =
 a_5.x.ns.length /\ (0 : Nat) + a_5.x.ns.length <= a_5.x.ns.length /\ (∀ (j : Nat), j < (HT a).ns.length -> (gD (HT a).ns j).mi = (YY a_5 j).mi /\ (gD (HT a).ns j).t.lo = (Nw a_5 j).lo /\ (gD (HT a).ns
 j).t.hi = (Nw a_5 j).hi /\ (gD (HT a).ns j).s.lo = (Xw a_5 j).lo /\ (gD (HT a).ns j).s.hi = (Xw a_5 j).hi) /\ Pz a /\ Wa a /\ Un a /\ Qg a /\ Nj a /\
 Ta a /\ (mE a).s.bs.length = a_5.x.s.bs.length /\ (∀ (i : Nat), XF i a -> gD (mE a).s.bs i = gD a_5.x.s.bs i) /\ (mE a).s.used = a_5.x.s.used /\ (mE a).s.mix = a_5.x.s.mix
theorem DFD (a : MkI) : (CUU a) = (((gC /\ AVD /\ ARP a = a.s.bs.length /\ (∀ (i : Nat), i < ARP a -> gD (qX a) i = gD a.s.bs i) /\ a.s.used = a.s.used /\ a.s.mix = a.s.mix /\ (0 : Int)
 <= a.s.used /\ (-50 : Int) = Int.negSucc (49 : Nat) /\ AGO /\ G6 a = BAJ a /\ (∀ (i : Nat), i < G6 a -> gD (Io a) i = AKT a i) /\ VM a = VM a /\ Kj a = Kj
 a /\ (0 : Int) <= VM a /\ AVD /\ yR a = uW a /\ (∀ (i : Nat), i < yR a -> gD (Mb a) i = wV a i) /\ UO a = UO a /\ Km a = Km a /\ (0 : Int) <=
 UO a /\ NL /\ vX a = uT a /\ (∀ (i : Nat), i < vX a -> gD (Hg a) i = vW a i) /\ WC a = WC a /\ Hn a = Hn a /\ (WC a - (0 :
 Int)).NonNeg) /\ ∃ (a_1 : One), (a.m = a.m /\ true = true /\ (gS4 a.s).bs.length = (zA a).length /\ (∀ (i : Nat), i < (gS4 a.s).bs.length -> gD (gS4 a.s).bs i = gD (zA a) i) /\ (gS4 a.s).used = (Jq
 a).used /\ (gS4 a.s).mix = (Jq a).mix /\ AC /\ AC /\ AC /\ AC /\ AC /\ AA /\ AB /\ AA /\ AB /\ AA /\ AB /\ AA /\ AB /\
 AA /\ AB /\ EV a.s = WH (AKL a) (1 : Int) (12 : Int) /\ AC /\ JU a.s = WH (tS a) (-50 : Int) (400 : Int) /\ HF a.s = AL (uZ a) (12 : Int) /\ GQ a.s = AL (xM
 a) (9 : Int) /\ Jm) /\ StmB (4 : Int) (gS4 a.s)) /\ ∀ (a_1 : One), StmB (4 : Int) (gS4 a.s) -> (((6 : Int) = Int.ofNat (6 : Nat) /\ vG a = (gS4 a.s).bs.length /\ (∀ (i : Nat), i < vG a -> gD (Jk
 a) i = gD (gS4 a.s).bs i) /\ (gS4 a.s).used = (gS4 a.s).used /\ (gS4 a.s).mix = (gS4 a.s).mix /\ ((gS4 a.s).used - (0 : Int)).NonNeg) /\ ∃ (a_3 : One), (a.m = a.m /\ true = true /\ (gS5 a.s).bs.length = (sY a).length /\
 (∀ (i : Nat), i < (gS5 a.s).bs.length -> gD (gS5 a.s).bs i = gD (sY a) i) /\ (gS5 a.s).used = (Kr a).used /\ (gS5 a.s).mix = (Kr a).mix /\ AC /\ AC /\ AC /\ AC /\
 AC /\ AA /\ AB /\ AA /\ AB /\ AA /\ AB /\ AA /\ AB /\ AA /\ AB /\ EV a.s = EV a.s /\ IH a.s = IntKind.i64.wrap (EV a.s + AL (D2
 a) (6 : Int)) /\ JU a.s = JU a.s /\ HF a.s = HF a.s /\ GQ a.s = GQ a.s /\ Jm) /\ StmB (5 : Int) (gS5 a.s)) /\ ∀ (a_3 : One), StmB (5 : Int) (gS5 a.s) -> (((300 : Int) = Int.ofNat (300 : Nat) /\ vY a = (gS5
 a.s).bs.length /\ (∀ (i : Nat), i < vY a -> gD (Kh a) i = gD (gS5 a.s).bs i) /\ (gS5 a.s).used = (gS5 a.s).used /\ (gS5 a.s).mix = (gS5 a.s).mix /\ ((gS5 a.s).used - (0 : Int)).NonNeg) /\ ∃ (a_5 : One), (a.m =
 a.m /\ true = true /\ AC /\ hTm a.s = AL (E6 a) (300 : Int) /\ (gS6 a.s).bs.length = (uQ a).length /\ (∀ (i : Nat), i < (gS6 a.s).bs.length -> gD (gS6 a.s).bs i = gD (uQ a) i) /\ (gS6
 a.s).used = (La a).used /\ (gS6 a.s).mix = (La a).mix /\ Hi a) /\ StmB (6 : Int) (gS6 a.s)) /\ ∀ (a_5 : One), StmB (6 : Int) (gS6 a.s) -> ((gC /\ a.m = a.m /\ uR a = (gS6 a.s).bs.length /\
 (∀ (i : Nat), i < uR a -> gD (Hx a) i = gD (gS6 a.s).bs i) /\ (gS6 a.s).used = (gS6 a.s).used /\ (gS6 a.s).mix = (gS6 a.s).mix /\ ((gS6 a.s).used - (0 : Int)).NonNeg) /\ (∃ (a_7 : KS), (true = true /\ a_7.x.pl
 = (0 : Int) /\ a_7.x.tm = hTm a.s /\ (↑a_7.k : Int) = WH (K6 a) (1 : Int) a.m /\ a_7.x.s.bs.length = (yB a).length /\ (∀ (i : Nat), KX i a_7 -> gD a_7.x.s.bs i = gD (yB a) i) /\ a_7.x.s.used =
 (Lq a).used /\ a_7.x.s.mix = (Lq a).mix /\ Hi a) /\ vP a a_7) /\ (∀ (a_7 : KS), vP a a_7 -> bif Ms a_7 then (∃ (a_9 : KS), (true = true /\ a_9.x.pl = a_7.x.pl /\ a_9.x.tm =
 a_7.x.tm /\ FY a_9 a_7 /\ Ix a_9 a_7 /\ Jv a_9 a_7 /\ Li a_9 a_7 /\ Ld a_9 a_7 /\ Hi a) /\ zV a a_9) /\ ∀ (a_9 : KS), zV a a_9 -> WR a_9 /\ (((True /\
 (Hd -> (0 : Nat) = (2 : Nat))) /\ A9 /\ Ku /\ Jt /\ (16 : Nat) <= (140737488355328 : Nat)) /\ Lz /\ zS a a_9 /\ xY a a_9 /\ Pw a_9 /\ Zk a_9 /\ aJ
 a_9 /\ Tu a_9 /\ Vp a_9 /\ Lz) /\ ∃ (a_11 : KS), (true = true /\ a_11.x.pl = a_9.x.pl /\ a_11.x.tm = a_9.x.tm /\ At a_11 a_9 /\ YF a_11 a_9 a /\ YM a_11 a_9 a /\ Bb
 a_11 a_9 a /\ ZF a_11 a_9 a /\ AC /\ AC /\ AC /\ AC /\ AC /\ AA /\ AB /\ AA /\ AB /\ AA /\ AB /\ AA /\ AB /\ AA /\
 AB /\ EV a.s = EV a.s /\ IH a.s = IH a.s /\ JU a.s = JU a.s /\ HF a.s = HF a.s /\ GQ a.s = GQ a.s /\ AA /\ Vn a_11 /\ AA /\ AB /\ AA /\ Ub a_11 /\ AA /\
 Tf a_11 /\ AA /\ AB /\ Vn a_11 /\ (∀ (i : Nat), i < a_11.x.ms.length -> (gD a_11.x.ms i).pl = a_9.x.pl /\ (gD a_11.x.ms i).ht = Ln a_9) /\ Ub a_11 /\ (∀ (i : Nat), i <
 a_11.x.t.length -> gD a_11.x.t i = a_9.x.tm) /\ Tf a_11 /\ ∀ (i : Nat), i < a_11.x.st.length -> gD a_11.x.st i = Um a_9 a) /\ ZA a a_11 /\ GW a_11 < (100 : Nat) else ∃ (a_9 : One),
 (XO a a_7 /\ XV a a_7 /\ XQ a a_7 /\ ZQ a a_7 /\ AC /\ AC /\ AC /\ AC /\ AC /\ AA /\ AB /\ AA /\ AB /\ AA /\
 AB /\ AA /\ AB /\ AA /\ AB /\ EV a.s = EV a.s /\ IH a.s = IH a.s /\ JU a.s = JU a.s /\ HF a.s = HF a.s /\ GQ a.s = GQ a.s /\ Ps a /\ Ps a /\ AA /\ AB
 /\ Xo a /\ Xo a /\ Po a /\ Po a /\ Tq a) /\ DT a) /\ (∀ (a_7 : KS), ZA a a_7 -> bif Ms a_7 then (bif Tn a_7 then Yz a_7 /\ (Pt a
 a_7 /\ ∃ (a_9 : KS), (true = true /\ Va a_9 a_7 /\ Mz a_9 a_7 a /\ FY a_9 a_7 /\ Yv a_9 a_7 a /\ Pm a_9 a_7 a /\ Wv a_9 a_7 a /\ aA a_9 a_7 a /\ ZL a a_9 a_7)
 /\ Tt a a_9 a_7) /\ ∀ (a_9 : KS), Tt a a_9 a_7 -> true = true /\ true = true /\ Xb a_9 /\ true = true /\ bif aG a_9 then Lz /\ Pf a_9 /\ ∃ (a_11 : KS), (true = true /\ a_11.x.pl
 = a_9.x.pl /\ Ur a_11 a_9 /\ FY a_11 a_9 /\ Sx a_11 a_9 /\ Xx a_11 a_9 /\ aF a_11 a_9 /\ Yo a_11 a_9 /\ AC /\ AC /\ AC /\ AC /\ AC /\
 AA /\ AB /\ AA /\ AB /\ AA /\ AB /\ AA /\ AB /\ AA /\ AB /\ EV a.s = EV a.s /\ IH a.s = IH a.s /\ JU a.s = JU a.s /\ HF a.s = HF a.s /\ GQ a.s =
 GQ a.s /\ AA /\ FF a_11 a_9 /\ AA /\ AB /\ AA /\ FS a_11 a_9 /\ AA /\ FB a_11 a_9 /\ AA /\ Ob a_11 /\ FF a_11 a_9 /\ PS a_11 a_9
 /\ FS a_11 a_9 /\ QE a_11 a_9 /\ FB a_11 a_9 /\ QK a_11 a_9 /\ Ob a_11 /\ ∀ (i : Nat), i < a_11.x.z.length -> gD a_11.x.z i = Qa a_9) /\ Rf a a_11 a_7 else ∃ (a_11 :
 KS), (true = true /\ a_11.x.pl = a_9.x.pl /\ a_11.x.tm = a_9.x.tm /\ FY a_11 a_9 /\ Td a_11 a_9 /\ Tb a_11 a_9 /\ Zf a_11 a_9 /\ Tg a_11 a_9 /\ ZL a a_11 a_9) /\ ZJ a
 a_11 a_7 else ∃ (a_9 : KS), (true = true /\ a_9.x.pl = a_7.x.pl /\ a_9.x.tm = a_7.x.tm /\ FY a_9 a_7 /\ Ix a_9 a_7 /\ Jv a_9 a_7 /\ Li a_9 a_7 /\ Ld a_9 a_7 /\ ZL a a_9 a_7) /\
 ZJ a a_9 a_7) /\ (∀ (a_9 : KS), ZJ a a_9 a_7 -> WR a_9 /\ ZH a_9 a /\ ∃ (a_11 : KS), (true = true /\ a_11.x.pl = a_9.x.pl /\ a_11.x.tm = a_9.x.tm /\ At a_11 a_9 /\ YF a_11 a_9
 a /\ YM a_11 a_9 a /\ Bb a_11 a_9 a /\ ZF a_11 a_9 a /\ AC /\ AC /\ AC /\ AC /\ AC /\ AA /\ AB /\ AA /\ AB /\ AA /\ AB
 /\ AA /\ AB /\ AA /\ AB /\ EV a.s = EV a.s /\ IH a.s = IH a.s /\ JU a.s = JU a.s /\ HF a.s = HF a.s /\ GQ a.s = GQ a.s /\ AA /\ QA a_11 a_9 /\ AA /\ AB /\
 AA /\ PT a_11 a_9 /\ AA /\ PQ a_11 a_9 /\ AA /\ AB /\ QA a_11 a_9 /\ Zj a_11 a_9 /\ PT a_11 a_9 /\ Xs a_11 a_9 /\ PQ a_11 a_9 /\
 No a_11 a_9 a) /\ ZA a a_11 /\ GW a_11 < GW a_7) /\ ∀ (a_9 : KS), Rf a a_9 a_7 -> WR a_9 /\ ZH a_9 a /\ ∃ (a_11 : KS), Tl a_11 a_9 a /\ XL a a_11 /\
 a_11.k < GW a_7 else ∃ (a_9 : One), (XO a a_7 /\ XV a a_7 /\ XQ a a_7 /\ ZQ a a_7 /\ AC /\ AC /\ AC /\ AC /\ AC /\ AA /\ AB /\
 AA /\ AB /\ AA /\ AB /\ AA /\ AB /\ AA /\ AB /\ EV a.s = EV a.s /\ IH a.s = IH a.s /\ JU a.s = JU a.s /\ HF a.s = HF a.s /\ GQ a.s = GQ a.s /\ Wb a
 a_7 /\ Ph a_7 /\ Tc a a_7 /\ AA /\ AB /\ Yc a a_7 /\ Rp a_7 /\ Vy a a_7 /\ Vj a a_7 /\ bP a_7 /\ Tw a a_7 /\ Tq a) /\ DT a) /\
 ∀ (a_7 : KS), XL a a_7 -> bif Ms a_7 then (bif Tn a_7 then Yz a_7 /\ (Pt a a_7 /\ ∃ (a_9 : KS), (true = true /\ Va a_9 a_7 /\ Mz a_9 a_7 a /\ FY a_9 a_7 /\
 Yv a_9 a_7 a /\ Pm a_9 a_7 a /\ Wv a_9 a_7 a /\ aA a_9 a_7 a /\ Ab a a_9 a_7) /\ bE a a_9 a_7) /\ ∀ (a_9 : KS), bE a a_9 a_7 -> true = true /\ true = true /\
 Xb a_9 /\ true = true /\ bif aG a_9 then ((a_9.x.z.length = a_9.x.z.length /\ ((0 : Nat) < a_9.x.z.length -> WE)) /\ XC /\ LS /\ WF a_9 <= (9223372036854775807 : Nat) /\
 WF a_9 * (8 : Nat) <= (140737488355328 : Nat)) /\ Pf a_9 /\ ∃ (a_11 : KS), (true = true /\ a_11.x.pl = a_9.x.pl /\ Ur a_11 a_9 /\ FY a_11 a_9 /\ Sx a_11 a_9 /\ Xx a_11 a_9 /\
 aF a_11 a_9 /\ Yo a_11 a_9 /\ AC /\ AC /\ AC /\ AC /\ AC /\ AA /\ AB /\ AA /\ AB /\ AA /\ AB /\ AA /\ AB /\
 AA /\ AB /\ EV a.s = EV a.s /\ IH a.s = IH a.s /\ JU a.s = JU a.s /\ HF a.s = HF a.s /\ GQ a.s = GQ a.s /\ AA /\ FF a_11 a_9 /\ AA /\ AB /\ AA /\ FS a_11
 a_9 /\ AA /\ FB a_11 a_9 /\ AA /\ Ny a_11 a_9 /\ FF a_11 a_9 /\ PS a_11 a_9 /\ FS a_11 a_9 /\ QE a_11 a_9 /\ FB a_11 a_9 /\ QK a_11 a_9 /\
 Ny a_11 a_9 /\ ∀ (i : Nat), i < a_11.x.z.length -> gD a_11.x.z i = bif decide (i < a_9.x.z.length) then gD a_9.x.z i else Qa a_9) /\ QS a a_11 a_7 else ∃ (a_11 : KS), (true = true /\ a_11.x.pl =
 a_9.x.pl /\ a_11.x.tm = a_9.x.tm /\ FY a_11 a_9 /\ Td a_11 a_9 /\ Tb a_11 a_9 /\ Zf a_11 a_9 /\ Tg a_11 a_9 /\ Ab a a_11 a_9) /\ QS a a_11 a_7 else ∃ (a_9 : KS),
 (true = true /\ a_9.x.pl = a_7.x.pl /\ a_9.x.tm = a_7.x.tm /\ FY a_9 a_7 /\ Ix a_9 a_7 /\ Jv a_9 a_7 /\ Li a_9 a_7 /\ Ld a_9 a_7 /\ Ab a a_9 a_7) /\ QS a a_9 a_7) /\
 bA a a_7 /\ bA a a_7 else ∃ (a_9 : One), (XO a a_7 /\ XV a a_7 /\ XQ a a_7 /\ ZQ a a_7 /\ AC /\ AC /\ AC /\ AC /\ AC /\ AA /\
 AB /\ AA /\ AB /\ AA /\ AB /\ AA /\ AB /\ AA /\ AB /\ EV a.s = EV a.s /\ IH a.s = IH a.s /\ JU a.s = JU a.s /\ HF a.s = HF a.s /\ GQ a.s = GQ a.s /\
 Wb a a_7 /\ Ph a_7 /\ Tc a a_7 /\ AA /\ AB /\ Yc a a_7 /\ Rp a_7 /\ Vy a a_7 /\ Vj a a_7 /\ bP a_7 /\ Tw a a_7 /\ (mS a).z.length =
 a_7.x.z.length /\ (0 : Nat) + a_7.x.z.length <= a_7.x.z.length /\ ∀ (j : Nat), j < (mS a).z.length -> gD (mS a).z j = gD a_7.x.z (LD j)) /\ DT a) /\ Yp a /\ Yp a) := by kernel_rfl
end Go.Bal
