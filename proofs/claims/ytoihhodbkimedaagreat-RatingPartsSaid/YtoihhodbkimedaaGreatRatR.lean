/- Package rating: the stable sort of numbers of gaugings (at most 24). -/
import Derived.Test.YtoihhodbkimedaaGreatRSw
set_option linter.unusedVariables false
set_option linter.unusedSimpArgs false
namespace Go.Bal
open Go Go.Sym Go.Proofs
def C_sm(N:Nat):Ctr:={ ro:=[101],α:=GX,xs:=xGX,L:=lGX,val:=λ_=>.d (.tup []),keep:=λa=>glX a.g a.l.length (GO (CY a.g) a.l a.x a.z),pre:=λa=>[pSm (CY a.g) a.g.length a.l a.x a.y a.z/\a.z-a.x<N] }
structure NX where
 n:Nat
 a:GX
def smO(a:GX):Nat×AVal:=(0,.own 100 1 0 a.l.length)
def smH(a:GX)(l:List Int):List (Nat×HCell):=glX a.g a.l.length l
def sm3(a:GX):Shape:={ α:=NN,dflt:=default,T:=λs=>⟨[smO a,(1,.int a.x),(4,fnW1),(10,.int s.a),(11,.int s.b)],smH a a.l⟩,inv:=λs=>smLo (CY a.g) a.l a.x a.z s.a s.b/\a.y=a.x+1,meas:=λs=>s.b-s.a }
def sm9(a:GX):Shape:={ α:=NN,dflt:=default,T:=λs=>⟨[smO a,(10,.int s.a),(13,.int s.b)],smH a (KA a.l a.x (a.x+1) (s.b+1))⟩,inv:=λs=>(smLo (CY a.g) a.l a.x a.z s.a s.a/\a.y=a.x+1)/\a.x<=s.b/\s.b+1<=s.a,meas:=λs=>s.a-s.b }
def sm15(a:GX):Shape:={ α:=NN,dflt:=default,T:=λs=>⟨[smO a,(2,.int a.y),(4,fnW1),(14,.int s.a),(15,.int s.b)],smH a a.l⟩,inv:=λs=>smHi (CY a.g) a.l a.x a.y s.a s.b/\a.z=a.y+1,meas:=λs=>s.b-s.a }
def sm21(a:GX):Shape:={ α:=NN,dflt:=default,T:=λs=>⟨[smO a,(14,.int s.a),(17,.int s.b)],smH a (KA a.l s.b a.y (a.y+1))⟩,inv:=λs=>(smHi (CY a.g) a.l a.x a.y s.a s.a/\a.z=a.y+1)/\s.a<=s.b/\s.b<=a.y,meas:=λs=>s.b }
def qV(a:GX):Nat:=(a.x+a.z) / 2
def smB(a:GX):List (Nat×AVal):=[smO a,(1,.int a.x),(2,.int a.y),(3,.int a.z),(4,fnW1),(18,.int (qV a))]
def sm32(a:GX):Shape:={ α:=NN,dflt:=default,T:=λs=>⟨smB a ++ [(19,.int (qV a+a.y)),(20,.int s.a),(21,.int s.b)],smH a a.l⟩,inv:=λs=>s.a=yC a.x a.y a.z/\s.b=qT a.x a.y a.z,meas:=λ_=>0 }
def sm33(a:GX):Shape:={ α:=NN,dflt:=default,T:=λs=>⟨smB a ++ [(19,.int (qV a+a.y)),(20,.int s.a),(21,.int s.b),(22,.int (qV a+a.y-1))],smH a a.l⟩,inv:=λs=>smBi (CY a.g) a.l a.x a.y a.z s.a s.b,meas:=λs=>s.b-s.a }
def smE(a:GX)(s:Nat):Nat:=qV a+a.y-s
def sm41(a:GX):Shape:={ α:=Nat,dflt:=0,T:=λs=>⟨smB a ++ [(20,.int s),(24,.int (smE a s))],smH a (KA a.l s a.y (smE a s))⟩,inv:=λs=>SmI (CY a.g) a.l a.x a.y a.z s,meas:=λ_=>0 }
def sm43(a:GX):Shape:={ α:=Nat,dflt:=0,T:=λs=>⟨smB a ++ [(20,.int s),(24,.int (smE a s))],smH a (GO (CY a.g) (KA a.l s a.y (smE a s)) a.x (qV a))⟩,inv:=λs=>SmI (CY a.g) a.l a.x a.y a.z s,meas:=λ_=>0 }
def A_mg(w:NX):Ann:={ ann 220 [(Ej,C_fw1.spec dGAB),(BHP,C_rot.spec dGX),(AYY,(C_sm w.n).spec dGX)] with E:=[100,101],loops:=λid=>if id=3 then some [sm3 w.a] else if id=9 then some [sm9 w.a] else if id=15 then some [sm15 w.a] else if id=21 then some [sm21 w.a] else if id=33 then some [sm33 w.a] else none,cut:=λid=>if id=32 then some [sm32 w.a] else if id=41 then some [sm41 w.a] else if id=43 then some [sm43 w.a] else none }
def V_sm(w:NX):Prop:=BQ Try.prog (A_mg w) BIO (AI BIO) (xGX w.a) (AD (lGX w.a)) (.d (.tup [])) (glX w.a.g w.a.l.length (GO (CY w.a.g) w.a.l w.a.x w.a.z)) [] []
abbrev Ad a:=Jy (NX.a a)
abbrev WN a:=BN (Ad a)
abbrev QJ a:=AZ (Ad a)
abbrev ET a:=Jz (NX.a a)
abbrev BAW a b c d:=GO a b (ET c) d
abbrev OD a:=Jt (Ad a)
abbrev K6 a b c d:=BAW (OD a) b c d
abbrev bK a:=qV (NX.a a)
abbrev DA a:=JY (NX.a a)
abbrev lM a b c d:=KA (DA a) b c d
abbrev Pi a b:=smE (NX.a a) b
abbrev DN a:=Hm (NX.a a)
abbrev Oj a b:=lM a b (DN a) (Pi a b)
abbrev Ti a b c d e:=K6 a (Oj b c) d (bK e)
abbrev KK a:=Mx (NX.a a)
abbrev JL a:=CX (DA a)
abbrev Lp a b:=IE (DA a) b
abbrev Ua a:=Jt (BH a)
abbrev fO a:=HY (Ad a)
abbrev uH a:=NP (Ad a)
abbrev tK a:=KX (Ad a)
abbrev uI a:=BB (Ad a)
abbrev rD a:=CE (Ad a)
abbrev Vh a:=BE (KK a)
abbrev Xn a:=BE (bK a)
abbrev Iw a:=BE (DN a)
abbrev Ip a:=BE (ET a)
abbrev AQB a b:=LX (AQ a) (AQ b)
abbrev RX a:=AQB (bK a) (DN a)
abbrev Yh a b:=AML a (JB b)
abbrev Zv a b:=GD (JB a) b
abbrev Zp a(b:NN->Prop)(c:NN->Prop):=CS a (UT b) (UT c)
abbrev Je a b c d e f:=LL a b (DZ c) (BK d) (DZ e) (BK f)
abbrev Sa a:=FC (DA a)
abbrev Af a:=AJW (AJM AKA (JB a) (HV a)) (EU 1)
abbrev Yk a b:=OG a (HV b)
abbrev Cu a b:=CM (DA a) b
abbrev tP a:=RI (Af a)
abbrev kW a b:=HA (Bt a) b
abbrev TT a:=AJW (AJM AKA (JB a) (HV a)) 1
abbrev Ma a:=RI (TT a)
abbrev Tp a b:=Rd a (DA b)
abbrev Lb a b:=KJ a (DA b)
abbrev Ui a b c:=And (AR a b) c
abbrev nT a b:=nD (ET a) (KK b)
abbrev tO a:=EO (DN a)
abbrev Rm a b:=YF (BK a) b
abbrev Ci a b c d e f:=smHi a b c d (BK e) f
abbrev ZD a b c:=And a (HC b c)
abbrev eG a:=EO (DZ a)
abbrev tG a:=EO (ET a)
abbrev Ce a b c d e f:=smLo a b c d (BK e) f
abbrev Tl a:=DU (HV a)
abbrev Cp a:=RI (Tl a)
attribute [go_sem] Ad WN QJ ET BAW OD K6 bK DA lM Pi DN Oj Ti KK JL Lp Ua fO uH tK uI rD Vh Xn Iw Ip AQB RX Yh Zv Zp Je Sa Af Yk Cu tP kW TT Ma Tp Lb Ui nT tO Rm Ci ZD eG tG Ce Tl Cp
theorem CTP(w:NX):(V_sm w)=(CL (OL (HA (AQ (DN w)) (AQ (ET w))) 1) (UT (λi=>AG (Bl AL (JL w) (Ip w) (XF i (DN w)) (UJ i (KK w)) (Sa w) (QJ w) (WN w)) (Ce (OD w) (DA w) (ET w) (KK w) i (DZ i)) (HC (DN w) (ET w)))) (Iv (λi=>NJ (ZD (Ce (OD w) (DA w) (ET w) (KK w) i (DZ i)) (DN w) (ET w)) (Zv i (HV i)) Qe (AF (Lb (TT i) w) (Tp (Ma i) w) (IN (ET w) (DA w)) (Tp (BP (ET w)) w) (JR (JD (DA w) (tP i)) (JD (DA w) (BP (ET w))) (rD w) (uI w) (tK w) (uH w) (DV (Cu w (Ma i)) (fO w)) (Cu w (BP (ET w))) (HI (Cu w (BP (ET w))) (fO w)))) (Zp (YL (Zk (Ad w) (Cu w (tP i))) (Zk (Ad w) (Cu w (BP (ET w))))) (λj=>Je (Bl AL (JL w) (Ip w) (EA (BK j) (Af i)) (Yk j i) (Sa w) (QJ w) (WN w)) (ZD (Ce (OD w) (DA w) (ET w) (KK w) j (DZ j)) (DN w) (ET w)) j j i i) (λj=>Je (Bl AL (JL w) (Ip w) (NR j i) (OG j (Af i)) (Sa w) (QJ w) (WN w)) (ZD (Ce (OD w) (DA w) (ET w) (KK w) j (DZ j)) (DN w) (ET w)) j j i i)) (And (UT (λj=>AN (LO (JL w) (NR j i) (QD (UJ j (ET w)) (JL w) (AK (λk=>kO k (DA w) (lM w (ET w) (tG w) (eG j)))) (QJ w) (Ad w))) (ZD (Ce (OD w) (DA w) (ET w) (KK w) j (BK j)) (DN w) (ET w)) (YF (ET w) j) (Dr (DZ j) j))) (Iv (λj=>FL (DE (Ce (OD w) (DA w) (ET w) (KK w) j (BK j)) (HC (DN w) (ET w)) (YF (ET w) j) (Dr (DZ j) j)) (GD (HV j) (JZ (JB j))) (AN (Lb (Tl j) w) (Tp (Cp j) w) (Lb (HV j) w) (SC (Tp (NU j) w) (Lb (HV j) w) (Lb (Tl j) w) (Co (Cp j) (DA w)))) (UT (λk=>LL (LO (JL w) (NR k j) (QD (OG k (Tl j)) (JL w) (AK (λl=>GC l (DA w) (lM w (ET w) (tG w) (eG k)) l (Cd l (Cp j) (CM (lM w (ET w) (tG w) (eG j)) (NU j)) l j (CM (lM w (ET w) (tG w) (eG j)) (Cp j)) (CM (lM w (ET w) (tG w) (eG j)) l)))) (QJ w) (Ad w))) (DE (Ce (OD w) (DA w) (ET w) (KK w) k (BK k)) (HC (DN w) (ET w)) (YF (ET w) k) (Dr (DZ k) k)) (BK k) (DZ k) (BK j) (DZ j))) (AN (JL w) (RV (DA w) (K6 w (DA w) w (KK w)) (lM w (ET w) (tG w) (eG j))) (QJ w) (WN w))))))) (CL (OL (HA (AQ (KK w)) (AQ (DN w))) 1) (UT (λi=>AG (Bl AL (JL w) (Iw w) (XF i (ET w)) (UJ i (DN w)) (Sa w) (QJ w) (WN w)) (Ci (OD w) (DA w) (ET w) (DN w) i (DZ i)) (HC (KK w) (DN w)))) (Iv (λi=>NJ (ZD (Ci (OD w) (DA w) (ET w) (DN w) i (DZ i)) (KK w) (DN w)) (Zv i (HV i)) Qe (AF (IN (DN w) (DA w)) (Tp (BP (DN w)) w) (Lb (TT i) w) (Tp (Ma i) w) (JR (JD (DA w) (BP (DN w))) (JD (DA w) (tP i)) (rD w) (uI w) (tK w) (uH w) (DV (Cu w (BP (DN w))) (fO w)) (Cu w (Ma i)) (HI (Cu w (Ma i)) (fO w)))) (Zp (not (YL (Zk (Ad w) (Cu w (BP (DN w)))) (Zk (Ad w) (Cu w (tP i))))) (λj=>Je (Bl AL (JL w) (Iw w) (EA (BK j) (Af i)) (Yk j i) (Sa w) (QJ w) (WN w)) (ZD (Ci (OD w) (DA w) (ET w) (DN w) j (DZ j)) (KK w) (DN w)) j j i i) (λj=>Je (Bl AL (JL w) (Iw w) (NR j i) (OG j (Af i)) (Sa w) (QJ w) (WN w)) (ZD (Ci (OD w) (DA w) (ET w) (DN w) j (DZ j)) (KK w) (DN w)) j j i i)) (And (UT (λj=>AN (LO (JL w) (NR j i) (QD (UJ j (DN w)) (JL w) (AK (λk=>kO k (DA w) (uZ (DA w) j (DN w) (tO w)))) (QJ w) (Ad w))) (ZD (Ci (OD w) (DA w) (ET w) (DN w) j (BK j)) (KK w) (DN w)) (Rm j j) (Fj j (DN w)))) (Iv (λj=>FL (DE (Ci (OD w) (DA w) (ET w) (DN w) j (BK j)) (HC (KK w) (DN w)) (Rm j j) (Fj j (DN w))) (Ok j (JB j)) (AN (Lb (Lx j) w) (Tp (IT j) w) (Lb (HV j) w) (SC (Tp (NU j) w) (Lb (HV j) w) (Lb (Lx j) w) (Co (IT j) (DA w)))) (UT (λk=>BW (LO (JL w) (NR k j) (QD (OG k (Lx j)) (JL w) (AK (λl=>GC l (DA w) (uZ (DA w) k (DN w) (tO w)) l (Cd l (IT j) (CM (uZ (DA w) j (DN w) (tO w)) (NU j)) l j (CM (uZ (DA w) j (DN w) (tO w)) (IT j)) (CM (uZ (DA w) j (DN w) (tO w)) l)))) (QJ w) (Ad w))) (DE (Ci (OD w) (DA w) (ET w) (DN w) k (BK k)) (HC (KK w) (DN w)) (Rm k k) (Fj k (DN w))) (DZ k) (DZ j))) (AN (JL w) (RV (DA w) (K6 w (DA w) w (KK w)) (uZ (DA w) j (DN w) (tO w))) (QJ w) (WN w))))))) (AG Qe (Zp (KO (AQ (DN w)) (nT w w)) (λi=>AG (AF AL (JL w) (Ip w) (Iw w) (AX (Vh w) (CQ (bK w) (nT w w)) (AO (RX w) (VZ (nT w w) (DN w))) (UD (BK i) (VZ (nT w w) (DN w)) (AQ (KK w))) (OG i (nT w w)) (JL w) (Sa w) (QJ w) (WN w))) (AR (BK i) (yC (ET w) (DN w) (KK w))) (AR (DZ i) (qT (ET w) (DN w) (KK w)))) (λi=>AG (AF AL (JL w) (Ip w) (Iw w) (AX (Vh w) (CQ (bK w) (nT w w)) (AO (RX w) (VZ (nT w w) (DN w))) (XF i (ET w)) (UJ i (DN w)) (JL w) (Sa w) (QJ w) (WN w))) (AR (BK i) (yC (ET w) (DN w) (KK w))) (AR (DZ i) (qT (ET w) (DN w) (KK w))))) (Iv (λi=>ME (Ui (BK i) (yC (ET w) (DN w) (KK w)) (AR (DZ i) (qT (ET w) (DN w) (KK w)))) (UT (λj=>And (BJ AL (JL w) (Ip w) (Iw w) (Vh w) (AX (Xn w) (AM (RX w)) (NR j i) (Yk j i) (Iz (Bt (RX w)) (RX w)) (JL w) (Sa w) (QJ w) (WN w))) (smBi (OD w) (DA w) (ET w) (DN w) (KK w) (BK j) (DZ j)))) (Iv (λj=>NJ (smBi (OD w) (DA w) (ET w) (DN w) (KK w) (BK j) (DZ j)) (Zv j (HV j)) Qe (AF (Lb (kW (RX w) (TT j)) w) (Tp (RI (kW (RX w) (TT j))) w) (Lb (TT j) w) (Tp (Ma j) w) (JR (JD (DA w) (RI (kW (RX w) (Af j)))) (JD (DA w) (tP j)) (rD w) (uI w) (tK w) (uH w) (DV (Cu w (RI (kW (RX w) (TT j)))) (fO w)) (Cu w (Ma j)) (HI (Cu w (Ma j)) (fO w)))) (Zp (not (YL (Zk (Ad w) (Cu w (RI (kW (RX w) (Af j))))) (Zk (Ad w) (Cu w (tP j))))) (λk=>Je (BJ AL (JL w) (Ip w) (Iw w) (Vh w) (AX (Xn w) (AM (RX w)) (EA (BK k) (Af j)) (Yk k j) (AM (Bt (RX w))) (JL w) (Sa w) (QJ w) (WN w))) (smBi (OD w) (DA w) (ET w) (DN w) (KK w) (BK k) (DZ k)) k k j j) (λk=>Je (BJ AL (JL w) (Ip w) (Iw w) (Vh w) (AX (Xn w) (AM (RX w)) (NR k j) (OG k (Af j)) (AM (Bt (RX w))) (JL w) (Sa w) (QJ w) (WN w))) (smBi (OD w) (DA w) (ET w) (DN w) (KK w) (BK k) (DZ k)) k k j j)) (FZ (VJ (FU (Zv j (AQ (DN w))) (FD (DN w) (HA (RX w) (JB j)))) (IW (IA (DA w)) (AF (BE (BK j)) (Iw w) (UD (Yh (RX w) j) (RX w) (JB j)) (IA (DA w)) (AX (FA (DA w)) (rD w) (uI w) (tK w) (uH w) (HS (DA w)) (Dk j (DN w)) (BZ (DN w) (Yh (RX w) j)) (JF (Yh (RX w) j) (CT (DA w)))))) (FB (λk=>DY AL (JL w) (Ip w) (AX (Iw w) (Vh w) (Xn w) (Ly k j) (UD (Pi w k) (RX w) (JB j)) (AY (DA w) (CT (DA w))) (RV (DA w) (Oj w k) (KA (CT (DA w)) (BK j) (DN w) (Yh (RX w) j))) (QJ w) (WN w)) (SmI (OD w) (DA w) (ET w) (DN w) (KK w) k))) (λk=>DY AL (JL w) (Ip w) (AX (Iw w) (Vh w) (Xn w) (Ly k j) (UD (Pi w k) (RX w) (JB j)) (JL w) (AK (λl=>kO l (DA w) (Oj w k))) (QJ w) (WN w)) (SmI (OD w) (DA w) (ET w) (DN w) (KK w) k))) (λk=>BV (SmI (OD w) (DA w) (ET w) (DN w) (KK w) k) (FZ (VJ (FU (UI (ET w) k) (UI k (bK w))) (AF AL (AY (Lp w (Oj w k)) (DA w)) (Ip w) (BE k) (AX (Xn w) (AY (Lp w (Oj w k)) (DA w)) (BM (Lp w (Oj w k)) (Oj w k)) (rD w) (uI w) (tK w) (uH w) (pSm (Ua (Ad w)) (fO w) (Lp w (Oj w k)) (ET w) k (bK w)) (BZ (EF (bK w) (ET w)) (NX.n w)))) (FB (λl=>DY AL (JL w) (Ip w) (AX (Iw w) (Vh w) (Xn w) (CB l k) (CB (Pi w l) (Pi w k)) (AY (DA w) (Lp w (Oj w k))) (RV (DA w) (Ti w w l w w) (BAW (Ua (Ad w)) (Lp w (Oj w k)) w (bK w))) (QJ w) (WN w)) (SmI (OD w) (DA w) (ET w) (DN w) (KK w) l))) (λl=>DY AL (JL w) (Ip w) (AX (Iw w) (Vh w) (Xn w) (CB l k) (CB (Pi w l) (Pi w k)) (JL w) (RV (DA w) (Ti w w l w w) (Oj w k)) (QJ w) (WN w)) (SmI (OD w) (DA w) (ET w) (DN w) (KK w) l))) (λl=>HP (SmI (OD w) (DA w) (ET w) (DN w) (KK w) l) (FU (UI (bK w) (Pi w l)) (UI (Pi w l) (KK w))) (QD (AF AL (AY (Lp w (Ti w w l w w)) (DA w)) (Xn w) (BE (Pi w l)) (AX (Vh w) (AY (Lp w (Ti w w l w w)) (DA w)) (BM (Lp w (Ti w w l w w)) (Ti w w l w w)) (rD w) (uI w) (tK w) (uH w) (pSm (Ua (Ad w)) (fO w) (Lp w (Ti w w l w w)) (bK w) (Pi w l) (KK w)) (BZ (EF (KK w) (bK w)) (NX.n w)))) (AY (DA w) (Lp w (Ti w w l w w))) (RV (DA w) (K6 w (DA w) w (KK w)) (GO (Ua (Ad w)) (Lp w (Ti w w l w w)) (bK w) (KK w))) (QJ w) (Ad w)) (AN (JL w) (RV (DA w) (K6 w (DA w) w (KK w)) (Ti w w l w w)) (QJ w) (WN w))))))))))))):=by kernel_rfl
structure pSt(n:Nat)(l:List Int):Prop where
 ln:l.length<=24
 i:inR n l
 u:incr l 0 l.length
def C_stb:Ctr:={ ro:=[101],α:=GY,xs:=λa=>[.own 100 1 0 a.l.length,.int a.x,fnW1],L:=lGY,val:=λ_=>.d (.tup []),keep:=λa=>glX a.g a.l.length (yG (CY a.g) a.l),pre:=λa=>[a.x=a.l.length/\pSt a.g.length a.l] }
def dGYs:List AVal->Heap->Option (GY×List (Nat×Nat)×List Nat)
 |[.own id _ _ n,.d x,.fn (.func f) [] [.bptr c _]],H=>if f=Ej then match H id,H c with
  | .live (.row _ m r),.live (.box [.d (.list _ k h _)])=>some (⟨MK k λi=>Sr (h i),MK n λi=>KT (r i),(KT x).toNat,0⟩,[(100,id),(101,c)],[])
  |_,_=>none else none
 |_,_=>none
def stbT(a:GY)(b:Nat):List (Nat×AVal):=[(0,.own 100 1 0 a.l.length),(1,.int a.l.length),(2,fnW1),(6,.int b)]
def stb2(a:GY):Shape:={ α:=Nat,dflt:=0,T:=λt=>⟨stbT a 20 ++ [(7,.int (20*t:Nat)),(8,.int (20*t+20:Nat))],glX a.g a.l.length (GO (CY a.g) a.l 0 (20*t))⟩,inv:=λt=>t<=1/\(t=1->20<=a.l.length),meas:=λt=>1-t }
def stB(key:Int->Int)(l:List Int):List Int:=GO key (GO key l 0 (if 20<=l.length then 20 else 0)) (if 20<=l.length then 20 else 0) l.length
def stb7(a:GY):Shape:={ α:=Nat,dflt:=0,T:=λt=>⟨stbT a (20*t+20),glX a.g a.l.length (if t=0 then stB (CY a.g) a.l else yG (CY a.g) a.l)⟩,inv:=λt=>t<=1,meas:=λt=>1-t }
def stb9(a:GY)(m:Nat):Shape:={ α:=Nat,dflt:=0,T:=λt=>⟨stbT a (20*t+20) ++ [(7,.int 0),(8,.int 40)],glX a.g a.l.length (stB (CY a.g) a.l)⟩,inv:=λt=>t=0/\m=1/\20<a.l.length,meas:=λ_=>0 }
def CKU(a:GY):Ann:={ ann 63 [(BGG,C_ins.spec dGY),(AYY,(C_sm 25).spec dGX)] with E:=[100,101],loops:=λid=>if id=2 then some [stb2 a] else if id=7 then some [stb7 a] else none,inner:=λgs id=>if id=9 then some [stb9 a (gs.getD 0 0)] else none }
def CJH(a:GY):Prop:=BQ Try.prog (CKU a) CDE (AI CDE) [.own 100 1 0 a.l.length,.int a.l.length,fnW1] (AD (lGY a)) (.d (.tup [])) (glX a.g a.l.length (yG (CY a.g) a.l)) [] []
abbrev Pv a b c d e:=(λ(x0 x1:Nat) (x2 x3:List Int)=>if x0=x1 then x2 else x3) a b c (yG d e)
abbrev Rp a:=stB (sZ a) (JW a)
abbrev Eu a:=Jv 20 a
abbrev XR a:=LM (Eu a) 20
abbrev Xz a b:=CQ (XR a) b
abbrev Hy a:=AQ (XR a)
abbrev Ww a:=QV (JW a)
abbrev oD a:=CG (JW a)
abbrev AYL a b:=IE (JW a) b
abbrev Mb a b:=AYL a (Rp b)
abbrev vB a:=Ua (NC a)
abbrev fF a:=VZ 0 (XR a)
abbrev bA a:=EU (fF a)
abbrev fC a b:=AY a (JW b)
abbrev mR:=EU 40
abbrev R6 a b:=ARE a 0 (Eu b)
abbrev Kj a b c:=AYL a (R6 b c)
abbrev dS:=RH 20
attribute [go_sem] Pv Rp Eu XR Xz Hy Ww oD AYL Mb vB fF bA fC mR R6 Kj dS
theorem CQY(a:GY):(CJH a)=(DJ (λi=>DE AL (yO (Cj a) (Ww a) dS (BD (Eu i)) (Xz i 20) (AK (λj=>kO j (JW a) (R6 a i))) (Fg a) (Rk a)) (BU i 1) (BV (GE i) (JF 20 (JW a)))) (λi=>FL (VH i 1 (BV (GE i) (JF 20 (JW a)))) (F3 (Hy i) (EK (JW a))) (IW (fC (Kj a a i) a) (AX (BE (Eu i)) (BE (XR i)) (fC (Kj a a i) a) (BM (Kj a a i) (R6 a i)) (CE (NC a)) (BB (NC a)) (KX (NC a)) (NP (NC a)) (pIns (lO a) (Kj a a i) (Eu i) (XR i)))) (FB (λj=>EV (JJ (AX (Cj a) (Ww a) dS (CB (Eu j) (XR i)) (Xz j (VZ (Hy i) 20)) (AY (JW a) (Kj a a i)) (Om a (R6 a j) (GO (vB a) (Kj a a i) (Eu i) (XR i))) (Fg a) (Rk a))) (VH j 1 (BV (GE j) (JF 20 (JW a)))) 1 j i)) (KC (IW (fC (Kj a a i) a) (AX (BE (Eu i)) (Ww a) (fC (Kj a a i) a) (BM (Kj a a i) (R6 a i)) (CE (NC a)) (BB (NC a)) (KX (NC a)) (NP (NC a)) (pIns (lO a) (Kj a a i) (Eu i) (oD a)))) (FB (λj=>DY AL (Cj a) (Ww a) (QD (CB (XR j) 20) (AY (JW a) (Kj a a i)) (Om a (Pv j 0 (Rp a) (sZ a) (JW a)) (GO (vB a) (Kj a a i) (Eu i) (oD a))) (Fg a) (NC a)) (IY j 1))) (λj=>HP (IY j 1) (Yi (XR j) (JW a)) (DJ (λk=>AN (JJ (yO (Cj a) (Ww a) (CB (XR k) (XR j)) BY (AO 40 (QS 2 (Hy j))) (Om a (Rp a) (Pv j 0 (Rp a) (sZ a) (JW a))) (Fg a) (Rk a))) (MV k) (GE (EF 1 j)) (Rd 20 (JW a))) (λk=>FL (BW (MV k) (GE (EF 1 j)) 20 (oD a)) (F3 40 (EK (JW a))) (AF AL (fC (Mb a a) a) (CQ HB VF) (CQ (bA k) (fF k)) (AX (CQ mR (UM 40)) (fC (Mb a a) a) (BM (Mb a a) (Rp a)) (CE (NC a)) (BB (NC a)) (KX (NC a)) (NP (NC a)) (pSm (vB a) (lO a) (Mb a a) HB (bA k) mR) (BZ 40 25))) (FB (λl=>BW (JJ (AX (Cj a) (Ww a) (CB (XR l) (XR k)) (AO VF (UM 40)) (AO 40 (oF 40 2 (Hy k))) (AY (JW a) (Mb a a)) (Om a (Rp a) (GO (vB a) (Mb a a) HB mR)) (Fg a) (Rk a))) (BW (MV l) (GE (EF 1 j)) 20 (oD a)) 0 0)) (VJ (GD (fF k) (EK (JW a))) (AF AL (fC (Mb a a) a) (CQ HB VF) (CQ (bA k) (fF k)) (AX (Ww a) (fC (Mb a a) a) (BM (Mb a a) (Rp a)) (CE (NC a)) (BB (NC a)) (KX (NC a)) (NP (NC a)) (pSm (vB a) (lO a) (Mb a a) HB (bA k) (oD a)) (BZ (EF (oD a) 0) 25))) (FB (λl=>RL (LO (Cj a) (Ww a) (QD (Xz l (QS (Hy k) 2)) (AY (JW a) (Mb a a)) (Om a (Pv l 0 (Rp a) (sZ a) (JW a)) (GO (vB a) (Mb a a) HB (oD a))) (Fg a) (NC a))) l 1 l j)) (λl=>RL (LO (Cj a) (Ww a) (QD (Xz l (QS (Hy k) 2)) (Cj a) (Om a (Pv l 0 (Rp a) (sZ a) (JW a)) (Rp a)) (Fg a) (NC a))) l 1 l j)))) (AN (Cj a) (Om a (yG (sZ a) (JW a)) (Pv j 0 (Rp a) (sZ a) (JW a))) (Fg a) (Rk a)))))):=by kernel_rfl
structure GL where
 g:List Gau
 l:List Int
def dGLt:List AVal->Heap->Option (GL×List (Nat×Nat)×List Nat)
 |[.own id _ _ n,.fn (.func f) [] [.bptr c _]],H=>if f=Ej then match H id,H c with
  | .live (.row _ m r),.live (.box [.d (.list _ k h _)])=>some (⟨MK k λi=>Sr (h i),MK n λi=>KT (r i)⟩,[(100,id),(101,c)],[])
  |_,_=>none else none
 |_,_=>none
def glK(a:GL)(l:List Int):List (Nat×HCell):=glX a.g a.l.length l
def C_ss:Ctr:={ ro:=[101],α:=GL,xs:=λa=>[.own 100 1 0 a.l.length,fnW1],L:=λa=>[(100,rowI a.l),(101,bxG a.g)],val:=λ_=>.d (.tup []),keep:=λa=>glK a (yG (CY a.g) a.l),pre:=λa=>[pSt a.g.length a.l] }
def A_ss:Ann:={ ann 9 [(BLG,C_stb.spec dGYs)] with E:=[100,101] }
def V_ss(a:GL):Prop:=BQ Try.prog A_ss BXS (AI BXS) (C_ss.xs a) (AD (C_ss.L a)) (C_ss.val a) (C_ss.keep a) [] []
abbrev cJ:=GL.l
abbrev rF:=GL.g
attribute [go_sem] cJ rF
theorem CSN(a:GL):(V_ss a)=(QD (IW (IA (cJ a)) (AX (QV (cJ a)) (IA (cJ a)) (FA (cJ a)) (CE (rF a)) (BB (rF a)) (KX (rF a)) (NP (rF a)) (AY (cJ a) (CT (cJ a))) (pSt (HY (rF a)) (CT (cJ a))))) (AY (cJ a) (CT (cJ a))) (RV (cJ a) (yG (Jt (rF a)) (cJ a)) (yG (Ua (rF a)) (CT (cJ a)))) (AZ (rF a)) (rF a)):=by kernel_rfl
theorem p_sm(w:NX)(h:pSm (CY w.a.g) w.a.g.length w.a.l w.a.x w.a.y w.a.z)(hN:w.a.z-w.a.x<w.n+1):V_sm w:=by
 rw[CTP]<;> delta qD XL EE EC DP GD CS AO Mo KO AR CG AK BV BZ CM AQ BU DD ES LX EF NK Ba UT BK DZ Iv OL CI EZ FB LZ AKA AQO EU LM IY XS Jt JY Jz Hm Mx Jy AG GT JO GV IE DG AF AT AH FF CA CF Ad BH AM CT BL GQ SC AP HA BR AS AW DF DX HV EO DU CR AX BP BC HH CQ HL IC AN DA AL RI JZ AZ Bl EP GI BE ED AY DN BW AJM HU Lx GC HI CX JD FZ AJW ET II JA HG JB CL CU EA Ab HY NU FU DV EM GH PG IH sO kO GF FE CB BJ BN BM FC EW FM FK FD LN Bt KK HC uZ IT SL VZ LL KJ FL bK Af OG Ac AML CE IA JF ZX OD HN BB FA DY JL HP HS Pi AQB RN DE Ly ME TT IW lM UD QJ Fj eG Ok RV ZO Tl NR YF Ui WN KX RX IN In Oj Rd XG LO NP ZD kW Cu Cp JR Ip Iw nD BAW Ua UJ NJ K6 Co Lb QD UI Dr Lp Ma XF Sa YL Vh Dk Tp Ci VJ Ce Xn Rm fO Qe Yh Yk Zk Zv Cd Ti Iz uH Je Zp nT tK tP tO uI tG rD;simp only[CC,eq_self,implies_true,forall_const]
 obtain⟨d1,d2,d3⟩:=h.d
 have hl:=h.ln
 have hr:∀{i:Nat},i<w.a.l.length->0<=gD w.a.l i/\gD w.a.l i<w.a.g.length:=λhi=>AYJ h.i hi
 have w1:IntKind.i64.wrap ((w.a.y:Int)-w.a.x)=((w.a.y-w.a.x:Nat):Int):=by rw[JH (by omega) (by omega)];omega
 have w2:IntKind.i64.wrap ((w.a.z:Int)-w.a.y)=((w.a.z-w.a.y:Nat):Int):=by rw[JH (by omega) (by omega)];omega
 have hM:IntKind.i64.wrap (IntKind.u64.wrap (IntKind.i64.wrap ((w.a.x:Int)+w.a.z)) / 2 ^ Int.toNat 1)=((qV w.a:Nat):Int):=half (by omega)
 have eM:qV w.a=(w.a.x+w.a.z) / 2:=rfl
 rw[w1,w2,hM]
 refine⟨λc1=>?_,λc1=>⟨λc2=>?_,λc2=>?_⟩⟩
 ·have e:w.a.y=w.a.x+1:=by
   have:((w.a.y-w.a.x:Nat):Int)=1:=by simpa using c1
   omega
  refine⟨⟨⟨w.a.y,w.a.z⟩,⟨rfl,rfl⟩,lo_0 h e,e⟩,λs ⟨s1,_⟩=>?_⟩
  obtain⟨q1,q2,q3⟩:=s1.d
  have hf:IntKind.i64.wrap (IntKind.u64.wrap (IntKind.i64.wrap ((s.a:Int)+s.b)) / 2 ^ Int.toNat 1)=(((s.a+s.b) / 2:Nat):Int):=half (by omega)
  have hf':IntKind.i64.wrap (IntKind.u64.wrap (IntKind.i64.wrap ((s.a:Int)+s.b)) / 2 ^ 1)=(((s.a+s.b) / 2:Nat):Int):=hf
  rw[hf,hf']
  simp only[Int.toNat_natCast]
  refine⟨λhlt=>⟨by omega,⟨⟨by omega,by omega⟩,by omega,⟨by omega,by omega⟩,by omega,hr (by omega),hr (by omega)⟩,λc=>⟨⟨(s.a+s.b) / 2+1,s.b⟩,⟨(CN (by omega)).symm,rfl⟩,⟨CMC h e s1 (show s.a<s.b by omega) (Tb.1 c),e⟩,by show s.b-((s.a+s.b) / 2+1)<s.b-s.a;omega⟩,λc=>⟨⟨s.a,(s.a+s.b) / 2⟩,⟨rfl,rfl⟩,⟨CLK h e s1 (show s.a<s.b by omega) (λq=>c (Tb.2 q)),e⟩,by show (s.a+s.b) / 2-s.a<s.b-s.a;omega⟩⟩,λhge=>?_⟩
  have es:s.b=s.a:=by omega
  rw[es] at s1
  refine⟨⟨⟨s.a,w.a.x⟩,⟨rfl,rfl,λi hi=>?_⟩,⟨s1,e⟩,Nat.le_refl _,by show w.a.x<s.a;omega⟩,λt ⟨⟨t1,_⟩,t2,t3⟩=>?_⟩
  ·show gD (KA w.a.l w.a.x (w.a.x+1) (w.a.x+1)) i=_
   rw[AKC (by omega) (Nat.le_refl _) (.inr rfl)]
  ·obtain⟨r1,r2,r3⟩:=t1.d
   have wt:IntKind.i64.wrap ((t.a:Int)-1)=((t.a-1:Nat):Int):=by rw[JH (by omega) (by omega)];omega
   have wb:IntKind.i64.wrap ((t.b:Int)+1)=((t.b+1:Nat):Int):=by rw[JH (by omega) (by omega)];omega
   rw[wt,wb];simp only[Int.toNat_natCast]
   refine⟨λhlt=>⟨⟨⟨by omega,by omega⟩,by omega,⟨by omega,by omega⟩,by omega,⟨by omega,by omega⟩,by omega,⟨by omega,by omega⟩,by omega⟩,⟨t.a,t.b+1⟩,⟨rfl,rfl,λi hi=>?_⟩,⟨⟨t1,e⟩,by show w.a.x<=t.b+1;omega,by show t.b+1<t.a;omega⟩,by show t.a-(t.b+1)<t.a-t.b;omega⟩,λhge i hi=>?_⟩
   ·show gD (KA w.a.l w.a.x (w.a.x+1) (t.b+1+1)) i=_
    exact CLP t2 (by omega) hi
   ·rw[show t.b+1=t.a by omega,BXU h e t1]
 ·have e:w.a.z=w.a.y+1:=by
   have:((w.a.z-w.a.y:Nat):Int)=1:=by simpa using c2
   omega
  refine⟨⟨⟨w.a.x,w.a.y⟩,⟨rfl,rfl⟩,hi_0 h,e⟩,λs ⟨s1,_⟩=>?_⟩
  obtain⟨q1,q2,q3⟩:=s1.d
  have hf:IntKind.i64.wrap (IntKind.u64.wrap (IntKind.i64.wrap ((s.a:Int)+s.b)) / 2 ^ Int.toNat 1)=(((s.a+s.b) / 2:Nat):Int):=half (by omega)
  have hf':IntKind.i64.wrap (IntKind.u64.wrap (IntKind.i64.wrap ((s.a:Int)+s.b)) / 2 ^ 1)=(((s.a+s.b) / 2:Nat):Int):=hf
  rw[hf,hf']
  simp only[Int.toNat_natCast]
  refine⟨λhlt=>⟨by omega,⟨⟨by omega,by omega⟩,by omega,⟨by omega,by omega⟩,by omega,hr (by omega),hr (by omega)⟩,λc=>⟨⟨(s.a+s.b) / 2+1,s.b⟩,⟨(CN (by omega)).symm,rfl⟩,⟨CJE h s1 (show s.a<s.b by omega) (λq=>c (Tb.2 q)),e⟩,by show s.b-((s.a+s.b) / 2+1)<s.b-s.a;omega⟩,λc=>⟨⟨s.a,(s.a+s.b) / 2⟩,⟨rfl,rfl⟩,⟨CJN h s1 (show s.a<s.b by omega) (Tb.1 c),e⟩,by show (s.a+s.b) / 2-s.a<s.b-s.a;omega⟩⟩,λhge=>?_⟩
  have es:s.b=s.a:=by omega
  rw[es] at s1
  refine⟨⟨⟨s.a,w.a.y⟩,⟨rfl,rfl,λi hi=>?_⟩,⟨s1,e⟩,by show s.a<=w.a.y;omega,Nat.le_refl _⟩,λt ⟨⟨t1,_⟩,t2,t3⟩=>?_⟩
  ·show gD (KA w.a.l w.a.y w.a.y (w.a.y+1)) i=_
   rw[AKC (Nat.le_refl _) (by omega) (.inl rfl)]
  ·obtain⟨r1,r2,r3⟩:=t1.d
   have wb:(t.b:Int)>t.a->IntKind.i64.wrap ((t.b:Int)-1)=((t.b-1:Nat):Int):=λhb=>by rw[JH (by omega) (by omega)];omega
   refine⟨λhlt=>?_,λhge i hi=>?_⟩
   ·rw[wb hlt];simp only[Int.toNat_natCast]
    refine⟨⟨⟨by omega,by omega⟩,by omega,⟨by omega,by omega⟩,by omega,⟨by omega,by omega⟩,by omega,⟨by omega,by omega⟩,by omega⟩,⟨t.a,t.b-1⟩,⟨rfl,rfl,λi hi=>?_⟩,⟨⟨t1,e⟩,by show t.a<=t.b-1;omega,by show t.b-1<=w.a.y;omega⟩,by show t.b-1<_;omega⟩
    show gD (KA w.a.l (t.b-1) w.a.y (w.a.y+1)) i=_
    exact BOC (by omega) t3 (by omega) hi
   ·rw[show t.b=t.a by omega,BXF h e t1]
 ·have m1:w.a.y-w.a.x≠1:=λq=>by rw[q] at c1;cases c1
  have m2:w.a.z-w.a.y≠1:=λq=>by rw[q] at c2;cases c2
  have k1:IntKind.i64.wrap ((qV w.a:Int)+w.a.y)=((qV w.a:Int)+w.a.y):=JH (by omega) (by omega)
  have k2:IntKind.i64.wrap ((qV w.a:Int)+w.a.y-1)=(qV w.a:Int)+w.a.y-1:=JH (by omega) (by omega)
  have k3:IntKind.i64.wrap ((qV w.a:Int)+w.a.y-w.a.z)=(qV w.a:Int)+w.a.y-w.a.z:=JH (by omega) (by omega)
  rw[k1,k2,k3]
  refine⟨by omega,⟨λc=>⟨⟨yC w.a.x w.a.y w.a.z,qT w.a.x w.a.y w.a.z⟩,⟨rfl,rfl,?_,?_⟩,rfl,rfl⟩,λc=>⟨⟨yC w.a.x w.a.y w.a.z,qT w.a.x w.a.y w.a.z⟩,⟨rfl,rfl,?_,?_⟩,rfl,rfl⟩⟩,λs0 ⟨u1,u2⟩=>⟨⟨s0,⟨rfl,rfl,rfl⟩,?_⟩,λs s1=>?_⟩⟩
  ·show ((yC w.a.x w.a.y w.a.z:Nat):Int)=_
   unfold yC;rw[if_pos (by omega)];omega
  ·show ((qT w.a.x w.a.y w.a.z:Nat):Int)=_
   unfold qT;rw[if_pos (by omega)];rfl
  ·show ((yC w.a.x w.a.y w.a.z:Nat):Int)=_
   unfold yC;rw[if_neg (by omega)]
  ·show ((qT w.a.x w.a.y w.a.z:Nat):Int)=_
   unfold qT;rw[if_neg (by omega)]
  ·rw[u1,u2];exact bi_0 h
  ·obtain⟨q1,q2,q3⟩:=s1.d
   have hR:qT w.a.x w.a.y w.a.z<=w.a.y:=by unfold qT;split<;>omega
   have hf:IntKind.i64.wrap (IntKind.u64.wrap (IntKind.i64.wrap ((s.a:Int)+s.b)) / 2 ^ Int.toNat 1)=(((s.a+s.b) / 2:Nat):Int):=half (by omega)
   have hf':IntKind.i64.wrap (IntKind.u64.wrap (IntKind.i64.wrap ((s.a:Int)+s.b)) / 2 ^ 1)=(((s.a+s.b) / 2:Nat):Int):=hf
   have r0:s.a<s.b->(w.a.x<=(s.a+s.b) / 2/\(s.a+s.b) / 2<w.a.y)/\w.a.y<=qV w.a+w.a.y-1-(s.a+s.b) / 2/\qV w.a+w.a.y-1-(s.a+s.b) / 2<w.a.z:=λq=>AEG ⟨d1,d2⟩ (by omega) (by omega)
   refine⟨λhlt=>?_,λhge=>?_⟩
   ·have r0:=r0 (by omega)
    have kp:IntKind.i64.wrap ((qV w.a:Int)+w.a.y-1-(((s.a+s.b) / 2:Nat):Int))=((qV w.a+w.a.y-1-(s.a+s.b) / 2:Nat):Int):=by rw[JH (by omega) (by omega)];omega
    rw[hf,hf',kp];simp only[Int.toNat_natCast]
    exact⟨by omega,⟨⟨by omega,by omega⟩,by omega,⟨by omega,by omega⟩,by omega,hr (by omega),hr (by omega)⟩,λc=>⟨⟨(s.a+s.b) / 2+1,s.b⟩,⟨(CN (by omega)).symm,rfl⟩,CMJ h s1 (show s.a<s.b by omega) (λq=>c (Tb.2 q)),by show s.b-((s.a+s.b) / 2+1)<s.b-s.a;omega⟩,λc=>⟨⟨s.a,(s.a+s.b) / 2⟩,⟨rfl,rfl⟩,CKX h s1 (show s.a<s.b by omega) (Tb.1 c),by show (s.a+s.b) / 2-s.a<s.b-s.a;omega⟩⟩
   ·have es:s.b=s.a:=by omega
    rw[es] at s1
    have I:=BTY h s1
    have dm:=Ud d1 d2 I.lo I.hi
    rw[<-eM] at dm
    have kE:IntKind.i64.wrap ((qV w.a:Int)+w.a.y-s.a)=((smE w.a s.a:Nat):Int):=by
     unfold smE;rw[JH (by omega) (by omega)];omega
    have eE:∀s,smE w.a s=qV w.a+w.a.y-s:=λ_=>rfl
    have eS:=eE s.a
    rw[kE];simp only[Int.toNat_natCast]
    refine⟨⟨λc=>⟨⟨trivial,by omega,?_,?_,by omega⟩,s.a,⟨rfl,rfl,λ_ _=>rfl⟩,I⟩,λc=>⟨s.a,⟨rfl,rfl,λi hi=>?_⟩,I⟩⟩,λt I=>?_⟩
    ·cases q:decide ((s.a:Int)<w.a.y) with
     |false=>rw[q] at c;cases c
     |true=>have:=of_decide_eq_true q;omega
    ·cases q:decide ((s.a:Int)<w.a.y) with
     |false=>rw[q] at c;cases c
     |true=>
      rw[q] at c
      have:=of_decide_eq_true (show decide ((w.a.y:Int)<(smE w.a s.a:Nat))=true from c);omega
    ·rw[AKC (by omega) (by omega) ?_]
     cases q:decide ((s.a:Int)<w.a.y) with
     |false=>have:=of_decide_eq_false q;left;omega
     |true=>
      rw[q] at c
      have:=of_decide_eq_false (show decide ((w.a.y:Int)<(smE w.a s.a:Nat))=false from c);right;omega
    ·have dm:=Ud d1 d2 I.lo I.hi
     rw[<-eM] at dm
     have eT:=eE t
     have l1:=TF w.a.l t w.a.y (smE w.a t)
     have er:(MK w.a.l.length λi=>gD (KA w.a.l t w.a.y (smE w.a t)) i)=KA w.a.l t w.a.y (smE w.a t):=by
      rw[<-l1];exact RB _
     rw[er]
     refine⟨⟨λc=>?_,λc=>?_⟩,λv I=>?_⟩
     ·have cc:w.a.x<t/\t<qV w.a:=by
       cases q:decide ((w.a.x:Int)<t) with
       |false=>rw[q] at c;cases c
       |true=>
        rw[q] at c
        have:=of_decide_eq_true q
        have:=of_decide_eq_true (show decide ((t:Int)<(qV w.a:Nat))=true from c);omega
      exact⟨⟨λ_ _=>rfl,BLL h I cc,by omega⟩,t,⟨rfl,rfl,λ_ _=>rfl⟩,I⟩
     ·have cc:¬(w.a.x<t/\t<qV w.a):=λ⟨x1,x2⟩=>by
       rw[decide_eq_true (show (w.a.x:Int)<t by omega),decide_eq_true (show (t:Int)<(qV w.a:Nat) by omega)] at c;cases c
      exact⟨t,⟨rfl,rfl,λi hi=>by
       show gD (GO (CY w.a.g) (KA w.a.l t w.a.y (smE w.a t)) w.a.x (qV w.a)) i=_
       have:=BCB h I cc
       rw[show GO (CY w.a.g) (KA w.a.l t w.a.y (smE w.a t)) w.a.x (qV w.a)=KA w.a.l t w.a.y (smE w.a t) from this]⟩,I⟩
     ·have dm:=Ud d1 d2 I.lo I.hi
      rw[<-eM] at dm
      have eT:=eE v
      have l1:(GO (CY w.a.g) (KA w.a.l v w.a.y (smE w.a v)) w.a.x (qV w.a)).length=w.a.l.length:=by rw[UR (by omega),TF]
      have er:(MK w.a.l.length λi=>gD (GO (CY w.a.g) (KA w.a.l v w.a.y (smE w.a v)) w.a.x (qV w.a)) i)=GO (CY w.a.g) (KA w.a.l v w.a.y (smE w.a v)) w.a.x (qV w.a):=by
       rw[<-l1];exact RB _
      rw[er]
      have E:=BZN h I
      refine⟨λc=>?_,λc i hi=>?_⟩
      ·have cc:qV w.a<smE w.a v/\smE w.a v<w.a.z:=by
        cases q:decide (((qV w.a:Nat):Int)<(smE w.a v:Nat)) with
        |false=>rw[q] at c;cases c
        |true=>
         rw[q] at c
         have:=of_decide_eq_true q
         have:=of_decide_eq_true (show decide (((smE w.a v:Nat):Int)<w.a.z)=true from c);omega
       exact⟨⟨λ_ _=>rfl,BCI h I cc,by omega⟩,λi hi=>by rw[show GO (CY w.a.g) (GO (CY w.a.g) (KA w.a.l v w.a.y (smE w.a v)) w.a.x (qV w.a)) (qV w.a) w.a.z=GO (CY w.a.g) w.a.l w.a.x w.a.z from E]⟩
      ·have cc:¬(qV w.a<smE w.a v/\smE w.a v<w.a.z):=λ⟨x1,x2⟩=>by
        rw[decide_eq_true (show ((qV w.a:Nat):Int)<(smE w.a v:Nat) by omega),decide_eq_true (show ((smE w.a v:Nat):Int)<w.a.z by omega)] at c;cases c
       have E0:=AUN h I cc
       rw[show GO (CY w.a.g) (KA w.a.l v w.a.y (smE w.a v)) w.a.x (qV w.a)=GO (CY w.a.g) w.a.l w.a.x w.a.z from E0.symm.trans E]
theorem CLC:∀n,AJ Try.prog AYY ((C_sm n).spec dGX)
 |0=>okT (C_sm 0) (λ(a:GX) h=>absurd (show pSm (CY a.g) a.g.length a.l a.x a.y a.z/\a.z-a.x<0 from h).2 (Nat.not_lt_zero _)) _
 |n+1=>VD (C_sm (n+1)) (λa=>A_mg ⟨n,a⟩) [] [] CDY (λ_=>by kernel_rfl) (λ_=>AC BZD (AC CQG (AC (CLC n) AE))) (λ(a:GX) h=>p_sm ⟨n,a⟩ h.1 h.2) (λ_=>WK rfl rfl) _
theorem BDV{key:Int->Int}{l:List Int}(h:l.length<=20):stB key l=yG key l:=by
 unfold stB
 by_cases c:20<=l.length
 ·rw[if_pos c,show l.length=20 by omega,cY]
  have:=BHZ key l
  rw[show l.length=20 by omega] at this;exact this
 ·rw[if_neg c,cY,BHZ]
theorem CSI(a:GY)(h:pSt a.g.length a.l):CJH a:=by
 rw[CQY]<;> delta F3 EE EC DP GD CS AO AR CG AK BV BZ CM AQ BU LX EF NK UM mT CI EZ FB LZ EU LM IY Jv Jt JW NC AG GT JO GV IE DG AF AT AH FF CA CF BH AM BL GQ AP BR AS AW DF DX CR AX qJ HH CQ HL IC AN AL AZ yO EP GI BE AY BW Eu HU GC CX FZ JA HG CL EK CU HY sZ RH EM GH IH sO kO GF FE CB BN BM EW FM FK FD LN HB VZ LL FL XR CE EV JF BY QS BD BB DY HP GE DE DJ QV IW AYL ARE JJ MV RV KX Rp oF KC In Rd LO NP Yi Cj VF Fg VH Ua R6 fF Mb QD Kj Hy Rk Ww VJ RL Om bA fC Xz oD Pv vB lO dS mR;simp only[CC,eq_self,implies_true,forall_const]
 obtain⟨h1,h2,h3⟩:=h
 have er:∀t,(MK a.l.length λi=>gD (GO (CY a.g) a.l 0 (20*t)) i)=GO (CY a.g) a.l 0 (20*t):=λt=>by
  have:(GO (CY a.g) a.l 0 (20*t)).length=a.l.length:=UR (Nat.zero_le _)
  rw[<-this];exact RB _
 have lB:(stB (CY a.g) a.l).length=a.l.length:=by
  unfold stB
  rw[UR (by split<;>omega),UR (by split<;>omega)]
 have er2:(MK a.l.length λi=>gD (stB (CY a.g) a.l) i)=stB (CY a.g) a.l:=by
  rw[<-lB];exact RB _
 refine⟨⟨0,⟨rfl,rfl,λi _=>?_⟩,by omega,λq=>by omega⟩,λt ⟨t1,t2⟩=>⟨λhle=>?_,λhgt=>?_⟩⟩
 ·show gD (GO (CY a.g) a.l 0 0) i=_
  rw[cY]
 ·have ht:t=0:=by omega
  subst ht
  have e0:GO (CY a.g) a.l 0 (20*0)=a.l:=cY _ _ _
  rw[er 0,e0]
  exact⟨⟨λ_ _=>rfl,⟨by omega,h2,⟨by omega,by omega⟩,λi j _ q1 q2=>h3 i j (Nat.zero_le _) q1 (by omega)⟩⟩,1,⟨rfl,by rw[JH (by omega) (by omega)];rfl,λ_ _=>rfl⟩,⟨Nat.le_refl _,λ_=>by omega⟩,by omega⟩
 ·rw[er t]
  have lt:(GO (CY a.g) a.l 0 (20*t)).length=a.l.length:=UR (Nat.zero_le _)
  have ht:20*t<=a.l.length:=by
   by_cases c:t=1
   ·have:=t2 c;omega
   ·omega
  have eo:∀k,20*t<=k->gD (GO (CY a.g) a.l 0 (20*t)) k=gD a.l k:=λk hk=>Av (Nat.zero_le _) ht (.inr hk)
  refine⟨⟨λ_ _=>rfl,⟨by omega,Hh h2 (YU (Nat.zero_le _)),⟨ht,by omega⟩,λi j q0 q1 q2=>by rw[eo i q0,eo j (by omega)];exact h3 i j (Nat.zero_le _) q1 q2⟩⟩,⟨0,⟨rfl,λi _=>?_⟩,by omega⟩,λs hs=>⟨λhlt=>?_,λhge i hi=>?_⟩⟩
  ·show gD (stB (CY a.g) a.l) i=_
   have e:(if 20<=a.l.length then 20 else 0)=20*t:=by
    by_cases c:t=1
    ·rw[if_pos (by have:=t2 c;omega),c]
    ·rw[if_neg (by omega),show t=0 by omega]
   unfold stB;rw[e]
  ·have es:s=0:=by omega
   subst es
   refine⟨⟨0,⟨rfl,by rw[JH (by omega) (by omega)];rfl,λ_ _=>rfl⟩,rfl,rfl,by omega⟩,λv ⟨v1,v2,v3⟩=>⟨λh40=>by omega,λ_=>⟨λhm=>?_,λhm=>?_⟩⟩⟩
   ·subst v1
    have k:IntKind.i64.wrap (0+((20*0+20:Nat):Int))=((20:Nat):Int):=by rw[JH (by omega) (by omega)];rfl
    have eB:stB (CY a.g) a.l=GO (CY a.g) (GO (CY a.g) a.l 0 20) 20 a.l.length:=by unfold stB;rw[if_pos (by omega)]
    rw[er2,k,eB];simp only[Int.toNat_natCast]
    obtain⟨P,E⟩:=BXD (key:=CY a.g) h1 h2 h3 v3
    exact⟨⟨rfl,trivial,λ_ _=>trivial,P,by omega⟩,1,⟨by rw[JH (by omega) (by omega)];rfl,λi _=>by
     show gD (yG (CY a.g) a.l) i=gD (GO (CY a.g) (GO (CY a.g) (GO (CY a.g) a.l 0 20) 20 a.l.length) 0 a.l.length) i
     rw[E]⟩,by omega,by omega⟩
   ·subst v1
    have k:IntKind.i64.wrap (0+((20*0+20:Nat):Int))=((20:Nat):Int):=by rw[JH (by omega) (by omega)];rfl
    rw[k] at hm;omega
  ·by_cases c:s=0
   ·rw[if_pos c,BDV (by omega)]
   ·rw[if_neg c]
theorem COT:AJ Try.prog BLG (C_stb.spec dGYs):=okT C_stb (λ(a:GY) h=>by
 obtain⟨ha,h⟩:a.x=a.l.length/\pSt a.g.length a.l:=h
 show FnT Try.prog BLG [.own 100 1 0 a.l.length,.int a.x,fnW1] _ _ _
 rw[ha]
 exact Mn (A:=CKU a) (L:=C_stb.L a) (keep:=C_stb.keep a) (ren:=[]) (fz:=[]) CNX (by kernel_rfl) (AC CPC (AC (CLC 25) AE)) (CSI a h)) _
theorem CRP:AJ Try.prog BTK (C_ss.spec dGLt):=VD C_ss (λ_=>A_ss) [] [] CNS (λ_=>by kernel_rfl) (λ_=>AC COT AE) (λ(a:GL) h=>by
 show V_ss a;rw[CSN]<;> delta EE EC DP AO AR CG AK BV BZ CM AQ NK CI EZ LZ Jt cJ rF AG GT JO GV IE AF AT AH CA CF BH AM CT BL GQ AP BR AS AW DF DX CR AX HH HL IC AL AZ EP GI BE AY HU GC JA HG CU HY EM GH IH sO GF FE BM EW FM FK Ac CE IA ZX BB FA QV IW RV KX In NP Ua QD;simp only[CC,eq_self,implies_true,forall_const]
 exact h) (λ_=>WK rfl rfl) _
end Go.Bal
