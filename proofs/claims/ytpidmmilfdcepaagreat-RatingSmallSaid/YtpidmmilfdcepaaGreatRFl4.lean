/- Package rating: the reference: Stages, Dry, Widest; the program's Widest. -/
import Derived.Test.YtpidmmilfdcepaaGreatRFl3
set_option linter.unusedVariables false
set_option linter.unusedSimpArgs false
namespace Go.Bal
open Go Go.Sym Go.Proofs
def C_rStg:Ctr:={ α:=GBf,xs:=xGBf,L:=λ_=>[],val:=λx=>.tup [.d (AHZ (LU x).1),.int (LU x).2],keep:=λ_=>[],pre:=λx=>[x.a.g.length<1073741824/\x.a.b.length<1073741824] }
structure STS where
 p:Nat
 t:Int
 o:Span
 m:Bool
 deriving Inhabited
structure StI(l:List Gau)(b:List Int)(q T:Int)(o:Span)(m:Bool):Prop where
 is:stI l b q T o m
def srS(x:GBf):List (Nat×AVal):=[(0,.d (AT x.a.g)),(1,.d (AZ x.a.b)),(2,.int x.f),(6,.bptr 1000 0)]
def srT(x:GBf)(y:STS):List (Nat×AVal):=srS x ++ [(10,.bptr 12000 0),(11,.bool y.m),(12,.int y.p)]
def srH(y:STS):List (Nat×HCell):=[(1000,.live (.box [.int 0,.int 0])),(12000,.live (.box [.int y.o.lo,.int y.o.hi]))]
structure srI(x:GBf):Prop where
 th:Thru x.a.g x.a.b
 f:0<=x.f/\x.f<=200000
def sr7(x:GBf):Shape:={ α:=Nat,dflt:=0,T:=λp=>⟨srS x ++ [(9,.int p)],[(1000,.live (.box [.int 0,.int 0]))]⟩,inv:=λp=>(AV x.a=0/\inF x=true)/\p<=x.a.b.length+1/\∀j,j<p->Ci (SB x.a.g x.a.b j)=true,meas:=λp=>x.a.b.length+1-p }
def sr14(x:GBf):Shape:={ α:=STS,dflt:=default,T:=λy=>⟨srT x y,srH y⟩,inv:=λy=>(srI x/\y.t=0)/\y.p<=x.a.b.length+1/\StI x.a.g x.a.b x.f (tP x.a.b y.p) y.o y.m,meas:=λy=>x.a.b.length+1-y.p }
def srC(x:GBf)(n:Nat)(y:STS):Prop:=(srI x/\y.t=0/\x.a.b.length+1-y.p=n)/\y.p<=x.a.b.length/\StI x.a.g x.a.b x.f (tP x.a.b y.p) y.o y.m
def sr20(x:GBf)(n:Nat):Shape:={ α:=STS,dflt:=default,T:=λy=>⟨srT x y ++ [(13,.d (AT (SB x.a.g x.a.b y.p))),(14,.int (JY x.a.b y.p).lo),(15,.int 2000)],srH y⟩,inv:=λy=>srC x n y,meas:=λ_=>0 }
def sr22(x:GBf)(n:Nat):Shape:={ α:=STS,dflt:=default,T:=λy=>⟨srT x y ++ [(13,.d (AT (SB x.a.g x.a.b y.p))),(14,.int (JY x.a.b y.p).lo),(15,.int (JY x.a.b y.p).hi)],srH y⟩,inv:=λy=>srC x n y,meas:=λ_=>0 }
def sr23(x:GBf)(n:Nat):Shape:={ α:=STS,dflt:=default,T:=λy=>⟨srT x y ++ [(13,.d (AT (SB x.a.g x.a.b y.p))),(15,.int (JY x.a.b y.p).hi),(16,.int y.t)],srH y⟩,inv:=λy=>(srI x/\x.a.b.length+1-y.p=n)/\y.p<=x.a.b.length/\((JY x.a.b y.p).lo<=y.t/\y.t<=(JY x.a.b y.p).hi+1)/\StI x.a.g x.a.b x.f y.t y.o y.m,meas:=λy=>((JY x.a.b y.p).hi+1-y.t).toNat }
def BZP(x:GBf):Ann:={ ann 99 [(70,C_rAsk.spec dGB),(56,Rw),(72,C_rIns.spec dGBI),(71,C_rPb.spec NU),(84,C_rFw.spec dGT),(66,tY)] with loops:=λid=>if id=7 then some [sr7 x] else if id=14 then some [sr14 x] else none,inner:=λgs id=>if id=23 then some [sr23 x (gs.getD 0 0)] else none,cutIn:=λgs id=>if id=20 then some [sr20 x (gs.getD 0 0)] else if id=22 then some [sr22 x (gs.getD 0 0)] else none }
def BWV(x:GBf):Prop:=AS ZP (BZP x) Tryz.f44 (AE Tryz.f44) (xGBf x) (AB []) (C_rStg.val x) [] [] []
abbrev uP:=@Exists STS
abbrev ABC:=STS.m
abbrev OZ:=STS.p
abbrev ADD:=STS.o
abbrev HS:=STS.t
abbrev BEZ:=λ(f:STS->Prop)=>∀(x:STS),f x
abbrev VH a:=AHW (ADD a)
abbrev Fj a b c d e f:=StI (Ey a) (LD b) (AIM c) d (ADD e) (ABC f)
abbrev dT a b:=tP (LD a) (OZ b)
abbrev qF a b:=And (srI a) b
abbrev wI a b:=pV (ADD a) (ADD b)
abbrev tG a b:=Va (ABC a) (ABC b)
abbrev Pe a:=EZ (LD a)
abbrev Og a:=IW (LD a)
abbrev yU a:=hd54 (jQ a) 1
abbrev Ke a b:=JY (LD a) (OZ b)
abbrev Tn a b:=yU (Ke a b)
abbrev Ob a b:=AHW (Ke a b)
abbrev Uc a b c:=IZ (YD a) (OZ b) (OZ c)
abbrev AYQ a:=BO (OZ a)
abbrev AEZ a b c:=Et a b (AYQ c)
abbrev ZR a b:=AEZ (Ey a) (LD a) b
abbrev kI a b c:=EK (ZR a b) c
abbrev nY a b c:=HQ (ZR a b) c
abbrev oV a b:=AI (OZ a) (OZ b)
abbrev Yb a:=AP (Ey a)
abbrev Yf a:=BQ (Ey a)
abbrev nW a b c:=ALH (Ey a) (LD b) (AYQ c)
abbrev lX a:=GZ (LD a)
abbrev Ji a b:=APV (Rf a) b
attribute [go_sem] uP ABC OZ ADD HS BEZ VH Fj dT qF wI tG Pe Og yU Ke Tn Ob Uc AYQ AEZ ZR kI nY oV Yb Yf nW lX Ji
theorem CIZ(x:GBf):(BWV x)=(Sa (AW (HQ (KQ x) (Ey x)) (EK (KQ x) (Ey x)) (BC (KM x) (LD x)) (BR (KM x) (LD x)) (KV (KQ x)) (MB (KM x))) (xL x x) (dP x x x (xL x x)) (HZ (qQ (AIM x) 200000) (dP x x x 4) (HU (λi=>JO (BD (Yf x) (Yb x) (Og x) (cH (Pe x) (WQ x) (BX i) BB)) (Ji (I1 x) (inF x)) i (YD x) (AG (λj=>Nw j i (Us (Et (Ey x) (LD x) (BO j)))))) (λi=>MO (EE (Ji (I1 x) (inF x)) i (YD x) (AG (λj=>Nw j i (Us (Et (Ey x) (LD x) (BO j)))))) (hd7 (BO i) (NP (LD x))) (AO (HQ (KQ x) (Ey x)) (EK (KQ x) (Ey x)) (BK (BC (KM x) (LD x)) (BR (KM x) (LD x)) (BP i) (And (KV (KQ x)) (MB (KM x))) (AY (Et (KQ x) (KM x) (BO i))) (BJ (Et (KQ x) (KM x) (BO i))) (KV (Nt (KQ x) (KM x) i)) (Pb (Nt (KQ x) (KM x) i)) (Tj (λk j=>YG k j j (Nt (KQ x) (KM x) i) (pZ (BL (Nt (KQ x) (KM x) i) k) (Nt (KQ x) (KM x) i) j))))) (Uk (Us (Nt (KQ x) (KM x) i)) (dP x x x 6) (EI (λj=>Am (BD (Yf x) (Yb x) (Og x) (cH (Pe x) (WQ x) (AJ j i) BB)) (Ji (I1 x) (inF x)) j (YD x) (AG (λk=>Nw k j (Us (Et (Ey x) (LD x) (BO k))))) i))) (And (uP (λj=>JO (Af (Ey x) (APA (Og x) (Pe x) (WQ x) (KU (ABC j)) (BX (OZ j)) (CL (VH j)) (CL (jQ (ADD j))))) (qF x (CL (HS j))) (OZ j) (YD x) (Fj x x x (dT x j) j j))) (BEZ (λj=>Ys (EE (qF x (CL (HS j))) (OZ j) (YD x) (Fj x x x (dT x j) j j)) (hd7 (AYQ j) (NP (LD x))) (AO (CY (HQ (KQ x) (Ey x)) (EK (KQ x) (Ey x)) (BC (KM x) (LD x)) (BR (KM x) (LD x)) (BP (OZ j)) (KV (KQ x)) (MB (KM x))) (FD (Ru (OZ j)) (TV (OZ j) (lX x)) (uP (λk=>JO (CY (Yf x) (Yb x) (Og x) (Pe x) (WQ x) (tG k j) (ZI (oV k j) (nY x k (AEZ (KQ x) (KM x) j)) (kI x k (AEZ (KQ x) (KM x) j)) (BM (Ob x k) (KL (LD x) (Uh (OZ j)))) (JQ 2000) (VH k) (VH j) (wI k j))) (Hk (srI x) (HS k) 0 (Uc x k j)) (OZ k) (lX x) (Fj x x x (dT x k) k k))) (uP (λk=>JO (CY (Yf x) (Yb x) (Og x) (Pe x) (WQ x) (tG k j) (ZI (oV k j) (nY x k (AEZ (KQ x) (KM x) j)) (kI x k (AEZ (KQ x) (KM x) j)) (CL (Ob x k)) (JQ 2000) (VH k) (VH j) (wI k j))) (Hk (srI x) (HS k) 0 (Uc x k j)) (OZ k) (lX x) (Fj x x x (dT x k) k k)))) (BEZ (λk=>LZ (EE (Hk (srI x) (HS k) 0 (Uc x k j)) (OZ k) (lX x) (Fj x x x (dT x k) k k)) (FD (Gh (OZ k) (lX x)) (JL (OZ k) (LD x)) (uP (λl=>JO (CY (Yf x) (Yb x) (Og x) (Pe x) (WQ x) (tG l k) (ZI (oV l k) (nY x l (ZR x k)) (kI x l (ZR x k)) (BM (Ob x l) (Ob x k)) (Fv (Ke x l) (UH (KL (LD x) (OZ k)))) (VH l) (VH k) (wI l k))) (Hk (srI x) (HS l) 0 (Uc x l j)) (OZ l) (lX x) (Fj x x x (dT x l) l l))) (uP (λl=>JO (CY (Yf x) (Yb x) (Og x) (Pe x) (WQ x) (tG l k) (ZI (oV l k) (nY x l (ZR x k)) (kI x l (ZR x k)) (BM (Ob x l) (Ob x k)) (Fv (Ke x l) 2000) (VH l) (VH k) (wI l k))) (Hk (srI x) (HS l) 0 (Uc x l j)) (OZ l) (lX x) (Fj x x x (dT x l) l l)))) (BEZ (λl=>LZ (EE (Hk (srI x) (HS l) 0 (Uc x l j)) (OZ l) (lX x) (Fj x x x (dT x l) l l)) (uP (λm=>AR (CY (Yf x) (Yb x) (Og x) (Pe x) (WQ x) (tG m l) (ZI (oV m l) (nY x m (ZR x l)) (kI x m (ZR x l)) (pV (Ke x m) (Ke x l)) (BM (HS m) (Ob x l)) (VH m) (VH l) (wI m l))) (qF x (Uc x m j)) (Tt (OZ m) (LD x)) (Ii (KO (Ob x m) (HS m)) (HS m) (Tn x m)) (Fj x x x (HS m) m m))) (BEZ (λm=>MO (Sz (qF x (Uc x m j)) (OZ m) (LD x) (Ii (KO (Ob x m) (HS m)) (HS m) (Tn x m)) (Fj x x x (HS m) m m)) (hd7 (HS m) (jQ (Ke x m))) (S9 (AY (ZR x m)) (BJ (ZR x m)) (AK (HS m)) (KV (nW x x m)) (Pb (nW x x m)) (Tj (λu n=>YG u n n (nW x x m) (pZ (BL (nW x x m) u) (nW x x m) n))) (BSU (λn=>And (HX n) (AID (λu=>aR u (nW x x m) (Ii (KO (hd75 (tE u) (X1 n)) (APG (HM n) (Wk u))) (APG (HM n) (Wk u)) (hd75 (Qo u) (X1 n))))))) (HS m)) (Hd (iX (O5 x) (hd76 (RP (nW x x m) (HS m)))) (lR (hd77 (RP (nW x x m) (HS m))) (AIM x)) (uP (λn=>IB (CY (Yf x) (Yb x) (Og x) (Pe x) (WQ x) (tG n m) (ZI (oV n m) (nY x n (ZR x m)) (kI x n (ZR x m)) (pV (Ke x n) (Ke x m)) (Kk (HS n) (HS m)) (VH n) (VH m) (wI n m))) (Sz (qF x (Uc x n j)) (OZ n) (LD x) (Ii (KO (Ob x n) (HS n)) (HS n) (Tn x n)) (Fj x x x (HS n) n n)) (mV (Tn x n) (HS n)) (mV (Tn x m) (HS m)))) (Uk (ABC m) (uP (λn=>IB (CY (Yf x) (Yb x) (Og x) (Pe x) (WQ x) (IN (ABC n)) (ZI (oV n m) (nY x n (ZR x m)) (kI x n (ZR x m)) (pV (Ke x n) (Ke x m)) (Kk (HS n) (HS m)) (VH n) (HS m) (Fv (ADD n) (HS m)))) (Sz (qF x (Uc x n j)) (OZ n) (LD x) (Ii (KO (Ob x n) (HS n)) (HS n) (Tn x n)) (Fj x x x (HS n) n n)) (mV (Tn x n) (HS n)) (mV (Tn x m) (HS m)))) (uP (λn=>IB (CY (Yf x) (Yb x) (Og x) (Pe x) (WQ x) (IN (ABC n)) (ZI (oV n m) (nY x n (ZR x m)) (kI x n (ZR x m)) (pV (Ke x n) (Ke x m)) (Kk (HS n) (HS m)) (VH n) (VH m) (Fv (ADD n) (HS m)))) (Sz (qF x (Uc x n j)) (OZ n) (LD x) (Ii (KO (Ob x n) (HS n)) (HS n) (Tn x n)) (Fj x x x (HS n) n n)) (mV (Tn x n) (HS n)) (mV (Tn x m) (HS m)))))) (uP (λn=>Am (Af (Ey x) (ZI (Og x) (Pe x) (WQ x) (tG n m) (AJ (OZ n) (OZ m)) (VH n) (VH m) (wI n m))) (qF x (CL (HS n))) (OZ n) (YD x) (Fj x x x (dT x n) n n) (OZ j)))))))))) (Uk (ABC j) (dP x x x 5) (Lm (AWK x) (VH j) (AZQ x) (jQ (ADD j)) (AYI x) 0))))))))):=by kernel_rfl
def C_rDry:Ctr:={ α:=GB,xs:=xGB,L:=λ_=>[],val:=λx=>.tup [.d (AHZ (Du x).1),.int (Du x).2],keep:=λ_=>[],pre:=λx=>[x.g.length<1073741824/\x.b.length<1073741824] }
structure TOs where
 t:Int
 o:Span
 deriving Inhabited
def rd9(x:GB):Shape:={ α:=TOs,dflt:=default,T:=λy=>⟨[(1,.d (AZ x.b)),(4,.bptr 1000 0),(7,.d (AT (SB x.g x.b 0))),(8,.bptr 8016 0),(9,.int y.t)],[(1000,.live (.box [.int 0,.int 0])),(8016,.live (.box [.int y.o.lo,.int y.o.hi]))]⟩,inv:=λy=>(AV x=0/\Ci (SB x.g x.b 0)=true)/\dyI x y.t y.o,meas:=λy=>(2001-y.t).toNat }
def CEB(x:GB):Ann:={ ann 52 [(70,C_rAsk.spec dGB),(72,C_rIns.spec dGBI),(71,C_rPb.spec NU),(63,C_rPart.spec dIX),(84,C_rFw.spec dGT)] with loops:=λid=>if id=9 then some [rd9 x] else none }
def BZS(x:GB):Prop:=AS ZP (CEB x) Tryz.f46 (AE Tryz.f46) (xGB x) (AB []) (C_rDry.val x) [] [] []
abbrev ASF:=@Exists TOs
abbrev NA:=TOs.t
abbrev Uu:=TOs.o
abbrev AMQ:=@Eq Span
abbrev AKS:=Span.mk
abbrev kZ a:=AHW (Uu a)
abbrev oH a:=mV 2001 (NA a)
abbrev Oe a b:=(@min Int Int.instMin) (AFZ (NA a)) b
abbrev AFM a b:=Et a b 0
abbrev Kq a:=AFM (G9 a) (Eu a)
abbrev L4 a:=Us (Kq a)
abbrev xH a b:=ALH a b 0
abbrev dN a b:=xH (G9 a) (Eu b)
attribute [go_sem] ASF NA Uu AMQ AKS kZ oH Oe AFM Kq L4 xH dN
theorem CIG(x:GB):(BZS x)=(Sa (AW (Tk x x) (Sc x x) (Lz x x) (Lw x x) (KV (PO x)) (Y5 x)) (Mq x x) (Jr (Pk x) (Ng x) (Y4 x) (Mq x x)) (AO (CY (Tk x x) (Sc x x) (Lz x x) (Lw x x) Fq (KV (PO x)) (Y5 x)) (AR (AY (AFM (PO x) (PQ x))) (BJ (AFM (PO x) (PQ x))) (KV (xH (PO x) (PQ x))) (Pb (xH (PO x) (PQ x))) (Tj (λj i=>YG j i i (xH (PO x) (PQ x)) (pZ (BL (xH (PO x) (PQ x)) j) (xH (PO x) (PQ x)) i)))) (Gj (not (Us (xH (PO x) (PQ x)))) (Jr (Pk x) (Ng x) (Y4 x) 6) (ASF (λi=>BD (ZI (aG x) (Zi x) (HQ (Kq x) (AFM (PO x) (PQ x))) (EK (Kq x) (AFM (PO x) (PQ x))) (CL (NA i)) (kZ i) (-1) (Fv (Uu i) (-1))) (Ji x (L4 x)) (Cd (NA i) (KO (NA i) (yU (JY (Eu x) 0)))) (AMQ (Uu i) (AKS (Oe i (Pk x)) (Oe i (Ng x)))))) ((λ(f:TOs->Prop)=>∀(x:TOs),f x) (λi=>LZ (AO (Ji x (L4 x)) (Cd (NA i) (KO (NA i) (yU (JY (Eu x) 0)))) (AMQ (Uu i) (AKS (Oe i (Pk x)) (Oe i (Ng x))))) (AR (Lz x x) (Lw x x) (AK (NA i)) (Y5 x) HO) (FD (EP (OJ (tB (PQ x) (NA i))) (hd7 (NA i) 2000)) (S9 (AY (Kq x)) (BJ (Kq x)) (AK (NA i)) (KV (dN x x)) (Pb (dN x x)) (Tj (λk j=>YG k j j (dN x x) (pZ (BL (dN x x) k) (dN x x) j))) (BSU (λj=>And (HX j) (AID (λk=>aR k (dN x x) (Ii (KO (hd75 (tE k) (X1 j)) (APG (HM j) (Wk k))) (APG (HM j) (Wk k)) (hd75 (Qo k) (X1 j))))))) (NA i)) (HZ (OJ (NS (RP (dN x x) (NA i)))) (HZ (OJ (MV (RP (dN x x) (NA i)))) (ASF (λj=>IB (ZI (aG x) (Zi x) (BQ (Kq x)) (AP (Kq x)) (Kk (NA j) (NA i)) (kZ j) (NA i) (Fv (Uu j) (NA i))) (AO (Ji x (L4 x)) (Cd (NA j) (KO (NA j) (yU (JY (Eu x) 0)))) (AMQ (Uu j) (AKS (Oe j (Pk x)) (Oe j (Ng x))))) (oH j) (oH i))) (ASF (λj=>IB (ZI (aG x) (Zi x) (BQ (Kq x)) (AP (Kq x)) (Kk (NA j) (NA i)) (kZ j) (NA i) (pV (Uu j) (Uu i))) (AO (Ji x (L4 x)) (Cd (NA j) (KO (NA j) (yU (JY (Eu x) 0)))) (AMQ (Uu j) (AKS (Oe j (Pk x)) (Oe j (Ng x))))) (oH j) (oH i)))) (HZ (OJ (MV (RP (dN x x) (NA i)))) (ASF (λj=>IB (ZI (aG x) (Zi x) (BQ (Kq x)) (AP (Kq x)) (Kk (NA j) (NA i)) (kZ j) (kZ i) (Fv (Uu j) (NA i))) (AO (Ji x (L4 x)) (Cd (NA j) (KO (NA j) (yU (JY (Eu x) 0)))) (AMQ (Uu j) (AKS (Oe j (Pk x)) (Oe j (Ng x))))) (oH j) (oH i))) (ASF (λj=>IB (ZI (aG x) (Zi x) (BQ (Kq x)) (AP (Kq x)) (Kk (NA j) (NA i)) (kZ j) (kZ i) (pV (Uu j) (Uu i))) (AO (Ji x (L4 x)) (Cd (NA j) (KO (NA j) (yU (JY (Eu x) 0)))) (AMQ (Uu j) (AKS (Oe j (Pk x)) (Oe j (Ng x))))) (oH j) (oH i))))) (Lm (Pk x) (kZ i) (Ng x) (jQ (Uu i)) (Y4 x) 0))))))):=by kernel_rfl
def dGBw:List AVal->Heap->Option (GBw×List (Nat×Nat)×List Nat)
 |[x,y,.d t,.d u],H=>match Ht x H,Xt y H with
  |some (l,f),some (m,e)=>some (⟨⟨l,m⟩,EG t,EG u⟩,[],f ++ e)
  |_,_=>none
 |_,_=>none
def xGBw(x:GBw):List AVal:=[.d (AT x.a.g),.d (AZ x.a.b),.int x.f,.int x.t]
def C_Wid:Ctr:={ α:=GBw,xs:=xGBw,L:=λ_=>[],val:=λx=>.tup [.int (wdM x).1,.int (wdM x).2],keep:=λ_=>[],pre:=λx=>[x.a.g.length<1073741824/\x.a.b.length<1073741824] }
structure WdA where
 n:Nat
 o:Int
 r:Rt
 deriving Inhabited
def Z8(x:GBw):Nat:=(x.t-x.f+1).toNat
def wdR(x:GBw)(y:WdA):Prop:=(AV x.a=0/\G0 x=true)/\y.n<=Z8 x/\wdM x=wdS x.a (Z8 x-y.n) (x.f+y.n) y.o y.r
def rw9(x:GBw):Shape:={ α:=WdA,dflt:=default,T:=λy=>⟨[(0,.d (AT x.a.g)),(1,.d (AZ x.a.b)),(2,.int x.f),(3,.int x.t),(11,.int y.o),(12,.bptr 8000 0),(13,.int (x.f+y.n))],[(8000,.live (.box [.int y.r.n,.int y.r.d]))]⟩,inv:=λy=>(y.n=0/\y.o=x.f/\wdR x ⟨0,y.o,⟨-1,1⟩⟩/\y.r=⟨0,0⟩)∨(y.n≠0/\wdR x y),meas:=λy=>Z8 x-y.n }
def CDP(x:GBw):Ann:={ ann 87 [(70,C_rAsk.spec dGB),(56,Rw),(40,C_rFlow.spec G7),(98,Pv),(66,tY)] with loops:=λid=>if id=9 then some [rw9 x] else none }
def BYG(x:GBw):Prop:=AS ZP (CDP x) Tryz.f48 (AE Tryz.f48) (xGBw x) (AB []) (C_Wid.val x) [] [] []
abbrev OA:=GBw.a
abbrev ZW:=GBw.f
abbrev I5:=GBw.t
abbrev AMW:=@Exists WdA
abbrev cM:=WdA.o
abbrev XL:=WdA.n
abbrev VE:=WdA.r
abbrev BGL:=@Eq Rt
abbrev BFT:=@Ne Nat
abbrev CEH:=λ(f:WdA->Prop)=>∀(x:WdA),f x
abbrev BAH a:=(@Prod.snd Int Int) (wdM a)
abbrev AXK a:=(@Prod.fst Int Int) (wdM a)
abbrev aD a b:=BM (cM a) b
abbrev MP a b:=hd54 (ZW a) (BO (XL b))
abbrev Y1 a:=AK (I5 a)
abbrev Y6 a:=G9 (OA a)
abbrev Zt a:=BKN (NT a) a
abbrev Fu a:=PQ (OA a)
abbrev Gl a:=PO (OA a)
abbrev AVY a b:=GBt.mk (Gl a) (Fu a) (MP a b)
abbrev aP a b:=AQP (AVY a b)
abbrev Wu a:=PS (AWS a) (AYE a)
abbrev uS a b:=BM (BAH a) b
abbrev yA a:=CL (AXK a)
abbrev wB a b:=V0 (Gl a) (Fu b)
attribute [go_sem] OA ZW I5 AMW cM XL VE BGL BFT CEH BAH AXK aD MP Y1 Y6 Zt Fu Gl AVY aP Wu uS yA wB
theorem CJJ(x:GBw):(BYG x)=(SK (AW (xJ (Gl x) (OA x)) (tK (Gl x) (OA x)) (xE (Fu x) (OA x)) (vH (Fu x) (OA x)) (KV (Gl x)) (MB (Fu x))) (RR (wB x x)) (yA x) (uS x (wB x x)) (FD (oM (XP (ZW x)) (Lx (I5 x) (ZW x) 2000) (Oa (PS (I5 x) (ZW x)) 199)) (yA x) (uS x 4) (And (AMW (λi=>And (XY (Y6 x) (BK (AP (Y6 x)) (aG (OA x)) (Zi (OA x)) (AK (ZW x)) (Y1 x) (aD i (ZW x)) (BM (MP x i) (ZW x)) (CL (MH (VE i))) (CL (QA (VE i))))) (AHB (BD (HE (XL i)) (aD i (ZW x)) (wdR x (WdA.mk 0 (cM i) (Rz (-1)))) (BGL (VE i) (Rt.mk 0 0))) (BFT (XL i) 0) (wdR x i)))) (CEH (λi=>MO (AHB (BD (HE (XL i)) (aD i (ZW x)) (wdR x (WdA.mk 0 (cM i) (Rz (-1)))) (BGL (VE i) (Rt.mk 0 0))) (BFT (XL i) 0) (wdR x i)) (hd7 (MP x i) (I5 x)) (CY (xJ (Gl x) (OA x)) (tK (Gl x) (OA x)) (xE (Fu x) (OA x)) (vH (Fu x) (OA x)) (AK (MP x i)) (KV (Gl x)) (MB (Fu x))) (FD (RR (ADA (AVY x i))) (yA x) (uS x (ADA (AVY x i))) (TC (S4 (Q6 (Zt (aP x i))) (Zt (aP x i)) 2305843009213693952 (-2305843009213693952) (Wu (aP x i)) (Ze (Wu (aP x i)))) (JR (VS (MP x i) (ZW x)) (iX (VE i) (lV (Wu (aP x i)) (Zt (aP x i))))) (AMW (λj=>EO (XY (Y6 x) (BK (AP (Y6 x)) (aG (OA x)) (Zi (OA x)) (AK (ZW x)) (Y1 x) (aD j (MP x i)) (Kk (MP x j) (MP x i)) (Gc (VE j) (lV (Wu (aP x i)) (Zt (aP x i)))) (Fs (VE j) (lV (Wu (aP x i)) (Zt (aP x i)))))) (AHB (BD (HE (XL j)) (aD j (ZW x)) (wdR x (WdA.mk 0 (cM j) (Rz (-1)))) (BGL (VE j) (Rt.mk 0 0))) (BFT (XL j) 0) (wdR x j)) (Z8 x) (XL j) (XL i))) (AMW (λj=>EO (XY (Y6 x) (BK (AP (Y6 x)) (aG (OA x)) (Zi (OA x)) (AK (ZW x)) (Y1 x) (aD j (cM i)) (Kk (MP x j) (MP x i)) (Gc (VE j) (VE i)) (Fs (VE j) (VE i)))) (AHB (BD (HE (XL j)) (aD j (ZW x)) (wdR x (WdA.mk 0 (cM j) (Rz (-1)))) (BGL (VE j) (Rt.mk 0 0))) (BFT (XL j) 0) (wdR x j)) (Z8 x) (XL j) (XL i))))) (TN (AXK x) (cM i) (CL (BAH x)))))))):=by kernel_rfl
def wdH(x:GBw):Nat->(Int->Bool)×(Int->Int)
 |0=>(λ_=>false,λ_=>0)
 |n+1=>(WA (wdH x n).1 (KB x.a.b (x.f+n)),xG (wdH x n).1 (wdH x n).2 (KB x.a.b (x.f+n)))
def wdW(x:GBw)(n:Nat):Bk:=⟨x.a.g,x.a.b,(wdH x n).1,(wdH x n).2⟩
def wd8(x:GBw):Shape:={ α:=WdA,dflt:=default,T:=λy=>⟨[(3,.int x.t),(10,.bptr 2032 0),(12,.int y.o),(13,.bptr 7032 0),(14,.int (x.f+y.n))],bkH (wdW x y.n) 2032 2033 ++ [(7032,.live (.box [.int y.r.n,.int y.r.d]))]⟩,inv:=λy=>wdR x y,meas:=λy=>Z8 x-y.n }
def G_wd(c:Sym.Spec):List (FuncId×Sym.Spec):=[(67,c),(49,G4),(83,C_bnd.spec dBkt),(97,Pv),(86,C_more.spec d0),(121,AKL)]
def CPN(x:GBw):Ann:={ ann 93 (G_wd (C_open.spec dGB)) with loops:=λid=>if id=8 then some [wd8 x] else none }
def CMJ:Ann:={ ann 93 (G_wd (C_openX.spec dGB)) with cut:=λid=>if id=6 then some [] else none }
def CPS(x:GBw):Prop:=AS ZP (CPN x) Tryz.f47 (AE Tryz.f47) (xGBw x) (AB []) (C_Wid.val x) [] [] []
abbrev BEQ:=@Eq (Prod Int Int)
abbrev CX a b:=wdW a (XL b)
abbrev WZ a b c d:=A0 (CX a b) (MP c d)
abbrev Za a b:=O3 (CX a b) (MP a b)
abbrev Xa a:=EU (OA a)
attribute [go_sem] BEQ CX WZ Za Xa
theorem CRF(x:GBw):(CPS x)=(SK (CY (xJ (Gl x) (OA x)) (tK (Gl x) (OA x)) (xE (Fu x) (OA x)) (vH (Fu x) (OA x)) (Fz (Gl x)) (ZS (Fu x)) (CL (wB x x))) (EP ((@BEq.beq Nat (@instBEqOfDecidableEq Nat instDecidableEqNat)) 0 0) (oM (XP (ZW x)) (Lx (I5 x) (ZW x) 2000) (hd6 (PS (I5 x) (ZW x)) 200))) (yA x) (uS x 4) (And (AMW (λi=>JO (AR (Y1 x) (aD i (ZW x)) (BM (MP x i) (ZW x)) (JJ (CX x i) (Xa x)) (IY (JK (CX x i) (Xa x)) (JI (CX x i) (Xa x)) (JM (CX x i) (Xa x)) (EL (λj=>KU (bT (CX x i) j))) (LA (CX x i) (Xa x)) (λj=>DI (CX x i) j (Xa x) (λk=>CP k (CX x i) j (Xa x) (CE (BA (CX x i) j k) (BA (Xa x) j k) (BE (CX x i) j k) (BE (Xa x) j k) (CX x i) j k (BZ (Xa x) j k)))) (vG (VE i) (-1)) (fN (VE i)))) (Ji (OA x) (G0 x)) (XL i) (Z8 x) (BEQ (wdM x) (wdS (OA x) (TJ (Z8 x) (XL i)) (MP x i) (cM i) (VE i))))) (CEH (λi=>MO (EE (Ji (OA x) (G0 x)) (XL i) (Z8 x) (BEQ (wdM x) (wdS (OA x) (TJ (Z8 x) (XL i)) (MP x i) (cM i) (VE i)))) (hd7 (MP x i) (I5 x)) (DY (AK (MP x i)) (Eb (CX x i)) (Gd (CX x i)) (OL (Is (CX x i)) (CX x i)) (OX (Is (CX x i)) (CX x i)) CZ (VO (CX x i)) (Jf (MU (CX x i)) (λj=>DI (Ej (CX x i)) j (CX x i) (λk=>CP k (Ej (CX x i)) j (CX x i) (CE (BA (Ej (CX x i)) j k) (BA (CX x i) j k) (BE (Ej (CX x i)) j k) (BE (CX x i) j k) (Ej (CX x i)) j k (BZ (CX x i) j k)))) (JJ (CX x i) (WZ x i x i)) (JK (CX x i) (WZ x i x i)) (JI (CX x i) (WZ x i x i)) (JM (CX x i) (WZ x i x i)) (SF (CX x i) (Is (CX x i)) OB) (MP x i))) (FD (not (Z3 (CO (AMN (CX x i) (MP x i))))) (yA x) (uS x 6) (TC (S4 (Q6 (Zt (Za x i))) (Zt (Za x i)) 2305843009213693952 (-2305843009213693952) (Wu (Za x i)) (Ze (Wu (Za x i)))) (pF (jT (lV (Wu (Za x i)) (Zt (Za x i))) (VE i))) (AMW (λj=>Am (AR (Y1 x) (aD j (MP x i)) (Kk (MP x j) (MP x i)) (JJ (CX x j) (CX x i)) (IY (JK (CX x j) (CX x i)) (JI (CX x j) (CX x i)) (JM (CX x j) (CX x i)) (Rj (CX x j) (WZ x i x i)) (LA (CX x j) (WZ x i x i)) (λk=>DI (CX x j) k (WZ x i x i) (λl=>CP l (CX x j) k (WZ x i x i) (CE (BA (CX x j) k l) (BA (WZ x i x i) k l) (BE (CX x j) k l) (BE (WZ x i x i) k l) (CX x j) k l (BZ (WZ x i x i) k l)))) (Gc (VE j) (lV (Wu (Za x i)) (Zt (Za x i)))) (Fs (VE j) (lV (Wu (Za x i)) (Zt (Za x i)))))) (Ji (OA x) (G0 x)) (XL j) (Z8 x) (BEQ (wdM x) (wdS (OA x) (TJ (Z8 x) (XL j)) (MP x j) (cM j) (VE j))) (XL i))) (AMW (λj=>Am (AR (Y1 x) (aD j (cM i)) (Kk (MP x j) (MP x i)) (JJ (CX x j) (CX x i)) (IY (JK (CX x j) (CX x i)) (JI (CX x j) (CX x i)) (JM (CX x j) (CX x i)) (Rj (CX x j) (WZ x i x i)) (LA (CX x j) (WZ x i x i)) (λk=>DI (CX x j) k (WZ x i x i) (λl=>CP l (CX x j) k (WZ x i x i) (CE (BA (CX x j) k l) (BA (WZ x i x i) k l) (BE (CX x j) k l) (BE (WZ x i x i) k l) (CX x j) k l (BZ (WZ x i x i) k l)))) (Gc (VE j) (VE i)) (Fs (VE j) (VE i)))) (Ji (OA x) (G0 x)) (XL j) (Z8 x) (BEQ (wdM x) (wdS (OA x) (TJ (Z8 x) (XL j)) (MP x j) (cM j) (VE j))) (XL i))))) (TN (AXK x) (cM i) (CL (BAH x))))))):=by kernel_rfl
def CML(x:GBw):Prop:=AS ZP CMJ Tryz.f47 (AE Tryz.f47) (xGBw x) (AB []) (C_Wid.val x) [] [] []
theorem CSL(x:GBw):(CML x)=(SK (CY (xJ (Gl x) (OA x)) (tK (Gl x) (OA x)) (xE (Fu x) (OA x)) (vH (Fu x) (OA x)) (Fz (Gl x)) (ZS (Fu x)) (II (wB x x))) (EP (OJ (wB x x)) (oM (XP (ZW x)) (Lx (I5 x) (ZW x) 2000) (hd6 (PS (I5 x) (ZW x)) 200))) (And (yA x) (uS x 4)) HO (Al (FD (RR (wB x x)) (yA x) (uS x (wB x x)) zA))):=by kernel_rfl
theorem BLU{p n:Nat}(hn:n<1073741824)(h:p<=n)(h0:(p:Int)>0):IntKind.i64.wrap ((p:Int)-1)=((p-1:Nat):Int):=by
 rw[HL (by omega) (by omega)];omega
theorem CTE(x:GBf)(h1:x.a.g.length<1073741824)(h2:x.a.b.length<1073741824):BWV x:=by
 rw[CIZ]<;> dsimp only[go_sem];simp only[CC,CU,show GB.mk x.a.g x.a.b=x.a from rfl]
 have er:∀{n:Int},LU x=(default,n)->(LU x).1.lo=0/\(LU x).1.hi=0/\(LU x).2=n:=λ{n} e=>by rw[e];exact⟨rfl,rfl,rfl⟩
 refine⟨⟨h1,h2⟩,λhE=>er ?_,λhE=>⟨λhf=>er ?_,λhf=>⟨⟨0,rfl,⟨by simpa using hE,hf⟩,Nat.zero_le _,λj hj=>absurd hj (Nat.not_lt_zero _)⟩,λp ⟨⟨p1,p2⟩,p3,p4⟩=>⟨λhle=>⟨⟨⟨h1,h2⟩,?_,?_,aL _ _ _⟩,λhn=>er ?_,λhy=>⟨p+1,(BF (by omega)).symm,⟨⟨p1,p2⟩,by omega,λj hj=>?_⟩,by omega⟩⟩,λhgt=>⟨⟨⟨0,0,default,false⟩,⟨rfl,rfl,rfl,rfl⟩,⟨⟨CHN p1 λj hj=>p4 j (by omega),?_⟩,rfl⟩,Nat.zero_le _,⟨DBN _ _ _⟩⟩,λy ⟨⟨y1,y2⟩,y3,y4⟩=>⟨λhle2=>⟨⟨h1,h2⟩,⟨λhp=>⟨⟨by rw[BLU h2 (by omega) hp];omega,by rw[BLU h2 (by omega) hp];omega⟩,⟨y.p,0,y.o,y.m⟩,⟨rfl,rfl,rfl,λ_ _=>⟨rfl,rfl,rfl⟩,?_,rfl,rfl⟩,⟨y1,rfl,rfl⟩,by show y.p<=_;omega,y4⟩,λhp=>⟨⟨y.p,0,y.o,y.m⟩,⟨rfl,rfl,rfl,λ_ _=>⟨rfl,rfl,rfl⟩,?_,rfl,rfl⟩,⟨y1,rfl,rfl⟩,by show y.p<=_;omega,y4⟩⟩,λz ⟨⟨z1,z2,z3⟩,z4,z5⟩=>⟨⟨λhp=>⟨⟨by omega,by omega⟩,⟨z.p,0,z.o,z.m⟩,⟨rfl,rfl,rfl,λ_ _=>⟨rfl,rfl,rfl⟩,rfl,?_,rfl,rfl⟩,⟨z1,rfl,z3⟩,z4,z5⟩,λhp=>⟨⟨z.p,0,z.o,z.m⟩,⟨rfl,rfl,rfl,λ_ _=>⟨rfl,rfl,rfl⟩,rfl,?_,rfl,rfl⟩,⟨z1,rfl,z3⟩,z4,z5⟩⟩,λv ⟨⟨v1,v2,v3⟩,v4,v5⟩=>⟨⟨⟨v.p,(JY x.a.b v.p).lo,v.o,v.m⟩,⟨rfl,rfl,rfl,λ_ _=>⟨rfl,rfl,rfl⟩,rfl,rfl,rfl,rfl⟩,⟨v1,v3⟩,v4,⟨Int.le_refl _,?_⟩,?_⟩,λw ⟨⟨w1,w2⟩,w3,⟨w4,w5⟩,w6⟩=>⟨λhle3=>⟨⟨?_,?_,aL _ _ _,?_,?_⟩,λhb=>?_,λhb=>⟨λhm=>?_,λhm=>?_⟩⟩,λhgt3=>⟨⟨w.p+1,0,w.o,w.m⟩,⟨rfl,(BF (by omega)).symm,rfl,rfl⟩,⟨⟨w1,rfl⟩,by show w.p+1<=_;omega,?_⟩,by show x.a.b.length+1-(w.p+1)<_;omega⟩⟩⟩⟩⟩,λhgt2=>⟨λhm=>?_,λhm=>?_⟩⟩⟩⟩⟩⟩⟩
 ·have e:(AV x.a==0)=false:=by simpa using hE
  unfold LU;rw[e];rfl
 ·have e:(AV x.a==0)=true:=by simpa using hE
  unfold LU;rw[e,show inF x=false from hf];rfl
 ·have:=iG x.a.g x.a.b p;omega
 ·exact mR (Ts p1)
 ·exact CJG p1 p2 (by omega) hn
 ·by_cases e:j=p
  ·rw[e];exact hy
  ·exact p4 j (by omega)
 ·unfold inF JD at p2;simpa using p2
 ·rw[BLU h2 (by omega) hp,Int.toNat_natCast,R0,if_pos (show 0<y.p by omega)]
 ·rw[R0,if_neg (show ¬0<y.p by omega)]
 ·have:=z1.th.brk _ (BU (l:=x.a.b) (k:=z.p) (by omega))
  rw[AER z1.th.brk,if_pos (show z.p<x.a.b.length by omega),HL (by omega) (by omega)]
 ·rw[AER z1.th.brk,if_neg (show ¬z.p<x.a.b.length by omega)]
 ·have:=(v1.th.span v4).2.1
  show (JY x.a.b v.p).lo<=(JY x.a.b v.p).hi+1;omega
 ·show StI _ _ _ (JY x.a.b v.p).lo _ _
  rw[<-CZK (l:=x.a.g) v4];exact v5
 ·have:=iG x.a.g x.a.b w.p;omega
 ·exact mR w1.th.ok
 ·exact (BFY _ _ _).2 (w1.th.can w.p w3)
 ·have:=w1.th.span w3;exact⟨by omega,by omega⟩
 ·have hs:=w1.th.span w3
  have hn:¬uV x.a.g x.a.b x.f w.t:=λq=>by
   have e:=(AXD w1.th w1.f w3 w4 hle3).2 q
   rw[show (bif Qe (qR x.f) (RP (SB x.a.g x.a.b w.p) w.t).lo then true else Qe (RP (SB x.a.g x.a.b w.p) w.t).hi (qR x.f))=true from hb] at e;cases e
  have wt:IntKind.i64.wrap (w.t+1)=w.t+1:=HL (by omega) (by omega)
  exact⟨⟨w.p,w.t+1,w.o,w.m⟩,⟨rfl,rfl,rfl,λ_ _=>⟨rfl,rfl,rfl⟩,rfl,wt.symm,rfl,rfl⟩,⟨⟨w1,w2⟩,w3,⟨by show (JY x.a.b w.p).lo<=w.t+1;omega,by show w.t+1<=(JY x.a.b w.p).hi+1;omega⟩,⟨CDH w6.is hn⟩⟩,by show ((JY x.a.b w.p).hi+1-(w.t+1)).toNat<_;omega⟩
 ·have hs:=w1.th.span w3
  have hn:uV x.a.g x.a.b x.f w.t:=(AXD w1.th w1.f w3 w4 hle3).1 hb
  have wt:IntKind.i64.wrap (w.t+1)=w.t+1:=HL (by omega) (by omega)
  have:=BYI (by omega) w6.is hn
  rw[hm] at this
  exact⟨⟨w.p,w.t+1,⟨w.t,w.t⟩,true⟩,⟨rfl,rfl,rfl,λ_ _=>⟨rfl,rfl,rfl⟩,rfl,wt.symm,rfl,rfl⟩,⟨⟨w1,w2⟩,w3,⟨by show (JY x.a.b w.p).lo<=w.t+1;omega,by show w.t+1<=(JY x.a.b w.p).hi+1;omega⟩,⟨this⟩⟩,by show ((JY x.a.b w.p).hi+1-(w.t+1)).toNat<_;omega⟩
 ·have hs:=w1.th.span w3
  have hn:uV x.a.g x.a.b x.f w.t:=(AXD w1.th w1.f w3 w4 hle3).1 hb
  have wt:IntKind.i64.wrap (w.t+1)=w.t+1:=HL (by omega) (by omega)
  have:=BYI (by omega) w6.is hn
  rw[hm] at this
  exact⟨⟨w.p,w.t+1,⟨w.o.lo,w.t⟩,true⟩,⟨rfl,rfl,rfl,λ_ _=>⟨rfl,rfl,rfl⟩,rfl,wt.symm,rfl,rfl⟩,⟨⟨w1,w2⟩,w3,⟨by show (JY x.a.b w.p).lo<=w.t+1;omega,by show w.t+1<=(JY x.a.b w.p).hi+1;omega⟩,⟨this⟩⟩,by show ((JY x.a.b w.p).hi+1-(w.t+1)).toNat<_;omega⟩
 ·show StI _ _ _ (tP x.a.b (w.p+1)) _ _
  rw[CIT w1.th.brk w3,show (JY x.a.b w.p).hi+1=w.t by omega];exact w6
 ·have e:tP x.a.b y.p=2001:=by unfold tP;rw[if_neg (by omega),if_neg (by omega)]
  have:=y4.is
  rw[e] at this
  have E:=BSX y1.th y1.f this
  rw[hm] at E
  exact er E
 ·have e:tP x.a.b y.p=2001:=by unfold tP;rw[if_neg (by omega),if_neg (by omega)]
  have:=y4.is
  rw[e] at this
  have E:=BSX y1.th y1.f this
  rw[hm] at E
  rw[show LU x=(y.o,0) from E];exact⟨rfl,rfl,rfl⟩
theorem CJL:AH ZP 44 (C_rStg.spec dGBf):=PW C_rStg BZP [] [] Tryz.func44 (λ_=>by kernel_rfl) (λ_=>AA ACS (AA Vj (AA ABD (AA AMJ (AA BIR (AA A3 AD)))))) (λ(x:GBf) h=>CTE x h.1 h.2) (λ_=>RA rfl rfl) _
theorem CCY{x:GB}(hE:AV x=0){t:Int}(h0:0<=t):((KB x.b t:Int)=0/\t<=2000)↔t<=(JY x.b 0).hi:=by
 have hb:=WT hE
 obtain⟨s1,s2,s3,s4⟩:0<=(JY x.b 0).lo/\(JY x.b 0).lo<=(JY x.b 0).hi/\(JY x.b 0).hi<=2000/\∀m:Int,(JY x.b 0).lo<=m->m<=(JY x.b 0).hi->(KB x.b m:Int)=0:=Cb (w:=FM x) (k:=0) hb (Int.le_refl _) (Int.natCast_nonneg _)
 have z0:(JY x.b 0).lo=0:=by rw[R0];rfl
 constructor
 ·rintro⟨h1,h2⟩
  rw[AER hb.2.2.2.2]
  by_cases hl:0<x.b.length
  ·rw[if_pos hl]
   have:=(CAR (t:=t) hb.2.2.2.1).2 0 (by omega) hl
   omega
  ·rw[if_neg hl];exact h2
 ·intro h
  exact⟨s4 t (by omega) h,by omega⟩
theorem CWQ(x:GB)(h1:x.g.length<1073741824)(h2:x.b.length<1073741824):BZS x:=by
 rw[CIG]<;> dsimp only[go_sem];simp only[CC,CU,show GB.mk x.g x.b=x from rfl]
 have er:∀{n:Int},Du x=(default,n)->(Du x).1.lo=0/\(Du x).1.hi=0/\(Du x).2=n:=λ{n} e=>by rw[e];exact⟨rfl,rfl,rfl⟩
 have hl:(SB x.g x.b 0).length<1073741824:=by have:=iG x.g x.b 0;omega
 refine⟨⟨h1,h2⟩,λhE=>er ?_,λhE=>?_⟩
 ·have e:(AV x==0)=false:=by simpa using hE
  unfold Du;rw[e];rfl
 ·have hE0:AV x=0:=by simpa using hE
  have ho:∀g∈SB x.g x.b 0,IT g:=mR (Ts hE0)
  refine⟨⟨rfl,h1,h2⟩,⟨hl,ho,aL _ _ _⟩,λhn=>er ?_,λhy=>?_⟩
  ·unfold Du;rw[show (AV x==0)=true by simpa using hE,decide_eq_true (CQU hE0 (p:=0) (Nat.zero_le _) hn)];rfl
  ·obtain⟨d1,⟨d2,d3,d4⟩,d5⟩:=dry0 hE0 hy
   generalize (Du x).1=D at *
   have hs:0<=(JY x.b 0).hi/\(JY x.b 0).hi<=2000:=by
    have:=(CCY hE0 (t:=0) (Int.le_refl _))
    obtain⟨s1,s2,s3,s4⟩:0<=(JY x.b 0).lo/\(JY x.b 0).lo<=(JY x.b 0).hi/\(JY x.b 0).hi<=2000/\_:=Cb (w:=FM x) (k:=0) (WT hE0) (Int.le_refl _) (Int.natCast_nonneg _)
    omega
   refine⟨⟨⟨0,⟨-1,-1⟩⟩,⟨rfl,rfl,rfl⟩,⟨hE0,hy⟩,⟨Int.le_refl _,by show (0:Int)<=_;omega⟩,?_⟩,λy ⟨y1,⟨y2,y3⟩,y4⟩=>⟨h2,λhc=>?_,λhc=>?_⟩⟩
   ·show Span.mk (-1) (-1)=Span.mk (min (0-1) D.lo) (min (0-1) D.hi)
    rw[show min ((0:Int)-1) D.lo=-1 by omega,show min ((0:Int)-1) D.hi=-1 by omega]
   ·have hc2:(KB x.b y.t:Int)=0/\y.t<=2000:=by
     cases q:((KB x.b y.t:Int)==0) with
     |false=>rw[q] at hc;cases hc
     |true=>rw[q] at hc;exact⟨by simpa using q,of_decide_eq_true hc⟩
    have ht:=(CCY hE0 y2).1 hc2
    obtain⟨k1,k2⟩:=d5 y.t ⟨y2,ht⟩
    have wt:IntKind.i64.wrap (y.t+1)=y.t+1:=HL (by omega) (by omega)
    have fin:∀(a b:Int),a=min y.t D.lo->b=min y.t D.hi->(AV x=0/\Ci (SB x.g x.b 0)=true)/\(0<=y.t+1/\y.t+1<=(JY x.b 0).hi+1)/\Span.mk a b=Span.mk (min (y.t+1-1) D.lo) (min (y.t+1-1) D.hi):=λa b e1 e2=>⟨y1,⟨by omega,by omega⟩,by rw[e1,e2,show y.t+1-1=y.t by omega]⟩
    have elo:y.o.lo=min (y.t-1) D.lo:=by rw[y4]
    have ehi:y.o.hi=min (y.t-1) D.hi:=by rw[y4]
    have hm:(2001-(y.t+1)).toNat<(2001-y.t).toNat:=by omega
    refine⟨⟨hl,ho,aL _ _ _,(Vs ho).1 hy,y2,hc2.2⟩,λc=>⟨λd=>⟨⟨y.t+1,⟨y.t,y.t⟩⟩,⟨wt.symm,rfl,rfl⟩,fin _ _ ?_ ?_,hm⟩,λd=>⟨⟨y.t+1,⟨y.t,y.o.hi⟩⟩,⟨wt.symm,rfl,rfl⟩,fin _ _ ?_ ?_,hm⟩⟩,λc=>⟨λd=>⟨⟨y.t+1,⟨y.o.lo,y.t⟩⟩,⟨wt.symm,rfl,rfl⟩,fin _ _ ?_ ?_,hm⟩,λd=>⟨⟨y.t+1,⟨y.o.lo,y.o.hi⟩⟩,⟨wt.symm,rfl,rfl⟩,fin _ _ ?_ ?_,hm⟩⟩⟩
    ·have:=k1.2 (by simpa using c);omega
    ·have:=k2.2 (by simpa using d);omega
    ·have:=k1.2 (by simpa using c);omega
    ·have:¬y.t<=D.hi:=λq=>by have:=k2.1 q;rw[this] at d;cases d
     omega
    ·have:¬y.t<=D.lo:=λq=>by have:=k1.1 q;rw[this] at c;cases c
     omega
    ·have:=k2.2 (by simpa using d);omega
    ·have:¬y.t<=D.lo:=λq=>by have:=k1.1 q;rw[this] at c;cases c
     omega
    ·have:¬y.t<=D.hi:=λq=>by have:=k2.1 q;rw[this] at d;cases d
     omega
   ·have hn:¬y.t<=(JY x.b 0).hi:=λq=>by
     obtain⟨q1,q2⟩:=(CCY hE0 y2).2 q
     rw[show ((KB x.b y.t:Int)==0)=true by simpa using q1,decide_eq_true q2] at hc;cases hc
    have elo:y.o.lo=min (y.t-1) D.lo:=by rw[y4]
    have ehi:y.o.hi=min (y.t-1) D.hi:=by rw[y4]
    exact⟨by omega,by omega,d1⟩
theorem CKV:AH ZP 46 (C_rDry.spec dGB):=PW C_rDry CEB [] [] Tryz.func46 (λ_=>by kernel_rfl) (λ_=>AA ACS (AA ABD (AA AMJ (AA iQ (AA BIR AD))))) (λ(x:GB) h=>CWQ x h.1 h.2) (λ_=>RA rfl rfl) _
theorem BRZ{x:GBw}(h:G0 x=true):(0<=x.f/\x.f<=2000)/\(x.f<=x.t/\x.t<=2000)/\x.t-x.f<200:=by
 unfold G0 JD at h
 simp only[Bool.and_eq_true,decide_eq_true_eq] at h
 omega
theorem CIC{a:GB}{t:Int}(hE:AV a=0)(ht:0<=t/\t<=2000):EW ⟨a.g,a.b,t⟩=(bif wdN a t then 6 else 0)/\(wdN a t=false->KN ⟨a.g,a.b,t⟩=wdB a t):=by
 have e:EW ⟨a.g,a.b,t⟩=(bif wdN a t then 6 else 0):=by
  unfold EW
  rw[show AV (Pq ⟨a.g,a.b,t⟩)=0 from hE,show inT ⟨a.g,a.b,t⟩=true by unfold inT JD;simpa using ht];rfl
 refine⟨e,λh=>?_⟩
 rw[h] at e
 unfold KN;rw[e];rfl
theorem CPP{a:GB}{t:Int}(hE:AV a=0)(ht:0<=t/\t<=2000)(h:wdN a t=false):sV (wdB a t).lo/\sV (wdB a t).hi/\XE (wdB a t).lo (wdB a t).hi:=
 K2 (Bv (Ts hE)) ht λq=>by unfold wdN at h;rw[q] at h;cases h
theorem AUC{B:Bnd}(h:sV B.lo/\sV B.hi/\XE B.lo B.hi):(IntKind.i64.wrap (IntKind.i64.wrap (B.hi.n*B.lo.d)-IntKind.i64.wrap (B.lo.n*B.hi.d))=B.hi.n*B.lo.d-B.lo.n*B.hi.d/\IntKind.i64.wrap (B.hi.d*B.lo.d)=B.hi.d*B.lo.d)/\(0<B.hi.d*B.lo.d/\B.hi.d*B.lo.d<=4000000)/\0<=B.hi.n*B.lo.d-B.lo.n*B.hi.d/\B.hi.n*B.lo.d-B.lo.n*B.hi.d<=1600000000000:=by
 obtain⟨⟨⟨a1,a2⟩,a3,a4⟩,⟨⟨b1,b2⟩,b3,b4⟩,c⟩:=h
 unfold XE at c
 generalize B.lo.d=p at *
 generalize B.hi.d=q at *
 generalize B.lo.n=m at *
 generalize B.hi.n=n at *
 have e1:0<q*p:=Int.mul_pos b1 a1
 have e2:q*p<=2000*2000:=Int.le_trans (Int.mul_le_mul_of_nonneg_right b2 (Int.le_of_lt a1)) (Int.mul_le_mul_of_nonneg_left a2 (by omega))
 have e3:n*p<=400000000*2000:=Int.le_trans (Int.mul_le_mul_of_nonneg_right (show n<=400000000 by omega) (Int.le_of_lt a1)) (Int.mul_le_mul_of_nonneg_left a2 (by omega))
 have e4:0<=m*q:=Int.mul_nonneg a3 (Int.le_of_lt b1)
 have e5:0<=n*p:=Int.mul_nonneg b3 (Int.le_of_lt a1)
 rw[HL (n:=n*p) (by omega) (by omega),HL (n:=m*q) (by omega) (by omega),HL (n:=n*p-m*q) (by omega) (by omega),HL (n:=q*p) (by omega) (by omega)]
 exact⟨⟨rfl,rfl⟩,⟨e1,by omega⟩,by omega,by omega⟩
theorem BUW{B:Bnd}(h:sV B.lo/\sV B.hi/\XE B.lo B.hi):Qe ⟨-1,1⟩ (Ya B)=true:=by
 obtain⟨_,⟨h1,h2⟩,h3,h4⟩:=AUC h
 have hd:=U4 (n:=B.hi.n*B.lo.d-B.lo.n*B.hi.d) h1
 have hv:=jU (n:=B.hi.n*B.lo.d-B.lo.n*B.hi.d) h1
 have hn:=BNC (n:=B.hi.n*B.lo.d-B.lo.n*B.hi.d) (d:=B.hi.d*B.lo.d)
 have e:(Ya B)=El (B.hi.n*B.lo.d-B.lo.n*B.hi.d) (B.hi.d*B.lo.d):=rfl
 rw[<-e] at hd hv hn
 have hp:0<=(Ya B).n:=Classical.byContradiction λhc=>by
  have q1:=Int.mul_le_mul_of_nonneg_right (show (Ya B).n <= -1 by omega) (Int.le_of_lt h1)
  have q2:=Int.mul_nonneg h3 (Int.le_of_lt hd.1)
  omega
 unfold Qe
 show decide (wr (-1*(Ya B).d)<wr ((Ya B).n*1))=true
 generalize Ya B=w at *
 generalize B.hi.n*B.lo.d-B.lo.n*B.hi.d=N at *
 rw[Int.mul_one,show wr (-1*w.d)=-1*w.d from HL (by omega) (by omega),show wr w.n=w.n from HL (by omega) (by omega),decide_eq_true_eq]
 omega
theorem BPI{x:GBw}{y:WdA}(h:wdR x y)(hn:x.f+(y.n:Int)<=x.t):y.n<Z8 x/\(0<=x.f+(y.n:Int)/\x.f+(y.n:Int)<=2000)/\(wdN x.a (x.f+y.n)=true->wdM x=(0,6))/\(wdN x.a (x.f+y.n)=false->(Qe y.r (Ya (wdB x.a (x.f+y.n)))=true->wdR x ⟨y.n+1,x.f+y.n,Ya (wdB x.a (x.f+y.n))⟩)/\(Qe y.r (Ya (wdB x.a (x.f+y.n)))=false->wdR x ⟨y.n+1,y.o,y.r⟩)):=by
 obtain⟨⟨h1,h2⟩,h3,h4⟩:=h
 have hi:=BRZ h2
 have hC:Z8 x=(x.t-x.f+1).toNat:=rfl
 have hlt:y.n<Z8 x:=by omega
 obtain⟨m,hm⟩:∃m,Z8 x-y.n=m+1:=⟨Z8 x-y.n-1,by omega⟩
 have hm2:Z8 x-(y.n+1)=m:=by omega
 have ek:x.f+((y.n+1:Nat):Int)=x.f+(y.n:Int)+1:=by omega
 rw[hm] at h4;unfold wdS at h4
 refine⟨hlt,⟨by omega,by omega⟩,λq=>?_,λq=>⟨λc=>⟨⟨h1,h2⟩,by show y.n+1<=_;omega,?_⟩,λc=>⟨⟨h1,h2⟩,by show y.n+1<=_;omega,?_⟩⟩⟩
 ·rw[h4,q];rfl
 ·show wdM x=wdS x.a (Z8 x-(y.n+1)) (x.f+((y.n+1:Nat):Int)) _ _
  rw[hm2,ek,h4,q,c];rfl
 ·show wdM x=wdS x.a (Z8 x-(y.n+1)) (x.f+((y.n+1:Nat):Int)) _ _
  rw[hm2,ek,h4,q,c];rfl
theorem BWX{x:GBw}{y:WdA}(h:wdR x y)(hn:¬x.f+(y.n:Int)<=x.t):wdM x=(y.o,0):=by
 obtain⟨⟨h1,h2⟩,h3,h4⟩:=h
 have hi:=BRZ h2
 have hC:Z8 x=(x.t-x.f+1).toNat:=rfl
 rw[h4,show Z8 x-y.n=0 by omega];rfl
theorem BEK{x:GBw}(hE:AV x.a=0)(h:G0 x=true):wdR x ⟨0,x.f,⟨-1,1⟩⟩:=by
 refine⟨⟨hE,h⟩,Nat.zero_le _,?_⟩
 unfold wdM
 rw[hE,h]
 show wdS x.a (Z8 x) x.f x.f _=wdS x.a (Z8 x-0) (x.f+((0:Nat):Int)) x.f _
 rw[Nat.sub_zero,show x.f+((0:Nat):Int)=x.f by omega]
theorem BQK{x:GBw}{n:Int}(hn:n=199∨n=199):(bif bif !JD x.f 0 2000 then true else !JD x.t x.f 2000 then true else decide (IntKind.i64.wrap (x.t-x.f)>n))=!G0 x:=by
 have hn:n=199:=by omega
 subst hn
 unfold G0
 cases h1:JD x.f 0 2000 with
 |false=>rfl
 |true=>
  cases h2:JD x.t x.f 2000 with
  |false=>rfl
  |true=>
   unfold JD at h1 h2
   simp only[Bool.and_eq_true,decide_eq_true_eq] at h1 h2
   show decide (IntKind.i64.wrap (x.t-x.f)>199)=!decide (x.t-x.f<200)
   rw[HL (by omega) (by omega)]
   by_cases c:x.t-x.f<200
   ·rw[decide_eq_true c,decide_eq_false (by omega)];rfl
   ·rw[decide_eq_false c,decide_eq_true (by omega)];rfl
theorem CUT(x:GBw)(h1:x.a.g.length<1073741824)(h2:x.a.b.length<1073741824):BYG x:=by
 rw[CJJ]<;> dsimp only[go_sem];simp only[CC,CU,show GB.mk x.a.g x.a.b=x.a from rfl,BQK (x:=x) (n:=199) (.inl rfl)]
 refine⟨⟨h1,h2⟩,λhE=>?_,λhE=>⟨λhc=>?_,λhc=>?_⟩⟩
 ·have e:wdM x=(0,AV x.a):=by unfold wdM;rw[show (AV x.a==0)=false by simpa using hE];rfl
  rw[e];exact⟨rfl,rfl⟩
 ·have e:wdM x=(0,4):=by unfold wdM;rw[show (AV x.a==0)=true by simpa using hE,show G0 x=false by simpa using hc];rfl
  rw[e];exact⟨rfl,rfl⟩
 ·have hE0:AV x.a=0:=by simpa using hE
  have hw:G0 x=true:=by simpa using hc
  refine⟨⟨⟨0,x.f,⟨0,0⟩⟩,⟨rfl,by show x.f+((0:Nat):Int)=x.f;omega,rfl,rfl⟩,.inl ⟨rfl,rfl,BEK hE0 hw,rfl⟩⟩,λy hy=>?_⟩
  -- what the program's own loop has here
  obtain⟨z,hz,zn,zo,zf,zr⟩:∃z:WdA,wdR x z/\z.n=y.n/\z.o=y.o/\(y.n=0->z.r=⟨-1,1⟩)/\(y.n≠0->z.r=y.r):=by
   rcases hy with⟨a1,a2,a3,a4⟩ | ⟨a1,a2⟩
   ·exact⟨⟨0,y.o,⟨-1,1⟩⟩,a3,a1.symm,rfl,λ_=>rfl,λq=>absurd a1 q⟩
   ·exact⟨y,a2,rfl,rfl,λq=>absurd q a1,λ_=>rfl⟩
  have hi:=BRZ hw
  refine⟨λhle=>?_,λhgt=>?_⟩
  ·obtain⟨n1,n2,n3,n4⟩:=BPI hz (by rw[zn];exact hle)
   rw[zn] at n1 n2 n3 n4
   obtain⟨f1,f2⟩:=CIC hE0 n2
   have ek:x.f+((y.n+1:Nat):Int)=IntKind.i64.wrap (x.f+(y.n:Int)+1):=by rw[HL (by omega) (by omega)];omega
   cases q:wdN x.a (x.f+y.n) with
   |true=>
    rw[q] at f1
    have f1:EW ⟨x.a.g,x.a.b,x.f+y.n⟩=6:=f1
    rw[f1,n3 q]
    exact⟨⟨h1,h2⟩,λ_=>⟨rfl,rfl⟩,λc=>(by cases c)⟩
   |false=>
    rw[q] at f1
    have f1:EW ⟨x.a.g,x.a.b,x.f+y.n⟩=0:=f1
    have hk:=CPP hE0 n2 q
    obtain⟨⟨w1,w2⟩,w3,w4⟩:=AUC hk
    obtain⟨g1,g2⟩:=n4 q
    rw[f1,f2 q,w1,w2]
    refine⟨⟨h1,h2⟩,λc=>(by cases c),λ_=>⟨⟨w3.1,by omega,by omega,by omega⟩,λc=>⟨⟨y.n+1,x.f+y.n,Ya (wdB x.a (x.f+y.n))⟩,⟨rfl,ek,rfl,rfl⟩,.inr ⟨Nat.succ_ne_zero _,g1 ?_⟩,by show Z8 x-(y.n+1)<_;omega⟩,λc=>?_⟩⟩
    ·by_cases e0:y.n=0
     ·rw[zf e0];exact BUW hk
     ·rw[zr e0]
      rw[show (x.f+(y.n:Int)==x.f)=false by rw[beq_eq_false_iff_ne];omega] at c
      exact c
    ·have e0:y.n≠0:=λe0=>by
      rw[show (x.f+(y.n:Int)==x.f)=true by rw[beq_iff_eq];omega] at c;cases c
     rw[show (x.f+(y.n:Int)==x.f)=false by rw[beq_eq_false_iff_ne];omega] at c
     have:=g2 (by rw[zr e0];exact c)
     rw[zo,zr e0] at this
     exact⟨⟨y.n+1,y.o,y.r⟩,⟨rfl,ek,rfl,rfl⟩,.inr ⟨Nat.succ_ne_zero _,this⟩,by show Z8 x-(y.n+1)<_;omega⟩
  ·have:=BWX hz (by rw[zn];exact hgt)
   rw[this,zo];exact⟨rfl,rfl⟩
theorem CJP:AH ZP 48 (C_Wid.spec dGBw):=PW C_Wid CDP [] [] Tryz.func48 (λ_=>by kernel_rfl) (λ_=>AA ACS (AA Vj (AA AOP (AA BAC (AA A3 AD))))) (λ(x:GBw) h=>CUT x h.1 h.2) (λ_=>RA rfl rfl) _
theorem CFL{w r:Rt}:jT w r>0↔Qe r w=true:=by
 unfold jT Qe;rw[BWP,decide_eq_true_eq]
theorem CCU{x:GBw}:(bif bif !JD x.f 0 2000 then true else !JD x.t x.f 2000 then true else decide (IntKind.i64.wrap (x.t-x.f)>=200))=!G0 x:=by
 have e:decide (IntKind.i64.wrap (x.t-x.f)>=200)=decide (IntKind.i64.wrap (x.t-x.f)>199):=by rw[decide_eq_decide];omega
 rw[e];exact BQK (.inl rfl)
theorem DBM(x:GBw)(h1:x.a.g.length<1073741824)(h2:x.a.b.length<1073741824)(hE:AV x.a=0):CPS x:=by
 rw[CRF]<;> dsimp only[go_sem];simp only[CC,CU,XS,Fe,sK,sJ,Fh,if_true,show GB.mk x.a.g x.a.b=x.a from rfl,CCU]
 refine⟨⟨by omega,by omega,hE⟩,λhc=>?_,λhc=>⟨⟨⟨0,x.f,⟨-1,1⟩⟩,⟨rfl,by show x.f+((0:Nat):Int)=x.f;omega,rfl,λ_ _=>⟨rfl,rfl,rfl⟩,rfl,λ_ _=>rfl,λ_=>rfl,λ_=>rfl,λ_=>⟨rfl,λ_ _=>⟨rfl,rfl,rfl,rfl⟩⟩,rfl,rfl⟩,BEK hE (by simpa using hc)⟩,λy hy=>⟨λhle=>?_,λhgt=>?_⟩⟩⟩
 ·have hc:G0 x=false:=by simpa using hc
  have e:wdM x=(0,4):=by unfold wdM;rw[hE,hc];rfl
  rw[e];exact⟨rfl,rfl⟩
 ·have hw:G0 x=true:=by simpa using hc
  have hi:=BRZ hw
  obtain⟨n1,n2,n3,n4⟩:=BPI hy hle
  have ek:x.f+((y.n+1:Nat):Int)=IntKind.i64.wrap (x.f+(y.n:Int)+1):=by rw[HL (by omega) (by omega)];omega
  have eB:bndM (lB (BkT.mk (wdW x y.n) (x.f+y.n))) (x.f+y.n)=wdB x.a (x.f+y.n):=rfl
  have eL:wdN x.a (x.f+y.n)=decide ((lB (BkT.mk (wdW x y.n) (x.f+y.n))).length=0):=rfl
  have hk:=CPP hE n2
  have eW:∀n:Int,(wdW x (y.n+1)).has n=(C3 (wdW x y.n) (kB (BkT.mk (wdW x y.n) (x.f+y.n)))).has n:=λ_=>rfl
  generalize lB (BkT.mk (wdW x y.n) (x.f+y.n))=L at *
  rw[eB]
  cases q:wdN x.a (x.f+y.n) with
  |true=>
   rw[q] at eL
   have h0:L.length=0:=of_decide_eq_true eL.symm
   exact⟨⟨WT hE,n2⟩,λ_=>(by rw[n3 q];exact⟨rfl,rfl⟩),λh=>absurd h0 h⟩
  |false=>
   rw[q] at eL
   have h0:¬L.length=0:=of_decide_eq_false eL.symm
   have hk:=hk q
   obtain⟨⟨w1,w2⟩,w3,w4⟩:=AUC hk
   obtain⟨g1,g2⟩:=n4 q
   rw[w1,w2]
   exact⟨⟨WT hE,n2⟩,λh=>absurd h0 h,λ_=>⟨⟨w3.1,by omega,by omega,by omega⟩,λc=>⟨⟨y.n+1,x.f+y.n,Ya (wdB x.a (x.f+y.n))⟩,⟨rfl,ek,rfl,λ_ _=>⟨rfl,rfl,rfl⟩,rfl,λ_ _=>rfl,λ_=>rfl,λ_=>rfl,λ_=>⟨rfl,λ_ _=>⟨rfl,rfl,rfl,rfl⟩⟩,rfl,rfl⟩,g1 (CFL.1 c),by show Z8 x-(y.n+1)<_;omega⟩,λc=>⟨⟨y.n+1,y.o,y.r⟩,⟨rfl,ek,rfl,λ_ _=>⟨rfl,rfl,rfl⟩,rfl,λ_ _=>rfl,λ_=>rfl,λ_=>rfl,λ_=>⟨rfl,λ_ _=>⟨rfl,rfl,rfl,rfl⟩⟩,rfl,rfl⟩,g2 (by
    cases e:Qe y.r (Ya (wdB x.a (x.f+y.n))) with
    |false=>rfl
    |true=>exact absurd (CFL.2 e) c),by show Z8 x-(y.n+1)<_;omega⟩⟩⟩
 ·have:=BWX hy hgt
  rw[this];exact⟨rfl,rfl⟩
theorem CZZ(x:GBw)(h1:x.a.g.length<1073741824)(h2:x.a.b.length<1073741824)(hE:AV x.a≠0):CML x:=by
 rw[CSL]<;> dsimp only[go_sem];simp only[CC,CU,show GB.mk x.a.g x.a.b=x.a from rfl]
 have e0:(AV x.a==0)=false:=by simpa using hE
 rw[e0]
 refine⟨⟨by omega,by omega,hE⟩,λhc=>(by cases hc),λ_=>⟨λ_=>?_,λhc=>?_⟩⟩
 ·have e:wdM x=(0,AV x.a):=by unfold wdM;rw[e0];rfl
  rw[e];exact⟨rfl,rfl⟩
 ·exact hE (by simpa using hc)
theorem CVP:AH ZP 47 (C_Wid.spec dGBw):=Ctr.spec_ok (C:=C_Wid) (λ(x:GBw) h=>by
 have h:x.a.g.length<1073741824/\x.a.b.length<1073741824:=h
 by_cases hE:AV x.a=0
 ·exact WP (A:=CPN x) (L:=[]) (keep:=[]) (ren:=[]) (fz:=[]) Tryz.func47 (by kernel_rfl) (AA C4 (AA aH (AA oO (AA AQX (AA F9 (AA AQV AD)))))) (DBM x h.1 h.2 hE)
 ·exact WP (A:=CMJ) (L:=[]) (keep:=[]) (ren:=[]) (fz:=[]) Tryz.func47 (by kernel_rfl) (AA yY (AA aH (AA oO (AA AQX (AA F9 (AA AQV AD)))))) (CZZ x h.1 h.2 hE)) _
end Go.Bal
