/- Package level: worked, open, opened, agreed, asked, Between: nets that agree. -/
import Derived.Test.YtlblbbidigejkaaGreatYeB
set_option linter.unusedVariables false
set_option linter.unusedSimpArgs false
set_option maxRecDepth 8000
namespace Go.Bal.DL
open Go Go.Sym Go.Proofs
theorem q4:Int.toNat 0=0:=rfl
theorem q5:Int.toNat 1=1:=rfl
theorem q6:Int.toNat 2=2:=rfl
end Go.Bal.DL
namespace Go.Bal
open Go Go.Sym Go.Proofs
def iniB(a:Nat)(g:Nat->Int):Nat->Nat->Int
 |0=>g
 |b+1=>putA (Tg a b) MX (iniB a g b)
def iniA:Nat->Nat->Int
 |0=>λ_=>0
 |a+1=>putA (Tg a a) 0 (iniB a (iniA a) 3)
def wrkK(l:List Lin):Nat->Nat->Int
 |0=>iniA 3
 |k+1=>filM l k (wrkK l k)
def Fu(l:List Lin):Nat->Int:=wrkK l 3
structure WkS where
 a:Nat
 b:Nat
 g:Nat->Int
 deriving Inhabited
def wkH(l:List Lin)(g:Nat->Int):List (Nat×HCell):=[(1000,.live (netB l)),(2032,.live (svO l g))]
def wk3(l:List Lin):Shape:={ α:=WkS,dflt:=default,T:=λy=>⟨[(1,.bptr 1000 0),(3,.bptr 2032 0),(11,.int 3),(12,.int y.a)],wkH l y.g⟩,inv:=λy=>y.a<=3/\y.g=iniA y.a,meas:=λy=>3-y.a }
def wk6(l:List Lin)(q:Nat):Shape:={ α:=WkS,dflt:=default,T:=λy=>⟨[(1,.bptr 1000 0),(3,.bptr 2032 0),(4,.int y.a),(11,.int 3),(12,.int y.a),(16,.int 3),(17,.int y.b)],wkH l y.g⟩,inv:=λy=>(y.a<3/\3-y.a=q)/\y.b<=3/\y.g=iniB y.a (iniA y.a) y.b,meas:=λy=>3-y.b }
def wk13(l:List Lin):Shape:={ α:=WkS,dflt:=default,T:=λy=>⟨[(3,.bptr 2032 0),(37,.int 3),(38,.int y.a)],[(2032,.live (svO l y.g))]⟩,inv:=λy=>y.a<=3/\y.g=wrkK l y.a,meas:=λy=>3-y.a }
def okNt(l:List Lin):Prop:=l.length<=30/\l.all WA=true
noncomputable def CHQ(l:List Lin):Ann:={ ann 46 [(157,C_lFill.spec d_la)] with inner:=λgs id=>if id=3 then some [wk3 l] else if id=6 then some [wk6 l (gs.getD 0 0)] else if id=13 then some [wk13 l] else none }
def C_lWkd:Ctr:={ α:=List Lin,xs:=λl=>[.d (eNet l)],L:=λ_=>[],val:=λ_=>.bptr 0 0,keep:=λl=>[(0,.live (svO l (Fu l)))],pre:=λl=>[okNt l] }
def BYW(l:List Lin):Prop:=AS ZP (CHQ l) Tryz.f143 (AG Tryz.f143) (C_lWkd.xs l) (AC []) (C_lWkd.val l) (C_lWkd.keep l) [(0,2032)] []
abbrev ANP:=@Exists WkS
abbrev HH:=WkS.a
abbrev bC:=WkS.g
abbrev BTT:=λ(f:WkS->Prop)=>∀(x:WkS),f x
abbrev Sx:=WkS.b
abbrev eO a b:=CCU (bC a) b
abbrev rL a:=GT (BTZ a AFJ)
abbrev ABL a:=iniA (HH a)
abbrev ABH a b:=K3 a b a
attribute [go_sem] ANP HH bC BTT Sx eO rL ABL ABH
theorem CPY(l:List Lin):(BYW l)=(And (ANP (λi=>CV AW (Zp (BC (HH i)) AW (TU l) (AE (λj=>Zz j l j l j)) AW (TU l) CQ (AE (λj=>AYO l j (BZ (bC i j))))) (tP (HH i)) (eO i (ABL i)))) (BTT (λi=>Ck (VU (HH i) 3 (eO i (ABL i))) (HH i) 3 (ANP (λj=>AO (AVU (AT (HH j) (HH i)) AW (Zp (BC (Sx j)) AW (TU l) (AE (λk=>Zz k l k l k)) AW (TU l) CQ (AE (λk=>Ty l k (bC j k) (bC i k))))) (And (aI (HH j)) (zS (HH j) (HH i))) (tP (Sx j)) (eO j (iniB (HH j) (ABL j) (Sx j))))) (BTT (λj=>Ck (L2 (HH j) (HH i) (tP (Sx j)) (eO j (iniB (HH j) (ABL j) (Sx j)))) (Sx j) 3 (AO (Mh (HH j)) (Mh (Sx j)) (DC (fE l) (yJ (Sx j) (HH j))) (ADB (yJ (Sx j) (HH j)) l)) (ANP (λk=>EO (AVU (AT (HH k) (HH j)) AW (Zp (AR (Sx k) (Sx j)) AW (TU l) (AE (λm=>Zz m l m l m)) AW (TU l) CQ (AE (λm=>Ty l m (bC k m) (vE (BFY m (K3 (Sx j) YM (HH j))) 1099511627776 (bC j m)))))) (L2 (HH k) (HH i) (tP (Sx k)) (eO k (iniB (HH k) (ABL k) (Sx k)))) 3 (Sx k) (Sx j))) (And (AHY (Mh (HH j)) (DC (fE l) (ABH (HH j) 2)) (ADB (ABH (HH j) 2) l)) (ANP (λk=>IK (And AW (Zp (AR (HH k) (HH j)) AW (TU l) (AE (λm=>Zz m l m l m)) AW (TU l) CQ (AE (λm=>Ty l m (bC k m) (vE (BFY m (ABH (HH j) YM)) 0 (bC j m)))))) (HH k) 3 (eO k (ABL k)) (HH i)))))) (And (ANP (λj=>DK (VM AW (BC (HH j)) AW (TU l) (AE (λk=>Zz k l k l k)) CQ (AE (λk=>Ty l k (bC j k) (bC i k)))) (HH j) 3 (eO j (wrkK l (HH j))))) (BTT (λj=>Ck (VU (HH j) 3 (eO j (wrkK l (HH j)))) (HH j) 3 (DY (BY (HH j)) AW (YN l) (λk=>Ub k l (GF l k) k k) CQ (AE (λk=>Ry (IN l) k (bC j k))) (aI (HH j)) (DC (LO l) 30) (rL (IN l))) (ANP (λk=>IK (VM AW (AR (HH k) (HH j)) AW (Qh l) (AE (λm=>Tz m l (eG (Fb l m) (GF l m) l m))) CQ (AE (λm=>Ty l m (bC k m) (filM (IN l) (HH j) (bC j) m)))) (HH k) 3 (eO k (wrkK l (HH k))) (HH j))) (aH (TU l) (λk=>Zz k l k l k) (λk=>Ty l k (Fu l k) (bC j k))))))))):=by kernel_rfl
structure LgN where
 l:List Lin
 g:Nat->Int
def CSY:List AVal->Heap->Option (LgN×List (Nat×Nat)×List Nat)
 |[.bptr id _],H=>match H id with
  | .live (.nbox [_,.list _ n f _] _ _ g)=>some (⟨HQ n λj=>dLin (f j),g⟩,[(100,id)],[])
  |_=>none
 |_,_=>none
def noOp(l:List Lin)(g:Nat->Int):Prop:=(∀m,m<3->0<=g (Tg m m))/\∀(f m i:Nat) (b:Bool),f<3->m<3->i<l.length->lsM (gD l i) b=(m:Int)->g (Tg f m)<MX->¬wr (g (Tg f m)+R9 (gD l i) b)<g (Tg f (goM (gD l i) b).toNat)
structure OpS where
 m:Nat
 i:Nat
 j:Nat
 deriving Inhabited
def opH(x:LgN):List (Nat×HCell):=[(100,.live (svO x.l x.g)),(1000,.live (.box [.bptr 100 0])),(1016,.live (.box [.bool false]))]
def op2(x:LgN):Shape:={ α:=OpS,dflt:=default,T:=λy=>⟨[(1,.bptr 1000 0),(2,.bptr 1016 0),(10,.int 3),(11,.int y.m)],opH x⟩,inv:=λy=>y.m<=3,meas:=λy=>3-y.m }
def opI(x:LgN)(m:Nat):List (Nat×HCell):=opH x ++ [(4016,.live (.box [.int m])),(5032,.live (.box [.bptr 100 0])),(5033,.live (.box [.int m]))]
def opT(x:LgN)(lp i:Nat):List (Nat×AVal):=[(0,.fn (.yield lp) [] []),(1,.bptr 5032 0),(2,.bptr 5033 0),(12,.int x.l.length),(13,.int i)]
def op1(x:LgN)(lp p:Nat):Shape:={ α:=OpS,dflt:=default,T:=λy=>⟨opT x lp y.i,opI x y.m⟩,inv:=λy=>(y.m<3/\3-y.m=p)/\y.i<=x.l.length,meas:=λy=>x.l.length-y.i }
def op4(x:LgN)(r lp p:Nat):Shape:={ α:=OpS,dflt:=default,T:=λy=>⟨opT x lp y.i ++ [(20,.own 200 2 0 2),(21,.int 2),(22,.int y.j)],opI x y.m ++ [(200,.live (fiL y.i))]⟩,inv:=λy=>((y.m<3/\3-y.m=p)/\y.i<x.l.length/\x.l.length-y.i=r)/\y.j<=2,meas:=λy=>2-y.j,first:=[(200,104064)] }
noncomputable def itOp(x:LgN):IterAnn:={ fn:=Tryz.f158,code:=AG Tryz.f158,live:=[1,2,3,10,11],ann:={ base:=λid=>100000+1000*(id+1),Γ:=Sym.look [(159,C_lStart.spec d_lg)],E:=[100,1000,1016,4016,5032,5033],n:=39,yd:=λid=>if id=6 then some 8 else none,inner:=λgs id=>if id=1 then some [op1 x (gs.getD 0 0) (gs.getD 1 0)] else if id=4 then some [op4 x (gs.getD 0 0) (gs.getD 1 0) (gs.getD 2 0)] else none } }
noncomputable def BRW(x:LgN):Ann:={ ann 71 [(144,C_lLegs.spec d_lm),(145,C_lRise.spec d_lg),(146,C_lGoal.spec d_lg)] with E:=[100],unr:=λid=>if id=7 then 4 else 0,iter:=λg=>if g=158 then some (itOp x) else none,inner:=λgs id=>if id=2 then some [op2 x] else none }
def C_lOpen:Ctr:={ ro:=[100],α:=LgN,xs:=λ_=>[.bptr 100 0],L:=λx=>[(100,svO x.l x.g)],val:=λ_=>.bool false,keep:=λx=>[(100,.live (svO x.l x.g))],pre:=λx=>[okNt x.l,noOp x.l x.g] }
def BUR(x:LgN):Prop:=AS ZP (BRW x) Tryz.f126 (AG Tryz.f126) (C_lOpen.xs x) (AC (C_lOpen.L x)) (C_lOpen.val x) (C_lOpen.keep x) [] []
abbrev AME:=@Exists OpS
abbrev FG:=OpS.m
abbrev KZ:=LgN.l
abbrev BSW:=λ(f:OpS->Prop)=>∀(x:OpS),f x
abbrev GJ:=OpS.i
abbrev Ny:=OpS.j
abbrev AAX a b:=AE (λi=>Ry a i (LgN.g b i))
abbrev YR a:=AAX (KZ a) a
abbrev Uy a b:=Nu (KZ a) b
abbrev Pd a b c d:=pP a (KZ b) (Uy c d)
abbrev Pa a:=TU (KZ a)
abbrev M9 a:=Mh (FG a)
abbrev KT a:=Xk (KZ a)
abbrev API a b c d:=LgN.g a (K3 b c d)
abbrev XX a:=not (AOY (Ny a))
abbrev Ur a b:=GF (KZ a) b
abbrev Hs a b:=Ur a (GJ b)
abbrev AOP a b c:=API a (FG b) YM c
abbrev ANO a b c:=cT (AOP a b c) 1099511627776
abbrev ALG a b c d e f g h:=AP a b c d e e f g h
abbrev BSD a b c d e f g:=ALG a b c d e b f g
abbrev O3 a b c d:=RN (ANO a b c) d
abbrev Rp a b c d:=O3 a b (qX c) d
abbrev gN a b:=AIE (KZ a) b
attribute [go_sem] AME FG KZ BSW GJ Ny AAX YR Uy Pd Pa M9 KT API XX Ur Hs AOP ANO ALG BSD O3 Rp gN
theorem CBH(x:LgN):(BUR x)=(And (AME (λi=>EM AW (LZ (BC (FG i)) Nh (CB (Pa x) (AE (λj=>Pd j x x j)) CQ (YR x) Vo)) (MH (FG i) 3))) (BSW (λi=>Ck (MH (FG i) 3) (FG i) 3 (KD (AZ (FG i)) Nh (BU (Iw (KZ x) (KT x)) (AE (λj=>Az j (KZ x) (Ur x j) (Uy x j))) CQ (AAX (IN (KZ x)) x) AW (Qs (KT x) (KZ x)) (λj=>Im j (KZ x) (Uy x j) (Ur x j)) CQ (YR x))) (AE (λj=>And (AME (λk=>AQ (LZ (FX j) (AZ (KT x)) (B9 (BC (GJ k)) AW (Pa x) (AE (λl=>Pd l x x l)) CQ (YR x) Vo (AT (FG k) (FG i)))) (And (aI (FG k)) (zS (FG k) (FG i))) (DC (GJ k) (KT x)))) (BSW (λk=>Mm (EM (aI (FG k)) (zS (FG k) (FG i)) (DC (GJ k) (KT x))) (GJ k) (KT x) (AME (λl=>AQ (AP (FX j) (BY (KT x)) (AT (GJ l) (GJ k)) AB GI Ce (BC (Ny l)) AW (Ec (Pa x) (AE (λm=>Pd m x x m)) CQ (YR x) Vo (AT (FG l) (FG k)) GI (AE (λm=>kJ m 2 (TO (GJ l) (MW m (AZ (GJ k)) (AZ (GJ k)))) (Sr (not (Hw m)) (hd5 (Hw m) P8 Fa)))))) (L2 (FG l) (FG i) (OB (GJ l) (KT x)) (UI (KT x) (GJ l) (GJ k))) (A4 (Ny l)))) (BSW (λl=>Is (And (L2 (FG l) (FG i) (OB (GJ l) (KT x)) (UI (KT x) (GJ l) (GJ k))) (A4 (Ny l))) (RL (Ny l) 2) (AO (CL (Ny l) 2) (FI (AJ (Ny l)) 2) (BW (BY (GJ l)) (WI (XX l)) AW (Iw (KZ x) (KT x)) (AE (λm=>Az m (KZ x) (Ur x m) (Uy x m))) (E9 CQ (AAX (IN (KZ x)) x) AW (Qs (KT x) (KZ x)) (AE (λm=>Im m (KZ x) (Uy x m) (Ur x m))) (YR x) (ABA (GJ l)) (Uz (GJ l) (LO (KZ x))))) (BAU (wP (lsM (Hs x l) (XX l)) (AZ (FG l))) (AO (AWT (TD EB (GT (wP (lsM (Hs x l) (XX l)) (AZ (FG l)))))) (BI j) (CV YV (Gf 13) (M9 l) (BSD (gN x (hJ (FG l))) (O3 x l 0 (And YV (Gf 13))) (O3 x l 0 (M9 l)) (O3 x l 0 (gN x (hJ (FG l)))) (O3 x l 0 (BW (BY (GJ l)) (WI (XX l)) AW (Iw (KZ x) (KT x)) (AE (λm=>Az m (KZ x) (Ur x m) (Uy x m))) (E9 CQ (AAX (IN (KZ x)) x) AW (Qs (KT x) (KZ x)) (AE (λm=>Im m (KZ x) (Uy x m) (Ur x m))) (YR x) (ABA (GJ l)) (Uz (GJ l) (LO (KZ x)))))) (O3 x l 0 (jM (goM (Hs x l) (XX l)))) (O3 x l 0 (gN x (hJ (cG (Hs x l) (XX l))))))) (iM (IC (ANO x l 0) (cT (CP (AOP x l 0) (R9 (Hs x l) (XX l))) (API x (cG (Hs x l) (XX l)) YM 0))) (GT P8) (X9 (Pa x) (λm=>Pd m x x m) (YR x)) (AQ (jM SK) (M9 l) (BSD (gN x (JM (FG l) 15)) (Rp x l 0 (jM SK)) (Rp x l 0 (M9 l)) (Rp x l 0 (gN x (JM (FG l) 15))) (Rp x l 0 (BW (BY (GJ l)) (WI (XX l)) AW (Iw (KZ x) (KT x)) (AE (λm=>Az m (KZ x) (Ur x m) (Uy x m))) (E9 CQ (AAX (IN (KZ x)) x) AW (Qs (KT x) (KZ x)) (AE (λm=>Im m (KZ x) (Uy x m) (Ur x m))) (YR x) (ABA (GJ l)) (Uz (GJ l) (LO (KZ x)))))) (Rp x l 0 (jM (goM (Hs x l) (XX l)))) (Rp x l 0 (gN x (JM (cG (Hs x l) (XX l)) 15))))) (iM (IC (ANO x l (qX 0)) (cT (CP (AOP x l (qX 0)) (R9 (Hs x l) (XX l))) (API x (cG (Hs x l) (XX l)) YM (qX 0)))) (GT P8) (X9 (Pa x) (λm=>Pd m x x m) (YR x)) (AQ (jM (JF SK)) (M9 l) (BSD (gN x (JM (FG l) 28)) (Rp x l SK (jM (JF SK))) (Rp x l SK (M9 l)) (Rp x l SK (gN x (JM (FG l) 28))) (Rp x l SK (BW (BY (GJ l)) (WI (XX l)) AW (Iw (KZ x) (KT x)) (AE (λm=>Az m (KZ x) (Ur x m) (Uy x m))) (E9 CQ (AAX (IN (KZ x)) x) AW (Qs (KT x) (KZ x)) (AE (λm=>Im m (KZ x) (Uy x m) (Ur x m))) (YR x) (ABA (GJ l)) (Uz (GJ l) (LO (KZ x)))))) (Rp x l SK (jM (goM (Hs x l) (XX l)))) (Rp x l SK (gN x (JM (cG (Hs x l) (XX l)) 28))))) (FW (IC (ANO x l (qX SK)) (cT (CP (AOP x l (qX SK)) (R9 (Hs x l) (XX l))) (API x (cG (Hs x l) (XX l)) YM (qX SK)))) (GT P8) (X9 (Pa x) (λm=>Pd m x x m) (YR x)) (AME (λm=>EO (AP (FX j) (BY (KT x)) (AT (GJ m) (GJ l)) AB GI Ce (AR (Ny m) (Ny l)) AW (Ec (Pa x) (AE (λn=>Pd n x x n)) CQ (YR x) Vo (AT (FG m) (FG l)) GI (AE (λn=>kJ n 2 (AT (GJ m) (GJ l)) (Qe (Hw n)))))) (And (L2 (FG m) (FG i) (OB (GJ m) (KT x)) (UI (KT x) (GJ m) (GJ k))) (A4 (Ny m))) 2 (Ny m) (Ny l))))))) (AME (λm=>EO (AP (FX j) (BY (KT x)) (AT (GJ m) (GJ l)) AB GI Ce (AR (Ny m) (Ny l)) AW (Ec (Pa x) (AE (λn=>Pd n x x n)) CQ (YR x) Vo (AT (FG m) (FG l)) GI (AE (λn=>kJ n 2 (AT (GJ m) (GJ l)) (Qe (Hw n)))))) (And (L2 (FG m) (FG i) (OB (GJ m) (KT x)) (UI (KT x) (GJ m) (GJ k))) (A4 (Ny m))) 2 (Ny m) (Ny l))))) (AME (λm=>EO (LZ (FX j) (AZ (KT x)) (B9 (AR (GJ m) (GJ l)) AW (Pa x) (AE (λn=>Pd n x x n)) CQ (YR x) Vo (AT (FG m) (FG l)))) (EM (aI (FG m)) (zS (FG m) (FG i)) (DC (GJ m) (KT x))) (KT x) (GJ m) (GJ k))))) (And (AHY (M9 k) (DC (fE (KZ x)) (ABH (FG k) 2)) (ADB (ABH (FG k) 2) (KZ x))) (FW (G9 (LgN.g x (ABH (FG k) YM))) (GT P8) (X9 (Pa x) (λl=>Pd l x x l) (YR x)) (AME (λl=>Bg (And AW (LZ (AR (FG l) (FG i)) Nh (CB (Pa x) (AE (λm=>Pd m x x m)) CQ (YR x) Vo))) (FG l) 3 (FG l) (FG i))))))))) (BW Vo AW (Pa x) (AE (λj=>Pd j x x j)) CQ (YR x))))):=by kernel_rfl
def C_lOpd:Ctr:={ C_lWkd with val:=λ_=>.tup [.bptr 0 0,.int 0] }
def BYE:Ann:=ann 12 [(93,C_lCheck.spec AFS),(143,C_lWkd.spec AFS)]
def CCC(l:List Lin):Prop:=AS ZP BYE Tryz.f125 (AG Tryz.f125) [.d (eNet l)] (AC []) (.tup [.bptr 0 0,.int 0]) [(0,.live (svO l (Fu l)))] [(0,5016)] []
abbrev nX a b:=Fu (IN a) b
attribute [go_sem] nX
theorem CNT(l:List Lin):(CCC l)=(And (AKJ (YN l) (λi=>Ub i l (GF l i) i i) (DC (LO l) 30) (rL (IN l))) (LZ (AKJ (YN l) (λi=>Ub i l (GF l i) i i) (DC (LO l) 30) (rL (IN l))) xE (aH (Qh l) (λi=>Tz i l (eG (Fb l i) (GF l i) l i)) (λi=>Ty l i (Fu l i) (nX l i))))):=by kernel_rfl
def C_lAgr:Ctr:={ α:=List Lin,xs:=λl=>[.d (eNet l)],L:=λ_=>[],val:=λ_=>.tup [.bptr 0 0,.int 0],keep:=λl=>[(0,.live (svO l (Fu l)))],pre:=λl=>[okNt l,noOp l (Fu l)] }
def CHN:Ann:=ann 19 [(125,C_lOpd.spec AFS),(126,C_lOpen.spec CSY)]
def CIN(l:List Lin):Prop:=AS ZP CHN Tryz.f95 (AG Tryz.f95) [.d (eNet l)] (AC []) (.tup [.bptr 0 0,.int 0]) [(0,.live (svO l (Fu l)))] [(0,2016)] []
abbrev BQD:=λ(f:Bool->Prop)=>∀(x:Bool),f x
abbrev Zo a b:=HB a 3 b
attribute [go_sem] BQD Zo
theorem CLW(l:List Lin):(CIN l)=(And (AKJ (YN l) (λi=>Ub i l (GF l i) i i) (DC (LO l) 30) (rL (IN l))) (LZ (AIX (X9 (Iw (IN l) (LO l)) (λi=>Az i (IN l) (GF (IN l) i) (GF l i)) (DY (AE (λi=>Ry (IN (IN l)) i (nX l i))) AW (Iw l (LO (IN l))) (λi=>Az i l (GF l i) (GF (IN l) i)) CQ (AE (λi=>Ry (IN l) i (nX l i))) (VU (LO (IN l)) 30 (rL (IN (IN l)))) (AE (λi=>Zo i (IM (nX l (Tg i i))))) (AE (λi=>AE (λj=>AE (λk=>BQD (λm=>Zo i (Zo j (AHN k (IN l) (TD (AN (lsM (GF (IN l) k) m) (AZ j)) (TD (ZK (nX l (Tg i j)) MX) (Not (ZK (wr (hd49 (nX l (Tg i j)) (R9 (GF (IN l) k) m))) (nX l (Tg i (cG (GF (IN l) k) m))))))))))))))))) xE (aH (Qh l) (λi=>Tz i l (eG (Fb l i) (GF l i) l i)) (λi=>Ty l i (Fu l i) (nX l i))))):=by kernel_rfl
structure LbS where
 l:List Lin
 a:Nat
 b:Nat
def prB(x:LbS):List Prop:=[okNt x.l,noOp x.l (Fu x.l),x.a<3/\x.b<3,Fu x.l (Tg x.a x.b)≠MX]
def C_lAsk:Ctr:={ α:=LbS,xs:=λx=>[.d (eNet x.l),.int x.a,.int x.b,.bool true],L:=λ_=>[],val:=λ_=>.tup [.bptr 0 0,.int 0],keep:=λx=>[(0,.live (svO x.l (Fu x.l)))],pre:=prB }
def CIY:List AVal->Heap->Option (LbS×List (Nat×Nat)×List Nat)
 |[.d (.agg [_,.list _ n f _]),.d (.v (.int .i64 a)),.d (.v (.int .i64 b)),_],_=>some (⟨HQ n λj=>dLin (f j),a.toNat,b.toNat⟩,[],[])
 |_,_=>none
def BXW:Ann:=ann 61 [(93,C_lCheck.spec AFS),(94,My),(95,C_lAgr.spec AFS)]
def CBR(x:LbS):Prop:=AS ZP BXW Tryz.f58 (AG Tryz.f58) (C_lAsk.xs x) (AC []) (C_lAsk.val x) (C_lAsk.keep x) [(0,7016)] []
abbrev WG:=LbS.l
abbrev Xf:=LbS.a
abbrev Xd:=LbS.b
abbrev oE a:=IN (WG a)
abbrev AAI a b:=Fu (oE a) b
abbrev Uk a b:=GF (WG a) b
abbrev iO a b c:=AAI a (Tg b c)
attribute [go_sem] WG Xf Xd oE AAI Uk iO
theorem CKY(x:LbS):(CBR x)=(And (AKJ (YN (WG x)) (λi=>Ub i (WG x) (Uk x i) i i) (DC (LO (WG x)) 30) (rL (oE x))) (Ba (Hc (not (JR (AZ (Xf x)) (Mo 3))) (not (JR (AZ (Xd x)) (Mo 3)))) (IC (not Fa) (wP (AZ (Xf x)) (AZ (Xd x)))) Tt (AQ (BW AW (YN (WG x)) (AE (λi=>Ub i (WG x) (Uk x i) i i)) (VU (LO (WG x)) 30 (rL (oE x))) (AE (λi=>Zo i (IM (iO x i i)))) (AE (λi=>AE (λj=>AE (λk=>BQD (λl=>Zo i (Zo j (AHN k (WG x) (TD (AN (lsM (Uk x k) l) (AZ j)) (TD (ZK (iO x i j) MX) (Not (ZK (wr (hd49 (iO x i j) (R9 (Uk x k) l))) (iO x i (cG (Uk x k) l)))))))))))))) (AQ (AIX (Mh (Xf x))) (AIX (Mh (Xd x))) (AIX (AIE (oE x) (yJ (Xd x) (Xf x))))) (FW (IC (WO 0) (wP (AAI x (K3 (Xd x) YM (Xf x))) 1099511627776)) (sA 5) (aH (Qh (WG x)) (λi=>Tz i (WG x) (eG (Fb (WG x) i) (Uk x i) (WG x) i)) (λi=>Ty (WG x) i (Fu (WG x) i) (AAI x i))) (BW AU AW (Qh (WG x)) (AE (λi=>Tz i (WG x) (eG (Fb (WG x) i) (Uk x i) (WG x) i))) CQ (AE (λi=>Ty (WG x) i (Fu (WG x) i) (AAI x i)))))))):=by kernel_rfl
def btwV(x:LbS):Span:=⟨wr (-(Fu x.l (Tg x.b x.a))),Fu x.l (Tg x.a x.b)⟩
def C_lBtw:Ctr:={ α:=LbS,xs:=λx=>[.d (eNet x.l),.int x.a,.int x.b],L:=λ_=>[],val:=λx=>.tup [.d (EQ (btwV x)),.int 0],keep:=λ_=>[],pre:=prB }
def BYM:Ann:=ann 39 [(58,C_lAsk.spec CIY)]
def BXZ(x:LbS):Prop:=AS ZP BYM Tryz.f25 (AG Tryz.f25) (C_lBtw.xs x) (AC []) (C_lBtw.val x) (C_lBtw.keep x) [] []
theorem CLF(x:LbS):(BXZ x)=(JG (And AW (XH (YN (WG x)) (λi=>Ub i (WG x) (Uk x i) i i) (BY (Xf x)) (BY (Xd x)) CY (VU (LO (WG x)) 30 (rL (oE x))) (Ob (AE (λi=>Zo i (IM (iO x i i)))) (λi=>AE (λj=>AE (λk=>BQD (λl=>Zo i (Zo j (AHN k (WG x) (TD (AN (lsM (Uk x k) l) (AZ j)) (TD (ZK (iO x i j) MX) (Not (ZK (wr (hd49 (iO x i j) (R9 (Uk x k) l))) (iO x i (cG (Uk x k) l))))))))))))) (And (aI (Xf x)) (aI (Xd x))) (Za (AN (iO x (Xf x) (Xd x)) MX)))) (VM (Mh (Xd x)) (Mh (Xf x)) (AIE (oE x) (yJ (Xf x) (Xd x))) (Mh (Xf x)) (Mh (Xd x)) (DC (fE (oE x)) (yJ (Xd x) (Xf x))) (ADB (yJ (Xd x) (Xf x)) (oE x))) (fT (btwV x) (CW 0 (AAI x (K3 (Xf x) YM (Xd x))))) (GN (btwV x)) (AAI x (K3 (Xd x) YM (Xf x))) AU):=by kernel_rfl
theorem CWQ(l:List Lin)(h:okNt l):BYW l:=by
 obtain⟨h1,h2⟩:=h
 rw[CPY]<;> dsimp only[go_sem]
 simp only[CC,CU,CK,List.length_cons,List.length_nil]
 refine⟨⟨⟨0,0,λ_=>0⟩,⟨rfl,λ_ _ _=>rfl⟩,Nat.zero_le _,rfl⟩,λy ⟨y1,y2⟩=>⟨λhlt=>⟨⟨⟨y.a,0,y.g⟩,⟨rfl,rfl,rfl,λ_ _ _=>rfl⟩,⟨show y.a<3 by omega,rfl⟩,Nat.zero_le _,y2⟩,λz ⟨⟨z1,z2⟩,z3,z4⟩=>⟨λhlt2=>?_,λhge2=>?_⟩⟩,λhge=>?_⟩⟩
 ·exact⟨⟨⟨by omega,by omega⟩,⟨by omega,by omega⟩,by omega,by omega⟩,⟨z.a,z.b+1,putA (Tg z.a z.b) MX z.g⟩,⟨rfl,rfl,(BJ (by omega)).symm,λ_ _ _=>rfl⟩,⟨⟨z1,z2⟩,show z.b+1<=3 by omega,by show putA _ _ _=_;rw[z4];rfl⟩,show 3-(z.b+1)<3-z.b by omega⟩
 ·have e1:z.b=3:=by omega
  exact⟨⟨⟨by omega,by omega⟩,⟨by omega,by omega⟩,by omega,by omega⟩,⟨z.a+1,0,putA (Tg z.a z.a) 0 z.g⟩,⟨(BJ (by omega)).symm,λ_ _ _=>rfl⟩,⟨show z.a+1<=3 by omega,by show putA _ _ _=_;rw[z4,e1];rfl⟩,show 3-(z.a+1)<3-y.a by omega⟩
 ·have e1:y.a=3:=by omega
  refine⟨⟨⟨0,0,y.g⟩,⟨rfl,λ_ _ _=>rfl⟩,Nat.zero_le _,by show y.g=_;rw[y2,e1];rfl⟩,λz ⟨z1,z2⟩=>⟨λhlt=>?_,λhge=>?_⟩⟩
  ·exact⟨⟨by omega,h1,h2⟩,⟨z.a+1,0,filM l z.a z.g⟩,⟨(BJ (by omega)).symm,λ_ _ _=>rfl⟩,⟨show z.a+1<=3 by omega,by show filM _ _ _=_;rw[z2];rfl⟩,show 3-(z.a+1)<3-z.a by omega⟩
  ·intro i _ _
   have:z.a=3:=by omega
   rw[z2,this];rfl
theorem COJ:AH ZP 143 (C_lWkd.spec AFS):=MK C_lWkd CHQ [(0,2032)] [] Tryz.func143 (λ_=>by kernel_rfl) (λ_=>AA CEI AD) CWQ (λ_=>OA rfl rfl) _
theorem w01:IntKind.i64.wrap (0+1)=1:=rfl
theorem w11:IntKind.i64.wrap (1+1)=2:=rfl
theorem w21:IntKind.i64.wrap (2+1)=3:=rfl
theorem tn1:Int.toNat 1=1:=rfl
theorem tn2:Int.toNat 2=2:=rfl
theorem CQI(x:LgN)(h:okNt x.l)(hn:noOp x.l x.g):BUR x:=by
 obtain⟨h1,h2⟩:=h
 rw[CBH]<;> dsimp only[go_sem]
 simp only[CC,CU,CK,List.length_cons,List.length_nil,w01,w11,w21,tn1,tn2]
 refine⟨⟨⟨0,0,0⟩,rfl,Nat.zero_le _⟩,λy y1 hlt=>⟨⟨⟨y.m,0,0⟩,⟨rfl,rfl⟩,⟨show y.m<3 by omega,rfl⟩,Nat.zero_le _⟩,λu ⟨⟨u1,u2⟩,u3⟩=>⟨λhlt2=>⟨⟨⟨u.m,u.i,0⟩,⟨rfl,rfl,rfl,rfl,λi _=>by constructor<;>cases decide (i=0)<;>rfl⟩,⟨⟨u1,u2⟩,show u.i<x.l.length by omega,rfl⟩,Nat.zero_le _⟩,λv ⟨⟨⟨v1,v2⟩,v3,v4⟩,v5⟩=>⟨λhlt3=>?_,λhge3=>?_⟩⟩,λhge2=>?_⟩⟩⟩
 ·have hB:=BFV (APB h2 v3) (!decide (v.j=0))
  have hj1:IntKind.i64.wrap ((v.j:Int)+1)=((v.j+1:Nat):Int):=BJ (by omega)
  refine⟨⟨by omega,by omega⟩,by omega,⟨by omega,by omega⟩,λhs=>?_,λhs=>?_⟩
  ·have hs':(lsM (gD x.l v.i) (!decide (v.j=0))==(v.m:Int))=true:=hs
   have hs2:lsM (gD x.l v.i) (!decide (v.j=0))=(v.m:Int):=by simpa using hs'
   have hN:∀f,f<3->(bif decide (x.g (v.m+(2+f*13))<1099511627776) then decide (IntKind.i64.wrap (x.g (v.m+(2+f*13))+R9 (gD x.l v.i) !decide (v.j=0))<x.g ((goM (gD x.l v.i) !decide (v.j=0)).toNat+(2+f*13))) else false)=false:=λf hf=>by
    cases hd:decide (x.g (v.m+(2+f*13))<1099511627776) with
    |false=>rfl
    |true=>exact decide_eq_false (hn.2 f v.m v.i (!decide (v.j=0)) hf v1 v3 hs2 (of_decide_eq_true hd))
   have k0:=hN 0 (by omega);have k1:=hN 1 (by omega);have k2:=hN 2 (by omega)
   refine⟨hs',?_⟩
   simp only[k0,k1,k2,Bool.false_eq_true,false_implies,forall_const,true_implies,and_true,true_and]
   refine⟨?_,?_,?_,⟨v.m,v.i,v.j+1⟩,⟨rfl,hj1.symm,rfl,rfl,λ_ _=>rfl⟩,⟨⟨⟨v1,v2⟩,v3,v4⟩,show v.j+1<=2 by omega⟩,show 2-(v.j+1)<2-v.j by omega⟩
   all_goals repeat' (first | apply And.intro | intro _)
   all_goals omega
  ·exact⟨⟨v.m,v.i,v.j+1⟩,⟨rfl,hj1.symm,rfl,rfl,λ_ _=>rfl⟩,⟨⟨⟨v1,v2⟩,v3,v4⟩,show v.j+1<=2 by omega⟩,show 2-(v.j+1)<2-v.j by omega⟩
 ·exact⟨⟨v.m,v.i+1,0⟩,⟨(BJ (by omega)).symm,rfl⟩,⟨⟨v1,v2⟩,show v.i+1<=x.l.length by omega⟩,show x.l.length-(v.i+1)<x.l.length-u.i by omega⟩
 ·have e1:u.m=y.m:=by omega
  refine⟨⟨⟨by omega,by omega⟩,⟨by omega,by omega⟩,by omega,by omega⟩,λhneg=>absurd hneg (Int.not_lt.2 (hn.1 u.m u1)),λ_=>⟨⟨y.m+1,0,0⟩,(BJ (by omega)).symm,show y.m+1<=3 by omega,show 3-(y.m+1)<3-y.m by omega⟩⟩
theorem CAE:AH ZP 126 (C_lOpen.spec CSY):=MK C_lOpen BRW [] [] Tryz.func126 (λ_=>by kernel_rfl) (λ_=>AA BHP (AA BGZ (AA BEP AD))) (λ(x:LgN) h=>CQI x h.1 h.2) (λx=>ASE 158 (itOp x) rfl rfl (AA AVD AD) Tryz.func158 (by kernel_rfl) (by kernel_rfl)) _
theorem CND:AH ZP 125 (C_lOpd.spec AFS):=MK C_lOpd (λ_=>BYE) [(0,5016)] [] Tryz.func125 (λ_=>by kernel_rfl) (λ_=>AA AXD (AA COJ AD)) (λ(l:List Lin) (h:okNt l)=>by
 obtain⟨h1,h2⟩:=h
 show CCC l;rw[CNT]<;> dsimp only[go_sem];simp only[CC,CU,CK];exact⟨h1,h2⟩) (λ_=>OA rfl rfl) _
theorem CMJ:AH ZP 95 (C_lAgr.spec AFS):=MK C_lAgr (λ_=>CHN) [(0,2016)] [] Tryz.func95 (λ_=>by kernel_rfl) (λ_=>AA CND (AA CAE AD)) (λ(l:List Lin) h=>by
 obtain⟨⟨h1,h2⟩,h3⟩:okNt l/\noOp l (Fu l):=h
 show CIN l;rw[CLW]<;> dsimp only[go_sem];simp only[CC,CU,CK];exact⟨⟨h1,h2⟩,⟨h1,h2⟩,h3⟩) (λ_=>OA rfl rfl) _
theorem inM3{a:Nat}(h:a<3):NJ (a:Int) 0 (IntKind.i64.wrap (3-1))=true:=by
 rw[show IntKind.i64.wrap (3-1)=2 from rfl]
 simp only[NJ,Bool.and_eq_true,decide_eq_true_eq];omega
theorem CON:AH ZP 58 (C_lAsk.spec CIY):=MK C_lAsk (λ_=>BXW) [(0,7016)] [] Tryz.func58 (λ_=>by kernel_rfl) (λ_=>AA AXD (AA AXS (AA CMJ AD))) (λ(x:LbS) h=>by
 obtain⟨⟨h1,h2⟩,h3,⟨ha,hb⟩,h4⟩:okNt x.l/\noOp x.l (Fu x.l)/\(x.a<3/\x.b<3)/\Fu x.l (Tg x.a x.b)≠MX:=h
 show CBR x;rw[CKY]<;> dsimp only[go_sem];simp only[CC,CU,CK,List.length_cons,List.length_nil]
 refine⟨⟨h1,h2⟩,λh=>?_,λ_=>⟨⟨⟨h1,h2⟩,h3⟩,⟨⟨by omega,by omega⟩,⟨by omega,by omega⟩,by omega,by omega⟩,λh=>?_⟩⟩
 ·rw[inM3 ha,inM3 hb] at h;cases h
 ·exact absurd (by simpa[Tg,MX] using h) h4) (λ_=>OA rfl rfl) _
theorem CWP(x:LbS)(h:BG (prB x)):BXZ x:=by
 obtain⟨⟨h1,h2⟩,h3,⟨ha,hb⟩,h4⟩:okNt x.l/\noOp x.l (Fu x.l)/\(x.a<3/\x.b<3)/\Fu x.l (Tg x.a x.b)≠MX:=h
 rw[CLF]<;> dsimp only[go_sem];simp only[CC,CU,CK,List.length_cons,List.length_nil]
 refine⟨⟨⟨h1,h2⟩,h3,⟨ha,hb⟩,h4⟩,⟨⟨by omega,by omega⟩,⟨by omega,by omega⟩,⟨by omega,by omega⟩,⟨by omega,by omega⟩,⟨by omega,by omega⟩,by omega,by omega⟩,rfl,rfl⟩
structure T3 where
 a:Int
 b:Int
 c:Int
 deriving DecidableEq
def T3.get(x:T3)(i:Nat):Int:=bif Nat.beq i 0 then x.a else bif Nat.beq i 1 then x.b else x.c
def T3.put(x:T3)(n:Int)(i:Nat):T3:=bif Nat.beq i 0 then⟨n,x.b,x.c⟩ else bif Nat.beq i 1 then⟨x.a,n,x.c⟩ else⟨x.a,x.b,n⟩
def rel3(s t:Nat)(c:Int)(x:T3):T3:=bif decide (SC [x.get s,c]<x.get t) then x.put (SC [x.get s,c]) t else x
def relT(l:List Lin)(m i:Nat)(b:Bool)(x:T3):T3:=bif lsM (gD l i) b==(m:Int) then rel3 m (goM (gD l i) b).toNat (R9 (gD l i) b) x else x
def BEU(l:List Lin)(m i:Nat)(x:T3):Nat->T3
 |0=>x
 |j+1=>relT l m i (!decide (j=0)) (BEU l m i x j)
def BFZ(l:List Lin)(m:Nat)(x:T3):Nat->T3
 |0=>x
 |i+1=>BEU l m i (BFZ l m x i) 2
def mrkT(l:List Lin)(x:T3):Nat->T3
 |0=>x
 |m+1=>bif (mrkT l x m).get m==MX then mrkT l x m else BFZ l m (mrkT l x m) l.length
def rndT(l:List Lin)(x:T3):Nat->T3
 |0=>x
 |k+1=>mrkT l (rndT l x k) 3
def filT(l:List Lin)(x:T3):T3:=rndT l x 3
def PM(a:Nat)(g:Nat->Int):T3:=⟨g (Tg a 0),g (Tg a 1),g (Tg a 2)⟩
theorem AWU{m:Nat}(h:m<3):m=0∨m=1∨m=2:=by omega
theorem AMM{a m:Nat}(g:Nat->Int)(h:m<3):(PM a g).get m=g (Tg a m):=by
 rcases AWU h with rfl | rfl | rfl<;>rfl
theorem BUK{c:Nat}{n:Int}{g:Nat->Int}(j:Nat):putA c n g j=if j=c then n else g j:=by
 unfold putA
 by_cases h:j=c
 ·subst h;simp
 ·rw[show Nat.beq j c=false from Bool.eq_false_iff.2 λe=>h (Nat.eq_of_beq_eq_true e),if_neg h];rfl
theorem CKN{a t:Nat}(n:Int)(g:Nat->Int)(ht:t<3):PM a (putA (Tg a t) n g)=(PM a g).put n t:=by
 unfold PM
 simp only[BUK,Tg]
 rcases AWU ht with rfl | rfl | rfl<;>simp[T3.put]<;>rfl
theorem BMM{a a' t:Nat}(n:Int)(g:Nat->Int)(ht:t<3)(ha:a'≠a):PM a' (putA (Tg a t) n g)=PM a' g:=by
 unfold PM
 simp only[BUK,Tg]
 rw[if_neg (by omega),if_neg (by omega),if_neg (by omega)]
section
variable {l : List Lin} (hok : l.all WA = true)
include hok
theorem CMF{a m i:Nat}{b:Bool}(g:Nat->Int)(hm:m<3)(hi:i<l.length):PM a (F7 l a m i b g)=relT l m i b (PM a g):=by
 have hg:=BFV (APB hok hi) b
 unfold F7 relT rel3
 have h3:(goM (gD l i) b).toNat<3:=by omega
 rw[AMM g hm,AMM g h3]
 cases (lsM (gD l i) b==(m:Int)) with
 |false=>rfl
 |true=>
  simp only[cond_true]
  cases decide (SC [g (Tg a m),R9 (gD l i) b]<g (Tg a (goM (gD l i) b).toNat)) with
  |false=>rfl
  |true=>exact CKN _ _ h3
theorem BPF{a a' m i:Nat}{b:Bool}(g:Nat->Int)(hi:i<l.length)(ha:a'≠a):PM a' (F7 l a m i b g)=PM a' g:=by
 have hg:=BFV (APB hok hi) b
 unfold F7
 cases (lsM (gD l i) b==(m:Int)) with
 |false=>rfl
 |true=>
  simp only[cond_true]
  cases decide (SC [g (Tg a m),R9 (gD l i) b]<g (Tg a (goM (gD l i) b).toNat)) with
  |false=>rfl
  |true=>exact BMM _ _ (by omega) ha
theorem BET{a m i:Nat}(g:Nat->Int)(hm:m<3)(hi:i<l.length):∀j,PM a (legJ l a m i g j)=BEU l m i (PM a g) j
 |0=>rfl
 |j+1=>by show PM a (F7 l a m i (!decide (j=0)) (legJ l a m i g j))=relT l m i (!decide (j=0)) (BEU l m i (PM a g) j);rw[CMF hok _ hm hi,BET g hm hi j]
theorem AKZ{a a' m i:Nat}(g:Nat->Int)(hi:i<l.length)(ha:a'≠a):∀j,PM a' (legJ l a m i g j)=PM a' g
 |0=>rfl
 |j+1=>by show PM a' (F7 l a m i (!decide (j=0)) (legJ l a m i g j))=_;rw[BPF hok _ hi ha,AKZ g hi ha j]
theorem BHI{a m:Nat}(g:Nat->Int)(hm:m<3):∀i,i<=l.length->PM a (legI l a m g i)=BFZ l m (PM a g) i
 |0,_=>rfl
 |i+1,h=>by show PM a (legJ l a m i (legI l a m g i) 2)=BEU l m i (BFZ l m (PM a g) i) 2;rw[BET hok _ hm (by omega),BHI g hm i (by omega)]
theorem AKP{a a' m:Nat}(g:Nat->Int)(ha:a'≠a):∀i,i<=l.length->PM a' (legI l a m g i)=PM a' g
 |0,_=>rfl
 |i+1,h=>by show PM a' (legJ l a m i (legI l a m g i) 2)=_;rw[AKZ hok _ (by omega) ha,AKP g ha i (by omega)]
theorem BSG{a:Nat}(g:Nat->Int):∀m,m<=3->PM a (bP l a g m)=mrkT l (PM a g) m
 |0,_=>rfl
 |m+1,h=>by
  show PM a (bif bP l a g m (Tg a m)==MX then bP l a g m else legI l a m (bP l a g m) l.length)=bif (mrkT l (PM a g) m).get m==MX then mrkT l (PM a g) m else BFZ l m (mrkT l (PM a g) m) l.length
  rw[<-BSG g m (by omega),AMM _ (by omega)]
  cases (bP l a g m (Tg a m)==MX) with
  |true=>rfl
  |false=>exact BHI hok _ (by omega) _ (Nat.le_refl _)
theorem V9{a a':Nat}(g:Nat->Int)(ha:a'≠a):∀m,m<=3->PM a' (bP l a g m)=PM a' g
 |0,_=>rfl
 |m+1,h=>by
  show PM a' (bif bP l a g m (Tg a m)==MX then bP l a g m else legI l a m (bP l a g m) l.length)=PM a' g
  cases (bP l a g m (Tg a m)==MX) with
  |true=>exact V9 g ha m (by omega)
  |false=>exact (AKP hok _ ha _ (Nat.le_refl _)).trans (V9 g ha m (by omega))
theorem BUJ{a:Nat}(g:Nat->Int):∀k,PM a (wN l a g k)=rndT l (PM a g) k
 |0=>rfl
 |k+1=>by show PM a (bP l a (wN l a g k) 3)=mrkT l (rndT l (PM a g) k) 3;rw[BSG hok _ 3 (Nat.le_refl _),BUJ g k]
theorem ATL{a a':Nat}(g:Nat->Int)(ha:a'≠a):∀k,PM a' (wN l a g k)=PM a' g
 |0=>rfl
 |k+1=>by show PM a' (bP l a (wN l a g k) 3)=_;rw[V9 hok _ ha 3 (Nat.le_refl _),ATL g ha k]
def cP(a:Nat):T3:=(⟨MX,MX,MX⟩:T3).put 0 a
omit hok in
theorem CNL{a:Nat}(h:a<3):PM a (iniA 3)=cP a:=by
 rcases AWU h with rfl | rfl | rfl<;>rfl
theorem COW{a:Nat}(h:a<3):PM a (Fu l)=filT l (cP a):=by
 have e:∀k,PM a (wrkK l (k+1))=if a=k then filT l (PM a (wrkK l k)) else PM a (wrkK l k):=λk=>by
  show PM a (wN l k (wrkK l k) 3)=_
  by_cases ha:a=k
  ·rw[if_pos ha];subst ha;exact BUJ hok _ 3
  ·rw[if_neg ha];exact ATL hok _ ha 3
 show PM a (wrkK l 3)=_
 rw[e,e,e,show wrkK l 0=iniA 3 from rfl,CNL h]
 rcases AWU h with rfl | rfl | rfl<;>rfl
theorem AQK{a b:Nat}(ha:a<3)(hb:b<3):Fu l (Tg a b)=(filT l (cP a)).get b:=by
 rw[<-COW hok ha,AMM _ hb]
def CTK(l:List Lin)(f:Nat)(x:T3):Prop:=0<=x.get f/\∀(m i:Nat) (b:Bool),m<3->i<l.length->lsM (gD l i) b=(m:Int)->x.get m<MX->¬wr (x.get m+R9 (gD l i) b)<x.get (goM (gD l i) b).toNat
theorem BRJ(h:∀f,f<3->CTK l f (filT l (cP f))):noOp l (Fu l):=by
 refine⟨λm hm=>?_,λf m i b hf hm hi hs hfar=>?_⟩
 ·rw[AQK hok hm hm];exact (h m hm).1
 ·have hg:=BFV (APB hok hi) b
  rw[AQK hok hf hm] at hfar ⊢
  rw[AQK hok hf (by omega)]
  exact (h f hf).2 m i b hm hi hs hfar
end
theorem CRE{u c:Int}(h1:-1000000000<=u/\u<=1000000000)(h2:-1000000000<=c/\c<=1000000000):SC [u,c]=u+c:=by
 show wr (wr (0+u)+c)=u+c
 unfold wr
 rw[ER (n:=0+u) (by omega) (by omega),ER (by omega) (by omega)];omega
theorem r_no{s t:Nat}{c u v:Int}{x:T3}(hs:x.get s=u)(ht:x.get t=v)(h1:-1000000000<=u/\u<=1000000000)(h2:-1000000000<=c/\c<=1000000000)(h:v<=u+c):rel3 s t c x=x:=by
 unfold rel3
 rw[hs,ht,CRE h1 h2,decide_eq_false (by omega)];rfl
theorem AVE{s t:Nat}{c u v:Int}{x y:T3}(hs:x.get s=u)(ht:x.get t=v)(h1:-1000000000<=u/\u<=1000000000)(h2:-1000000000<=c/\c<=1000000000)(h:u+c<v)(hy:x.put (u+c) t=y):rel3 s t c x=y:=by
 unfold rel3
 rw[hs,ht,CRE h1 h2,decide_eq_true h];exact hy
theorem K7{x:T3}{s:Nat}{u:Int}{y z:T3}(hs:x.get s=u)(h:u<=1000000000):(bif x.get s==MX then y else z)=z:=by
 rw[hs,show (u==MX)=false from by simp only[beq_eq_false_iff_ne,ne_eq,MX];omega];rfl
theorem BRV{x:T3}{s:Nat}{y z:T3}(hs:x.get s=MX):(bif x.get s==MX then y else z)=y:=by
 rw[hs];simp
structure Rise where
 a01:Int
 a10:Int
 a12:Int
 a21:Int
 a02:Int
 a20:Int
structure RiOk(r:Rise):Prop where
 b01:-1000<=r.a01/\r.a01<=1000
 b10:-1000<=r.a10/\r.a10<=1000
 b12:-1000<=r.a12/\r.a12<=1000
 b21:-1000<=r.a21/\r.a21<=1000
 b02:-1000<=r.a02/\r.a02<=1000
 b20:-1000<=r.a20/\r.a20<=1000
 l01:0<=r.a01+r.a10
 l12:0<=r.a12+r.a21
 l02:0<=r.a02+r.a20
 c1:0<=r.a01+r.a12+r.a20
 c2:0<=r.a02+r.a21+r.a10
def p0(r:Rise)(x:T3):T3:=bif x.get 0==MX then x else rel3 0 1 r.a01 x
def p1(r:Rise)(x:T3):T3:=bif x.get 1==MX then x else rel3 1 2 r.a12 (rel3 1 0 r.a10 x)
def p2(r:Rise)(x:T3):T3:=bif x.get 2==MX then x else rel3 2 1 r.a21 x
def pR(r:Rise)(x:T3):T3:=p2 r (p1 r (p0 r x))
theorem BJX{r:Rise}(h:RiOk r){p q s:Int}(hp:-10000<=p/\p<=10000)(hq:-10000<=q/\q<=10000)(hs:-10000<=s/\s<=10000)(k1:q<=p+r.a01)(k2:p<=q+r.a10)(k3:s<=q+r.a12)(k4:q<=s+r.a21):pR r ⟨p,q,s⟩=⟨p,q,s⟩:=by
 have hb:=h.b01;have hc:=h.b10;have hd:=h.b12;have he:=h.b21
 have e0:p0 r ⟨p,q,s⟩=⟨p,q,s⟩:=(K7 (u:=p) rfl (by omega)).trans (r_no (u:=p) (v:=q) rfl rfl (by omega) (by omega) k1)
 have e1:p1 r ⟨p,q,s⟩=⟨p,q,s⟩:=by
  refine (K7 (u:=q) rfl (by omega)).trans ?_
  rw[r_no (s:=1) (t:=0) (u:=q) (v:=p) rfl rfl (by omega) (by omega) k2]
  exact r_no (u:=q) (v:=s) rfl rfl (by omega) (by omega) k3
 have e2:p2 r ⟨p,q,s⟩=⟨p,q,s⟩:=(K7 (u:=s) rfl (by omega)).trans (r_no (u:=s) (v:=q) rfl rfl (by omega) (by omega) k4)
 unfold pR;rw[e0,e1,e2]
theorem P4{u:Int}(h:u<=1000000000):u<MX:=by unfold MX;omega
theorem pR0{r:Rise}(h:RiOk r):pR r (pR r (pR r (cP 0)))=⟨0,r.a01,r.a01+r.a12⟩:=by
 have hb:=h.b01;have hc:=h.b10;have hd:=h.b12;have he:=h.b21;have g1:=h.l01;have g2:=h.l12
 have e:pR r (cP 0)=⟨0,r.a01,r.a01+r.a12⟩:=by
  have e0:p0 r (cP 0)=⟨0,r.a01,MX⟩:=(K7 (u:=0) rfl (by omega)).trans (AVE (u:=0) (v:=MX) rfl rfl (by omega) (by omega) (P4 (by omega)) (by rw[Int.zero_add];rfl))
  have e1:p1 r ⟨0,r.a01,MX⟩=⟨0,r.a01,r.a01+r.a12⟩:=by
   refine (K7 (u:=r.a01) rfl (by omega)).trans ?_
   rw[r_no (s:=1) (t:=0) (u:=r.a01) (v:=0) rfl rfl (by omega) (by omega) (by omega)]
   exact AVE (u:=r.a01) (v:=MX) rfl rfl (by omega) (by omega) (P4 (by omega)) rfl
  have e2:p2 r ⟨0,r.a01,r.a01+r.a12⟩=⟨0,r.a01,r.a01+r.a12⟩:=(K7 (u:=r.a01+r.a12) rfl (by omega)).trans (r_no (u:=r.a01+r.a12) (v:=r.a01) rfl rfl (by omega) (by omega) (by omega))
  unfold pR;rw[e0,e1,e2]
 have fx:=BJX h (p:=0) (q:=r.a01) (s:=r.a01+r.a12) (by omega) (by omega) (by omega) (by omega) (by omega) (by omega) (by omega)
 rw[e,fx,fx]
theorem pR1{r:Rise}(h:RiOk r):pR r (pR r (pR r (cP 1)))=⟨r.a10,0,r.a12⟩:=by
 have hb:=h.b01;have hc:=h.b10;have hd:=h.b12;have he:=h.b21;have g1:=h.l01;have g2:=h.l12
 have e:pR r (cP 1)=⟨r.a10,0,r.a12⟩:=by
  have e0:p0 r (cP 1)=cP 1:=BRV rfl
  have e1:p1 r (cP 1)=⟨r.a10,0,r.a12⟩:=by
   refine (K7 (u:=0) rfl (by omega)).trans ?_
   rw[AVE (s:=1) (t:=0) (y:=⟨r.a10,0,MX⟩) (u:=0) (v:=MX) rfl rfl (by omega) (by omega) (P4 (by omega)) (by rw[Int.zero_add];rfl)]
   exact AVE (u:=0) (v:=MX) rfl rfl (by omega) (by omega) (P4 (by omega)) (by rw[Int.zero_add];rfl)
  have e2:p2 r ⟨r.a10,0,r.a12⟩=⟨r.a10,0,r.a12⟩:=(K7 (u:=r.a12) rfl (by omega)).trans (r_no (u:=r.a12) (v:=0) rfl rfl (by omega) (by omega) (by omega))
  unfold pR;rw[e0,e1,e2]
 have fx:=BJX h (p:=r.a10) (q:=0) (s:=r.a12) (by omega) (by omega) (by omega) (by omega) (by omega) (by omega) (by omega)
 rw[e,fx,fx]
theorem pR2{r:Rise}(h:RiOk r):pR r (pR r (pR r (cP 2)))=⟨r.a21+r.a10,r.a21,0⟩:=by
 have hb:=h.b01;have hc:=h.b10;have hd:=h.b12;have he:=h.b21;have g1:=h.l01;have g2:=h.l12
 have e:pR r (cP 2)=⟨MX,r.a21,0⟩:=by
  have e0:p0 r (cP 2)=cP 2:=BRV rfl
  have e1:p1 r (cP 2)=cP 2:=BRV rfl
  have e2:p2 r (cP 2)=⟨MX,r.a21,0⟩:=(K7 (u:=0) rfl (by omega)).trans (AVE (u:=0) (v:=MX) rfl rfl (by omega) (by omega) (P4 (by omega)) (by rw[Int.zero_add];rfl))
  unfold pR;rw[e0,e1,e2]
 have e':pR r ⟨MX,r.a21,0⟩=⟨r.a21+r.a10,r.a21,0⟩:=by
  have e0:p0 r ⟨MX,r.a21,0⟩=⟨MX,r.a21,0⟩:=BRV rfl
  have e1:p1 r ⟨MX,r.a21,0⟩=⟨r.a21+r.a10,r.a21,0⟩:=by
   refine (K7 (u:=r.a21) rfl (by omega)).trans ?_
   rw[AVE (s:=1) (t:=0) (y:=⟨r.a21+r.a10,r.a21,0⟩) (u:=r.a21) (v:=MX) rfl rfl (by omega) (by omega) (P4 (by omega)) rfl]
   exact r_no (u:=r.a21) (v:=0) rfl rfl (by omega) (by omega) (by omega)
  have e2:p2 r ⟨r.a21+r.a10,r.a21,0⟩=⟨r.a21+r.a10,r.a21,0⟩:=(K7 (u:=0) rfl (by omega)).trans (r_no (u:=0) (v:=r.a21) rfl rfl (by omega) (by omega) (by omega))
  unfold pR;rw[e0,e1,e2]
 have fx:=BJX h (p:=r.a21+r.a10) (q:=r.a21) (s:=0) (by omega) (by omega) (by omega) (by omega) (by omega) (by omega) (by omega)
 rw[e,e',fx]
def q0(r:Rise)(x:T3):T3:=bif x.get 0==MX then x else rel3 0 2 r.a02 (rel3 0 1 r.a01 x)
def q2(r:Rise)(x:T3):T3:=bif x.get 2==MX then x else rel3 2 0 r.a20 (rel3 2 1 r.a21 x)
structure Gp where
 r0:Int
 e0:Int
 r1:Int
 e1:Int
 r2:Int
 e2:Int
def ln0(g:Gp):Lin:=⟨0,1,1,g.r0,g.e0⟩
def ln1(g:Gp):Lin:=⟨2,1,1,g.r1,g.e1⟩
def ln2(g:Gp):Lin:=⟨0,2,2,g.r2,g.e2⟩
def nA(g:Gp):List Lin:=[ln0 g,ln1 g]
def rho(g:Gp):Rise:=⟨R9 (ln0 g) false,R9 (ln0 g) true,R9 (ln1 g) true,R9 (ln1 g) false,R9 (ln2 g) false,R9 (ln2 g) true⟩
theorem CCM(g:Gp)(x:T3):filT (nA g) x=pR (rho g) (pR (rho g) (pR (rho g) x)):=by kernel_rfl
structure GpOk(g:Gp)(h t:Int):Prop where
 hh:-50<=h/\h<=90
 ht:5<=t/\t<=300
 e0:0<=g.e0/\g.e0<=8
 e1:0<=g.e1/\g.e1<=8
 e2:0<=g.e2/\g.e2<=8
 r0:h-g.e0<=g.r0/\g.r0<=h+g.e0
 r1:h+t-g.e1<=g.r1/\g.r1<=h+t+g.e1
 r2:-t-g.e2<=g.r2/\g.r2 <= -t+g.e2
theorem CPS{g:Gp}{h t:Int}(k:GpOk g h t):rho g=⟨g.e0+g.r0,g.e0-g.r0,g.e1-g.r1,g.e1+g.r1,g.e2+g.r2,g.e2-g.r2⟩:=by
 have a1:=k.hh;have a2:=k.ht;have a3:=k.e0;have a4:=k.e1;have a5:=k.e2;have a6:=k.r0;have a7:=k.r1;have a8:=k.r2
 show (⟨wr (g.e0+g.r0),wr (g.e0-g.r0),wr (g.e1-g.r1),wr (g.e1+g.r1),wr (g.e2+g.r2),wr (g.e2-g.r2)⟩:Rise)=_
 unfold wr
 rw[ER (n:=g.e0+g.r0) (by omega) (by omega),ER (n:=g.e0-g.r0) (by omega) (by omega),ER (n:=g.e1-g.r1) (by omega) (by omega),ER (n:=g.e1+g.r1) (by omega) (by omega),ER (n:=g.e2+g.r2) (by omega) (by omega),ER (n:=g.e2-g.r2) (by omega) (by omega)]
theorem CWY{g:Gp}{h t:Int}(k:GpOk g h t):RiOk (rho g):=by
 have a1:=k.hh;have a2:=k.ht;have a3:=k.e0;have a4:=k.e1;have a5:=k.e2;have a6:=k.r0;have a7:=k.r1;have a8:=k.r2
 rw[CPS k]
 refine⟨?_,?_,?_,?_,?_,?_,?_,?_,?_,?_,?_⟩<;>simp only<;>omega
theorem ARV{x:Lin}(h:(0<=x.f/\x.f<=2)/\(0<=x.t/\x.t<=2)/\x.f≠x.t/\(0<=x.d/\x.d<=40000)/\(-1000000<=x.r/\x.r<=1000000)/\0<=x.e/\x.e<=10000):WA x=true:=by
 simp only[WA,NJ,Bool.and_eq_true,decide_eq_true_eq,Bool.not_eq_true',beq_eq_false_iff_ne,ne_eq]
 exact h
theorem ok0{g:Gp}{h t:Int}(k:GpOk g h t):WA (ln0 g)=true/\WA (ln1 g)=true/\WA (ln2 g)=true:=by
 have a1:=k.hh;have a2:=k.ht;have a3:=k.e0;have a4:=k.e1;have a5:=k.e2;have a6:=k.r0;have a7:=k.r1;have a8:=k.r2
 refine⟨ARV ?_,ARV ?_,ARV ?_⟩<;>simp only[ln0,ln1,ln2]<;>omega
theorem okA{g:Gp}{h t:Int}(k:GpOk g h t):okNt (nA g):=⟨by show 2<=30;omega,by obtain⟨h0,h1,_⟩:=ok0 k;simp[nA,h0,h1]⟩
theorem BTE{p c v:Int}(h1:-10000<=p/\p<=10000)(h2:-1000<=c/\c<=1000)(h:v<=p+c):¬wr (p+c)<v:=by
 unfold wr;rw[ER (by omega) (by omega)];omega
theorem kC{m:Nat}{n:Nat}(h:(n:Int)=(m:Int)):m=n:=by omega
theorem CEQ{g:Gp}(r:RiOk (rho g)){f:Nat}{p q s:Int}(hf:0<=T3.get ⟨p,q,s⟩ f)(hp:-10000<=p/\p<=10000)(hq:-10000<=q/\q<=10000)(hs:-10000<=s/\s<=10000)(k1:q<=p+(rho g).a01)(k2:p<=q+(rho g).a10)(k3:s<=q+(rho g).a12)(k4:q<=s+(rho g).a21):CTK (nA g) f ⟨p,q,s⟩:=by
 refine⟨hf,λm i b hm hi hst _=>?_⟩
 have hi:i<2:=hi
 match i,hi,b,hst with
 |0,_,false,hst=>obtain rfl:=kC (n:=0) hst;exact BTE hp r.b01 k1
 |0,_,true,hst=>obtain rfl:=kC (n:=1) hst;exact BTE hq r.b10 k2
 |1,_,false,hst=>obtain rfl:=kC (n:=2) hst;exact BTE hs r.b21 k4
 |1,_,true,hst=>obtain rfl:=kC (n:=1) hst;exact BTE hq r.b12 k3
theorem opA{g:Gp}{h t:Int}(k:GpOk g h t):noOp (nA g) (Fu (nA g)):=by
 have r:=CWY k
 have b1:=r.b01;have b2:=r.b10;have b3:=r.b12;have b4:=r.b21;have l1:=r.l01;have l2:=r.l12
 refine BRJ (okA k).2 λf hf=>?_
 rcases AWU hf with rfl | rfl | rfl
 ·rw[CCM,pR0 r];exact CEQ r (Int.le_refl 0) (by omega) (by omega) (by omega) (by omega) (by omega) (by omega) (by omega)
 ·rw[CCM,pR1 r];exact CEQ r (Int.le_refl 0) (by omega) (by omega) (by omega) (by omega) (by omega) (by omega) (by omega)
 ·rw[CCM,pR2 r];exact CEQ r (Int.le_refl 0) (by omega) (by omega) (by omega) (by omega) (by omega) (by omega) (by omega)
def thr:List Lin:=[⟨0,1,5,100,2⟩,⟨1,2,5,50,1⟩,⟨0,2,9,148,3⟩]
theorem AZL:okNt thr:=⟨by show 3<=30;omega,by decide +kernel⟩
theorem thr0:filT thr (cP 0)=⟨0,102,151⟩:=by decide +kernel
theorem thr1:filT thr (cP 1)=⟨-98,0,51⟩:=by decide +kernel
theorem thr2:filT thr (cP 2)=⟨-147,-49,0⟩:=by decide +kernel
theorem CVO:noOp thr (Fu thr):=by
 refine BRJ AZL.2 λf hf=>?_
 have key:∀x:T3,(x=⟨0,102,151⟩∨x=⟨-98,0,51⟩∨x=⟨-147,-49,0⟩)->∀(m i:Nat) (b:Bool),m<3->i<thr.length->lsM (gD thr i) b=(m:Int)->x.get m<MX->¬wr (x.get m+R9 (gD thr i) b)<x.get (goM (gD thr i) b).toNat:=by
  rintro x (rfl | rfl | rfl) m i b hm hi hs _
  all_goals
   have hi:i<3:=hi
   match i,hi,b,hs with
   |0,_,false,hs=>obtain rfl:=kC (n:=0) hs;decide +kernel
   |0,_,true,hs=>obtain rfl:=kC (n:=1) hs;decide +kernel
   |1,_,false,hs=>obtain rfl:=kC (n:=1) hs;decide +kernel
   |1,_,true,hs=>obtain rfl:=kC (n:=2) hs;decide +kernel
   |2,_,false,hs=>obtain rfl:=kC (n:=0) hs;decide +kernel
   |2,_,true,hs=>obtain rfl:=kC (n:=2) hs;decide +kernel
 rcases AWU hf with rfl | rfl | rfl
 ·rw[thr0];exact⟨by decide +kernel,key _ (.inl rfl)⟩
 ·rw[thr1];exact⟨by decide +kernel,key _ (.inr (.inl rfl))⟩
 ·rw[thr2];exact⟨by decide +kernel,key _ (.inr (.inr rfl))⟩
theorem BRC:BG (prB ⟨thr,0,2⟩)/\btwV ⟨thr,0,2⟩=⟨147,151⟩:=by
 have h1:Fu thr (Tg 0 2)=151:=by rw[AQK AZL.2 (by omega) (by omega),thr0];rfl
 have h2:Fu thr (Tg 2 0)=-147:=by rw[AQK AZL.2 (by omega) (by omega),thr2];rfl
 refine⟨⟨AZL,CVO,⟨by show 0<3;omega,by show 2<3;omega⟩,?_⟩,?_⟩
 ·show Fu thr (Tg 0 2)≠MX
  rw[h1];unfold MX;omega
 ·show (⟨wr (-(Fu thr (Tg 2 0))),Fu thr (Tg 0 2)⟩:Span)=_
  rw[h1,h2];rfl
end Go.Bal
set_option maxRecDepth 8000
namespace Go.Bal
open Go Go.Sym Go.Proofs
def Y4(x:Rec):List Span:=HQ x.l.length (Ve x.r x.l.length (wQ x))
def C_dFill:Ctr:={ α:=Rec,xs:=λx=>[.d (eRec x)],L:=λ_=>[],val:=λx=>.tup [.d (eSps (Y4 x)),.int 0],keep:=λ_=>[],pre:=λx=>[dpT x] }
def BSV:Ann:=ann 18 [(41,C_dAgr.spec C7)]
def BVZ(x:Rec):Prop:=AS ZP BSV Tryz.f12 (AG Tryz.f12) [.d (eRec x)] (AC []) (C_dFill.val x) [] [] [2017]
theorem CKG(x:Rec):(BVZ x)=(CB (CB (KQ x) (KV x) (fZ x x) (AE (λi=>Fo i (OI x) (Cm x i) (QK x i) (Cc x i) (QO x i) (Cr x i) (RA x i))) (dpT (AGJ x))) (TH (Y4 x) (OI x)) (LU (OI x)) (AE (λi=>Rk i (Y4 x) (AQB (AIQ x) (OI x) (AGJ x) (AJ i)))) AU):=by kernel_rfl
structure ShS where
 c:Cmp
 s:Span
def shL(x:ShS):List Int:=svV ⟨x.c,x.s.lo⟩
def shH(x:ShS):List Int:=svV ⟨x.c,x.s.hi⟩
def shP(x:ShS)(j:Nat):Span:=⟨gD (shL x) j,gD (shH x) j⟩
def shV(x:ShS):List Span:=HQ x.c.s.toNat (shP x)
def CET(x:Span):Prop:=AS ZP (ann 13 [(80,My),(48,APZ)]) Tryz.f50 (AG Tryz.f50) (xSp1 x) (AC []) (.bool (R3 x)) [] [] []
theorem CMB(x:Span):(CET x)=(SQ (R3 x) (JR (IP x) (GN x)) (JR (GN x) 1000000000)):=by kernel_rfl
def C_sShr:Ctr:={ α:=ShS,xs:=λx=>[.d (eCmp x.c),.d (EQ x.s)],L:=λ_=>[],val:=λx=>.tup [.d (eSps (shV x)),.int 0],keep:=λ_=>[],pre:=λx=>[okCm x.c/\0<=x.s.lo/\x.s.lo<=x.s.hi/\x.s.hi<=1000000000] }
def CTR:List AVal->Heap->Option (ShS×List (Nat×Nat)×List Nat)
 |[c,.d s],H=>(BHN [c] H).map λp=>(⟨p.1,VB s⟩,[],[])
 |_,_=>none
def sh9n(x:ShS):Shape:={ α:=One,dflt:=default,T:=λ_=>⟨[(7,.d (BM (shL x))),(8,.d (BM (shH x))),(9,.d JX),(30,.int x.c.s.toNat),(31,.int 0)],[]⟩,inv:=λ_=>True,meas:=λ_=>100 }
def sh9o(x:ShS):Shape:={ α:=Nat,dflt:=0,T:=λk=>⟨[(7,.d (BM (shL x))),(8,.d (BM (shH x))),(9,.own 300 2 0 k),(30,.int x.c.s.toNat),(31,.int k)],[(300,.live (.row 2 k λi=>EQ (shP x i)))]⟩,inv:=λk=>1<=k/\k<=x.c.s.toNat,meas:=λk=>70-k,again:=[(300,12176)] }
def CFP(x:ShS):Ann:={ ann 48 [(47,C_sCheck.spec BHN),(50,pD dSp1 λx=>.bool (R3 x)),(49,C_sSrv.spec BIR)] with mt:=λid=>id==11,loops:=λid=>if id=9 then some [sh9n x,sh9o x] else none }
def CEK(x:ShS):Prop:=AS ZP (CFP x) Tryz.f18 (AG Tryz.f18) (C_sShr.xs x) (AC []) (C_sShr.val x) [] [] [300]
abbrev KH:=ShS.c
abbrev AKS:=ShS.s
abbrev ZN a:=Mw (KH a)
abbrev mT a:=OY (ZN a)
abbrev ABN a:=IP (AKS a)
attribute [go_sem] KH AKS ZN mT ABN
theorem COL(x:ShS):(CEK x)=(And (BW (AI (ZN x)) (oP (KH x)) (AE (λi=>Li i (KH x) (VE (KH x) i) (Dv (KH x) i) (UW (KH x) i) (Ei (KH x) i) (VW (KH x) i) (Dy (KH x) i))) (AZD (ZN x) 12) (D6 (KH x)) (M1 (KH x) (ZU (ZN x) (KH x)))) (Be (R3 (AKS x)) (lA (mP (shV x)) (sA 4)) (Hl (AO (AI (ZN x)) (oP (KH x)) (AE (λi=>Li i (KH x) (VE (KH x) i) (Dv (KH x) i) (UW (KH x) i) (Ei (KH x) i) (VW (KH x) i) (Dy (KH x) i))) (AP (AI (ABN x)) (WU (CV (Bo (ZN x)) (KM (ZN x) 12) (D6 (KH x)) (M1 (KH x) (ZU (ZN x) (KH x)))) (ABN x) (KM (ABN x) 1000000000)) (AI (ZN x)) (oP (KH x)) (AE (λi=>Li i (KH x) (VE (KH x) i) (Dv (KH x) i) (UW (KH x) i) (Ei (KH x) i) (VW (KH x) i) (Dy (KH x) i))) (AI (GN (AKS x))) (CV (Bo (ZN x)) (KM (ZN x) 12) (D6 (KH x)) (M1 (KH x) (ZU (ZN x) (KH x)))) (IM (GN (AKS x))) (KM (GN (AKS x)) 1000000000))) (Nq (λi=>Wo (BH (shL x) (Yx (ZN x) (KH x) (ABN x))) (BO (shL x) (Yx (ZN x) (KH x) (ABN x))) (BH (shH x) (Yx (ZN x) (KH x) (GN (AKS x)))) (CB (BO (shH x) (Yx (ZN x) (KH x) (GN (AKS x)))) AB AK (AT (mT x) (BQ (Yx (ZN x) (KH x) (ABN x)))) AU))) (Xh (λi=>Km EB (F6 0 (mT x)) (CV YV (Gf (BQ (shL x))) (And YV (Gf (BQ (shH x)))) (Wr 2 16)) (EA (λj=>Kv (rH (shL x) (AP (IU (shL x)) (MO (shH x)) (IU (shH x)) AB (XS j) (BY (mT x)) (TO j SK) (XS j) (AE (λk=>UU k j (shP x k) (ID (shL x) 0) (ID (shH x) 0))))) (JH j (mT x)) 70 j 100)) (lA (mP (shV x)) AU))) (λi=>Mm (JH i (mT x)) i (mT x) (AQ (MZ i (shL x)) (MZ i (shH x)) (jE i)) (EA (λj=>EO (rH (shL x) (AP (IU (shL x)) (MO (shH x)) (IU (shH x)) AB (OK j i) (BY (mT x)) (AR j i) (OK j i) (AE (λk=>UU k j (shP x k) (BF k i (IP (shP x k)) (ID (shL x) i)) (BF k i (GN (shP x k)) (ID (shH x) i)))))) (JH j (mT x)) 70 j i)) (Cj (TH (shV x) i) (AJ i) i (AE (λj=>Rk j (shV x) (shP x (AJ j)))) AU))))):=by kernel_rfl
structure McS where
 s:Stm
 l:List Rgh
def G5(a:Stm):Int:=Jt a 1 6
def mcT(a:Stm):Stm:=kQ a 1 6
def mcK(a:Stm):Int:=Jt (mcT a) 1 12
def mcU(S:Int)(y:McS):Stm:=DI y.s S
def mcX(S:Int)(y:McS):McS:=⟨DI (DI (DI (mcU S y) 100) 2) 400,y.l ++ [⟨BS y.s S,BS (mcU S y) 100,wr (BS (DI (mcU S y) 100) 2*BS (DI (DI (mcU S y) 100) 2) 400)⟩]⟩
def mcN(a:Stm):Nat->McS
 |0=>⟨kQ (mcT a) 1 12,[]⟩
 |k+1=>mcX (G5 a) (mcN a k)
def mcV(a:Stm):Cmp:=⟨G5 a,(mcN a (mcK a).toNat).l⟩
def mcF(a:Stm):Stm:=(mcN a (mcK a).toNat).s
def d_Mc:List AVal->Heap->Option (Stm×List (Nat×Nat)×List Nat)
 |[.bptr id c],H=>(AQA [.bptr id c,.int 0] H).map λp=>(p.1.s,[(100,id)],[])
 |_,_=>none
def C_l9M:Ctr:={ α:=Stm,xs:=λ_=>[.bptr 100 0],L:=λa=>[(100,stmO a)],val:=λa=>.d (eCmp (mcV a)),keep:=λa=>[(100,stmH (mcF a))],pre:=λa=>[StmB 0 a] }
def mcE(a:Stm)(k:Nat)(v:AVal):List (Nat×HCell):=[(100,stmH (mcN a k).s),(1000,.live (.box [.int 0,.d JX])),(2048,.live (.box [.int (G5 a),v]))]
def mcL(a:Stm)(k:Nat):List (Nat×AVal):=[(0,.bptr 100 0),(2,.bptr 1000 0),(3,.bptr 2048 0),(8,.int (mcK a)),(9,.int k)]
def mc3n(a:Stm):Shape:={ α:=One,dflt:=default,T:=λ_=>⟨mcL a 0,mcE a 0 (.d JX)⟩,inv:=λ_=>True,meas:=λ_=>100 }
def mc3o(a:Stm):Shape:={ α:=Nat,dflt:=0,T:=λk=>⟨mcL a k,mcE a k (.own 300 3 0 k) ++ [(300,.live (.row 3 k λi=>eRgh (gD (mcN a k).l i)))]⟩,inv:=λk=>1<=k/\(k:Int)<=mcK a,meas:=λk=>70-k,again:=[(300,5240)] }
def CRJ(a:Stm):Ann:={ ann 30 [(20,C_Next.spec AQA),(19,C_Within.spec ATV)] with E:=[100],mt:=λid=>id==4,loops:=λid=>if id=3 then some [mc3n a,mc3o a] else none }
def CTU(a:Stm):Prop:=AS ZP (CRJ a) Tryz.f16 (AG Tryz.f16) (C_l9M.xs a) (AC (C_l9M.L a)) (C_l9M.val a) (C_l9M.keep a) [] [300]
abbrev VS a b:=McS.s (mcN a b)
abbrev Oz a b c:=AWJ (McS.l (mcN a b)) c
abbrev xF a:=Af a 2
abbrev BOI a b c:=Af (Af a b) c
abbrev BKB a b:=BOI a (G5 b) 100
abbrev Bd a b c:=BKB (VS a b) c
abbrev Oy a b:=Af a (G5 b)
abbrev nW a:=BOI a 2 400
abbrev Dd a:=VS a 0
abbrev Wa a:=BKB (Dd a) a
abbrev X4 a:=xF (Wa a)
attribute [go_sem] VS Oz xF BOI BKB Bd Oy nW Dd Wa X4
theorem CWI(a:Stm):(CTU a)=(CB (LL Vq 6 (wM 6) (M2 a)) (LL Vq 12 (wM 12) (M2 (O2 a))) (Nq (λi=>Wo (AN (mcK a) (Va (O2 a) 1 12)) AU (JQ (Dd a) (Zw (O2 a) 12)) (AP (MR (Dd a) (Zw (O2 a) 12)) (UZ (Dd a) (Zw (O2 a) 12)) (SA (Dd a) (Zw (O2 a) 12)) AU AB AK (AN (G5 a) (Va a 1 6)) AB AK))) (Xh (λi=>Ck EB 0 (mcK a) (CB (AI (G5 a)) (SF (Dd a)) (RX (Dd a)) (TZ (Dd a)) (AP (SH (Dd a)) (Ic (Dd a)) (DJ 100 100) (SF (Oy (Dd a) a)) (RX (Oy (Dd a) a)) (TZ (Oy (Dd a) a)) (SH (Oy (Dd a) a)) (Ic (Oy (Dd a) a)) (AP (DJ 2 2) (SF (Wa a)) (RX (Wa a)) (TZ (Wa a)) (SH (Wa a)) (Ic (Wa a)) (DJ 400 400) (SF (X4 a)) (AP (RX (X4 a)) (TZ (X4 a)) (SH (X4 a)) (Ic (X4 a)) (ABZ 3) (Zj (aJ 1 3)) Ro Lo (Yv 24))))) (EA (λj=>Kv (And (AI (mcK a)) (JG (AR j 0) (JQ (VS a j) (nW (Wa a))) (MR (VS a j) (nW (Wa a))) (NF (VS a j)) (NF (nW (Wa a))) (AON (SA (VS a j) (nW (Wa a))) AU AB AK (AI (G5 a)) AB (XS j) (AE (λk=>EJ k j (No (Oz a j k)) (OP (Dd a) (G5 a)) (Ns (Oz a j k)) (OP (Oy (Dd a) a) 100) (Nl (Oz a j k)) (UC (OP (Wa a) 2) (OP (X4 a) 400))))))) (AGW j (KM (AZ j) (mcK a))) 70 j 100)) (AQ (AN (Mw (mcV a)) (G5 a)) (fF (VY (mcV a))) (JG (fF (VY (mcV a))) (JQ (mcF a) (Dd a)) (MR (mcF a) (Dd a)) (NF (mcF a)) (NF (Dd a)) (SA (mcF a) (Dd a)))))) (AE (λi=>Ck (AGW i (KM (AZ i) (mcK a))) i (mcK a) (CB (AI (G5 a)) (SF (VS a i)) (RX (VS a i)) (TZ (VS a i)) (AP (SH (VS a i)) (Ic (VS a i)) (DJ 100 100) (SF (Oy (VS a i) a)) (RX (Oy (VS a i) a)) (TZ (Oy (VS a i) a)) (SH (Oy (VS a i) a)) (Ic (Oy (VS a i) a)) (AP (DJ 2 2) (SF (Bd a i a)) (RX (Bd a i a)) (TZ (Bd a i a)) (SH (Bd a i a)) (Ic (Bd a i a)) (DJ 400 400) (SF (xF (Bd a i a))) (AP (RX (xF (Bd a i a))) (TZ (xF (Bd a i a))) (SH (xF (Bd a i a))) (Ic (xF (Bd a i a))) (aB i 3) (Zj (aJ 1 3)) aG (mM i) (Yv (nB i 24)))))) (EA (λj=>EO (And (AI (mcK a)) (JG (AR j i) (JQ (VS a j) (nW (Bd a i a))) (MR (VS a j) (nW (Bd a i a))) (NF (VS a j)) (NF (nW (Bd a i a))) (AON (SA (VS a j) (nW (Bd a i a))) AU AB AK (AI (G5 a)) AB (OK j i) (AE (λk=>EJ k j (No (Oz a j k)) (BF k i (No (Oz a i k)) (OP (VS a i) (G5 a))) (Ns (Oz a j k)) (BF k i (Ns (Oz a i k)) (OP (Oy (VS a i) a) 100)) (Nl (Oz a j k)) (BF k i (Nl (Oz a i k)) (UC (OP (Bd a i a) 2) (OP (xF (Bd a i a)) 400)))))))) (AGW j (KM (AZ j) (mcK a))) 70 j i)) (AO (AN (Mw (mcV a)) (G5 a)) (BB (VY (mcV a)) i) (LU i) (JG (AE (λj=>EJ j (VY (mcV a)) (Dv (mcV a) j) (No (Oz a i (AJ j))) (Ei (mcV a) j) (Ns (Oz a i (AJ j))) (Dy (mcV a) j) (Nl (Oz a i (AJ j))))) (JQ (mcF a) (VS a i)) (MR (mcF a) (VS a i)) (NF (mcF a)) (NF (VS a i)) (SA (mcF a) (VS a i))))))):=by kernel_rfl
def CAO(l:List Int):Prop:=AS ZP (AJN l) Tryz.f15 (AG Tryz.f15) (C_lSum.xs l) (AC []) (C_lSum.val l) [] [] []
theorem CKQ(l:List Int):(CAO l)=(LR (λi=>Vs (Yh (BZ (Ow i l)) l l l (BC i)) i (BQ l)) (λi=>Ck (MH i (BQ l)) i (LW l) (MZ i l) (EA (λj=>Bg (Yh (Ug (Ow j l) (Ow i l) (ID l i)) l l l (AR j i)) j (BQ l) j i)) (AN (SC l) (Ow i l)))):=by kernel_rfl
theorem CNE(x:Rec)(h:dpT x):BVZ x:=by
 rw[CKG]<;> dsimp only[go_sem];simp only[CC,CU,CK,JD,FM,FK,FL,QZ,KA,JV,OE,OD]
 exact⟨h,rng_length _ _,Nat.le_refl _,λj hj=>by rw[show (Y4 x).length=x.l.length from rng_length _ _] at hj;rw[show gD (Y4 x) j=Ve x.r x.l.length (wQ x) j from CS _ _ _ hj];exact⟨rfl,rfl⟩⟩
theorem CIL:AH ZP 12 (C_dFill.spec C7):=MK C_dFill (λ_=>BSV) [] [2017] Tryz.func12 (λ_=>by kernel_rfl) (λ_=>AA BUT AD) CNE (λ_=>OA rfl rfl) _
theorem CNO:AH ZP 50 (pD dSp1 λx=>.bool (R3 x)):=NH xSp1 hSp1 λx _=>TF (A:=ann 13 [(80,My),(48,APZ)]) (ren:=[]) (fz:=[]) Tryz.func50 (by kernel_rfl) (AA BCJ (AA AXL AD)) (by
 show CET x;rw[CMB]<;> dsimp only[go_sem];unfold R3;cases NJ x.lo 0 x.hi<;>rfl)
theorem AFM(x:Srv):(svV x).length=x.c.s.toNat:=rng_length _ _
theorem CWZ(x:ShS)(h:okCm x.c/\0<=x.s.lo/\x.s.lo<=x.s.hi/\x.s.hi<=1000000000):CEK x:=by
 obtain⟨h0,h1,h2,h3⟩:=h
 have hs:=(BON h0).s
 have e1:(shL x).length=x.c.s.toNat:=AFM _
 have e2:(shH x).length=x.c.s.toNat:=AFM _
 have e3:(shV x).length=x.c.s.toNat:=rng_length _ _
 have ef:R3 x.s=true:=by unfold R3;rw[Cp ⟨h1,h2⟩,Cp (show (0:Int)<=x.s.hi/\x.s.hi<=1000000000 by omega)];rfl
 rw[COL]<;> dsimp only[go_sem];simp only[CC,CU,CK,JD,FM,FK,FL,QZ,KA,JV,OE,OD,e1,e2,e3]
 refine⟨h0,λhf=>(by rw[ef] at hf;cases hf),λ_=>⟨⟨⟨h0,h1,by omega⟩,h0,by omega,h3⟩,⟨default,(AFM ⟨x.c,x.s.lo⟩).symm,λ_ _=>rfl,(AFM ⟨x.c,x.s.hi⟩).symm,λ_ _=>rfl,congrArg Int.ofNat (AFM ⟨x.c,x.s.lo⟩).symm⟩,⟨λhl=>⟨⟨⟨by omega,hl⟩,⟨by omega,hl⟩,λh=>(by omega),by omega,by omega,by omega,by omega⟩,⟨1,⟨rfl,rfl,rfl,λi hi=>?_⟩,⟨by omega,by omega⟩,by omega⟩⟩,λhl=>by omega⟩,λk hk=>⟨λhlt=>⟨⟨⟨by omega,hlt⟩,⟨by omega,hlt⟩,by omega,λh=>(by cases h),by omega,by omega⟩,⟨k+1,⟨rfl,(BJ (by omega)).symm,rfl,λi hi=>?_⟩,⟨by omega,by omega⟩,by omega⟩⟩,λhge=>⟨by omega,by omega,λj hj=>?_⟩⟩⟩⟩
 ·obtain rfl:i=0:=by omega
  exact⟨rfl,rfl⟩
 ·by_cases q:i<k
  ·rw[decide_eq_true q];exact⟨rfl,rfl⟩
  ·obtain rfl:i=k:=by omega
   rw[decide_eq_false q];exact⟨rfl,rfl⟩
 ·rw[show gD (shV x) j=shP x j from CS _ _ _ hj];exact⟨rfl,rfl⟩
theorem CKZ:AH ZP 18 (C_sShr.spec CTR):=MK C_sShr CFP [] [300] Tryz.func18 (λ_=>by kernel_rfl) (λ_=>AA AUP (AA CNO (AA BVW AD))) CWZ (λ_=>OA rfl rfl) _
structure McF(a:Stm)(k:Nat):Prop where
 s0:StmB (4*k+2) (mcN a k).s
 s1:StmB (4*k+3) (mcU (G5 a) (mcN a k))
 s2:StmB (4*k+4) (DI (mcU (G5 a) (mcN a k)) 100)
 s3:StmB (4*k+5) (DI (DI (mcU (G5 a) (mcN a k)) 100) 2)
 s4:StmB (4*k+6) (DI (DI (DI (mcU (G5 a) (mcN a k)) 100) 2) 400)
theorem rA{K L:Int}{s:Stm}(h:StmB K s)(e:K=L):StmB L s:=e ▸ h
theorem McF.of{a:Stm}{k:Nat}(hk:k<=100)(h:StmB (4*k+2) (mcN a k).s):McF a k:=by
 have s1:=h.next (by omega) (G5 a)
 have s2:=s1.next (by omega) 100
 have s3:=s2.next (by omega) 2
 have s4:=s3.next (by omega) 400
 exact⟨h,rA s1 (by omega),rA s2 (by omega),rA s3 (by omega),rA s4 (by omega)⟩
theorem BYA{a:Stm}(h:StmB 0 a):(1<=G5 a/\G5 a<=6)/\(1<=mcK a/\mcK a<=12)/\StmB 1 (mcT a):=by
 have a1:=dD h (by omega) (lo:=1) (hi:=6) (by omega) (by omega) (by omega)
 have s1:StmB 1 (mcT a):=rA (h.next (by omega) (witN 1 6)) (by omega)
 exact⟨a1,dD s1 (by omega) (by omega) (by omega) (by omega),s1⟩
theorem BEB{a:Stm}(h:StmB 0 a):∀k:Nat,k<=12->McF a k
 |0,_=>McF.of (by omega) (rA ((BYA h).2.2.next (by omega) (witN 1 12)) (by omega))
 |k+1,hk=>McF.of (by omega) (rA (BEB h k (by omega)).s4 (by omega))
theorem AMV(a:Stm):∀k,(mcN a k).l.length=k
 |0=>rfl
 |k+1=>by show ((mcN a k).l ++ [_]).length=_;rw[List.length_append,AMV a k];rfl
theorem CWH{l:List Rgh}{g:Rgh}{k:Nat}(hl:l.length=k):∀i:Nat,i<k+1->(gD (l ++ [g]) i).s=(bif decide (i<k) then (gD l i).s else g.s)/\(gD (l ++ [g]) i).a=(bif decide (i<k) then (gD l i).a else g.a)/\(gD (l ++ [g]) i).l=(bif decide (i<k) then (gD l i).l else g.l):=by
 subst hl
 intro i hi
 rw[BOF]
 cases hd:decide (i<l.length)
 ·have h1:i-l.length=0:=by
   have:=of_decide_eq_false hd
   omega
  rw[h1];exact⟨rfl,rfl,rfl⟩
 ·exact⟨rfl,rfl,rfl⟩
theorem DCO(a:Stm)(h:StmB 0 a):CTU a:=by
 obtain⟨hS,hK,hT⟩:=BYA h
 rw[CWI]<;> dsimp only[go_sem];simp only[CC,CU,CK,JD,FM,FK,FL,QZ,KA,JV,OE,OD,AYH]
 refine⟨⟨rfl,rfl,h.used.1⟩,⟨rfl,rfl,hT.used.1⟩,⟨default,rfl,rfl,λ_ _=>rfl,rfl,rfl,rfl⟩,⟨λ_=>?_,λhc=>absurd hc (by omega)⟩,λk hk=>⟨λhlt=>?_,λhge=>?_⟩⟩
 ·have F:=BEB h 0 (by omega)
  refine⟨⟨F.s0.used.1,rfl,F.s1.used.1,rfl,F.s2.used.1,rfl,F.s3.used.1,λh=>absurd h (by omega),by omega,by omega,by omega,by omega⟩,⟨1,⟨rfl,rfl,λ_ _=>rfl,rfl,rfl,rfl,rfl,λi hi=>?_⟩,⟨by omega,by omega⟩,by omega⟩⟩
  obtain rfl:i=0:=by omega
  exact⟨rfl,rfl,rfl⟩
 ·have F:=BEB h k (by omega)
  refine⟨⟨F.s0.used.1,rfl,F.s1.used.1,rfl,F.s2.used.1,rfl,F.s3.used.1,by omega,λh=>(by cases h),by omega,by omega⟩,⟨k+1,⟨(BJ (by omega)).symm,rfl,λ_ _=>rfl,rfl,rfl,rfl,rfl,?_⟩,⟨by omega,by omega⟩,by omega⟩⟩
  exact CWH (AMV a k)
 ·have e:k=(mcK a).toNat:=by omega
  subst e
  exact⟨rfl,AMV _ _,Nat.le_refl _,λ_ _=>⟨rfl,rfl,rfl⟩,rfl,λ_ _=>rfl,rfl,rfl⟩
theorem CXK:AH ZP 16 (C_l9M.spec d_Mc):=MK C_l9M CRJ [] [300] Tryz.func16 (λ_=>by kernel_rfl) (λ_=>AA BAD (AA AVA AD)) DCO (λ_=>OA rfl rfl) _
theorem DAO{a:Stm}(h:StmB 0 a):okCm (mcV a):=by
 obtain⟨hS,hK,hT⟩:=BYA h
 have el:(mcV a).l.length=(mcK a).toNat:=AMV _ _
 refine⟨by show 1<=G5 a/\G5 a<=12;omega,by rw[el];omega,?_⟩
 have key:∀k:Nat,k<=12->(mcN a k).l.all (okRg (mcV a))=true:=by
  intro k
  induction k with
  |zero=>exact λ_=>rfl
  |succ k ih=>
   intro hk
   have F:=BEB h k (by omega)
   show ((mcN a k).l ++ [_]).all (okRg (mcV a))=true
   rw[List.all_append,ih (by omega)]
   have v1:=VR F.s0 (by omega) (G5 a)
   have v1':=v1.2 hS.1
   have v2:=VR F.s1 (by omega) 100
   have v2':=v2.2 (by omega)
   have v3:=VR F.s2 (by omega) 2
   have v3':=v3.2 (by omega)
   have v4:=VR F.s3 (by omega) 400
   have v4':=v4.2 (by omega)
   generalize BS (DI (mcU (G5 a) (mcN a k)) 100) 2=p at v3 v3'
   generalize BS (DI (DI (mcU (G5 a) (mcN a k)) 100) 2) 400=q at v4 v4'
   have m0:=Int.mul_nonneg v3.1 v4.1
   have m1:p*q<=1*q:=Int.mul_le_mul_of_nonneg_right (by omega) v4.1
   have e:wr (p*q)=p*q:=ER (by omega) (by omega)
   have e2:wr ((mcV a).s-1)=G5 a-1:=ER (by show _<=G5 a-1;omega) (by show G5 a-1<=_;omega)
   rw[Bool.true_and,List.all_cons,List.all_nil,Bool.and_true]
   unfold okRg
   rw[e2,e]
   show (NJ _ 0 (G5 a-1)&&(NJ _ 0 1000000000&&NJ (p*q) 0 1000))=true
   rw[Cp (show 0<=BS (mcN a k).s (G5 a)/\BS (mcN a k).s (G5 a)<=G5 a-1 by omega),Cp (show 0<=BS (mcU (G5 a) (mcN a k)) 100/\BS (mcU (G5 a) (mcN a k)) 100<=1000000000 by omega),Cp (show 0<=p*q/\p*q<=1000 by omega)]
   rfl
 exact key _ (by omega)
theorem CNY:AH ZP 15 (C_lSum.spec d_Is):=MK C_lSum AJN [] [] Tryz.func15 (λ_=>by kernel_rfl) (λ_=>AD) (λ(l:List Int) h=>by
 have h:l.length<1073741824:=h
 show CAO l;rw[CKQ]<;> dsimp only[go_sem];simp only[CC,CU,CK,JD,FM,FK,FL,QZ,KA,JV,OE,OD]
 refine⟨⟨0,⟨rfl,rfl⟩,Nat.zero_le _⟩,λk hk=>⟨λhlt=>?_,λhge=>?_⟩⟩
 ·have hlt:k<l.length:=by omega
  exact⟨⟨by omega,by omega⟩,k+1,⟨AKA l k hlt,(BJ (by omega)).symm⟩,by omega,by omega⟩
 ·have:k=l.length:=by omega
  rw[this,List.take_length]) (λ_=>OA rfl rfl) _
end Go.Bal
set_option maxRecDepth 8000
namespace Go.Bal
open Go Go.Sym Go.Proofs
structure NSp where
 n:Int
 s:Span
def xNSp(x:NSp):List AVal:=[.int x.n,.d (EQ x.s)]
def dNSp:List AVal->Option NSp
 |[.d (.v (.int .i64 n)),.d (.agg [.v (.int .i64 a),.v (.int .i64 b)])]=>some ⟨n,⟨a,b⟩⟩
 |_=>none
theorem hNSp(xs:List AVal)(a:NSp)(h:dNSp xs=some a):xs=xNSp a:=by
 unfold dNSp at h;split at h<;>cases h;rfl
def CII:=pD dNSp λx=>.bool (NJ x.n x.s.lo x.s.hi)
def CCN(x:NSp):Prop:=AS ZP (ann 15 []) Tryz.f14 (AG Tryz.f14) (xNSp x) (AC []) (.bool (NJ x.n x.s.lo x.s.hi)) [] [] []
theorem CMV(x:NSp):(CCN x)=(SQ (NJ (NSp.n x) (IP (NSp.s x)) (GN (NSp.s x))) (hd6 (NSp.n x) (IP (NSp.s x))) (hd7 (NSp.n x) (GN (NSp.s x)))):=by kernel_rfl
def four:Rec:=⟨⟨10,5⟩,[⟨true,20,30⟩,⟨false,0,0⟩,⟨false,0,0⟩,⟨true,58,90⟩]⟩
def two:Cmp:=⟨2,[⟨0,100,50⟩,⟨1,60,100⟩,⟨0,40,0⟩]⟩
def d_1:List AVal->Heap->Option (One×List (Nat×Nat)×List Nat)
 |[.d (.v (.int .i64 _))],_=>some (default,[],[])
 |_,_=>none
def d_2:List AVal->Heap->Option (One×List (Nat×Nat)×List Nat)
 |[_,_],_=>some (default,[],[])
 |_,_=>none
def d_3:List AVal->Heap->Option (One×List (Nat×Nat)×List Nat)
 |[_,_,_],_=>some (default,[],[])
 |_,_=>none
def C_l1Thr:Ctr:={ α:=One,xs:=λ_=>[.int 148],L:=λ_=>[],val:=λ_=>.d (eNet thr),keep:=λ_=>[] }
def BUA(_x:One):Prop:=AS ZP (ann 9 []) Tryz.f26 (AG Tryz.f26) [.int 148] (AC []) (.d (eNet thr)) [] [] [2064]
abbrev Wl a:=Dz (AJ a)
attribute [go_sem] Wl
theorem CAY(_x:One):(BUA _x)=(Hl AW (BI 3) (AKY 3) (λi=>Zo i (BJU (Fb thr i) (iJ i 0 (MW (Wl i) 1 0)) (BJJ (Nu thr i) (iJ i 1 (MW (Wl i) 2 2))) (BOV (Nu thr i) (iJ i 5 (MW (Wl i) 5 9))) (Nu thr i) (iJ i 100 (MW (Wl i) 50 148)) (Nu thr i) (iJ i 2 (MW (Wl i) 1 3))))):=by kernel_rfl
def C_Btw0:Ctr:={ α:=One,xs:=λ_=>[.d (eNet thr),.int 0,.int 2],L:=λ_=>[],val:=λ_=>.tup [.d (EQ ⟨147,151⟩),.int 0],keep:=λ_=>[] }
def BPY:=pD dI2 λx=>.d (EQ ⟨x.a,x.b⟩)
def BZU(x:I2):Prop:=AS ZP (ann 8 []) Tryz.f96 (AG Tryz.f96) (xI2 x) (AC []) (.d (EQ ⟨x.a,x.b⟩)) [] [] []
theorem CQF(x:I2):(BZU x)=(And (AI (Ab x)) (AI (Kx x))):=by kernel_rfl
def BJK:=pD dI2 λx=>.d (eVl ⟨true,x.a,x.b⟩)
def CKA(x:I2):Prop:=AS ZP (ann 9 [(96,BPY)]) Tryz.f59 (AG Tryz.f59) (xI2 x) (AC []) (.d (eVl ⟨true,x.a,x.b⟩)) [] [] []
theorem CPX(x:I2):(CKA x)=(kG CY (Ab x) (Kx x)):=by kernel_rfl
def C_l7Four:Ctr:={ α:=One,xs:=λ_=>[.int 58],L:=λ_=>[],val:=λ_=>.d (eRec four),keep:=λ_=>[] }
def BFE(_x:One):Prop:=AS ZP (ann 10 [(59,BJK)]) Tryz.f27 (AG Tryz.f27) [.int 58] (AC []) (.d (eRec four)) [] [] [2080]
theorem BXI(_x:One):(BFE _x)=(CB (aZ 10) (aZ 5) (BI 4) (AKY 4) (AE (λi=>Fo i 4 (QK four i) (Hc (AOY i) (hd5 (Hw (Wl i)) P8 (hd5 (Hw (Dz (Wl i))) P8 Fa))) (QO four i) (iJ i 20 (MW (Wl i) 0 (MW (Dz (Wl i)) 0 58))) (RA four i) (iJ i 30 (MW (Wl i) 0 (MW (Dz (Wl i)) 0 90)))))):=by kernel_rfl
def C_dVol0:Ctr:={ α:=One,xs:=λ_=>[.d (eRec four),.int 1,.int 2],L:=λ_=>[],val:=λ_=>.tup [.d (EQ ⟨86,90⟩),.int 0],keep:=λ_=>[] }
def C_l9Two:Ctr:={ α:=One,xs:=λ_=>[],L:=λ_=>[],val:=λ_=>.d (eCmp two),keep:=λ_=>[] }
def BTJ(_x:One):Prop:=AS ZP (ann 6 []) Tryz.f28 (AG Tryz.f28) [] (AC []) (.d (eCmp two)) [] [] [2048]
theorem BYQ(_x:One):(BTJ _x)=(Int.ofNat (2:Nat)=Int.ofNat (2:Nat)/\(3:Nat)=(3:Nat)/\(3:Nat)<=(3:Nat)/\∀(j:Nat),j<(3:Nat)->((gD two.l j).s=bif decide ((0:Nat)+j=(0 :
 Nat)) then (0:Int) else bif decide ((0:Nat)+j-(1:Nat)=(0:Nat)) then (1:Int) else (0:Int))/\((gD two.l j).a=bif decide ((0:Nat)+j=(0:Nat)) then (100:Int) else bif decide ((0:Nat)+j-(1
 : Nat)=(0:Nat)) then (60:Int) else (40:Int))/\(gD two.l j).l=bif decide ((0:Nat)+j=(0:Nat)) then (50:Int) else bif decide ((0:Nat)+j-(1:Nat)=(0:Nat)) then (100:Int) else (0:Int)):=
 by kernel_rfl
def got2:List Int:=[95,18]
def C_sRl0:Ctr:={ α:=One,xs:=λ_=>[.d (eCmp two),.int 120],L:=λ_=>[],val:=λ_=>.tup [.d (BM got2),.int 0],keep:=λ_=>[] }
def C_SmI:Ctr:={ α:=One,xs:=λ_=>[.d (BM got2),.d (BM got2)],L:=λ_=>[],val:=λ_=>.bool true,keep:=λ_=>[] }
def CSU:Ann:={ ann 26 [] with unr:=λid=>if id=4 then 3 else 0 }
def CRI(_x:One):Prop:=AS ZP CSU Tryz.f29 (AG Tryz.f29) [.d (BM got2),.d (BM got2)] (AC []) (.bool true) [] [] []
theorem CXA(_x:One):(CRI _x)=(AQ (CV YV (Gf 2) YV (Gf 2)) (WU (FV SK 2) SK (Uo SK 2)) CY):=by kernel_rfl
def C_aw9:Ctr:={ α:=One,xs:=λ_=>[],L:=λ_=>[],val:=λ_=>.bool true,keep:=λ_=>[] }
def CRA:Ann:=ann 47 [(26,C_l1Thr.spec d_1),(25,C_Btw0.spec d_3),(27,C_l7Four.spec d_1),(13,C_dVol0.spec d_3),(28,C_l9Two.spec AGZ),(17,C_sRl0.spec d_2),(29,C_SmI.spec d_2)]
def CRB(_x:One):Prop:=AS ZP CRA Tryz.f8 (AG Tryz.f8) [] (AC []) (.bool true) [] [] []
theorem CWE(_x:One):(CRB _x)=((Int.ofNat (148:Nat)=Int.ofNat (148:Nat)/\Int.ofNat (3:Nat)=Int.ofNat (3:Nat)/\(3:Nat)=(3:Nat)/\(∀(i:Nat),i<(3:Nat)->(gD thr i).f=(gD thr i).f /\
 (gD thr i).t=(gD thr i).t/\(gD thr i).d=(gD thr i).d/\(gD thr i).r=(gD thr i).r/\(gD thr i).e=(gD thr i).e)/\Int.ofNat (0:Nat)=Int.ofNat (0:Nat)/\Int.ofNat (2:Nat)=Int.ofNat (2:Nat))/\(Int.ofNat
 (58:Nat)=Int.ofNat (58:Nat)/\Int.ofNat (10:Nat)=Int.ofNat (10:Nat)/\Int.ofNat (5:Nat)=Int.ofNat (5:Nat)/\(4:Nat)=(4:Nat)/\(∀(i:Nat),i<(4:Nat)->(gD four.l i).k=(gD four.l i).k/\(gD
 four.l i).lo=(gD four.l i).lo/\(gD four.l i).hi=(gD four.l i).hi)/\Int.ofNat (1:Nat)=Int.ofNat (1:Nat)/\Int.ofNat (2:Nat)=Int.ofNat (2:Nat))/\(Int.ofNat (2:Nat)=Int.ofNat (2:Nat)/\(3:Nat) =
 (3:Nat)/\(∀(i:Nat),i<(3:Nat)->(gD two.l i).s=(gD two.l i).s/\(gD two.l i).a=(gD two.l i).a/\(gD two.l i).l=(gD two.l i).l)/\Int.ofNat (120:Nat)=Int.ofNat (120:Nat))/\(true=true->(2:Nat) =
 (2:Nat)/\(∀(i:Nat),i<(2:Nat)->gD got2 i=gD got2 i)/\(2:Nat)=(2:Nat)/\∀(i:Nat),i<(2:Nat)->gD got2 i=bif decide (i=(0:Nat)) then (95:Int) else (18:Int))/\true=true):=by
 kernel_rfl
theorem CNK:AH ZP 14 CII:=NH xNSp hNSp λx _=>TF (A:=ann 15 []) (ren:=[]) (fz:=[]) Tryz.func14 (by kernel_rfl) AD (by
 show CCN x;rw[CMV]<;> dsimp only[go_sem];unfold NJ;by_cases h:x.s.lo<=x.n<;>simp[h])
theorem CPK(x:LbS)(h:BG (prB x)):FnT ZP 25 (C_lBtw.xs x) (AC []) (C_lBtw.val x) []:=TF (A:=BYM) (ren:=[]) (fz:=[]) Tryz.func25 (by kernel_rfl) (AA CON AD) (CWP x h)
theorem CCP:AH ZP 26 (C_l1Thr.spec d_1):=MK C_l1Thr (λ_=>ann 9 []) [] [2064] Tryz.func26 (λ_=>by kernel_rfl) (λ_=>AD) (λ(x:One) _=>by
 show BUA x;rw[CAY]<;> dsimp only[go_sem];simp only[CC,CU,CK,JD,FM,FK,FL,QZ,KA,JV,OE,OD]
 refine⟨by omega,λj hj=>?_⟩
 match j,hj with
 |0,_=>exact⟨rfl,rfl,rfl,rfl,rfl⟩
 |1,_=>exact⟨rfl,rfl,rfl,rfl,rfl⟩
 |2,_=>exact⟨rfl,rfl,rfl,rfl,rfl⟩) (λ_=>OA rfl rfl) _
theorem COC:AH ZP 25 (C_Btw0.spec d_3):=Ctr.spec_ok (C:=C_Btw0) (λ(_:One) _=>by
 have:=CPK ⟨thr,0,2⟩ BRC.1
 have e:C_lBtw.val ⟨thr,0,2⟩=.tup [.d (EQ ⟨147,151⟩),.int 0]:=by show AVal.tup [.d (EQ (btwV ⟨thr,0,2⟩)),.int 0]=_;rw[BRC.2]
 rw[e] at this
 exact this) _
theorem CQO:AH ZP 96 BPY:=NH xI2 hI2 λx _=>TF (A:=ann 8 []) (ren:=[]) (fz:=[]) Tryz.func96 (by kernel_rfl) AD (by
 show BZU x;rw[CQF]<;> dsimp only[go_sem];simp)
theorem CLB:AH ZP 59 BJK:=NH xI2 hI2 λx _=>TF (A:=ann 9 [(96,BPY)]) (ren:=[]) (fz:=[]) Tryz.func59 (by kernel_rfl) (AA CQO AD) (by
 show CKA x;rw[CPX]<;> dsimp only[go_sem];simp)
theorem BWZ:AH ZP 27 (C_l7Four.spec d_1):=MK C_l7Four (λ_=>ann 10 [(59,BJK)]) [] [2080] Tryz.func27 (λ_=>by kernel_rfl) (λ_=>AA CLB AD) (λ(x:One) _=>by
 show BFE x;rw[BXI]<;> dsimp only[go_sem];simp only[CC,CU,CK,JD,FM,FK,FL,QZ,KA,JV,OE,OD]
 refine⟨by omega,λj hj=>?_⟩
 match j,hj with
 |0,_=>exact⟨rfl,rfl,rfl⟩
 |1,_=>exact⟨rfl,rfl,rfl⟩
 |2,_=>exact⟨rfl,rfl,rfl⟩
 |3,_=>exact⟨rfl,rfl,rfl⟩) (λ_=>OA rfl rfl) _
theorem CLN:dpT four:=by
 refine⟨⟨by decide,by decide,by decide,by decide +kernel⟩,λi=>29+10*i,⟨by decide,by decide,λi hi=>?_⟩,λi hi=>?_⟩
 ·have:four.r.rise=10:=rfl
  have:four.r.fall=5:=rfl
  omega
 ·have hi:i<4:=hi
  match i,hi with
  |0,_=>decide +kernel
  |1,_=>decide +kernel
  |2,_=>decide +kernel
  |3,_=>decide +kernel
theorem CGF:AH ZP 13 (C_dVol0.spec d_3):=Ctr.spec_ok (C:=C_dVol0) (λ(_:One) _=>by
 have:=BGN ⟨four,1,2⟩ ⟨CLN,by decide,by decide,by decide⟩
 have e:C_dVol.val ⟨four,1,2⟩=.tup [.d (EQ ⟨86,90⟩),.int 0]:=by show AVal.tup [.d (EQ (voV ⟨four,1,2⟩)),.int 0]=_;rw[show voV ⟨four,1,2⟩=⟨86,90⟩ by decide +kernel]
 rw[e] at this
 exact this) _
theorem CJA:AH ZP 28 (C_l9Two.spec AGZ):=MK C_l9Two (λ_=>ann 6 []) [] [2048] Tryz.func28 (λ_=>by kernel_rfl) (λ_=>AD) (λ(x:One) _=>by
 show BTJ x;rw[BYQ];simp only[CC,CU,CK,JD,FM,FK,FL,QZ,KA,JV,OE,OD]
 refine⟨by omega,λj hj=>?_⟩
 match j,hj with
 |0,_=>exact⟨rfl,rfl,rfl⟩
 |1,_=>exact⟨rfl,rfl,rfl⟩
 |2,_=>exact⟨rfl,rfl,rfl⟩) (λ_=>OA rfl rfl) _
theorem CMY:AH ZP 17 (C_sRl0.spec d_2):=Ctr.spec_ok (C:=C_sRl0) (λ(_:One) _=>by
 have:=AWK ⟨two,120⟩ ⟨⟨by decide,by decide,by decide +kernel⟩,by decide,by decide⟩
 have e:C_sReal.val ⟨two,120⟩=.tup [.d (BM got2),.int 0]:=by show AVal.tup [.d (BM (svV ⟨two,120⟩)),.int 0]=_;rw[show svV ⟨two,120⟩=got2 by decide +kernel]
 rw[e] at this
 exact this) _
theorem CXN:AH ZP 29 (C_SmI.spec d_2):=MK C_SmI (λ_=>CSU) [] [] Tryz.func29 (λ_=>by kernel_rfl) (λ_=>AD) (λ(x:One) _=>by
 show CRI x;rw[CXA]<;> dsimp only[go_sem];decide +kernel) (λ_=>OA rfl rfl) _
theorem CVW:AH ZP 8 (C_aw9.spec AGZ):=MK C_aw9 (λ_=>CRA) [] [] Tryz.func8 (λ_=>by kernel_rfl) (λ_=>AA CCP (AA COC (AA BWZ (AA CGF (AA CJA (AA CMY (AA CXN AD))))))) (λ(x:One) _=>by
 show CRB x;rw[CWE];decide +kernel) (λ_=>OA rfl rfl) _
end Go.Bal
