/- Package level: worked, open, opened, agreed, asked, Between: nets that agree. -/
import Derived.Test.YtbmlgdlbffmjjaaGreatGaC
set_option linter.unusedVariables false
set_option linter.unusedSimpArgs false
set_option maxRecDepth 8000
namespace Go.Bal.DL
open Go Go.Sym Go.Proofs
theorem q2(h:83<Try.prog.types.size):(Try.prog.types[83]'h).size=13:=rfl
theorem q3(h:88<Try.prog.types.size):(Try.prog.types[88]'h).size=26:=rfl
theorem q4:Int.toNat 0=0:=rfl
theorem q5:Int.toNat 1=1:=rfl
theorem q6:Int.toNat 2=2:=rfl
end Go.Bal.DL
namespace Go.Bal
open Go Go.Sym Go.Proofs
def iniB(a:Nat)(g:Nat->Int):Nat->Nat->Int
 |0=>g
 |b+1=>putA (Qp a b) JZ (iniB a g b)
def iniA:Nat->Nat->Int
 |0=>λ_=>0
 |a+1=>putA (Qp a a) 0 (iniB a (iniA a) 3)
def wrkK(l:List Lin):Nat->Nat->Int
 |0=>iniA 3
 |k+1=>filM l k (wrkK l k)
def XK(l:List Lin):Nat->Int:=wrkK l 3
structure WkS where
 a:Nat
 b:Nat
 g:Nat->Int
 deriving Inhabited
def wkH(l:List Lin)(g:Nat->Int):List (Nat×HCell):=[(1000,.live (netB l)),(2032,.live (svO l g))]
def wk3(l:List Lin):Shape:={ α:=WkS,dflt:=default,T:=λy=>⟨[(1,.bptr 1000 0),(3,.bptr 2032 0),(11,.int 3),(12,.int y.a)],wkH l y.g⟩,inv:=λy=>y.a<=3/\y.g=iniA y.a,meas:=λy=>3-y.a }
def wk6(l:List Lin)(q:Nat):Shape:={ α:=WkS,dflt:=default,T:=λy=>⟨[(1,.bptr 1000 0),(3,.bptr 2032 0),(4,.int y.a),(11,.int 3),(12,.int y.a),(16,.int 3),(17,.int y.b)],wkH l y.g⟩,inv:=λy=>(y.a<3/\3-y.a=q)/\y.b<=3/\y.g=iniB y.a (iniA y.a) y.b,meas:=λy=>3-y.b }
def wk13(l:List Lin):Shape:={ α:=WkS,dflt:=default,T:=λy=>⟨[(3,.bptr 2032 0),(37,.int 3),(38,.int y.a)],[(2032,.live (svO l y.g))]⟩,inv:=λy=>y.a<=3/\y.g=wrkK l y.a,meas:=λy=>3-y.a }
def Z4(l:List Lin):Prop:=l.length<=30/\l.all Ac=true
noncomputable def BSA(l:List Lin):Ann:={ ann 46 [(AQU,C_lFill.spec d_la)] with inner:=λgs id=>if id=3 then some [wk3 l] else if id=6 then some [wk6 l (gs.getD 0 0)] else if id=13 then some [wk13 l] else none }
def C_lWkd:Ctr:={ α:=List Lin,xs:=λl=>[.d (Q9 l)],L:=λ_=>[],val:=λ_=>.bptr 0 0,keep:=λl=>[(0,.live (svO l (XK l)))],pre:=λl=>[Z4 l] }
def BVO(l:List Lin):Prop:=AX Try.prog (BSA l) BBB (AF BBB) (C_lWkd.xs l) (AC []) (C_lWkd.val l) (C_lWkd.keep l) [(0,2032)] []
abbrev AAG:=@Exists WkS
abbrev MA:=WkS.a
abbrev aV:=WkS.g
abbrev AZA:=λ(f:WkS->Prop)=>∀(x:WkS),f x
abbrev Rm:=WkS.b
abbrev Yz a:=Vi (MA a)
abbrev dH a b:=AXL (aV a) b
abbrev Bp a:=GI (rE (IU a) Jz)
abbrev uY a:=iniA (MA a)
abbrev qL a b:=Sy a b a
abbrev AVV a b c:=AQ a a b c
attribute [go_sem] AAG MA aV AZA Rm Yz dH Bp uY qL AVV
theorem CGI(l:List Lin):(BVO l)=(And (AAG (λi=>FG (And AT (cY (BD (MA i)) AT (JC l) (RE l) AT (JC l) CH (AE (λj=>Iq l j (CQ (aV i j)))))) (MA i) 3 (dH i (uY i)))) (AZA (λi=>HH (CJ (MA i) 3 (dH i (uY i))) (aH (MA i)) (AAG (λj=>ZE (Gz (BC (MA j) (MA i)) AT (cY (BD (Rm j)) AT (JC l) (RE l) AT (JC l) CH (AE (λk=>Gs l k (aV j k) (aV i k))))) (Lk (MA j) (Yz j) (Yz i)) (Rm j) 3 (dH j (iniB (MA j) (uY j) (Rm j))))) (AZA (λj=>HH (FG (Lk (MA j) (Yz j) (Yz i)) (Rm j) 3 (dH j (iniB (MA j) (uY j) (Rm j)))) (aH (Rm j)) (ZE (Bm (MA j)) (Bm (Rm j)) (TZ l) (aG (Rm j) (MA j)) (Xf (aG (Rm j) (MA j)) l)) (AAG (λk=>EV (Gz (BC (MA k) (MA j)) AT (cY (AU (Rm k) (Rm j)) AT (JC l) (RE l) AT (JC l) CH (AE (λm=>Gs l m (aV k m) (ZZ m (Sy (Rm j) Aa (MA j)) 1099511627776 (aV j m)))))) (FG (Lk (MA k) (Yz k) (Yz i)) (Rm k) 3 (dH k (iniB (MA k) (uY k) (Rm k)))) (Vi (Rm k)) (Vi (Rm j)))) (And (AVV (Bm (MA j)) (CV (TZ l) (qL (MA j) 2)) (Xf (qL (MA j) 2) l)) (AAG (λk=>NL (And AT (cY (AU (MA k) (MA j)) AT (JC l) (RE l) AT (JC l) CH (AE (λm=>Gs l m (aV k m) (ZZ m (qL (MA j) Aa) 0 (aV j m)))))) (MA k) 3 (dH k (uY k)) (Yz k) (Yz i)))))) (And (AAG (λj=>FG (FK AT (BD (MA j)) AT (JC l) (RE l) CH (AE (λk=>Gs l k (aV j k) (aV i k)))) (MA j) 3 (dH j (wrkK l (MA j))))) (AZA (λj=>HH (CJ (MA j) 3 (dH j (wrkK l (MA j)))) (aH (MA j)) (AS (EJ (MA j)) AT (FM l) (AE (λk=>IP k l k k k k k)) CH (AE (λk=>TK (IU l) k (aV j k))) (BN (MA j) 3) (CV (FU l) 30) (Bp l)) (AAG (λk=>NL (FK AT (AU (MA k) (MA j)) AT (TY l) (AE (λm=>GY m l (RA l m m) (RH l m m) m (KJ l m) (QZ l m m) (QY l m m))) CH (AE (λm=>Gs l m (aV k m) (filM (IU l) (MA j) (aV j) m)))) (MA k) 3 (dH k (wrkK l (MA k))) (Yz k) (Yz j))) (Gw (JC l) (λk=>NO k l) (λk=>Gs l k (XK l k) (aV j k))))))))):=by kernel_rfl
structure LgN where
 l:List Lin
 g:Nat->Int
def CJR:List AVal->Heap->Option (LgN×List (Nat×Nat)×List Nat)
 |[.bptr id _],H=>match H id with
  | .live (.nbox [_,.list _ n f _] _ _ g)=>some (⟨WA n λj=>vH (f j),g⟩,[(100,id)],[])
  |_=>none
 |_,_=>none
def noOp(l:List Lin)(g:Nat->Int):Prop:=(∀m,m<3->0<=g (Qp m m))/\∀(f m i:Nat) (b:Bool),f<3->m<3->i<l.length->lsM (gD l i) b=(m:Int)->g (Qp f m)<JZ->¬wr (g (Qp f m)+sE (gD l i) b)<g (Qp f (goM (gD l i) b).toNat)
structure OpS where
 m:Nat
 i:Nat
 j:Nat
 deriving Inhabited
def opH(x:LgN):List (Nat×HCell):=[(100,.live (svO x.l x.g)),(1000,.live (.box [.bptr 100 0])),(1016,.live (.box [.bool false]))]
def op2(x:LgN):Shape:={ α:=OpS,dflt:=default,T:=λy=>⟨[(1,.bptr 1000 0),(2,.bptr 1016 0),(10,.int 3),(11,.int y.m)],opH x⟩,inv:=λy=>y.m<=3,meas:=λy=>3-y.m }
def opI(x:LgN)(m:Nat):List (Nat×HCell):=opH x ++ [(4016,.live (.box [.int m])),(5032,.live (.box [.bptr 100 0])),(5033,.live (.box [.int m]))]
def opT(x:LgN)(lp i:Nat):List (Nat×AVal):=[(0,.fn (.yield lp) [] []),(1,.bptr 5032 0),(2,.bptr 5033 0),(12,.int x.l.length),(13,.int i)]
def op1(x:LgN)(lp p:Nat):Shape:={ α:=OpS,dflt:=default,T:=λy=>⟨opT x lp y.i,opI x y.m⟩,inv:=λy=>(y.m<3/\3-y.m=p)/\y.i<=x.l.length,meas:=λy=>x.l.length-y.i }
def op4(x:LgN)(r lp p:Nat):Shape:={ α:=OpS,dflt:=default,T:=λy=>⟨opT x lp y.i ++ [(20,.own 200 2 0 2),(21,.int 2),(22,.int y.j)],opI x y.m ++ [(200,.live (fiL y.i))]⟩,inv:=λy=>((y.m<3/\3-y.m=p)/\y.i<x.l.length/\x.l.length-y.i=r)/\y.j<=2,meas:=λy=>2-y.j,first:=[(200,104064)] }
noncomputable def itOp(x:LgN):IterAnn:={ fn:=vW,code:=AF vW,live:=[1,2,3,10,11],ann:={ base:=λid=>100000+1000*(id+1),Γ:=Sym.look [(N2,C_lStart.spec d_lg)],E:=[100,1000,1016,4016,5032,5033],n:=39,yd:=λid=>if id=6 then some 8 else none,inner:=λgs id=>if id=1 then some [op1 x (gs.getD 0 0) (gs.getD 1 0)] else if id=4 then some [op4 x (gs.getD 0 0) (gs.getD 1 0) (gs.getD 2 0)] else none } }
noncomputable def BFR(x:LgN):Ann:={ ann 71 [(ACY,C_lLegs.spec d_lm),(ADC,C_lRise.spec d_lg),(ACD,C_lGoal.spec d_lg)] with E:=[100],unr:=λid=>if id=7 then 4 else 0,iter:=λg=>if g=mO then some (itOp x) else none,inner:=λgs id=>if id=2 then some [op2 x] else none }
def C_lOpen:Ctr:={ ro:=[100],α:=LgN,xs:=λ_=>[.bptr 100 0],L:=λx=>[(100,svO x.l x.g)],val:=λ_=>.bool false,keep:=λx=>[(100,.live (svO x.l x.g))],pre:=λx=>[Z4 x.l,noOp x.l x.g] }
def BHS(x:LgN):Prop:=AX Try.prog (BFR x) AOP (AF AOP) (C_lOpen.xs x) (AC (C_lOpen.L x)) (C_lOpen.val x) (C_lOpen.keep x) [] []
abbrev F6:=@Exists OpS
abbrev ML:=OpS.m
abbrev EA:=LgN.l
abbrev AAM:=LgN.g
abbrev AXE:=λ(f:OpS->Prop)=>∀(x:OpS),f x
abbrev RP:=OpS.i
abbrev Pb:=OpS.j
abbrev ARL a b c:=TK a b (AAM c b)
abbrev sZ a b:=AE (λi=>ARL a i b)
abbrev Eo a:=sZ (EA a) a
abbrev Nu a:=RE (EA a)
abbrev Pp a:=JC (EA a)
abbrev Do a:=Vi (ML a)
abbrev qI a:=Bm (ML a)
abbrev UN a:=OI (EA a)
abbrev uB a:=CV a 2
abbrev lG a b:=KE (UN a) (RP b)
abbrev Ee:=FP 0
abbrev Ks:=FP Ee
abbrev YW a:=not (Qk (Pb a))
abbrev QK a b:=HB (EA a) b
abbrev Io a b:=QK a (RP b)
abbrev S0 a b c d:=AAM a (Sy (ML b) c d)
abbrev U5 a b c:=NX (S0 a b Aa c) 1099511627776
abbrev kX a b c d:=FW (U5 a b c) d
abbrev Jn a b c d:=kX a b (MW c) d
abbrev fN a b:=jS (EA a) b
abbrev Xg a:=BH (RP a)
abbrev Xq a b:=ZL (QK a b)
abbrev aA a b:=ZJ (QK a b)
abbrev Za a b:=ZM (QK a b)
attribute [go_sem] F6 ML EA AAM AXE RP Pb ARL sZ Eo Nu Pp Do qI UN uB lG Ee Ks YW QK Io S0 U5 kX Jn fN Xg Xq aA Za
theorem BYD(x:LgN):(BHS x)=(And (F6 (λi=>And (HL AT (BD (ML i)) Ry (AI (Pp x) (Nu x) CH (Eo x) RF)) (NZ (ML i) 3))) (AXE (λi=>MD (NZ (ML i) 3) (aH (ML i)) (EX (CM (EJ (ML i)) Ry (ZI (FM (EA x)) (AE (λj=>OO j (EA x) (OF (QK x j) (EA x) j) (OQ (QK x j) (EA x) j) (Za x j) (aA x j) (Xq x j))) CH (sZ (IU (EA x)) x) AT (OV (UN x) (EA x)) (λj=>GY j (EA x) (QE (EA x) j (QK x j)) (PZ (EA x) j (QK x j)) j (Za x j) (NG (EA x) j (aA x j)) (NR (EA x) j (Xq x j))) CH (λj=>ARL (EA x) j x))) (λj=>And (F6 (λk=>AG (CM (PD j) (BH (UN x)) (AI (BD (RP k)) AT (Pp x) (Nu x) (Fl CH (Eo x) RF (BC (ML k) (ML i))))) (Lk (ML k) (Do k) (Do i)) (CV (RP k) (UN x)))) (AXE (λk=>HF (And (Lk (ML k) (Do k) (Do i)) (CV (RP k) (UN x))) (RP k) (UN x) (F6 (λl=>AG (AI (PD j) (EJ (UN x)) (BC (RP l) (RP k)) AM (AS CO BL (BD (Pb l)) AT (Pp x) (Nu x) CH (Eo x) (YG RF (BC (ML l) (ML k)) CO (AE (λm=>Sn m (GJ (RP l) (HG m (Xg k) (Xg k))) (LI (not (XJ m)) (Wo (XJ m) UD HU))))))) (XW (Lk (ML l) (Do l) (Do i)) (RP l) (UN x) (lG x l) (lG x k)) (uB (Pb l)))) (AXE (λl=>MD (And (XW (Lk (ML l) (Do l) (Do i)) (RP l) (UN x) (lG x l) (lG x k)) (uB (Pb l))) (HX (Pb l) 2) (AQ (BE (Pb l) 2) (PL (AP (Pb l)) 2) (AV (EJ (RP l)) (DF (YW l)) AT (FM (EA x)) (AE (λm=>OO m (EA x) (OF (QK x m) (EA x) m) (OQ (QK x m) (EA x) m) (Za x m) (aA x m) (Xq x m))) (dY CH (sZ (IU (EA x)) x) AT (OV (UN x) (EA x)) (AE (λm=>GY m (EA x) (QE (EA x) m (QK x m)) (PZ (EA x) m (QK x m)) m (Za x m) (NG (EA x) m (aA x m)) (NR (EA x) m (Xq x m)))) (Eo x) (BG (Xg l)) (DR (Xg l) (FU (EA x))))) (EZ (kY (ZN (lsM (Io x l) (YW l)) (BH (ML l)))) (AQ (iC (BA FT (GI (ZN (lsM (Io x l) (YW l)) (BH (ML l)))))) (AR j) (FK (IC 13) (qI l) (fN x (qO (ML l))) (kX x l 0 (IC 13)) (kX x l 0 (qI l)) (kX x l 0 (fN x (qO (ML l)))) (YR (kX x l 0 (AV (EJ (RP l)) (DF (YW l)) AT (FM (EA x)) (AE (λm=>OO m (EA x) (OF (QK x m) (EA x) m) (OQ (QK x m) (EA x) m) (Za x m) (aA x m) (Xq x m))) (dY CH (sZ (IU (EA x)) x) AT (OV (UN x) (EA x)) (AE (λm=>GY m (EA x) (QE (EA x) m (QK x m)) (PZ (EA x) m (QK x m)) m (Za x m) (NG (EA x) m (aA x m)) (NR (EA x) m (Xq x m)))) (Eo x) (BG (Xg l)) (DR (Xg l) (FU (EA x)))))) (kX x l 0 (IC 13)) (kX x l 0 (Pi (goM (Io x l) (YW l)))) (kX x l 0 (fN x (Qy (Io x l) (YW l) 2))))) (EZ (BY (U5 x l 0) (NX (DK (S0 x l Aa 0) (sE (Io x l) (YW l))) (AAM x (Qy (Io x l) (YW l) (cQ Aa 0))))) (AV (GI UD) AT (Pp x) (Nu x) CH (Eo x)) (GO (FK (Pi Ee) (qI l) (fN x (HA (ML l) 15)) (Jn x l Ee (Pi Ee)) (Jn x l Ee (qI l)) (Jn x l Ee (fN x (HA (ML l) 15))) (YR (Jn x l Ee (AV (EJ (RP l)) (DF (YW l)) AT (FM (EA x)) (AE (λm=>OO m (EA x) (OF (QK x m) (EA x) m) (OQ (QK x m) (EA x) m) (Za x m) (aA x m) (Xq x m))) (dY CH (sZ (IU (EA x)) x) AT (OV (UN x) (EA x)) (AE (λm=>GY m (EA x) (QE (EA x) m (QK x m)) (PZ (EA x) m (QK x m)) m (Za x m) (NG (EA x) m (aA x m)) (NR (EA x) m (Xq x m)))) (Eo x) (BG (Xg l)) (DR (Xg l) (FU (EA x)))))) (Jn x l Ee (Pi Ee)) (Jn x l Ee (Pi (goM (Io x l) (YW l)))) (Jn x l Ee (fN x (Qy (Io x l) (YW l) 15))))) (BY (U5 x l (MW Ee)) (NX (DK (S0 x l Aa (MW Ee)) (sE (Io x l) (YW l))) (AAM x (Qy (Io x l) (YW l) (cQ Aa (MW Ee)))))) (AV (GI UD) AT (Pp x) (Nu x) CH (Eo x)) (GO (FK (Pi Ks) (qI l) (fN x (HA (ML l) 28)) (Jn x l Ks (Pi Ks)) (Jn x l Ks (qI l)) (Jn x l Ks (fN x (HA (ML l) 28))) (YR (Jn x l Ks (AV (EJ (RP l)) (DF (YW l)) AT (FM (EA x)) (AE (λm=>OO m (EA x) (OF (QK x m) (EA x) m) (OQ (QK x m) (EA x) m) (Za x m) (aA x m) (Xq x m))) (dY CH (sZ (IU (EA x)) x) AT (OV (UN x) (EA x)) (AE (λm=>GY m (EA x) (QE (EA x) m (QK x m)) (PZ (EA x) m (QK x m)) m (Za x m) (NG (EA x) m (aA x m)) (NR (EA x) m (Xq x m)))) (Eo x) (BG (Xg l)) (DR (Xg l) (FU (EA x)))))) (Jn x l Ks (Pi Ks)) (Jn x l Ks (Pi (goM (Io x l) (YW l)))) (Jn x l Ks (fN x (Qy (Io x l) (YW l) 28))))) (BY (U5 x l (MW Ks)) (NX (DK (S0 x l Aa (MW Ks)) (sE (Io x l) (YW l))) (AAM x (Qy (Io x l) (YW l) (cQ Aa (MW Ks)))))) (AV (GI UD) AT (Pp x) (Nu x) CH (Eo x)) (F6 (λm=>FB (AI (PD j) (EJ (UN x)) (BC (RP m) (RP l)) AM (AS CO BL (AU (Pb m) (Pb l)) AT (Pp x) (Nu x) CH (Eo x) (YG RF (BC (ML m) (ML l)) CO (AE (λn=>Sn n (BC (RP m) (RP l)) (Dm (XJ n))))))) (And (XW (Lk (ML m) (Do m) (Do i)) (RP m) (UN x) (lG x m) (lG x k)) (uB (Pb m))) 2 (Pb m) (Pb l))))))) (F6 (λm=>FB (AI (PD j) (EJ (UN x)) (BC (RP m) (RP l)) AM (AS CO BL (AU (Pb m) (Pb l)) AT (Pp x) (Nu x) CH (Eo x) (YG RF (BC (ML m) (ML l)) CO (AE (λn=>Sn n (BC (RP m) (RP l)) (Dm (XJ n))))))) (And (XW (Lk (ML m) (Do m) (Do i)) (RP m) (UN x) (lG x m) (lG x k)) (uB (Pb m))) 2 (Pb m) (Pb l))))) (F6 (λm=>FB (CM (PD j) (BH (UN x)) (AI (AU (RP m) (RP l)) AT (Pp x) (Nu x) (Fl CH (Eo x) RF (BC (ML m) (ML l))))) (And (Lk (ML m) (Do m) (Do i)) (CV (RP m) (UN x))) (UN x) (RP m) (RP k))))) (GO (AVV (qI k) (CV (TZ (EA x)) (qL (ML k) 2)) (Xf (qL (ML k) 2) (EA x))) (Pj (AAM x (qL (ML k) Aa))) (AV (GI UD) AT (Pp x) (Nu x) CH (Eo x)) (F6 (λl=>EV (HL AT (AU (ML l) (ML i)) Ry (AI (Pp x) (Nu x) CH (Eo x) RF)) (NZ (ML l) 3) (Do l) (Do i)))))))) (AV RF AT (Pp x) (Nu x) CH (Eo x))))):=by kernel_rfl
def C_lOpd:Ctr:={ C_lWkd with val:=λ_=>.tup [.bptr 0 0,.int 0] }
def BVV:Ann:=ann 12 [(H8,C_lCheck.spec sU),(BEV,C_lWkd.spec sU)]
def BWA(l:List Lin):Prop:=AX Try.prog BVV BCI (AF BCI) [.d (Q9 l)] (AC []) (.tup [.bptr 0 0,.int 0]) [(0,.live (svO l (XK l)))] [(0,5016)] []
abbrev Jh a b:=XK (IU a) b
abbrev Vd:=FD 0
attribute [go_sem] Jh Vd
theorem CCZ(l:List Lin):(BWA l)=(HL (KX AT (FM l) (AE (λi=>IP i l i i i i i)) (FU l) 30 (Bp l)) (KX AT (FM l) (AE (λi=>IP i l i i i i i)) (FU l) 30 (Bp l)) Vd (Gw (TY l) (λi=>GY i l (RA l i i) (RH l i i) i (KJ l i) (QZ l i i) (QY l i i)) (λi=>Gs l i (XK l i) (Jh l i)))):=by kernel_rfl
def C_lAgr:Ctr:={ α:=List Lin,xs:=λl=>[.d (Q9 l)],L:=λ_=>[],val:=λ_=>.tup [.bptr 0 0,.int 0],keep:=λl=>[(0,.live (svO l (XK l)))],pre:=λl=>[Z4 l,noOp l (XK l)] }
def BST:Ann:=ann 19 [(BCE,C_lOpd.spec sU),(ATR,C_lOpen.spec CJR)]
def BNX(l:List Lin):Prop:=AX Try.prog BST AZU (AF AZU) [.d (Q9 l)] (AC []) (.tup [.bptr 0 0,.int 0]) [(0,.live (svO l (XK l)))] [(0,2016)] []
abbrev Xj a(b:Nat->Nat->Bool->Prop):=AE (λi=>AE (λj=>(λ(f:Bool->Prop)=>∀(x:Bool),f x) (λk=>QP a (b i j k))))
abbrev Xy a b:=BA (ER a JZ) b
abbrev Yp a b:=Not (ER a b)
abbrev Yn a b c:=Jh a (Qp b c)
abbrev pK a b:=HB (IU a) b
abbrev Zc a b:=wr (TD a b)
abbrev Ih a b:=AK a (BH b)
abbrev Yt a b:=QP a (BG b)
attribute [go_sem] Xj Xy Yp Yn pK Zc Ih Yt
theorem CBU(l:List Lin):(BNX l)=(HL (KX AT (FM l) (AE (λi=>IP i l i i i i i)) (FU l) 30 (Bp l)) (PY (Uc (OV (FU (IU l)) l) (λi=>Bv i (IU l) (Gj (TC (pK l i)) (HB l i)) (Fu (TE (pK l i)) (HB l i)) (AK (KJ (IU l) i) (KJ l i)) (AK (UL (IU l) i) (UL l i)) (AK (VC (IU l) i) (VC l i))) (LP (λi=>TK (IU (IU l)) i (Jh l i)) AT (OV (FU l) (IU l)) (AE (λi=>Bv i l (Gj (TC (HB l i)) (pK l i)) (Fu (TE (HB l i)) (pK l i)) (AK (KJ l i) (KJ (IU l) i)) (AK (UL l i) (UL (IU l) i)) (AK (VC l i) (VC (IU l) i)))) CH (AE (λi=>TK (IU l) i (Jh l i))) (CJ (FU (IU l)) 30 (Bp (IU l))) (AE (λi=>Yt i (Yn l i i))) (AE (λi=>Xj i (λm k j=>QP m (AO k (FU (IU l)) (BA (Ih (lsM (pK l k) j) m) (Xy (Yn l i m) (Yp (Zc (Yn l i m) (sE (pK l k) j)) (Yn l i (Mr (pK l k) j)))))))))))) Vd (Gw (TY l) (λi=>GY i l (RA l i i) (RH l i i) i (KJ l i) (QZ l i i) (QY l i i)) (λi=>Gs l i (XK l i) (Jh l i)))):=by kernel_rfl
structure LbS where
 l:List Lin
 a:Nat
 b:Nat
def prB(x:LbS):List Prop:=[Z4 x.l,noOp x.l (XK x.l),x.a<3/\x.b<3,XK x.l (Qp x.a x.b)≠JZ]
def C_lAsk:Ctr:={ α:=LbS,xs:=λx=>[.d (Q9 x.l),.int x.a,.int x.b,.bool true],L:=λ_=>[],val:=λ_=>.tup [.bptr 0 0,.int 0],keep:=λx=>[(0,.live (svO x.l (XK x.l)))],pre:=prB }
def BPR:List AVal->Heap->Option (LbS×List (Nat×Nat)×List Nat)
 |[.d (.agg [_,.list _ n f _]),.d (.v (.int .i64 a)),.d (.v (.int .i64 b)),_],_=>some (⟨WA n λj=>vH (f j),a.toNat,b.toNat⟩,[],[])
 |_,_=>none
def BTO:Ann:=ann 61 [(H8,C_lCheck.spec sU),(AMR,Fg),(BAH,C_lAgr.spec sU)]
def BPK(x:LbS):Prop:=AX Try.prog BTO BDD (AF BDD) (C_lAsk.xs x) (AC []) (C_lAsk.val x) (C_lAsk.keep x) [(0,7016)] []
abbrev IB:=LbS.l
abbrev Rv:=LbS.a
abbrev Rr:=LbS.b
abbrev QG a:=ZN a 0
abbrev Wp a b c:=Yn (IB a) b c
abbrev Jb a b c:=OZ (OZ a b) c
attribute [go_sem] IB Rv Rr QG Wp Jb
theorem CEU(x:LbS):(BPK x)=(GO (KX AT (FM (IB x)) (AE (λi=>IP i (IB x) i i i i i)) (FU (IB x)) 30 (Bp (IB x))) (Jb (not (FC (BH (Rv x)) (Ox 3))) (not (FC (BH (Rr x)) (Ox 3))) (BY (not HU) (ZN (BH (Rv x)) (BH (Rr x))))) mM (AG (AV AT (FM (IB x)) (AE (λi=>IP i (IB x) i i i i i)) (CJ (FU (IB x)) 30 (Bp (IB x))) (AE (λi=>Yt i (Wp x i i))) (AE (λi=>Xj i (λl k j=>QP l (AO k (FU (IB x)) (BA (Ih (lsM (HB (IB x) k) j) l) (Xy (Wp x i l) (Yp (Zc (Wp x i l) (sE (HB (IB x) k) j)) (Wp x i (Mr (HB (IB x) k) j)))))))))) (AG (PY (Bm (Rv x))) (PY (Bm (Rr x))) (PY (jS (IU (IB x)) (aG (Rr x) (Rv x))))) (EZ (BY (QG 0) (ZN (Jh (IB x) (Sy (Rr x) Aa (Rv x))) 1099511627776)) (AV (UB 0 5) AT (TY (IB x)) (AE (λi=>GY i (IB x) (RA (IB x) i i) (RH (IB x) i i) i (KJ (IB x) i) (QZ (IB x) i i) (QY (IB x) i i))) CH (AE (λi=>Gs (IB x) i (XK (IB x) i) (Jh (IB x) i)))) (AV AL AT (TY (IB x)) (AE (λi=>GY i (IB x) (RA (IB x) i i) (RH (IB x) i i) i (KJ (IB x) i) (QZ (IB x) i i) (QY (IB x) i i))) CH (AE (λi=>Gs (IB x) i (XK (IB x) i) (Jh (IB x) i))))))):=by kernel_rfl
def btwV(x:LbS):Span:=⟨wr (-(XK x.l (Qp x.b x.a))),XK x.l (Qp x.a x.b)⟩
def C_lBtw:Ctr:={ α:=LbS,xs:=λx=>[.d (Q9 x.l),.int x.a,.int x.b],L:=λ_=>[],val:=λx=>.tup [.d (UJ (btwV x)),.int 0],keep:=λ_=>[],pre:=prB }
def BWW:List AVal->Heap->Option (LbS×List (Nat×Nat)×List Nat)
 |[.d (.agg [_,.list _ n f _]),.d (.v (.int .i64 a)),.d (.v (.int .i64 b))],_=>some (⟨WA n λj=>vH (f j),a.toNat,b.toNat⟩,[],[])
 |_,_=>none
def BAT:Ann:=ann 39 [(BDQ,C_lAsk.spec BPR)]
def BXE(x:LbS):Prop:=AX Try.prog BAT BQM (AF BQM) (C_lBtw.xs x) (AC []) (C_lBtw.val x) (C_lBtw.keep x) [] []
theorem CAH(x:LbS):(BXE x)=(FE (And AT (AS (FM (IB x)) (AE (λi=>IP i (IB x) i i i i i)) (EJ (Rv x)) (EJ (Rr x)) GQ (CJ (FU (IB x)) 30 (Bp (IB x))) (EX (AE (λi=>Yt i (Wp x i i))) (λi=>Xj i (λl k j=>QP l (AO k (FU (IB x)) (BA (Ih (lsM (HB (IB x) k) j) l) (Xy (Wp x i l) (Yp (Zc (Wp x i l) (sE (HB (IB x) k) j)) (Wp x i (Mr (HB (IB x) k) j))))))))) (Xd (Rv x) (BN (Rr x) 3)) (ZG (AK (Wp x (Rv x) (Rr x)) JZ)))) (FK (Bm (Rr x)) (Bm (Rv x)) (jS (IU (IB x)) (aG (Rv x) (Rr x))) (Bm (Rv x)) (Bm (Rr x)) (CV (TZ (IU (IB x))) (aG (Rr x) (Rv x))) (Xf (aG (Rr x) (Rv x)) (IU (IB x)))) (CE (btwV x)) (Se (Jh (IB x) (Sy (Rv x) Aa (Rr x)))) (SR (btwV x) (Jh (IB x) (Sy (Rr x) Aa (Rv x)))) AL):=by kernel_rfl
theorem CPE(l:List Lin)(h:Z4 l):BVO l:=by
 obtain⟨h1,h2⟩:=h
 rw[CGI]<;> delta LI NX HU EZ AK AN AE BA BN BH CV DC ER NC TD KE FD TE TC OI Fh ZM ZJ ZL Wc Nm HA HR Dg Jz rE AXL Cw AAG MA aV AZA Rm CS AG AP AI AO AJ AR KS Gz AS cY ZZ BG DK Aa Rq BO GJ AQ Hz HB IU AVV EJ EB DR FP FU LF JV EV GI BC JX AT DT IV JD EN TZ AU EY FV FL TG FK BE HX Aq CJ Af Yj Vi HH JC YV Iq CH YF YN BD Bz Sy FQ YZ Ba Eb VC qL YH An UL FG Ci TK KJ OF OQ Dp Bg Bv FM CQ NO RE OV Gj Xd Fu QE Lk PZ NG NR GY OO Xf Bm aG NL Gs ZE IP TY QY QZ RH Yz Gb Bp RA dH Uc Gw uY aH
 simp only[CC,CU,CF,List.length_cons,List.length_nil]
 refine⟨⟨⟨0,0,λ_=>0⟩,⟨rfl,λ_ _ _=>rfl⟩,Nat.zero_le _,rfl⟩,λy ⟨y1,y2⟩=>⟨λhlt=>⟨⟨⟨y.a,0,y.g⟩,⟨rfl,rfl,rfl,λ_ _ _=>rfl⟩,⟨show y.a<3 by omega,rfl⟩,Nat.zero_le _,y2⟩,λz ⟨⟨z1,z2⟩,z3,z4⟩=>⟨λhlt2=>?_,λhge2=>?_⟩⟩,λhge=>?_⟩⟩
 ·exact⟨⟨⟨by omega,by omega⟩,⟨by omega,by omega⟩,by omega,by omega⟩,⟨z.a,z.b+1,putA (Qp z.a z.b) JZ z.g⟩,⟨rfl,rfl,(GH (by omega)).symm,λ_ _ _=>rfl⟩,⟨⟨z1,z2⟩,show z.b+1<=3 by omega,by show putA _ _ _=_;rw[z4];rfl⟩,show 3-(z.b+1)<3-z.b by omega⟩
 ·have e1:z.b=3:=by omega
  exact⟨⟨⟨by omega,by omega⟩,⟨by omega,by omega⟩,by omega,by omega⟩,⟨z.a+1,0,putA (Qp z.a z.a) 0 z.g⟩,⟨(GH (by omega)).symm,λ_ _ _=>rfl⟩,⟨show z.a+1<=3 by omega,by show putA _ _ _=_;rw[z4,e1];rfl⟩,show 3-(z.a+1)<3-y.a by omega⟩
 ·have e1:y.a=3:=by omega
  refine⟨⟨⟨0,0,y.g⟩,⟨rfl,λ_ _ _=>rfl⟩,Nat.zero_le _,by show y.g=_;rw[y2,e1];rfl⟩,λz ⟨z1,z2⟩=>⟨λhlt=>?_,λhge=>?_⟩⟩
  ·exact⟨⟨by omega,h1,h2⟩,⟨z.a+1,0,filM l z.a z.g⟩,⟨(GH (by omega)).symm,λ_ _ _=>rfl⟩,⟨show z.a+1<=3 by omega,by show filM _ _ _=_;rw[z2];rfl⟩,show 3-(z.a+1)<3-z.a by omega⟩
  ·intro i _ _
   have:z.a=3:=by omega
   rw[z2,this];rfl
theorem CCO:AH Try.prog BEV (C_lWkd.spec sU):=PU C_lWkd BSA [(0,2032)] [] CCU (λ_=>by kernel_rfl) (λ_=>AA BYE AD) CPE (λ_=>RU rfl rfl) _
theorem w01:IntKind.i64.wrap (0+1)=1:=rfl
theorem w11:IntKind.i64.wrap (1+1)=2:=rfl
theorem w21:IntKind.i64.wrap (2+1)=3:=rfl
theorem tn1:Int.toNat 1=1:=rfl
theorem tn2:Int.toNat 2=2:=rfl
theorem CEJ(x:LgN)(h:Z4 x.l)(hn:noOp x.l x.g):BHS x:=by
 obtain⟨h1,h2⟩:=h
 rw[BYD]<;> delta LI Wo UD NX HU EZ AK AN AE BA BN BH CV DC ER NC TD KE FD ZN TE TC FT OI Fh MW ZM ZJ ZL Wc Nm HA NZ HR ZP Cw F6 ML EA AAM AXE RP Pb CS AG AP AI AO AJ Fl AR DF iC YR YG AS CM dY IG BG DK Aa Rq BO GJ AM AQ Hz HB IU AVV EJ EB DR EX XJ FP FU LF JV EV GI BC JX AV Qk AT DT IV JD EN TZ AU EY PD FW FV FL TG FK BE HX Aq jQ CJ QK Z5 PL BY Af LA Yj Vi HH JC HL BL YV Iq CH YF YN CO BD Bz Sy YZ Ba Eb JQ HG HF qL YH An Ci TK OF OQ Dp Bg SV MD Bv SA UN FM TM FB NO RE S0 OV Ee IC GO YW Gj ZI Xd Fu QE Lk PZ NG NR GY ARL OO Io Xf qO Do sZ U5 RF kY Bm kX Eo XW Qy Nu Pp Ks Jn jS Dm Xg Xq aA Pi Za uB fN Ry qI lG aH Pj cQ Sn
 simp only[CC,CU,CF,List.length_cons,List.length_nil,w01,w11,w21,tn1,tn2]
 refine⟨⟨⟨0,0,0⟩,rfl,Nat.zero_le _⟩,λy y1 hlt=>⟨⟨⟨y.m,0,0⟩,⟨rfl,rfl⟩,⟨show y.m<3 by omega,rfl⟩,Nat.zero_le _⟩,λu ⟨⟨u1,u2⟩,u3⟩=>⟨λhlt2=>⟨⟨⟨u.m,u.i,0⟩,⟨rfl,rfl,rfl,rfl,λi _=>by constructor<;>cases decide (i=0)<;>rfl⟩,⟨⟨u1,u2⟩,show u.i<x.l.length by omega,rfl⟩,Nat.zero_le _⟩,λv ⟨⟨⟨v1,v2⟩,v3,v4⟩,v5⟩=>⟨λhlt3=>?_,λhge3=>?_⟩⟩,λhge2=>?_⟩⟩⟩
 ·have hB:=AVH (AHQ h2 v3) (!decide (v.j=0))
  have hj1:IntKind.i64.wrap ((v.j:Int)+1)=((v.j+1:Nat):Int):=GH (by omega)
  refine⟨⟨by omega,by omega⟩,by omega,⟨by omega,by omega⟩,λhs=>?_,λhs=>?_⟩
  ·have hs':(lsM (gD x.l v.i) (!decide (v.j=0))==(v.m:Int))=true:=hs
   have hs2:lsM (gD x.l v.i) (!decide (v.j=0))=(v.m:Int):=by simpa using hs'
   have hN:∀f,f<3->(bif decide (x.g (v.m+(2+f*13))<1099511627776) then decide (IntKind.i64.wrap (x.g (v.m+(2+f*13))+sE (gD x.l v.i) !decide (v.j=0))<x.g ((goM (gD x.l v.i) !decide (v.j=0)).toNat+(2+f*13))) else false)=false:=λf hf=>by
    cases hd:decide (x.g (v.m+(2+f*13))<1099511627776) with
    |false=>rfl
    |true=>exact decide_eq_false (hn.2 f v.m v.i (!decide (v.j=0)) hf v1 v3 hs2 (of_decide_eq_true hd))
   have k0:=hN 0 (by omega);have k1:=hN 1 (by omega);have k2:=hN 2 (by omega)
   refine⟨hs',?_⟩
   simp only[k0,k1,k2,Bool.false_eq_true,false_implies,forall_const,true_implies,and_true,true_and]
   refine⟨?_,?_,?_,⟨v.m,v.i,v.j+1⟩,⟨rfl,hj1.symm,rfl,rfl,λ_ _=>rfl⟩,⟨⟨⟨v1,v2⟩,v3,v4⟩,show v.j+1<=2 by omega⟩,show 2-(v.j+1)<2-v.j by omega⟩
   all_goals repeat' (first | apply And.intro | intro _)
   all_goals omega
  ·exact⟨⟨v.m,v.i,v.j+1⟩,⟨rfl,hj1.symm,rfl,rfl,λ_ _=>rfl⟩,⟨⟨⟨v1,v2⟩,v3,v4⟩,show v.j+1<=2 by omega⟩,show 2-(v.j+1)<2-v.j by omega⟩
 ·exact⟨⟨v.m,v.i+1,0⟩,⟨(GH (by omega)).symm,rfl⟩,⟨⟨v1,v2⟩,show v.i+1<=x.l.length by omega⟩,show x.l.length-(v.i+1)<x.l.length-u.i by omega⟩
 ·have e1:u.m=y.m:=by omega
  refine⟨⟨⟨by omega,by omega⟩,⟨by omega,by omega⟩,by omega,by omega⟩,λhneg=>absurd hneg (Int.not_lt.2 (hn.1 u.m u1)),λ_=>⟨⟨y.m+1,0,0⟩,(GH (by omega)).symm,show y.m+1<=3 by omega,show 3-(y.m+1)<3-y.m by omega⟩⟩
theorem BRY:AH Try.prog ATR (C_lOpen.spec CJR):=PU C_lOpen BFR [] [] BTN (λ_=>by kernel_rfl) (λ_=>AA AXQ (AA AZM (AA AXA AD))) (λ(x:LgN) h=>CEJ x h.1 h.2) (λx=>K2 mO (itOp x) rfl rfl (AA AMV AD) ANL (by kernel_rfl) (by kernel_rfl)) _
theorem CFQ:AH Try.prog BCE (C_lOpd.spec sU):=PU C_lOpd (λ_=>BVV) [(0,5016)] [] CAE (λ_=>by kernel_rfl) (λ_=>AA AON (AA CCO AD)) (λ(l:List Lin) (h:Z4 l)=>by
 obtain⟨h1,h2⟩:=h
 show BWA l;rw[CCZ]<;> delta LI HU AK AN AE BA BN CV FD TE TC OI Fh ZM ZJ ZL Wc Nm HA Jz rE AG AI AO AJ AR CM Rq BO Hz HB IU FU LF JV GI JX AT IV EN TZ FV FL TG Aq Af KX HL Iq CH Bz FQ Ba Eb Jh VC An UL Ci KJ OF OQ Bg Bv FM OV Gj Fu QE PZ NG NR GY OO Gs IP TY QY QZ RH Gb Bp RA Vd Uc Gw;simp only[CC,CU,CF];exact⟨h1,h2⟩) (λ_=>RU rfl rfl) _
theorem CAP:AH Try.prog BAH (C_lAgr.spec sU):=PU C_lAgr (λ_=>BST) [(0,2016)] [] CAB (λ_=>by kernel_rfl) (λ_=>AA CFQ (AA BRY AD)) (λ(l:List Lin) h=>by
 obtain⟨⟨h1,h2⟩,h3⟩:Z4 l/\noOp l (XK l):=h
 show BNX l;rw[CBU]<;> delta LI HU AK AN AE BA BN BH CV DC ER TD FD TE TC OI Fh MW ZM ZJ ZL Wc Nm HA Jz rE AG AI AO AJ AR DF AS CM BG Rq BO LP Hz HB IU FU LF JV GI JX AT IV EN TZ FV FL TG Aq CJ Af KX HL Iq CH Bz FQ Ba Eb Jh VC GQ An UL Ci TK KJ OF Yn OQ Bg QP Bv PY FM OV Gj Fu QE PZ NG NR GY OO Gs IP TY QY QZ RH Gb Bp RA Mr Ih Vd Uc Gw Xj Yt pK Yp Zc Xy;simp only[CC,CU,CF];exact⟨⟨h1,h2⟩,⟨h1,h2⟩,h3⟩) (λ_=>RU rfl rfl) _
theorem inM3{a:Nat}(h:a<3):MN (a:Int) 0 (IntKind.i64.wrap (3-1))=true:=by
 rw[show IntKind.i64.wrap (3-1)=2 from rfl]
 simp only[MN,Bool.and_eq_true,decide_eq_true_eq];omega
theorem BIH:AH Try.prog BDQ (C_lAsk.spec BPR):=PU C_lAsk (λ_=>BTO) [(0,7016)] [] CGH (λ_=>by kernel_rfl) (λ_=>AA AON (AA APO (AA CAP AD))) (λ(x:LbS) h=>by
 obtain⟨⟨h1,h2⟩,h3,⟨ha,hb⟩,h4⟩:Z4 x.l/\noOp x.l (XK x.l)/\(x.a<3/\x.b<3)/\XK x.l (Qp x.a x.b)≠JZ:=h
 show BPK x;rw[CEU]<;> delta LI Wo UD HU EZ AK AN AE BA BN BH CV DC ER NC TD No FD mM ZN TE TC OI Fh MW ZM ZJ ZL Wc Nm HA Jz rE Cw IB Rv Rr CS AG AP AI AO AJ AR DF IR BG Aa Rq BO Hz HB IU EB DR FU LF JV GI JX AV AT DT IV EN TZ AL FV FL TG BE Aq CJ BY Af Yj KX OZ Iq CH Bz Sy Ba Eb Jh VC GQ An UL FC Ci KJ OF Yn OQ Bg QP Bv JN PY FM OV GO Gj Fu QE PZ NG NR GY OO Xf Bm aG Jb Gs QG UB IP TY QY QZ RH jS Bp RA Mr Ih Wp Xj Yt Yp Zc Ox Xy;simp only[CC,CU,CF,List.length_cons,List.length_nil]
 refine⟨⟨h1,h2⟩,λh=>?_,λ_=>⟨⟨⟨h1,h2⟩,h3⟩,⟨⟨by omega,by omega⟩,⟨by omega,by omega⟩,by omega,by omega⟩,λh=>?_⟩⟩
 ·rw[inM3 ha,inM3 hb] at h;cases h
 ·exact absurd (by simpa[Qp,JZ] using h) h4) (λ_=>RU rfl rfl) _
theorem BTC(x:LbS)(h:CR (prB x)):BXE x:=by
 obtain⟨⟨h1,h2⟩,h3,⟨ha,hb⟩,h4⟩:Z4 x.l/\noOp x.l (XK x.l)/\(x.a<3/\x.b<3)/\XK x.l (Qp x.a x.b)≠JZ:=h
 rw[CAH]<;> delta LI HU AK AN AE BA BN BH CV DC ER NC TD No FD mM TE TC OI Fh MW ZM ZJ ZL Wc Nm HA CE EE Jz rE Cw IB Rv Rr CS AG AP AI AO AJ DF IR AS BG Aa Rq BO Hz HB IU EJ EB DR EX FU LF JV GI JX AT DT IV EN TZ AL FL FK BE FE Aq CJ Yj Bz Sy Ba Eb Jh VC GQ An UL Ci KJ OF Yn OQ Dp Bg QP Bv FM SR Xd OO Xf Bm aG ZG Se IP jS Bp Mr Ih Wp Xj Yt Yp Zc Xy;simp only[CC,CU,CF,List.length_cons,List.length_nil]
 refine⟨⟨⟨h1,h2⟩,h3,⟨ha,hb⟩,h4⟩,⟨⟨by omega,by omega⟩,⟨by omega,by omega⟩,⟨by omega,by omega⟩,⟨by omega,by omega⟩,⟨by omega,by omega⟩,by omega,by omega⟩,rfl,rfl⟩
theorem CGK:AH Try.prog AMG (C_lBtw.spec BWW):=PU C_lBtw (λ_=>BAT) [] [] BVB (λ_=>by kernel_rfl) (λ_=>AA BIH AD) BTC (λ_=>RU rfl rfl) _
end Go.Bal
