/- Package level: worked, open, opened, agreed, asked, Between: nets that agree. -/
import Derived.Test.YtbmlgdlbffmjjaaGreatGaC
set_option linter.unusedVariables false
set_option linter.unusedSimpArgs false
set_option maxRecDepth 8000
namespace Go.Bal.DL
open Go Go.Sym Go.Proofs
theorem q1 : (#[Field.mk "Net" 34 0 true "" "" 0, Field.mk "can" 85 2 false "" "nilometer/level" 32, Field.mk "by" 89 171 false "" "nilometer/level" 1384][1]).offset = 2 := rfl
theorem q2(h:83<Try.prog.types.size):(Try.prog.types[83]'h).size=13:=rfl
theorem q3(h:88<Try.prog.types.size):(Try.prog.types[88]'h).size=26:=rfl
theorem q4:Int.toNat 0=0:=rfl
theorem q5:Int.toNat 1=1:=rfl
theorem q6:Int.toNat 2=2:=rfl
end Go.Bal.DL
namespace Go.Bal
open Go Go.Sym Go.Proofs
def iniB(a:Nat)(g:Nat->Int):Nat->Nat->Int
 |0=>g
 |b+1=>putA (Oy a b) JY (iniB a g b)
def iniA:Nat->Nat->Int
 |0=>λ_=>0
 |a+1=>putA (Oy a a) 0 (iniB a (iniA a) 3)
def wrkK(l:List Lin):Nat->Nat->Int
 |0=>iniA 3
 |k+1=>filM l k (wrkK l k)
def XK(l:List Lin):Nat->Int:=wrkK l 3
structure WkS where
 a:Nat
 b:Nat
 g:Nat->Int
 deriving Inhabited
def wkH(l:List Lin)(g:Nat->Int):List (Nat×HCell):=[(1000,.live (netB l)),(2032,.live (svO l g))]
def wk3(l:List Lin):Shape:={ α:=WkS,dflt:=default,T:=λy=>⟨[(1,.bptr 1000 0),(3,.bptr 2032 0),(11,.int 3),(12,.int y.a)],wkH l y.g⟩,inv:=λy=>y.a<=3/\y.g=iniA y.a,meas:=λy=>3-y.a }
def wk6(l:List Lin)(q:Nat):Shape:={ α:=WkS,dflt:=default,T:=λy=>⟨[(1,.bptr 1000 0),(3,.bptr 2032 0),(4,.int y.a),(11,.int 3),(12,.int y.a),(16,.int 3),(17,.int y.b)],wkH l y.g⟩,inv:=λy=>(y.a<3/\3-y.a=q)/\y.b<=3/\y.g=iniB y.a (iniA y.a) y.b,meas:=λy=>3-y.b }
def wk13(l:List Lin):Shape:={ α:=WkS,dflt:=default,T:=λy=>⟨[(3,.bptr 2032 0),(37,.int 3),(38,.int y.a)],[(2032,.live (svO l y.g))]⟩,inv:=λy=>y.a<=3/\y.g=wrkK l y.a,meas:=λy=>3-y.a }
def P8(l:List Lin):Prop:=l.length<=30/\l.all ZO=true
noncomputable def BXV(l:List Lin):Ann:={ ann 46 [(AQT,C_lFill.spec d_la)] with inner:=λgs id=>if id=3 then some [wk3 l] else if id=6 then some [wk6 l (gs.getD 0 0)] else if id=13 then some [wk13 l] else none }
def C_lWkd:Ctr:={ α:=List Lin,xs:=λl=>[.d (R3 l)],L:=λ_=>[],val:=λ_=>.bptr 0 0,keep:=λl=>[(0,.live (svO l (XK l)))],pre:=λl=>[P8 l] }
def BOY(l:List Lin):Prop:=AX Try.prog (BXV l) BAQ (AF BAQ) (C_lWkd.xs l) (AC []) (C_lWkd.val l) (C_lWkd.keep l) [(0,2032)] []
abbrev Z8:=@Exists WkS
abbrev MC:=WkS.a
abbrev aU:=WkS.g
abbrev AXE:=λ(f:WkS->Prop)=>∀(x:WkS),f x
abbrev Rm:=WkS.b
abbrev Wt a:=Sx (MC a)
abbrev cK a b:=AWP (aU a) b
abbrev Bw a:=GI (rM (IQ a) Kc)
abbrev sO a:=iniA (MC a)
abbrev pS a b:=Ui a b a
abbrev AVA a b c:=AQ a a b c
attribute [go_sem] Z8 MC aU AXE Rm Wt cK Bw sO pS AVA
theorem CBS(l:List Lin):(BOY l)=(And (Z8 (λi=>FD (And AT (eR (BD (MC i)) AT (JC l) (RD l) AT (JC l) CH (AE (λj=>Jn l j (CP (aU i j)))))) (MC i) 3 (cK i (sO i)))) (AXE (λi=>HK (CJ (MC i) 3 (cK i (sO i))) (Yp (MC i)) (Z8 (λj=>ZC (Fx (BC (MC j) (MC i)) AT (eR (BD (Rm j)) AT (JC l) (RD l) AT (JC l) CH (AE (λk=>Gk l k (aU j k) (aU i k))))) (Lh (MC j) (Wt j) (Wt i)) (Rm j) 3 (cK j (iniB (MC j) (sO j) (Rm j))))) (AXE (λj=>HK (FD (Lh (MC j) (Wt j) (Wt i)) (Rm j) 3 (cK j (iniB (MC j) (sO j) (Rm j)))) (Yp (Rm j)) (ZC (Cl (MC j)) (Cl (Rm j)) (TO l) (Zr (Rm j) (MC j)) (aD (Zr (Rm j) (MC j)) l)) (Z8 (λk=>EV (Fx (BC (MC k) (MC j)) AT (eR (AU (Rm k) (Rm j)) AT (JC l) (RD l) AT (JC l) CH (AE (λm=>Gk l m (aU k m) (ZY m (Ui (Rm j) ZZ (MC j)) 1099511627776 (aU j m)))))) (FD (Lh (MC k) (Wt k) (Wt i)) (Rm k) 3 (cK k (iniB (MC k) (sO k) (Rm k)))) (Sx (Rm k)) (Sx (Rm j)))) (And (AVA (Cl (MC j)) (CW (TO l) (pS (MC j) 2)) (aD (pS (MC j) 2) l)) (Z8 (λk=>NM (And AT (eR (AU (MC k) (MC j)) AT (JC l) (RD l) AT (JC l) CH (AE (λm=>Gk l m (aU k m) (ZY m (pS (MC j) ZZ) 0 (aU j m)))))) (MC k) 3 (cK k (sO k)) (Wt k) (Wt i)))))) (And (Z8 (λj=>FD (FJ AT (BD (MC j)) AT (JC l) (RD l) CH (AE (λk=>Gk l k (aU j k) (aU i k)))) (MC j) 3 (cK j (wrkK l (MC j))))) (AXE (λj=>HK (CJ (MC j) 3 (cK j (wrkK l (MC j)))) (Yp (MC j)) (AS (EI (MC j)) AT (FM l) (AE (λk=>IM k l k k k k k)) CH (AE (λk=>TV (IQ l) k (aU j k))) (BM (MC j) 3) (CW (FT l) 30) (Bw l)) (Z8 (λk=>NM (FJ AT (AU (MC k) (MC j)) AT (UB l) (AE (λm=>GX m l (RL l m m) (RE l m m) m (KM l m) (RI l m m) (QX l m m))) CH (AE (λm=>Gk l m (aU k m) (filM (IQ l) (MC j) (aU j) m)))) (MC k) 3 (cK k (wrkK l (MC k))) (Wt k) (Wt j))) (Ge (JC l) (λk=>ND k l) (λk=>Gk l k (XK l k) (aU j k))))))))):=by kernel_rfl
structure LgN where
 l:List Lin
 g:Nat->Int
def CIZ:List AVal->Heap->Option (LgN×List (Nat×Nat)×List Nat)
 |[.bptr id _],H=>match H id with
  | .live (.nbox [_,.list _ n f _] _ _ g)=>some (⟨VZ n λj=>tQ (f j),g⟩,[(100,id)],[])
  |_=>none
 |_,_=>none
def noOp(l:List Lin)(g:Nat->Int):Prop:=(∀m,m<3->0<=g (Oy m m))/\∀(f m i:Nat) (b:Bool),f<3->m<3->i<l.length->lsM (gD l i) b=(m:Int)->g (Oy f m)<JY->¬wr (g (Oy f m)+sA (gD l i) b)<g (Oy f (goM (gD l i) b).toNat)
structure OpS where
 m:Nat
 i:Nat
 j:Nat
 deriving Inhabited
def opH(x:LgN):List (Nat×HCell):=[(100,.live (svO x.l x.g)),(1000,.live (.box [.bptr 100 0])),(1016,.live (.box [.bool false]))]
def op2(x:LgN):Shape:={ α:=OpS,dflt:=default,T:=λy=>⟨[(1,.bptr 1000 0),(2,.bptr 1016 0),(10,.int 3),(11,.int y.m)],opH x⟩,inv:=λy=>y.m<=3,meas:=λy=>3-y.m }
def opI(x:LgN)(m:Nat):List (Nat×HCell):=opH x ++ [(4016,.live (.box [.int m])),(5032,.live (.box [.bptr 100 0])),(5033,.live (.box [.int m]))]
def opT(x:LgN)(lp i:Nat):List (Nat×AVal):=[(0,.fn (.yield lp) [] []),(1,.bptr 5032 0),(2,.bptr 5033 0),(12,.int x.l.length),(13,.int i)]
def op1(x:LgN)(lp p:Nat):Shape:={ α:=OpS,dflt:=default,T:=λy=>⟨opT x lp y.i,opI x y.m⟩,inv:=λy=>(y.m<3/\3-y.m=p)/\y.i<=x.l.length,meas:=λy=>x.l.length-y.i }
def op4(x:LgN)(r lp p:Nat):Shape:={ α:=OpS,dflt:=default,T:=λy=>⟨opT x lp y.i ++ [(20,.own 200 2 0 2),(21,.int 2),(22,.int y.j)],opI x y.m ++ [(200,.live (fiL y.i))]⟩,inv:=λy=>((y.m<3/\3-y.m=p)/\y.i<x.l.length/\x.l.length-y.i=r)/\y.j<=2,meas:=λy=>2-y.j,first:=[(200,104064)] }
noncomputable def itOp(x:LgN):IterAnn:={ fn:=uK,code:=AF uK,live:=[1,2,3,10,11],ann:={ base:=λid=>100000+1000*(id+1),Γ:=Sym.look [(E3,C_lStart.spec d_lg)],E:=[100,1000,1016,4016,5032,5033],n:=39,yd:=λid=>if id=6 then some 8 else none,inner:=λgs id=>if id=1 then some [op1 x (gs.getD 0 0) (gs.getD 1 0)] else if id=4 then some [op4 x (gs.getD 0 0) (gs.getD 1 0) (gs.getD 2 0)] else none } }
noncomputable def BJT(x:LgN):Ann:={ ann 71 [(ACJ,C_lLegs.spec d_lm),(ACX,C_lRise.spec d_lg),(ACF,C_lGoal.spec d_lg)] with E:=[100],unr:=λid=>if id=7 then 4 else 0,iter:=λg=>if g=lY then some (itOp x) else none,inner:=λgs id=>if id=2 then some [op2 x] else none }
def C_lOpen:Ctr:={ ro:=[100],α:=LgN,xs:=λ_=>[.bptr 100 0],L:=λx=>[(100,svO x.l x.g)],val:=λ_=>.bool false,keep:=λx=>[(100,.live (svO x.l x.g))],pre:=λx=>[P8 x.l,noOp x.l x.g] }
def BJC(x:LgN):Prop:=AX Try.prog (BJT x) ARC (AF ARC) (C_lOpen.xs x) (AC (C_lOpen.L x)) (C_lOpen.val x) (C_lOpen.keep x) [] []
abbrev K0:=@Exists OpS
abbrev MJ:=OpS.m
abbrev EB:=LgN.l
abbrev AAI:=LgN.g
abbrev AWC:=λ(f:OpS->Prop)=>∀(x:OpS),f x
abbrev RN:=OpS.i
abbrev Oz:=OpS.j
abbrev ASF a b c:=TV a b (AAI c b)
abbrev uS a b:=AE (λi=>ASF a i b)
abbrev Dn a:=uS (EB a) a
abbrev Pq a:=RD (EB a)
abbrev Qi a:=JC (EB a)
abbrev Du a:=Sx (MJ a)
abbrev pO a:=Cl (MJ a)
abbrev UW a:=OG (EB a)
abbrev uU a:=CW a 2
abbrev kN a b:=KJ (UW a) (RN b)
abbrev Dr:=FP 0
abbrev Ls:=FP Dr
abbrev XU a:=not (Pj (Oz a))
abbrev QK a b:=HC (EB a) b
abbrev Ih a b:=QK a (RN b)
abbrev V9 a b c d:=AAI a (Ui (MJ b) c d)
abbrev O2 a b c:=NL (V9 a b ZZ c) 1099511627776
abbrev kV a b c d:=FV (O2 a b c) d
abbrev Ie a b c d:=kV a b (MW c) d
abbrev cH a b:=jM (EB a) b
abbrev Zz a:=BH (RN a)
abbrev Yq a b:=ZM (QK a b)
abbrev aO a b:=ZK (QK a b)
abbrev Yl a b:=ZN (QK a b)
attribute [go_sem] K0 MJ EB AAI AWC RN Oz ASF uS Dn Pq Qi Du pO UW uU kN Dr Ls XU QK Ih V9 O2 kV Ie cH Zz Yq aO Yl
theorem BNO(x:LgN):(BJC x)=(And (K0 (λi=>And (HF AT (BD (MJ i)) Sb (AI (Qi x) (Pq x) CH (Dn x) RG)) (NZ (MJ i) 3))) (AWC (λi=>MI (NZ (MJ i) 3) (Yp (MJ i)) (FB (CM (EI (MJ i)) Sb (ZF (FM (EB x)) (AE (λj=>OH j (EB x) (OR (QK x j) (EB x) j) (ON (QK x j) (EB x) j) (Yl x j) (aO x j) (Yq x j))) CH (uS (IQ (EB x)) x) AT (PF (UW x) (EB x)) (λj=>GX j (EB x) (QE (EB x) j (QK x j)) (QL (EB x) j (QK x j)) j (Yl x j) (NW (EB x) j (aO x j)) (NJ (EB x) j (Yq x j))) CH (λj=>ASF (EB x) j x))) (λj=>And (K0 (λk=>AG (CM (PG j) (BH (UW x)) (AI (BD (RN k)) AT (Qi x) (Pq x) (Gh CH (Dn x) RG (BC (MJ k) (MJ i))))) (Lh (MJ k) (Du k) (Du i)) (CW (RN k) (UW x)))) (AWC (λk=>HE (And (Lh (MJ k) (Du k) (Du i)) (CW (RN k) (UW x))) (RN k) (UW x) (K0 (λl=>AG (AI (PG j) (EI (UW x)) (BC (RN l) (RN k)) AM (AS CO BL (BD (Oz l)) AT (Qi x) (Pq x) CH (Dn x) (XO RG (BC (MJ l) (MJ k)) CO (AE (λm=>Rz m (GH (RN l) (HG m (Zz k) (Zz k))) (LI (not (XJ m)) (Wo (XJ m) UD HU))))))) (YZ (Lh (MJ l) (Du l) (Du i)) (RN l) (UW x) (kN x l) (kN x k)) (uU (Oz l)))) (AWC (λl=>MI (And (YZ (Lh (MJ l) (Du l) (Du i)) (RN l) (UW x) (kN x l) (kN x k)) (uU (Oz l))) (IA (Oz l) 2) (AQ (BE (Oz l) 2) (PK (AP (Oz l)) 2) (AV (EI (RN l)) (DR (XU l)) AT (FM (EB x)) (AE (λm=>OH m (EB x) (OR (QK x m) (EB x) m) (ON (QK x m) (EB x) m) (Yl x m) (aO x m) (Yq x m))) (dD CH (uS (IQ (EB x)) x) AT (PF (UW x) (EB x)) (AE (λm=>GX m (EB x) (QE (EB x) m (QK x m)) (QL (EB x) m (QK x m)) m (Yl x m) (NW (EB x) m (aO x m)) (NJ (EB x) m (Yq x m)))) (Dn x) (BF (Zz l)) (DG (Zz l) (FT (EB x))))) (FA (kZ (ZJ (lsM (Ih x l) (XU l)) (BH (MJ l)))) (AQ (hX (BA FW (GI (ZJ (lsM (Ih x l) (XU l)) (BH (MJ l)))))) (AR j) (FJ (HW 13) (pO l) (cH x (nY (MJ l))) (kV x l 0 (HW 13)) (kV x l 0 (pO l)) (kV x l 0 (cH x (nY (MJ l)))) (XS (kV x l 0 (AV (EI (RN l)) (DR (XU l)) AT (FM (EB x)) (AE (λm=>OH m (EB x) (OR (QK x m) (EB x) m) (ON (QK x m) (EB x) m) (Yl x m) (aO x m) (Yq x m))) (dD CH (uS (IQ (EB x)) x) AT (PF (UW x) (EB x)) (AE (λm=>GX m (EB x) (QE (EB x) m (QK x m)) (QL (EB x) m (QK x m)) m (Yl x m) (NW (EB x) m (aO x m)) (NJ (EB x) m (Yq x m)))) (Dn x) (BF (Zz l)) (DG (Zz l) (FT (EB x)))))) (kV x l 0 (HW 13)) (kV x l 0 (Og (goM (Ih x l) (XU l)))) (kV x l 0 (cH x (Pr (Ih x l) (XU l) 2))))) (FA (BZ (O2 x l 0) (NL (DN (V9 x l ZZ 0) (sA (Ih x l) (XU l))) (AAI x (Pr (Ih x l) (XU l) (bQ ZZ 0))))) (AV (GI UD) AT (Qi x) (Pq x) CH (Dn x)) (GV (FJ (Og Dr) (pO l) (cH x (HD (MJ l) 15)) (Ie x l Dr (Og Dr)) (Ie x l Dr (pO l)) (Ie x l Dr (cH x (HD (MJ l) 15))) (XS (Ie x l Dr (AV (EI (RN l)) (DR (XU l)) AT (FM (EB x)) (AE (λm=>OH m (EB x) (OR (QK x m) (EB x) m) (ON (QK x m) (EB x) m) (Yl x m) (aO x m) (Yq x m))) (dD CH (uS (IQ (EB x)) x) AT (PF (UW x) (EB x)) (AE (λm=>GX m (EB x) (QE (EB x) m (QK x m)) (QL (EB x) m (QK x m)) m (Yl x m) (NW (EB x) m (aO x m)) (NJ (EB x) m (Yq x m)))) (Dn x) (BF (Zz l)) (DG (Zz l) (FT (EB x)))))) (Ie x l Dr (Og Dr)) (Ie x l Dr (Og (goM (Ih x l) (XU l)))) (Ie x l Dr (cH x (Pr (Ih x l) (XU l) 15))))) (BZ (O2 x l (MW Dr)) (NL (DN (V9 x l ZZ (MW Dr)) (sA (Ih x l) (XU l))) (AAI x (Pr (Ih x l) (XU l) (bQ ZZ (MW Dr)))))) (AV (GI UD) AT (Qi x) (Pq x) CH (Dn x)) (GV (FJ (Og Ls) (pO l) (cH x (HD (MJ l) 28)) (Ie x l Ls (Og Ls)) (Ie x l Ls (pO l)) (Ie x l Ls (cH x (HD (MJ l) 28))) (XS (Ie x l Ls (AV (EI (RN l)) (DR (XU l)) AT (FM (EB x)) (AE (λm=>OH m (EB x) (OR (QK x m) (EB x) m) (ON (QK x m) (EB x) m) (Yl x m) (aO x m) (Yq x m))) (dD CH (uS (IQ (EB x)) x) AT (PF (UW x) (EB x)) (AE (λm=>GX m (EB x) (QE (EB x) m (QK x m)) (QL (EB x) m (QK x m)) m (Yl x m) (NW (EB x) m (aO x m)) (NJ (EB x) m (Yq x m)))) (Dn x) (BF (Zz l)) (DG (Zz l) (FT (EB x)))))) (Ie x l Ls (Og Ls)) (Ie x l Ls (Og (goM (Ih x l) (XU l)))) (Ie x l Ls (cH x (Pr (Ih x l) (XU l) 28))))) (BZ (O2 x l (MW Ls)) (NL (DN (V9 x l ZZ (MW Ls)) (sA (Ih x l) (XU l))) (AAI x (Pr (Ih x l) (XU l) (bQ ZZ (MW Ls)))))) (AV (GI UD) AT (Qi x) (Pq x) CH (Dn x)) (K0 (λm=>EY (AI (PG j) (EI (UW x)) (BC (RN m) (RN l)) AM (AS CO BL (AU (Oz m) (Oz l)) AT (Qi x) (Pq x) CH (Dn x) (XO RG (BC (MJ m) (MJ l)) CO (AE (λn=>Rz n (BC (RN m) (RN l)) (Eb (XJ n))))))) (And (YZ (Lh (MJ m) (Du m) (Du i)) (RN m) (UW x) (kN x m) (kN x k)) (uU (Oz m))) 2 (Oz m) (Oz l))))))) (K0 (λm=>EY (AI (PG j) (EI (UW x)) (BC (RN m) (RN l)) AM (AS CO BL (AU (Oz m) (Oz l)) AT (Qi x) (Pq x) CH (Dn x) (XO RG (BC (MJ m) (MJ l)) CO (AE (λn=>Rz n (BC (RN m) (RN l)) (Eb (XJ n))))))) (And (YZ (Lh (MJ m) (Du m) (Du i)) (RN m) (UW x) (kN x m) (kN x k)) (uU (Oz m))) 2 (Oz m) (Oz l))))) (K0 (λm=>EY (CM (PG j) (BH (UW x)) (AI (AU (RN m) (RN l)) AT (Qi x) (Pq x) (Gh CH (Dn x) RG (BC (MJ m) (MJ l))))) (And (Lh (MJ m) (Du m) (Du i)) (CW (RN m) (UW x))) (UW x) (RN m) (RN k))))) (GV (AVA (pO k) (CW (TO (EB x)) (pS (MJ k) 2)) (aD (pS (MJ k) 2) (EB x))) (Pw (AAI x (pS (MJ k) ZZ))) (AV (GI UD) AT (Qi x) (Pq x) CH (Dn x)) (K0 (λl=>EV (HF AT (AU (MJ l) (MJ i)) Sb (AI (Qi x) (Pq x) CH (Dn x) RG)) (NZ (MJ l) 3) (Du l) (Du i)))))))) (AV RG AT (Qi x) (Pq x) CH (Dn x))))):=by kernel_rfl
def C_lOpd:Ctr:={ C_lWkd with val:=λ_=>.tup [.bptr 0 0,.int 0] }
def BTP:Ann:=ann 12 [(M1,C_lCheck.spec vP),(BAV,C_lWkd.spec vP)]
def BRD(l:List Lin):Prop:=AX Try.prog BTP BAG (AF BAG) [.d (R3 l)] (AC []) (.tup [.bptr 0 0,.int 0]) [(0,.live (svO l (XK l)))] [(0,5016)] []
abbrev Jb a b:=XK (IQ a) b
abbrev Va:=FF 0
attribute [go_sem] Jb Va
theorem CCT(l:List Lin):(BRD l)=(HF (KY AT (FM l) (AE (λi=>IM i l i i i i i)) (FT l) 30 (Bw l)) (KY AT (FM l) (AE (λi=>IM i l i i i i i)) (FT l) 30 (Bw l)) Va (Ge (UB l) (λi=>GX i l (RL l i i) (RE l i i) i (KM l i) (RI l i i) (QX l i i)) (λi=>Gk l i (XK l i) (Jb l i)))):=by kernel_rfl
def C_lAgr:Ctr:={ α:=List Lin,xs:=λl=>[.d (R3 l)],L:=λ_=>[],val:=λ_=>.tup [.bptr 0 0,.int 0],keep:=λl=>[(0,.live (svO l (XK l)))],pre:=λl=>[P8 l,noOp l (XK l)] }
def BTM:Ann:=ann 19 [(BAZ,C_lOpd.spec vP),(ATA,C_lOpen.spec CIZ)]
def BPD(l:List Lin):Prop:=AX Try.prog BTM BCB (AF BCB) [.d (R3 l)] (AC []) (.tup [.bptr 0 0,.int 0]) [(0,.live (svO l (XK l)))] [(0,2016)] []
abbrev Wq a(b:Nat->Nat->Bool->Prop):=AE (λi=>AE (λj=>(λ(f:Bool->Prop)=>∀(x:Bool),f x) (λk=>QN a (b i j k))))
abbrev Xt a b:=BA (ER a JY) b
abbrev Xg a b:=Not (ER a b)
abbrev aA a b c:=Jb a (Oy b c)
abbrev nK a b:=HC (IQ a) b
abbrev Yg a b:=wr (TD a b)
abbrev Jf a b:=AK a (BH b)
abbrev aB a b:=QN a (BF b)
attribute [go_sem] Wq Xt Xg aA nK Yg Jf aB
theorem CEC(l:List Lin):(BPD l)=(HF (KY AT (FM l) (AE (λi=>IM i l i i i i i)) (FT l) 30 (Bw l)) (QM (Ue (PF (FT (IQ l)) l) (λi=>Au i (IQ l) (Gb (TC (nK l i)) (HC l i)) (Ha (TK (nK l i)) (HC l i)) (AK (KM (IQ l) i) (KM l i)) (AK (UN (IQ l) i) (UN l i)) (AK (UK (IQ l) i) (UK l i))) (LN (λi=>TV (IQ (IQ l)) i (Jb l i)) AT (PF (FT l) (IQ l)) (AE (λi=>Au i l (Gb (TC (HC l i)) (nK l i)) (Ha (TK (HC l i)) (nK l i)) (AK (KM l i) (KM (IQ l) i)) (AK (UN l i) (UN (IQ l) i)) (AK (UK l i) (UK (IQ l) i)))) CH (AE (λi=>TV (IQ l) i (Jb l i))) (CJ (FT (IQ l)) 30 (Bw (IQ l))) (AE (λi=>aB i (aA l i i))) (AE (λi=>Wq i (λm k j=>QN m (AO k (FT (IQ l)) (BA (Jf (lsM (nK l k) j) m) (Xt (aA l i m) (Xg (Yg (aA l i m) (sA (nK l k) j)) (aA l i (Kw (nK l k) j)))))))))))) Va (Ge (UB l) (λi=>GX i l (RL l i i) (RE l i i) i (KM l i) (RI l i i) (QX l i i)) (λi=>Gk l i (XK l i) (Jb l i)))):=by kernel_rfl
structure LbS where
 l:List Lin
 a:Nat
 b:Nat
def prB(x:LbS):List Prop:=[P8 x.l,noOp x.l (XK x.l),x.a<3/\x.b<3,XK x.l (Oy x.a x.b)≠JY]
def C_lAsk:Ctr:={ α:=LbS,xs:=λx=>[.d (R3 x.l),.int x.a,.int x.b,.bool true],L:=λ_=>[],val:=λ_=>.tup [.bptr 0 0,.int 0],keep:=λx=>[(0,.live (svO x.l (XK x.l)))],pre:=prB }
def BQB:List AVal->Heap->Option (LbS×List (Nat×Nat)×List Nat)
 |[.d (.agg [_,.list _ n f _]),.d (.v (.int .i64 a)),.d (.v (.int .i64 b)),_],_=>some (⟨VZ n λj=>tQ (f j),a.toNat,b.toNat⟩,[],[])
 |_,_=>none
def BQU:Ann:=ann 61 [(M1,C_lCheck.spec vP),(ANL,Fh),(BDE,C_lAgr.spec vP)]
def BYE(x:LbS):Prop:=AX Try.prog BQU BDZ (AF BDZ) (C_lAsk.xs x) (AC []) (C_lAsk.val x) (C_lAsk.keep x) [(0,7016)] []
abbrev IB:=LbS.l
abbrev Ru:=LbS.a
abbrev Rj:=LbS.b
abbrev QI a:=ZJ a 0
abbrev Yj a b c:=aA (IB a) b c
abbrev Ju a b c:=PD (PD a b) c
attribute [go_sem] IB Ru Rj QI Yj Ju
theorem CCH(x:LbS):(BYE x)=(GV (KY AT (FM (IB x)) (AE (λi=>IM i (IB x) i i i i i)) (FT (IB x)) 30 (Bw (IB x))) (Ju (not (FC (BH (Ru x)) (Re 3))) (not (FC (BH (Rj x)) (Re 3))) (BZ (not HU) (ZJ (BH (Ru x)) (BH (Rj x))))) lZ (AG (AV AT (FM (IB x)) (AE (λi=>IM i (IB x) i i i i i)) (CJ (FT (IB x)) 30 (Bw (IB x))) (AE (λi=>aB i (Yj x i i))) (AE (λi=>Wq i (λl k j=>QN l (AO k (FT (IB x)) (BA (Jf (lsM (HC (IB x) k) j) l) (Xt (Yj x i l) (Xg (Yg (Yj x i l) (sA (HC (IB x) k) j)) (Yj x i (Kw (HC (IB x) k) j)))))))))) (AG (QM (Cl (Ru x))) (QM (Cl (Rj x))) (QM (jM (IQ (IB x)) (Zr (Rj x) (Ru x))))) (FA (BZ (QI 0) (ZJ (Jb (IB x) (Ui (Rj x) ZZ (Ru x))) 1099511627776)) (AV (TY 0 5) AT (UB (IB x)) (AE (λi=>GX i (IB x) (RL (IB x) i i) (RE (IB x) i i) i (KM (IB x) i) (RI (IB x) i i) (QX (IB x) i i))) CH (AE (λi=>Gk (IB x) i (XK (IB x) i) (Jb (IB x) i)))) (AV AL AT (UB (IB x)) (AE (λi=>GX i (IB x) (RL (IB x) i i) (RE (IB x) i i) i (KM (IB x) i) (RI (IB x) i i) (QX (IB x) i i))) CH (AE (λi=>Gk (IB x) i (XK (IB x) i) (Jb (IB x) i))))))):=by kernel_rfl
def btwV(x:LbS):Span:=⟨wr (-(XK x.l (Oy x.b x.a))),XK x.l (Oy x.a x.b)⟩
def C_lBtw:Ctr:={ α:=LbS,xs:=λx=>[.d (R3 x.l),.int x.a,.int x.b],L:=λ_=>[],val:=λx=>.tup [.d (UJ (btwV x)),.int 0],keep:=λ_=>[],pre:=prB }
def BYK:List AVal->Heap->Option (LbS×List (Nat×Nat)×List Nat)
 |[.d (.agg [_,.list _ n f _]),.d (.v (.int .i64 a)),.d (.v (.int .i64 b))],_=>some (⟨VZ n λj=>tQ (f j),a.toNat,b.toNat⟩,[],[])
 |_,_=>none
def BEB:Ann:=ann 39 [(BCY,C_lAsk.spec BQB)]
def BXJ(x:LbS):Prop:=AX Try.prog BEB BNY (AF BNY) (C_lBtw.xs x) (AC []) (C_lBtw.val x) (C_lBtw.keep x) [] []
theorem CBN(x:LbS):(BXJ x)=(FG (And AT (AS (FM (IB x)) (AE (λi=>IM i (IB x) i i i i i)) (EI (Ru x)) (EI (Rj x)) GW (CJ (FT (IB x)) 30 (Bw (IB x))) (FB (AE (λi=>aB i (Yj x i i))) (λi=>Wq i (λl k j=>QN l (AO k (FT (IB x)) (BA (Jf (lsM (HC (IB x) k) j) l) (Xt (Yj x i l) (Xg (Yg (Yj x i l) (sA (HC (IB x) k) j)) (Yj x i (Kw (HC (IB x) k) j))))))))) (aL (Ru x) (BM (Rj x) 3)) (YD (AK (Yj x (Ru x) (Rj x)) JY)))) (FJ (Cl (Rj x)) (Cl (Ru x)) (jM (IQ (IB x)) (Zr (Ru x) (Rj x))) (Cl (Ru x)) (Cl (Rj x)) (CW (TO (IQ (IB x))) (Zr (Rj x) (Ru x))) (aD (Zr (Rj x) (Ru x)) (IQ (IB x)))) (CE (btwV x)) (Tk (Jb (IB x) (Ui (Ru x) ZZ (Rj x)))) (SF (btwV x) (Jb (IB x) (Ui (Rj x) ZZ (Ru x)))) AL):=by kernel_rfl
theorem COO(l:List Lin)(h:P8 l):BOY l:=by
 obtain⟨h1,h2⟩:=h
 rw[CBS]<;> delta LI NL HU FA AK AN AE BA BM BH CW DC ER NE TD KJ FF TK TC OG Fg ZN ZK ZM Vw Mz HD HS Db Kc rM AWP Df Z8 MC aU AXE Rm CS AG AP AI AO AJ AR KQ Fx AS eR ZY BF DN ZZ Rw BO GH AQ Ia HC IQ AVA EI EA DG FP FT LG JP EV GI BC JR AT DT IW JA EN TO AU EW FX FN TP FJ BE IA Cj CJ Bd Zx Sx HK JC XN Jn CH YR XL BD Cd Ui FU YB Ca Dx UK pS YL Cq UN FD Bz TV KM OR ON Dv Bl Au FM CP ND RD PF Gb aL Ha QE Lh QL NW NJ GX OH aD Cl Zr NM Gk ZC IM UB QX RI RE Wt Hn Bw RL cK Ue Ge sO Yp
 simp only[CC,CU,CF,List.length_cons,List.length_nil]
 refine⟨⟨⟨0,0,λ_=>0⟩,⟨rfl,λ_ _ _=>rfl⟩,Nat.zero_le _,rfl⟩,λy ⟨y1,y2⟩=>⟨λhlt=>⟨⟨⟨y.a,0,y.g⟩,⟨rfl,rfl,rfl,λ_ _ _=>rfl⟩,⟨show y.a<3 by omega,rfl⟩,Nat.zero_le _,y2⟩,λz ⟨⟨z1,z2⟩,z3,z4⟩=>⟨λhlt2=>?_,λhge2=>?_⟩⟩,λhge=>?_⟩⟩
 ·exact⟨⟨⟨by omega,by omega⟩,⟨by omega,by omega⟩,by omega,by omega⟩,⟨z.a,z.b+1,putA (Oy z.a z.b) JY z.g⟩,⟨rfl,rfl,(GJ (by omega)).symm,λ_ _ _=>rfl⟩,⟨⟨z1,z2⟩,show z.b+1<=3 by omega,by show putA _ _ _=_;rw[z4];rfl⟩,show 3-(z.b+1)<3-z.b by omega⟩
 ·have e1:z.b=3:=by omega
  exact⟨⟨⟨by omega,by omega⟩,⟨by omega,by omega⟩,by omega,by omega⟩,⟨z.a+1,0,putA (Oy z.a z.a) 0 z.g⟩,⟨(GJ (by omega)).symm,λ_ _ _=>rfl⟩,⟨show z.a+1<=3 by omega,by show putA _ _ _=_;rw[z4,e1];rfl⟩,show 3-(z.a+1)<3-y.a by omega⟩
 ·have e1:y.a=3:=by omega
  refine⟨⟨⟨0,0,y.g⟩,⟨rfl,λ_ _ _=>rfl⟩,Nat.zero_le _,by show y.g=_;rw[y2,e1];rfl⟩,λz ⟨z1,z2⟩=>⟨λhlt=>?_,λhge=>?_⟩⟩
  ·exact⟨⟨by omega,h1,h2⟩,⟨z.a+1,0,filM l z.a z.g⟩,⟨(GJ (by omega)).symm,λ_ _ _=>rfl⟩,⟨show z.a+1<=3 by omega,by show filM _ _ _=_;rw[z2];rfl⟩,show 3-(z.a+1)<3-z.a by omega⟩
  ·intro i _ _
   have:z.a=3:=by omega
   rw[z2,this];rfl
theorem CFK:AH Try.prog BAV (C_lWkd.spec vP):=PU C_lWkd BXV [(0,2032)] [] CBI (λ_=>by kernel_rfl) (λ_=>AA BSS AD) COO (λ_=>RR rfl rfl) _
theorem w01:IntKind.i64.wrap (0+1)=1:=rfl
theorem w11:IntKind.i64.wrap (1+1)=2:=rfl
theorem w21:IntKind.i64.wrap (2+1)=3:=rfl
theorem tn1:Int.toNat 1=1:=rfl
theorem tn2:Int.toNat 2=2:=rfl
theorem CBE(x:LgN)(h:P8 x.l)(hn:noOp x.l x.g):BJC x:=by
 obtain⟨h1,h2⟩:=h
 rw[BNO]<;> delta LI Wo UD NL HU FA AK AN AE BA BM BH CW DC ER NE TD KJ FF ZJ TK TC FW OG Fg MW ZN ZK ZM Vw Mz HD NZ HS ZU Df K0 MJ EB AAI AWC RN Oz CS AG AP AI AO AJ Gh AR DR hX XS XO AS CM dD IF BF DN ZZ Rw BO GH AM AQ Ia HC IQ AVA EI EA DG FB XJ FP FT LG JP EV GI BC JR AV Pj AT DT IW JA EN TO AU EW PG FV FX FN TP FJ BE IA Cj iI CJ QK R4 PK BZ Bd LB Zx Sx HK JC HF BL XN Jn CH YR XL CO BD Cd Ui YB Ca Dx JS HG HE pS YL Cq Bz TV OR ON Dv Bl SC MI Au SG UW FM TF EY ND RD V9 PF Dr HW GV XU Gb ZF aL Ha QE Lh QL NW NJ GX ASF OH Ih aD nY Du uS O2 RG kZ Cl kV Dn YZ Pr Pq Qi Ls Ie jM Eb Zz Yq aO Og Yl uU cH Sb pO kN Yp Pw bQ Rz
 simp only[CC,CU,CF,List.length_cons,List.length_nil,w01,w11,w21,tn1,tn2]
 refine⟨⟨⟨0,0,0⟩,rfl,Nat.zero_le _⟩,λy y1 hlt=>⟨⟨⟨y.m,0,0⟩,⟨rfl,rfl⟩,⟨show y.m<3 by omega,rfl⟩,Nat.zero_le _⟩,λu ⟨⟨u1,u2⟩,u3⟩=>⟨λhlt2=>⟨⟨⟨u.m,u.i,0⟩,⟨rfl,rfl,rfl,rfl,λi _=>by constructor<;>cases decide (i=0)<;>rfl⟩,⟨⟨u1,u2⟩,show u.i<x.l.length by omega,rfl⟩,Nat.zero_le _⟩,λv ⟨⟨⟨v1,v2⟩,v3,v4⟩,v5⟩=>⟨λhlt3=>?_,λhge3=>?_⟩⟩,λhge2=>?_⟩⟩⟩
 ·have hB:=AWY (AKD h2 v3) (!decide (v.j=0))
  have hj1:IntKind.i64.wrap ((v.j:Int)+1)=((v.j+1:Nat):Int):=GJ (by omega)
  refine⟨⟨by omega,by omega⟩,by omega,⟨by omega,by omega⟩,λhs=>?_,λhs=>?_⟩
  ·have hs':(lsM (gD x.l v.i) (!decide (v.j=0))==(v.m:Int))=true:=hs
   have hs2:lsM (gD x.l v.i) (!decide (v.j=0))=(v.m:Int):=by simpa using hs'
   have hN:∀f,f<3->(bif decide (x.g (v.m+(2+f*13))<1099511627776) then decide (IntKind.i64.wrap (x.g (v.m+(2+f*13))+sA (gD x.l v.i) !decide (v.j=0))<x.g ((goM (gD x.l v.i) !decide (v.j=0)).toNat+(2+f*13))) else false)=false:=λf hf=>by
    cases hd:decide (x.g (v.m+(2+f*13))<1099511627776) with
    |false=>rfl
    |true=>exact decide_eq_false (hn.2 f v.m v.i (!decide (v.j=0)) hf v1 v3 hs2 (of_decide_eq_true hd))
   have k0:=hN 0 (by omega);have k1:=hN 1 (by omega);have k2:=hN 2 (by omega)
   refine⟨hs',?_⟩
   simp only[k0,k1,k2,Bool.false_eq_true,false_implies,forall_const,true_implies,and_true,true_and]
   refine⟨?_,?_,?_,⟨v.m,v.i,v.j+1⟩,⟨rfl,hj1.symm,rfl,rfl,λ_ _=>rfl⟩,⟨⟨⟨v1,v2⟩,v3,v4⟩,show v.j+1<=2 by omega⟩,show 2-(v.j+1)<2-v.j by omega⟩
   all_goals repeat' (first | apply And.intro | intro _)
   all_goals omega
  ·exact⟨⟨v.m,v.i,v.j+1⟩,⟨rfl,hj1.symm,rfl,rfl,λ_ _=>rfl⟩,⟨⟨⟨v1,v2⟩,v3,v4⟩,show v.j+1<=2 by omega⟩,show 2-(v.j+1)<2-v.j by omega⟩
 ·exact⟨⟨v.m,v.i+1,0⟩,⟨(GJ (by omega)).symm,rfl⟩,⟨⟨v1,v2⟩,show v.i+1<=x.l.length by omega⟩,show x.l.length-(v.i+1)<x.l.length-u.i by omega⟩
 ·have e1:u.m=y.m:=by omega
  refine⟨⟨⟨by omega,by omega⟩,⟨by omega,by omega⟩,by omega,by omega⟩,λhneg=>absurd hneg (Int.not_lt.2 (hn.1 u.m u1)),λ_=>⟨⟨y.m+1,0,0⟩,(GJ (by omega)).symm,show y.m+1<=3 by omega,show 3-(y.m+1)<3-y.m by omega⟩⟩
theorem BYG:AH Try.prog ATA (C_lOpen.spec CIZ):=PU C_lOpen BJT [] [] BSH (λ_=>by kernel_rfl) (λ_=>AA AWW (AA AXA (AA AVG AD))) (λ(x:LgN) h=>CBE x h.1 h.2) (λx=>N6 lY (itOp x) rfl rfl (AA AME AD) AOJ (by kernel_rfl) (by kernel_rfl)) _
theorem CEK:AH Try.prog BAZ (C_lOpd.spec vP):=PU C_lOpd (λ_=>BTP) [(0,5016)] [] CGK (λ_=>by kernel_rfl) (λ_=>AA AMR (AA CFK AD)) (λ(l:List Lin) (h:P8 l)=>by
 obtain⟨h1,h2⟩:=h
 show BRD l;rw[CCT]<;> delta LI HU AK AN AE BA BM CW FF TK TC OG Fg ZN ZK ZM Vw Mz HD Kc rM AG AI AO AJ AR CM Rw BO Ia HC IQ FT LG JP GI JR AT IW EN TO FX FN TP Cj Bd KY HF Jn CH Cd FU Ca Dx Jb UK Cq UN Bz KM OR ON Bl Au FM PF Gb Ha QE QL NW NJ GX OH Gk IM UB QX RI RE Hn Bw RL Va Ue Ge;simp only[CC,CU,CF];exact⟨h1,h2⟩) (λ_=>RR rfl rfl) _
theorem CFG:AH Try.prog BDE (C_lAgr.spec vP):=PU C_lAgr (λ_=>BTM) [(0,2016)] [] CBM (λ_=>by kernel_rfl) (λ_=>AA CEK (AA BYG AD)) (λ(l:List Lin) h=>by
 obtain⟨⟨h1,h2⟩,h3⟩:P8 l/\noOp l (XK l):=h
 show BPD l;rw[CEC]<;> delta LI HU AK AN AE BA BM BH CW DC ER TD FF TK TC OG Fg MW ZN ZK ZM Vw Mz HD Kc rM AG AI AO AJ AR DR AS CM BF Rw BO LN Ia HC IQ FT LG JP GI JR AT IW EN TO FX FN TP Cj CJ Bd KY HF Jn CH Cd FU Ca Dx Jb UK GW Cq UN Bz TV KM OR aA ON Bl QN Au QM FM PF Gb Ha QE QL NW NJ GX OH Gk IM UB QX RI RE Hn Bw RL Kw Jf Va Ue Ge Wq aB nK Xg Yg Xt;simp only[CC,CU,CF];exact⟨⟨h1,h2⟩,⟨h1,h2⟩,h3⟩) (λ_=>RR rfl rfl) _
theorem inM3{a:Nat}(h:a<3):MN (a:Int) 0 (IntKind.i64.wrap (3-1))=true:=by
 rw[show IntKind.i64.wrap (3-1)=2 from rfl]
 simp only[MN,Bool.and_eq_true,decide_eq_true_eq];omega
theorem BGD:AH Try.prog BCY (C_lAsk.spec BQB):=PU C_lAsk (λ_=>BQU) [(0,7016)] [] CFM (λ_=>by kernel_rfl) (λ_=>AA AMR (AA ATO (AA CFG AD))) (λ(x:LbS) h=>by
 obtain⟨⟨h1,h2⟩,h3,⟨ha,hb⟩,h4⟩:P8 x.l/\noOp x.l (XK x.l)/\(x.a<3/\x.b<3)/\XK x.l (Oy x.a x.b)≠JY:=h
 show BYE x;rw[CCH]<;> delta LI Wo UD HU FA AK AN AE BA BM BH CW DC ER NE TD Nn FF lZ ZJ TK TC OG Fg MW ZN ZK ZM Vw Mz HD Kc rM Df IB Ru Rj CS AG AP AI AO AJ AR DR IV BF ZZ Rw BO Ia HC IQ EA DG FT LG JP GI JR AV AT DT IW EN TO AL FX FN TP BE Cj CJ BZ Bd Zx KY PD Jn CH Cd Ui Ca Dx Jb UK GW Cq UN FC Bz KM OR aA ON Bl QN Au JX QM FM PF GV Gb Ha QE QL NW NJ GX OH aD Cl Zr Ju Gk QI TY IM UB QX RI RE jM Bw RL Kw Jf Yj Wq aB Xg Yg Re Xt;simp only[CC,CU,CF,List.length_cons,List.length_nil]
 refine⟨⟨h1,h2⟩,λh=>?_,λ_=>⟨⟨⟨h1,h2⟩,h3⟩,⟨⟨by omega,by omega⟩,⟨by omega,by omega⟩,by omega,by omega⟩,λh=>?_⟩⟩
 ·rw[inM3 ha,inM3 hb] at h;cases h
 ·exact absurd (by simpa[Oy,JY] using h) h4) (λ_=>RR rfl rfl) _
theorem BNG(x:LbS)(h:CR (prB x)):BXJ x:=by
 obtain⟨⟨h1,h2⟩,h3,⟨ha,hb⟩,h4⟩:P8 x.l/\noOp x.l (XK x.l)/\(x.a<3/\x.b<3)/\XK x.l (Oy x.a x.b)≠JY:=h
 rw[CBN]<;> delta LI HU AK AN AE BA BM BH CW DC ER NE TD Nn FF lZ TK TC OG Fg MW ZN ZK ZM Vw Mz HD CE EE Kc rM Df IB Ru Rj CS AG AP AI AO AJ DR IV AS BF ZZ Rw BO Ia HC IQ EI EA DG FB FT LG JP GI JR AT DT IW EN TO AL FN FJ BE FG Cj CJ Zx Cd Ui Ca Dx Jb UK GW Cq UN Bz KM OR aA ON Dv Bl QN Au FM SF aL OH aD Cl Zr YD Tk IM jM Bw Kw Jf Yj Wq aB Xg Yg Xt;simp only[CC,CU,CF,List.length_cons,List.length_nil]
 refine⟨⟨⟨h1,h2⟩,h3,⟨ha,hb⟩,h4⟩,⟨⟨by omega,by omega⟩,⟨by omega,by omega⟩,⟨by omega,by omega⟩,⟨by omega,by omega⟩,⟨by omega,by omega⟩,by omega,by omega⟩,rfl,rfl⟩
theorem CBX:AH Try.prog AOA (C_lBtw.spec BYK):=PU C_lBtw (λ_=>BEB) [] [] BOJ (λ_=>by kernel_rfl) (λ_=>AA BGD AD) BNG (λ_=>RR rfl rfl) _
end Go.Bal
