/- Package level: fill: what can be reached from a mark. -/
import Derived.Test.YtbmlgdlbffmjjaaGreatGaB
set_option linter.unusedVariables false
set_option linter.unusedSimpArgs false
set_option maxRecDepth 8000
namespace Go.Bal
open Go Go.Sym Go.Proofs
def JY:Int:=1099511627776
def putA(c:Nat)(n:Int)(g:Nat->Int):Nat->Int:=λj=>bif Nat.beq j c then n else g j
def wI(l:List Lin)(a m:Nat)(i:Nat)(b:Bool)(g:Nat->Int):Nat->Int:=
 bif lsM (gD l i) b==(m:Int) then bif decide (qF [g (Oy a m),sA (gD l i) b]<g (Oy a (goM (gD l i) b).toNat)) then putA (Oy a (goM (gD l i) b).toNat) (qF [g (Oy a m),sA (gD l i) b]) g else g else g
def zS(l:List Lin)(a m i:Nat)(g:Nat->Int):Nat->Nat->Int
 |0=>g
 |j+1=>wI l a m i (!decide (j=0)) (zS l a m i g j)
def legI(l:List Lin)(a m:Nat)(g:Nat->Int):Nat->Nat->Int
 |0=>g
 |i+1=>zS l a m i (legI l a m g i) 2
def dB(l:List Lin)(a:Nat)(g:Nat->Int):Nat->Nat->Int
 |0=>g
 |m+1=>bif dB l a g m (Oy a m)==JY then dB l a g m else legI l a m (dB l a g m) l.length
def sC(l:List Lin)(a:Nat)(g:Nat->Int):Nat->Nat->Int
 |0=>g
 |k+1=>dB l a (sC l a g k) 3
def filM(l:List Lin)(a:Nat)(g:Nat->Int):Nat->Int:=sC l a g 3
structure FiS where
 k:Nat
 m:Nat
 i:Nat
 j:Nat
 g:Nat->Int
 deriving Inhabited
structure LaS where
 l:List Lin
 g:Nat->Int
 a:Nat
def fiH(x:LaS)(g:Nat->Int):List (Nat×HCell):=[(100,.live (svO x.l g)),(1000,.live (.box [.bptr 100 0])),(2160,.live (.box [.rptr 100 13 x.a 2])),(2176,.live (.box [.rptr 100 26 x.a 171]))]
def fiS(k:Nat):List (Nat×AVal):=[(2,.bptr 1000 0),(4,.bptr 2160 0),(5,.bptr 2176 0),(23,.int 3),(24,.int k)]
def fi3(x:LaS):Shape:={ α:=FiS,dflt:=default,T:=λy=>⟨fiS y.k,fiH x y.g⟩,inv:=λy=>y.k<=3/\y.g=sC x.l x.a x.g y.k,meas:=λy=>3-y.k }
def fi5(x:LaS)(q:Nat):Shape:={ α:=FiS,dflt:=default,T:=λy=>⟨fiS y.k ++ [(30,.int 3),(31,.int y.m)],fiH x y.g⟩,inv:=λy=>(y.k<3/\3-y.k=q)/\y.m<=3/\y.g=dB x.l x.a (sC x.l x.a x.g y.k) y.m,meas:=λy=>3-y.m }
def fiR:List Nat:=[100,1000,2160,2176,7016,9032,9033]
def fiI(x:LaS)(y:FiS):List (Nat×HCell):=fiH x y.g ++ [(7016,.live (.box [.int y.m])),(9032,.live (.box [.bptr 100 0])),(9033,.live (.box [.int y.m]))]
def fiT(x:LaS)(lp i:Nat):List (Nat×AVal):=[(0,.fn (.yield lp) [] []),(1,.bptr 9032 0),(2,.bptr 9033 0),(12,.int x.l.length),(13,.int i)]
def fiV(x:LaS)(y:FiS):Nat->Int:=legI x.l x.a y.m (dB x.l x.a (sC x.l x.a x.g y.k) y.m) y.i
def fi1(x:LaS)(lp q p:Nat):Shape:={ α:=FiS,dflt:=default,T:=λy=>⟨fiT x lp y.i,fiI x y⟩,inv:=λy=>((y.k<3/\3-y.k=q)/\y.m<3/\3-y.m=p)/\y.i<=x.l.length/\y.g=fiV x y,meas:=λy=>x.l.length-y.i }
def fiL(i:Nat):AObj:=.row 2 2 λj=>.agg [EP i,AWR (!decide (j=0))]
def fi4(x:LaS)(r lp q p:Nat):Shape:={ α:=FiS,dflt:=default,T:=λy=>⟨fiT x lp y.i ++ [(20,.own 200 2 0 2),(21,.int 2),(22,.int y.j)],fiI x y ++ [(200,.live (fiL y.i))]⟩,inv:=λy=>(((y.k<3/\3-y.k=q)/\y.m<3/\3-y.m=p)/\y.i<x.l.length/\x.l.length-y.i=r)/\y.j<=2/\y.g=zS x.l x.a y.m y.i (fiV x y) y.j,meas:=λy=>2-y.j,first:=[(200,104064)] }
noncomputable def itFi(x:LaS):IterAnn:={ fn:=uK,code:=AF uK,live:=[2,4,5,6,23,24,30,31],ann:={ base:=λid=>100000+1000*(id+1),Γ:=Sym.look [(E3,C_lStart.spec d_lg)],E:=fiR,n:=39,yd:=λid=>if id=6 then some 8 else none,inner:=λgs id=>if id=1 then some [fi1 x (gs.getD 0 0) (gs.getD 2 0) (gs.getD 1 0)] else if id=4 then some [fi4 x (gs.getD 0 0) (gs.getD 1 0) (gs.getD 3 0) (gs.getD 2 0)] else none } }
noncomputable def BII(x:LaS):Ann:={ ann 79 [(ACJ,C_lLegs.spec d_lm),(ACX,C_lRise.spec d_lg),(ACF,C_lGoal.spec d_lg),(BAC,C_lSum.spec d_Is)] with E:=[100],iter:=λg=>if g=lY then some (itFi x) else none,inner:=λgs id=>if id=3 then some [fi3 x] else if id=5 then some [fi5 x (gs.getD 0 0)] else none }
def C_lFill:Ctr:={ α:=LaS,xs:=λx=>[.bptr 100 0,.int x.a],L:=λx=>[(100,svO x.l x.g)],val:=λ_=>.d (.tup []),keep:=λx=>[(100,.live (svO x.l (filM x.l x.a x.g)))],pre:=λx=>[x.a<3/\x.l.length<=30/\x.l.all ZO=true] }
def d_la:List AVal->Heap->Option (LaS×List (Nat×Nat)×List Nat)
 |[.bptr id _,.d (.v (.int .i64 a))],H=>match H id with
  | .live (.nbox [_,.list _ n f _] _ _ g)=>some (⟨VZ n λj=>tQ (f j),g,a.toNat⟩,[(100,id)],[])
  |_=>none
 |_,_=>none
def BJA(x:LaS):Prop:=AX Try.prog (BII x) AQP (AF AQP) (C_lFill.xs x) (AC (C_lFill.L x)) (C_lFill.val x) (C_lFill.keep x) [] []
abbrev TQ:=LaS.a
abbrev mM:=@Exists FiS
abbrev Ey:=FiS.k
abbrev BI:=LaS.l
abbrev Ez:=FiS.g
abbrev wB:=LaS.g
abbrev AWP:=@Eq (Nat->Int)
abbrev ANG:=λ(f:FiS->Prop)=>∀(x:FiS),f x
abbrev JI:=FiS.m
abbrev Df:=@HMul.hMul Nat Nat Nat (@instHMul Nat instMulNat)
abbrev NB:=FiS.i
abbrev WC:=FiS.j
abbrev Gk a b c d:=Jn a b (AK c d)
abbrev APK a b c d:=Gk (BI a) b c d
abbrev Pa a:=JC (BI a)
abbrev Sx a:=KJ 3 a
abbrev U1 a:=Sx (Ey a)
abbrev wL a b:=AWP (Ez a) b
abbrev Hb a:=AR (TQ a)
abbrev Ug a b c d e:=APK a b (Ez c d) e
abbrev cB a:=RD (BI a)
abbrev UU a:=Sx (JI a)
abbrev aI a b c d e:=FD a b c (wL d e)
abbrev aL a b:=Dv a 3 b
abbrev Lh a b c:=aL a (AN b c)
abbrev Qb a b c:=Lh (Ey a) (U1 b) (U1 c)
abbrev MI a b c d:=BA a (FA b c d)
abbrev YU a:=OG (BI a)
abbrev R4 a b c d:=AG a b (AN c d)
abbrev YZ a b c d e:=R4 a (BM b c) d e
abbrev ANC a b c:=Gh a b b c
abbrev vM a:=EI (YU a)
abbrev PG a:=(@Eq Fn) (Fn.yield a) (Fn.yield a)
abbrev Yi a b:=KJ (YU a) (NB b)
abbrev Rz a b c:=IF a 2 b c
abbrev qQ a b:=BC (NB a) (NB b)
abbrev SS a:=not (Pj (WC a))
abbrev MV a b:=HC (BI a) b
abbrev Bt a b:=MV a (NB b)
abbrev Zx a b c:=HD a (Df b c)
abbrev Ui a b c:=HD a (Zx b c 13)
abbrev Zr a b:=Ui a 2 b
abbrev Yy a b:=Zr (JI a) (TQ b)
abbrev Pr a b c:=iI (goM a b) c
abbrev bQ a b:=Zx a b 13
abbrev dD a b c d e f g h:=AS a b c d e a f g h
abbrev nY a:=HD a 2
abbrev Kw a b:=MW (goM a b)
abbrev aD a b:=BM a (Cj b)
abbrev jM a b:=CJ (TO a) b (aD b a)
abbrev Og a:=DT a 13
abbrev Pb a b c d:=TV a b (Ez c d)
abbrev Ns a b:=ZM (MV a b)
abbrev Ql a b:=ZK (MV a b)
abbrev Oe a b:=ZN (MV a b)
abbrev sJ a:=IQ (BI a)
abbrev tH a:=FM (BI a)
abbrev VC a b(c:Nat->Prop) d e f g h p:=AS a b (AE c) d e f g h p
abbrev Cl a:=BE a 13
abbrev hX a:=And a a
abbrev kZ a:=(λ(x0 x1 x2 x3:Bool)=>if x0=x1 then x2 else x3) HU HU a (not a)
abbrev Yp a:=IA a 3
abbrev Bi a b c:=AG a (BF b) c
attribute [go_sem] TQ mM Ey BI Ez wB AWP ANG JI Df NB WC Gk APK Pa Sx U1 wL Hb Ug cB UU aI aL Lh Qb MI YU R4 YZ ANC vM PG Yi Rz qQ SS MV Bt Zx Ui Zr Yy Pr bQ dD nY Kw aD jM Og Pb Ns Ql Oe sJ tH VC Cl hX kZ Yp Bi
theorem BRL(x:LaS):(BJA x)=(AG (Bi (Cl (TQ x)) (BH (TQ x)) (DG (BH (TQ x)) 13)) (mM (λi=>aI (KQ AT (BD (Ey i)) (Pa x) (Gh (cB x) CH (AE (λj=>Ug x j i j (wB x j))) (Hb x))) (Ey i) 3 i (sC (BI x) (TQ x) (wB x) (Ey i)))) (ANG (λi=>HK (CJ (Ey i) 3 (wL i (sC (BI x) (TQ x) (wB x) (Ey i)))) (Yp (Ey i)) (mM (λj=>ZC (AG AT (BC (Ey j) (Ey i)) (KQ AT (BD (JI j)) (Pa x) (Gh (cB x) CH (AE (λk=>Ug x k j k (Ez i k))) (Hb x)))) (Qb j j i) (JI j) 3 (wL j (dB (BI x) (TQ x) (sC (BI x) (TQ x) (wB x) (Ey j)) (JI j))))) (ANG (λj=>HK (aI (Qb j j i) (JI j) 3 j (dB (BI x) (TQ x) (sC (BI x) (TQ x) (wB x) (Ey j)) (JI j))) (Yp (JI j)) (EV (Cl (JI j)) (CW (TO (BI x)) (Yy j x)) (Yy j x) (Cj (BI x))) (FA (ZJ (Ez j (Yy j x)) 1099511627776) (mM (λk=>EV (AG AT (BC (Ey k) (Ey j)) (KQ AT (AU (JI k) (JI j)) (Pa x) (Gh (cB x) CH (AE (λl=>Ug x l k l (Ez j l))) (Hb x)))) (aI (Qb k k i) (JI k) 3 k (dB (BI x) (TQ x) (sC (BI x) (TQ x) (wB x) (Ey k)) (JI k))) (UU k) (UU j))) (FB (CM (EI (JI j)) Sb (ZF (tH x) (AE (λk=>OH k (BI x) (OR (MV x k) (BI x) k) (ON (MV x k) (BI x) k) (Oe x k) (Ql x k) (Ns x k))) CH (AE (λk=>Pb (sJ x) k j k)) AT (PF (YU x) (BI x)) (λk=>GX k (BI x) (QE (BI x) k (MV x k)) (QL (BI x) k (MV x k)) k (Oe x k) (NW (BI x) k (Ql x k)) (NJ (BI x) k (Ns x k))) CH (λk=>Pb (BI x) k j k))) (λk=>And (mM (λl=>ZC (AQ (PG k) (vM x) (BD (NB l)) (Ue (Pa x) (λm=>ND m (BI x)) (ANC (AE (λm=>Ug x m l m (Ez j m))) (Hb x) (BC (JI l) (JI j))))) (YZ (Qb l l i) (JI l) 3 (UU l) (UU j)) (NB l) (YU x) (wL l (fiV x l)))) (ANG (λl=>HE (aI (YZ (Qb l l i) (JI l) 3 (UU l) (UU j)) (NB l) (YU x) l (fiV x l)) (NB l) (YU x) (mM (λm=>ZC (AV (PG k) (vM x) (qQ m l) AM CO (AS BL (BD (WC m)) AT (Pa x) (cB x) CH (AE (λn=>Ug x n m n (Ez l n))) (Hb x) (XO (Hb x) (BC (JI m) (JI l)) CO (AE (λn=>Rz n (GH (NB m) (HG n (BH (NB l)) (BH (NB l)))) (LI (not (XJ n)) (Wo (XJ n) UD HU))))))) (YZ (YZ (Qb m m i) (JI m) 3 (UU m) (UU j)) (NB m) (YU x) (Yi x m) (Yi x l)) (WC m) 2 (wL m (zS (BI x) (TQ x) (JI m) (NB m) (fiV x m) (WC m))))) (ANG (λm=>MI (aI (YZ (YZ (Qb m m i) (JI m) 3 (UU m) (UU j)) (NB m) (YU x) (Yi x m) (Yi x l)) (WC m) 2 m (zS (BI x) (TQ x) (JI m) (NB m) (fiV x m) (WC m))) (IA (WC m) 2) (AQ (BE (WC m) 2) (PK (AP (WC m)) 2) (AV (EI (NB m)) (DR (SS m)) AT (tH x) (AE (λn=>OH n (BI x) (OR (MV x n) (BI x) n) (ON (MV x n) (BI x) n) (Oe x n) (Ql x n) (Ns x n))) (dD CH (AE (λn=>Pb (sJ x) n m n)) AT (PF (YU x) (BI x)) (AE (λn=>GX n (BI x) (QE (BI x) n (MV x n)) (QL (BI x) n (MV x n)) n (Oe x n) (NW (BI x) n (Ql x n)) (NJ (BI x) n (Ns x n)))) (AE (λn=>Pb (BI x) n m n)) (BF (BH (NB m))) (DG (BH (NB m)) (FT (BI x))))) (FA (kZ (ZJ (lsM (Bt x m) (SS m)) (BH (JI m)))) (AI (hX (BA FW (GI (ZJ (lsM (Bt x m) (SS m)) (BH (JI m)))))) (AR k) (AG (Cl (JI m)) (jM (BI x) (Yy m x)) (AS (EI (NB m)) (DR (SS m)) AT (tH x) (AE (λn=>OH n (BI x) (OR (MV x n) (BI x) n) (ON (MV x n) (BI x) n) (Oe x n) (Ql x n) (Ns x n))) CH (AE (λn=>Pb (sJ x) n m n)) AT (AS (PF (YU x) (BI x)) (AE (λn=>GX n (BI x) (QE (BI x) n (MV x n)) (QL (BI x) n (MV x n)) n (Oe x n) (NW (BI x) n (Ql x n)) (NJ (BI x) n (Ns x n)))) CH (AE (λn=>Pb (BI x) n m n)) (BE (NB m) (FT (BI x))) (GM (dF (λn=>HG n (Ez m (Yy m x)) (sA (Bt x m) (SS m)))) 2) Cc (AE (λn=>Ii n (dF (λu=>HG u (Ez m (Yy m x)) (sA (Bt x m) (SS m)))) n (RV n (Ez m (Yy m x)) (sA (Bt x m) (SS m))))) (PK (FI (dF (λn=>HG n (Ez m (Yy m x)) (sA (Bt x m) (SS m))))) 1073741824)))) (HF (EI (NB m)) (DR (SS m)) Sb (AI (tH x) (AE (λn=>OH n (BI x) (OR (MV x n) (BI x) n) (ON (MV x n) (BI x) n) (Oe x n) (Ql x n) (Ns x n))) CH (AE (λn=>Pb (sJ x) n m n)) (VC AT (PF (YU x) (BI x)) (λn=>GX n (BI x) (QE (BI x) n (MV x n)) (QL (BI x) n (MV x n)) n (Oe x n) (NW (BI x) n (Ql x n)) (NJ (BI x) n (Ns x n))) CH (AE (λn=>Pb (BI x) n m n)) (BE (NB m) (FT (BI x))) (Og (goM (Bt x m) (SS m))) (CW (TO (BI x)) (Pr (Bt x m) (SS m) (bQ 2 (TQ x)))) (aD (Pr (Bt x m) (SS m) (bQ 2 (TQ x))) (BI x))))) (EW (NL (qF (dF (λn=>HG n (Ez m (Yy m x)) (sA (Bt x m) (SS m))))) (Ez m (Pr (Bt x m) (SS m) (bQ 2 (TQ x))))) (AG (EI (NB m)) (DR (SS m)) (dD AT (tH x) (AE (λn=>OH n (BI x) (OR (MV x n) (BI x) n) (ON (MV x n) (BI x) n) (Oe x n) (Ql x n) (Ns x n))) CH (AE (λn=>Pb (sJ x) n m n)) (PF (YU x) (BI x)) (AE (λn=>GX n (BI x) (QE (BI x) n (MV x n)) (QL (BI x) n (MV x n)) n (Oe x n) (NW (BI x) n (Ql x n)) (NJ (BI x) n (Ns x n)))) (AS CH (AE (λn=>Pb (BI x) n m n)) (BE (NB m) (FT (BI x))) (EI (NB m)) (DR (SS m)) AT (tH x) (AE (λn=>OH n (BI x) (OR (MV x n) (BI x) n) (ON (MV x n) (BI x) n) (Oe x n) (Ql x n) (Ns x n))) (dD CH (AE (λn=>Pb (sJ x) n m n)) AT (PF (YU x) (BI x)) (AE (λn=>GX n (BI x) (QE (BI x) n (MV x n)) (QL (BI x) n (MV x n)) n (Oe x n) (NW (BI x) n (Ql x n)) (NJ (BI x) n (Ns x n)))) (AE (λn=>Pb (BI x) n m n)) (BE (NB m) (FT (BI x))) (KQ (Og (goM (Bt x m) (SS m))) (jM (BI x) (Pr (Bt x m) (SS m) (bQ 2 (TQ x)))) (CW (Cj (BI x)) (Zx (Zx 171 (TQ x) 26) (Kw (Bt x m) (SS m)) 2)) (CW (nY (Zx (Zx 171 (TQ x) 26) (Kw (Bt x m) (SS m)) 2)) (HD (Cj (BI x)) 338))))))) (mM (λn=>EY (AV (PG k) (vM x) (qQ n m) AM CO (AS BL (AU (WC n) (WC m)) AT (Pa x) (cB x) CH (AE (λu=>Ug x u n u (ZY u (Pr (Bt x m) (SS m) (bQ 2 (TQ x))) (qF (dF (λv=>HG v (Ez m (Yy m x)) (sA (Bt x m) (SS m))))) (Ez m u)))) (Hb x) (XO (Hb x) (BC (JI n) (JI m)) CO (AE (λu=>Rz u (qQ n m) (Eb (XJ u))))))) (aI (YZ (YZ (Qb n n i) (JI n) 3 (UU n) (UU j)) (NB n) (YU x) (Yi x n) (Yi x l)) (WC n) 2 n (zS (BI x) (TQ x) (JI n) (NB n) (fiV x n) (WC n))) 2 (WC n) (WC m))) (mM (λn=>EY (AV (PG k) (vM x) (qQ n m) AM CO (AS BL (AU (WC n) (WC m)) AT (Pa x) (cB x) CH (AE (λu=>Ug x u n u (Ez m u))) (Hb x) (XO (Hb x) (BC (JI n) (JI m)) CO (AE (λu=>Rz u (qQ n m) (Eb (XJ u))))))) (aI (YZ (YZ (Qb n n i) (JI n) 3 (UU n) (UU j)) (NB n) (YU x) (Yi x n) (Yi x l)) (WC n) 2 n (zS (BI x) (TQ x) (JI n) (NB n) (fiV x n) (WC n))) 2 (WC n) (WC m))))) (mM (λn=>EY (AV (PG k) (vM x) (qQ n m) AM CO (AS BL (AU (WC n) (WC m)) AT (Pa x) (cB x) CH (AE (λu=>Ug x u n u (Ez m u))) (Hb x) (XO (Hb x) (BC (JI n) (JI m)) CO (AE (λu=>Rz u (qQ n m) (Eb (XJ u))))))) (aI (YZ (YZ (Qb n n i) (JI n) 3 (UU n) (UU j)) (NB n) (YU x) (Yi x n) (Yi x l)) (WC n) 2 n (zS (BI x) (TQ x) (JI n) (NB n) (fiV x n) (WC n))) 2 (WC n) (WC m))))) (mM (λn=>EY (AQ (PG k) (vM x) (AU (NB n) (NB m)) (Ue (Pa x) (λu=>ND u (BI x)) (ANC (AE (λu=>Ug x u n u (Ez m u))) (Hb x) (BC (JI n) (JI m))))) (aI (YZ (Qb n n i) (JI n) 3 (UU n) (UU j)) (NB n) (YU x) n (fiV x n)) (YU x) (NB n) (NB l))))) (mM (λm=>EV (AG AT (BC (Ey m) (Ey j)) (KQ AT (AU (JI m) (JI j)) (Pa x) (Gh (cB x) CH (AE (λn=>Ug x n m n (Ez l n))) (Hb x)))) (aI (Qb m m i) (JI m) 3 m (dB (BI x) (TQ x) (sC (BI x) (TQ x) (wB x) (Ey m)) (JI m))) (UU m) (UU j)))))))) (mM (λk=>NM (KQ AT (AU (Ey k) (Ey j)) (Pa x) (Gh (cB x) CH (AE (λl=>Ug x l k l (Ez j l))) (Hb x))) (Ey k) 3 (wL k (sC (BI x) (TQ x) (wB x) (Ey k))) (U1 k) (U1 i))))) (Ge (Pa x) (λj=>ND j (BI x)) (λj=>APK x j (filM (BI x) (TQ x) (wB x) j) (Ez i j)))))):=by kernel_rfl
theorem rngT{α:Type}(f:Nat->α):VZ 2 f=[f 0,f 1]:=rfl
theorem CAH{x:Lin}(h:ZO x=true):(0<=x.f/\x.f<=2)/\(0<=x.t/\x.t<=2)/\x.f≠x.t/\(0<=x.d/\x.d<=40000)/\(-1000000<=x.r/\x.r<=1000000)/\0<=x.e/\x.e<=10000:=by
 simp only[ZO,MN,Bool.and_eq_true,decide_eq_true_eq,Bool.not_eq_true',beq_eq_false_iff_ne,ne_eq] at h
 obtain⟨h1,h2,h3,h4,h5,h6⟩:=h
 exact⟨h1,h2,h3,h4,h5,h6⟩
theorem AWY{x:Lin}(h:ZO x=true)(b:Bool):0<=goM x b/\goM x b<=2:=by
 obtain⟨h1,h2,_⟩:=CAH h
 cases b
 ·exact h2
 ·exact h1
theorem AKD{l:List Lin}(h:l.all ZO=true){i:Nat}(hi:i<l.length):ZO (gD l i)=true:=List.all_eq_true.1 h _ (MH hi)
theorem CBF(x:LaS)(ha:x.a<3)(hl:x.l.length<=30)(hok:x.l.all ZO=true):BJA x:=by
 have hgo:∀i b,i<x.l.length->0<=goM (gD x.l i) b/\goM (gD x.l i) b<=2:=λi b hi=>AWY (AKD hok hi) b
 rw[BRL]<;> delta LI Wo UD NL HU FA AK AN FI AE BA BM IR BH CW DC ER NE TD KJ Ff FF ZJ TK TC FW OG Fg MW ZN ZK ZM Vw Mz HD NZ HS Db ZU TQ mM Ey BI Ez wB AWP ANG JI Df NB WC CS AG AP AI AO AJ Gh AR DR hX VS KQ ANC XO AS CM dD IF ZY BF DN Rw BO GH HA AM AQ Ia HC IQ EI EA ML DG FB XJ FP FT LG JP EV GI BC JR GM AV Pj AT DT IW JA EN TO AU EW PG FX FN TP MV RV BE IA Cj iI CJ R4 PK Bd LB Zx Sx HK JC HF BL XN Jn CH YR XL CO BD Cd Ui FU YB Ca Dx JS HG HE YL Cq FD Bz TV YU OR ON Dv Bl MI Au SG VC U1 FM TF SS EY ND RD PF Gb ZF aL UU Ha QE Lh Bt QL NW NJ GX OH aD nY kZ Cl Zr NM Gk Hb wL YZ Pr Pa Cc Yy Ns Ql ZC jM Oe Eb Hn Qb APK Pb Yi cB Og Bi Kw Sb dF Ug qJ Ue Ii aI Ge tH vM qQ sJ Yp bQ Rz
 simp only[CC,CU,CF,List.length_cons,List.length_nil,rngT]
 refine⟨⟨by omega,by omega⟩,⟨⟨0,0,0,0,x.g⟩,⟨rfl,λ_ _ _=>rfl⟩,Nat.zero_le _,rfl⟩,λy ⟨hk,hg⟩=>⟨λhlt=>⟨⟨⟨y.k,0,0,0,y.g⟩,⟨rfl,rfl,λ_ _ _=>rfl⟩,⟨show y.k<3 by omega,rfl⟩,Nat.zero_le _,hg⟩,λz ⟨⟨z1,z2⟩,z3,z4⟩=>⟨λhlt2=>?_,λhge2=>?_⟩⟩,λhge=>?_⟩⟩
 ·have hz:z.m<3:=by omega
  have hmk:dB x.l x.a (sC x.l x.a x.g z.k) (z.m+1)=bif z.g (Oy x.a z.m)==JY then z.g else legI x.l x.a z.m z.g x.l.length:=by rw[z4];rfl
  refine⟨⟨⟨by omega,by omega⟩,by omega,by omega⟩,λhf=>?_,λhf=>?_⟩
  ·exact⟨⟨z.k,z.m+1,0,0,z.g⟩,⟨rfl,(GJ (by omega)).symm,λ_ _ _=>rfl⟩,⟨⟨z1,z2⟩,show z.m+1<=3 by omega,by show z.g=_;rw[hmk,show (z.g (Oy x.a z.m)==JY)=true from hf];rfl⟩,show 3-(z.m+1)<3-z.m by omega⟩
  ·refine⟨⟨⟨z.k,z.m,0,0,z.g⟩,⟨rfl,λ_ _ _=>rfl,rfl⟩,⟨⟨z1,z2⟩,hz,rfl⟩,Nat.zero_le _,z4⟩,λu ⟨⟨⟨u1,u2⟩,u3,u4⟩,u5,u6⟩=>⟨λhlt3=>?_,λhge3=>?_⟩⟩
   ·refine⟨⟨⟨u.k,u.m,u.i,0,u.g⟩,⟨rfl,rfl,λ_ _ _=>rfl,rfl,rfl,λi hi=>?_⟩,⟨⟨⟨u1,u2⟩,u3,u4⟩,show u.i<x.l.length by omega,rfl⟩,Nat.zero_le _,u6⟩,λv ⟨⟨⟨⟨v1,v2⟩,v3,v4⟩,v5,v6⟩,v7,v8⟩=>⟨λhlt4=>?_,λhge4=>?_⟩⟩
    ·constructor<;>cases decide (i=0)<;>rfl
    ·have hB:=hgo v.i (!decide (v.j=0)) v5
     have hstep:zS x.l x.a v.m v.i (fiV x v) (v.j+1)=wI x.l x.a v.m v.i (!decide (v.j=0)) v.g:=by rw[v8];rfl
     have hj1:IntKind.i64.wrap ((v.j:Int)+1)=((v.j+1:Nat):Int):=GJ (by omega)
     have hi:((u.i:Nat):Int)=v.i:=by omega
     refine⟨⟨by omega,by omega⟩,by omega,⟨by omega,by omega⟩,λhs=>?_,λhs=>?_⟩
     ·have hs':(lsM (gD x.l v.i) (!decide (v.j=0))==(v.m:Int))=true:=hs
      refine⟨hs',⟨⟨by omega,by omega⟩,⟨by omega,by omega⟩,⟨by omega,by omega⟩,by omega,λj hj=>?_,by omega⟩,⟨⟨by omega,by omega⟩,⟨hB.1,by omega⟩,by omega,by omega⟩,λh5=>?_,λh5=>?_⟩
      ·match j,hj with
       |0,_=>rfl
       |1,_=>rfl
      ·refine⟨⟨⟨by omega,by omega⟩,⟨by omega,by omega⟩,⟨hB.1,by omega⟩,⟨by omega,by omega⟩,⟨hB.1,by omega⟩,by omega,by omega⟩,⟨v.k,v.m,v.i,v.j+1,wI x.l x.a v.m v.i (!decide (v.j=0)) v.g⟩,⟨rfl,hj1.symm,λi _ _=>?_,rfl,rfl,λ_ _=>rfl⟩,⟨⟨⟨⟨v1,v2⟩,v3,v4⟩,v5,v6⟩,show v.j+1<=2 by omega,hstep.symm⟩,show 2-(v.j+1)<2-v.j by omega⟩
       show wI x.l x.a v.m v.i (!decide (v.j=0)) v.g i=_
       unfold wI
       rw[hs',show decide (qF [v.g (Oy x.a v.m),sA (gD x.l v.i) (!decide (v.j=0))]<v.g (Oy x.a (goM (gD x.l v.i) (!decide (v.j=0))).toNat))=true from decide_eq_true h5]
       rfl
      ·refine⟨⟨v.k,v.m,v.i,v.j+1,wI x.l x.a v.m v.i (!decide (v.j=0)) v.g⟩,⟨rfl,hj1.symm,λi _ _=>?_,rfl,rfl,λ_ _=>rfl⟩,⟨⟨⟨⟨v1,v2⟩,v3,v4⟩,v5,v6⟩,show v.j+1<=2 by omega,hstep.symm⟩,show 2-(v.j+1)<2-v.j by omega⟩
       show wI x.l x.a v.m v.i (!decide (v.j=0)) v.g i=_
       unfold wI
       rw[hs',show decide (qF [v.g (Oy x.a v.m),sA (gD x.l v.i) (!decide (v.j=0))]<v.g (Oy x.a (goM (gD x.l v.i) (!decide (v.j=0))).toNat))=false from decide_eq_false h5]
       rfl
     ·have hs':(lsM (gD x.l v.i) (!decide (v.j=0))==(v.m:Int))=false:=hs
      refine⟨⟨v.k,v.m,v.i,v.j+1,wI x.l x.a v.m v.i (!decide (v.j=0)) v.g⟩,⟨rfl,hj1.symm,λi _ _=>?_,rfl,rfl,λ_ _=>rfl⟩,⟨⟨⟨⟨v1,v2⟩,v3,v4⟩,v5,v6⟩,show v.j+1<=2 by omega,hstep.symm⟩,show 2-(v.j+1)<2-v.j by omega⟩
      show wI x.l x.a v.m v.i (!decide (v.j=0)) v.g i=_
      unfold wI
      rw[hs'];rfl
    ·have hj2:v.j=2:=by omega
     refine⟨⟨v.k,v.m,v.i+1,0,v.g⟩,⟨(GJ (by omega)).symm,λ_ _ _=>rfl,rfl⟩,⟨⟨⟨v1,v2⟩,v3,v4⟩,show v.i+1<=x.l.length by omega,?_⟩,show x.l.length-(v.i+1)<x.l.length-u.i by omega⟩
     show v.g=_
     rw[v8,hj2];rfl
   ·have e1:u.k=z.k:=by omega
    have e2:u.m=z.m:=by omega
    have e3:u.i=x.l.length:=by omega
    refine⟨⟨z.k,z.m+1,0,0,u.g⟩,⟨rfl,(GJ (by omega)).symm,λ_ _ _=>rfl⟩,⟨⟨z1,z2⟩,show z.m+1<=3 by omega,?_⟩,show 3-(z.m+1)<3-z.m by omega⟩
    show u.g=_
    rw[hmk,show (z.g (Oy x.a z.m)==JY)=false from hf,u6]
    unfold fiV
    rw[e1,e2,e3,<-z4];rfl
 ·have e1:z.k=y.k:=by omega
  have e2:z.m=3:=by omega
  refine⟨⟨z.k+1,0,0,0,z.g⟩,⟨(GJ (by omega)).symm,λ_ _ _=>rfl⟩,⟨show z.k+1<=3 by omega,?_⟩,show 3-(z.k+1)<3-y.k by omega⟩
  show z.g=_
  rw[z4,e2];rfl
 ·intro i _ _
  have:y.k=3:=by omega
  rw[hg,this];rfl
theorem BSS:AH Try.prog AQT (C_lFill.spec d_la):=PU C_lFill BII [] [] BVL (λ_=>by kernel_rfl) (λ_=>AA AWW (AA AXA (AA AVG (AA CEE AD)))) (λ(x:LaS) h=>CBF x h.1 h.2.1 h.2.2) (λx=>N6 lY (itFi x) rfl rfl (AA AME AD) AOJ (by kernel_rfl) (by kernel_rfl)) _
end Go.Bal
