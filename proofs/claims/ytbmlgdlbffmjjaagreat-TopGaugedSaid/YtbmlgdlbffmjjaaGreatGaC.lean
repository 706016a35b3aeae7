/- Package level: fill: what can be reached from a mark. -/
import Derived.Test.YtbmlgdlbffmjjaaGreatGaB
set_option linter.unusedVariables false
set_option linter.unusedSimpArgs false
set_option maxRecDepth 8000
namespace Go.Bal
open Go Go.Sym Go.Proofs
def JZ:Int:=1099511627776
def putA(c:Nat)(n:Int)(g:Nat->Int):Nat->Int:=λj=>bif Nat.beq j c then n else g j
def wG(l:List Lin)(a m:Nat)(i:Nat)(b:Bool)(g:Nat->Int):Nat->Int:=
 bif lsM (gD l i) b==(m:Int) then bif decide (oP [g (Qp a m),sE (gD l i) b]<g (Qp a (goM (gD l i) b).toNat)) then putA (Qp a (goM (gD l i) b).toNat) (oP [g (Qp a m),sE (gD l i) b]) g else g else g
def D1(l:List Lin)(a m i:Nat)(g:Nat->Int):Nat->Nat->Int
 |0=>g
 |j+1=>wG l a m i (!decide (j=0)) (D1 l a m i g j)
def legI(l:List Lin)(a m:Nat)(g:Nat->Int):Nat->Nat->Int
 |0=>g
 |i+1=>D1 l a m i (legI l a m g i) 2
def eE(l:List Lin)(a:Nat)(g:Nat->Int):Nat->Nat->Int
 |0=>g
 |m+1=>bif eE l a g m (Qp a m)==JZ then eE l a g m else legI l a m (eE l a g m) l.length
def rZ(l:List Lin)(a:Nat)(g:Nat->Int):Nat->Nat->Int
 |0=>g
 |k+1=>eE l a (rZ l a g k) 3
def filM(l:List Lin)(a:Nat)(g:Nat->Int):Nat->Int:=rZ l a g 3
structure FiS where
 k:Nat
 m:Nat
 i:Nat
 j:Nat
 g:Nat->Int
 deriving Inhabited
structure LaS where
 l:List Lin
 g:Nat->Int
 a:Nat
def fiH(x:LaS)(g:Nat->Int):List (Nat×HCell):=[(100,.live (svO x.l g)),(1000,.live (.box [.bptr 100 0])),(2160,.live (.box [.rptr 100 13 x.a 2])),(2176,.live (.box [.rptr 100 26 x.a 171]))]
def fiS(k:Nat):List (Nat×AVal):=[(2,.bptr 1000 0),(4,.bptr 2160 0),(5,.bptr 2176 0),(23,.int 3),(24,.int k)]
def fi3(x:LaS):Shape:={ α:=FiS,dflt:=default,T:=λy=>⟨fiS y.k,fiH x y.g⟩,inv:=λy=>y.k<=3/\y.g=rZ x.l x.a x.g y.k,meas:=λy=>3-y.k }
def fi5(x:LaS)(q:Nat):Shape:={ α:=FiS,dflt:=default,T:=λy=>⟨fiS y.k ++ [(30,.int 3),(31,.int y.m)],fiH x y.g⟩,inv:=λy=>(y.k<3/\3-y.k=q)/\y.m<=3/\y.g=eE x.l x.a (rZ x.l x.a x.g y.k) y.m,meas:=λy=>3-y.m }
def fiR:List Nat:=[100,1000,2160,2176,7016,9032,9033]
def fiI(x:LaS)(y:FiS):List (Nat×HCell):=fiH x y.g ++ [(7016,.live (.box [.int y.m])),(9032,.live (.box [.bptr 100 0])),(9033,.live (.box [.int y.m]))]
def fiT(x:LaS)(lp i:Nat):List (Nat×AVal):=[(0,.fn (.yield lp) [] []),(1,.bptr 9032 0),(2,.bptr 9033 0),(12,.int x.l.length),(13,.int i)]
def fiV(x:LaS)(y:FiS):Nat->Int:=legI x.l x.a y.m (eE x.l x.a (rZ x.l x.a x.g y.k) y.m) y.i
def fi1(x:LaS)(lp q p:Nat):Shape:={ α:=FiS,dflt:=default,T:=λy=>⟨fiT x lp y.i,fiI x y⟩,inv:=λy=>((y.k<3/\3-y.k=q)/\y.m<3/\3-y.m=p)/\y.i<=x.l.length/\y.g=fiV x y,meas:=λy=>x.l.length-y.i }
def fiL(i:Nat):AObj:=.row 2 2 λj=>.agg [ES i,AWM (!decide (j=0))]
def fi4(x:LaS)(r lp q p:Nat):Shape:={ α:=FiS,dflt:=default,T:=λy=>⟨fiT x lp y.i ++ [(20,.own 200 2 0 2),(21,.int 2),(22,.int y.j)],fiI x y ++ [(200,.live (fiL y.i))]⟩,inv:=λy=>(((y.k<3/\3-y.k=q)/\y.m<3/\3-y.m=p)/\y.i<x.l.length/\x.l.length-y.i=r)/\y.j<=2/\y.g=D1 x.l x.a y.m y.i (fiV x y) y.j,meas:=λy=>2-y.j,first:=[(200,104064)] }
noncomputable def itFi(x:LaS):IterAnn:={ fn:=vW,code:=AF vW,live:=[2,4,5,6,23,24,30,31],ann:={ base:=λid=>100000+1000*(id+1),Γ:=Sym.look [(N2,C_lStart.spec d_lg)],E:=fiR,n:=39,yd:=λid=>if id=6 then some 8 else none,inner:=λgs id=>if id=1 then some [fi1 x (gs.getD 0 0) (gs.getD 2 0) (gs.getD 1 0)] else if id=4 then some [fi4 x (gs.getD 0 0) (gs.getD 1 0) (gs.getD 3 0) (gs.getD 2 0)] else none } }
noncomputable def BGM(x:LaS):Ann:={ ann 79 [(ACY,C_lLegs.spec d_lm),(ADC,C_lRise.spec d_lg),(ACD,C_lGoal.spec d_lg),(AZQ,C_lSum.spec d_Is)] with E:=[100],iter:=λg=>if g=mO then some (itFi x) else none,inner:=λgs id=>if id=3 then some [fi3 x] else if id=5 then some [fi5 x (gs.getD 0 0)] else none }
def C_lFill:Ctr:={ α:=LaS,xs:=λx=>[.bptr 100 0,.int x.a],L:=λx=>[(100,svO x.l x.g)],val:=λ_=>.d (.tup []),keep:=λx=>[(100,.live (svO x.l (filM x.l x.a x.g)))],pre:=λx=>[x.a<3/\x.l.length<=30/\x.l.all Ac=true] }
def d_la:List AVal->Heap->Option (LaS×List (Nat×Nat)×List Nat)
 |[.bptr id _,.d (.v (.int .i64 a))],H=>match H id with
  | .live (.nbox [_,.list _ n f _] _ _ g)=>some (⟨WA n λj=>vH (f j),g,a.toNat⟩,[(100,id)],[])
  |_=>none
 |_,_=>none
def BFC(x:LaS):Prop:=AX Try.prog (BGM x) ATF (AF ATF) (C_lFill.xs x) (AC (C_lFill.L x)) (C_lFill.val x) (C_lFill.keep x) [] []
abbrev TN:=LaS.a
abbrev nC:=@Exists FiS
abbrev Ew:=FiS.k
abbrev BJ:=LaS.l
abbrev Ez:=FiS.g
abbrev vJ:=LaS.g
abbrev AXL:=@Eq (Nat->Int)
abbrev AML:=λ(f:FiS->Prop)=>∀(x:FiS),f x
abbrev JG:=FiS.m
abbrev Cw:=@HMul.hMul Nat Nat Nat (@instHMul Nat instMulNat)
abbrev NF:=FiS.i
abbrev VX:=FiS.j
abbrev Gs a b c d:=Iq a b (AK c d)
abbrev AUI a b c d:=Gs (BJ a) b c d
abbrev Po a:=JC (BJ a)
abbrev Vi a:=KE 3 a
abbrev Z2 a:=Vi (Ew a)
abbrev vC a b:=AXL (Ez a) b
abbrev Fs a:=AR (TN a)
abbrev Sv a b c d e:=AUI a b (Ez c d) e
abbrev eN a:=RE (BJ a)
abbrev UZ a:=Vi (JG a)
abbrev Zr a b c d e:=FG a b c (vC d e)
abbrev Xd a b:=Dp a 3 b
abbrev Lk a b c:=Xd a (AN b c)
abbrev Oy a b c:=Lk (Ew a) (Z2 b) (Z2 c)
abbrev MD a b c d:=BA a (EZ b c d)
abbrev YO a:=OI (BJ a)
abbrev Z5 a b c d:=AG a b (AN c d)
abbrev XW a b c d e:=Z5 a (BN b c) d e
abbrev AOB a b c:=Fl a b b c
abbrev wF a:=EJ (YO a)
abbrev PD a:=(@Eq Fn) (Fn.yield a) (Fn.yield a)
abbrev Zd a b:=KE (YO a) (NF b)
abbrev Sn a b c:=IG a 2 b c
abbrev qN a b:=BC (NF a) (NF b)
abbrev RV a:=not (Qk (VX a))
abbrev MO a b:=HB (BJ a) b
abbrev Cm a b:=MO a (NF b)
abbrev Yj a b c:=HA a (Cw b c)
abbrev Sy a b c:=HA a (Yj b c 13)
abbrev aG a b:=Sy a 2 b
abbrev Zx a b:=aG (JG a) (TN b)
abbrev Qy a b c:=jQ (goM a b) c
abbrev cQ a b:=Yj a b 13
abbrev dY a b c d e f g h:=AS a b c d e a f g h
abbrev qO a:=HA a 2
abbrev Mr a b:=MW (goM a b)
abbrev Xf a b:=BN a (Aq b)
abbrev jS a b:=CJ (TZ a) b (Xf b a)
abbrev Pi a:=DT a 13
abbrev Ol a b c d:=TK a b (Ez c d)
abbrev Qw a b:=ZL (MO a b)
abbrev Oq a b:=ZJ (MO a b)
abbrev Oi a b:=ZM (MO a b)
abbrev sP a:=IU (BJ a)
abbrev tR a:=FM (BJ a)
abbrev VD a b(c:Nat->Prop) d e f g h p:=AS a b (AE c) d e f g h p
abbrev Bm a:=BE a 13
abbrev iC a:=And a a
abbrev kY a:=(λ(x0 x1 x2 x3:Bool)=>if x0=x1 then x2 else x3) HU HU a (not a)
abbrev aH a:=HX a 3
abbrev Br a b c:=AG a (BG b) c
attribute [go_sem] TN nC Ew BJ Ez vJ AXL AML JG Cw NF VX Gs AUI Po Vi Z2 vC Fs Sv eN UZ Zr Xd Lk Oy MD YO Z5 XW AOB wF PD Zd Sn qN RV MO Cm Yj Sy aG Zx Qy cQ dY qO Mr Xf jS Pi Ol Qw Oq Oi sP tR VD Bm iC kY aH Br
theorem BQN(x:LaS):(BFC x)=(AG (Br (Bm (TN x)) (BH (TN x)) (DR (BH (TN x)) 13)) (nC (λi=>Zr (KS AT (BD (Ew i)) (Po x) (Fl (eN x) CH (AE (λj=>Sv x j i j (vJ x j))) (Fs x))) (Ew i) 3 i (rZ (BJ x) (TN x) (vJ x) (Ew i)))) (AML (λi=>HH (CJ (Ew i) 3 (vC i (rZ (BJ x) (TN x) (vJ x) (Ew i)))) (aH (Ew i)) (nC (λj=>ZE (AG AT (BC (Ew j) (Ew i)) (KS AT (BD (JG j)) (Po x) (Fl (eN x) CH (AE (λk=>Sv x k j k (Ez i k))) (Fs x)))) (Oy j j i) (JG j) 3 (vC j (eE (BJ x) (TN x) (rZ (BJ x) (TN x) (vJ x) (Ew j)) (JG j))))) (AML (λj=>HH (Zr (Oy j j i) (JG j) 3 j (eE (BJ x) (TN x) (rZ (BJ x) (TN x) (vJ x) (Ew j)) (JG j))) (aH (JG j)) (EV (Bm (JG j)) (CV (TZ (BJ x)) (Zx j x)) (Zx j x) (Aq (BJ x))) (EZ (ZN (Ez j (Zx j x)) 1099511627776) (nC (λk=>EV (AG AT (BC (Ew k) (Ew j)) (KS AT (AU (JG k) (JG j)) (Po x) (Fl (eN x) CH (AE (λl=>Sv x l k l (Ez j l))) (Fs x)))) (Zr (Oy k k i) (JG k) 3 k (eE (BJ x) (TN x) (rZ (BJ x) (TN x) (vJ x) (Ew k)) (JG k))) (UZ k) (UZ j))) (EX (CM (EJ (JG j)) Ry (ZI (tR x) (AE (λk=>OO k (BJ x) (OF (MO x k) (BJ x) k) (OQ (MO x k) (BJ x) k) (Oi x k) (Oq x k) (Qw x k))) CH (AE (λk=>Ol (sP x) k j k)) AT (OV (YO x) (BJ x)) (λk=>GY k (BJ x) (QE (BJ x) k (MO x k)) (PZ (BJ x) k (MO x k)) k (Oi x k) (NG (BJ x) k (Oq x k)) (NR (BJ x) k (Qw x k))) CH (λk=>Ol (BJ x) k j k))) (λk=>And (nC (λl=>ZE (AQ (PD k) (wF x) (BD (NF l)) (Uc (Po x) (λm=>NO m (BJ x)) (AOB (AE (λm=>Sv x m l m (Ez j m))) (Fs x) (BC (JG l) (JG j))))) (XW (Oy l l i) (JG l) 3 (UZ l) (UZ j)) (NF l) (YO x) (vC l (fiV x l)))) (AML (λl=>HF (Zr (XW (Oy l l i) (JG l) 3 (UZ l) (UZ j)) (NF l) (YO x) l (fiV x l)) (NF l) (YO x) (nC (λm=>ZE (AV (PD k) (wF x) (qN m l) AM CO (AS BL (BD (VX m)) AT (Po x) (eN x) CH (AE (λn=>Sv x n m n (Ez l n))) (Fs x) (YG (Fs x) (BC (JG m) (JG l)) CO (AE (λn=>Sn n (GJ (NF m) (HG n (BH (NF l)) (BH (NF l)))) (LI (not (XJ n)) (Wo (XJ n) UD HU))))))) (XW (XW (Oy m m i) (JG m) 3 (UZ m) (UZ j)) (NF m) (YO x) (Zd x m) (Zd x l)) (VX m) 2 (vC m (D1 (BJ x) (TN x) (JG m) (NF m) (fiV x m) (VX m))))) (AML (λm=>MD (Zr (XW (XW (Oy m m i) (JG m) 3 (UZ m) (UZ j)) (NF m) (YO x) (Zd x m) (Zd x l)) (VX m) 2 m (D1 (BJ x) (TN x) (JG m) (NF m) (fiV x m) (VX m))) (HX (VX m) 2) (AQ (BE (VX m) 2) (PL (AP (VX m)) 2) (AV (EJ (NF m)) (DF (RV m)) AT (tR x) (AE (λn=>OO n (BJ x) (OF (MO x n) (BJ x) n) (OQ (MO x n) (BJ x) n) (Oi x n) (Oq x n) (Qw x n))) (dY CH (AE (λn=>Ol (sP x) n m n)) AT (OV (YO x) (BJ x)) (AE (λn=>GY n (BJ x) (QE (BJ x) n (MO x n)) (PZ (BJ x) n (MO x n)) n (Oi x n) (NG (BJ x) n (Oq x n)) (NR (BJ x) n (Qw x n)))) (AE (λn=>Ol (BJ x) n m n)) (BG (BH (NF m))) (DR (BH (NF m)) (FU (BJ x))))) (EZ (kY (ZN (lsM (Cm x m) (RV m)) (BH (JG m)))) (AI (iC (BA FT (GI (ZN (lsM (Cm x m) (RV m)) (BH (JG m)))))) (AR k) (AG (Bm (JG m)) (jS (BJ x) (Zx m x)) (AS (EJ (NF m)) (DF (RV m)) AT (tR x) (AE (λn=>OO n (BJ x) (OF (MO x n) (BJ x) n) (OQ (MO x n) (BJ x) n) (Oi x n) (Oq x n) (Qw x n))) CH (AE (λn=>Ol (sP x) n m n)) AT (AS (OV (YO x) (BJ x)) (AE (λn=>GY n (BJ x) (QE (BJ x) n (MO x n)) (PZ (BJ x) n (MO x n)) n (Oi x n) (NG (BJ x) n (Oq x n)) (NR (BJ x) n (Qw x n)))) CH (AE (λn=>Ol (BJ x) n m n)) (BE (NF m) (FU (BJ x))) (GM (cO (λn=>HG n (Ez m (Zx m x)) (sE (Cm x m) (RV m)))) 2) By (AE (λn=>Ja n (cO (λu=>HG u (Ez m (Zx m x)) (sE (Cm x m) (RV m)))) n (SD n (Ez m (Zx m x)) (sE (Cm x m) (RV m))))) (PL (FI (cO (λn=>HG n (Ez m (Zx m x)) (sE (Cm x m) (RV m))))) 1073741824)))) (HL (EJ (NF m)) (DF (RV m)) Ry (AI (tR x) (AE (λn=>OO n (BJ x) (OF (MO x n) (BJ x) n) (OQ (MO x n) (BJ x) n) (Oi x n) (Oq x n) (Qw x n))) CH (AE (λn=>Ol (sP x) n m n)) (VD AT (OV (YO x) (BJ x)) (λn=>GY n (BJ x) (QE (BJ x) n (MO x n)) (PZ (BJ x) n (MO x n)) n (Oi x n) (NG (BJ x) n (Oq x n)) (NR (BJ x) n (Qw x n))) CH (AE (λn=>Ol (BJ x) n m n)) (BE (NF m) (FU (BJ x))) (Pi (goM (Cm x m) (RV m))) (CV (TZ (BJ x)) (Qy (Cm x m) (RV m) (cQ 2 (TN x)))) (Xf (Qy (Cm x m) (RV m) (cQ 2 (TN x))) (BJ x))))) (EY (NX (oP (cO (λn=>HG n (Ez m (Zx m x)) (sE (Cm x m) (RV m))))) (Ez m (Qy (Cm x m) (RV m) (cQ 2 (TN x))))) (AG (EJ (NF m)) (DF (RV m)) (dY AT (tR x) (AE (λn=>OO n (BJ x) (OF (MO x n) (BJ x) n) (OQ (MO x n) (BJ x) n) (Oi x n) (Oq x n) (Qw x n))) CH (AE (λn=>Ol (sP x) n m n)) (OV (YO x) (BJ x)) (AE (λn=>GY n (BJ x) (QE (BJ x) n (MO x n)) (PZ (BJ x) n (MO x n)) n (Oi x n) (NG (BJ x) n (Oq x n)) (NR (BJ x) n (Qw x n)))) (AS CH (AE (λn=>Ol (BJ x) n m n)) (BE (NF m) (FU (BJ x))) (EJ (NF m)) (DF (RV m)) AT (tR x) (AE (λn=>OO n (BJ x) (OF (MO x n) (BJ x) n) (OQ (MO x n) (BJ x) n) (Oi x n) (Oq x n) (Qw x n))) (dY CH (AE (λn=>Ol (sP x) n m n)) AT (OV (YO x) (BJ x)) (AE (λn=>GY n (BJ x) (QE (BJ x) n (MO x n)) (PZ (BJ x) n (MO x n)) n (Oi x n) (NG (BJ x) n (Oq x n)) (NR (BJ x) n (Qw x n)))) (AE (λn=>Ol (BJ x) n m n)) (BE (NF m) (FU (BJ x))) (KS (Pi (goM (Cm x m) (RV m))) (jS (BJ x) (Qy (Cm x m) (RV m) (cQ 2 (TN x)))) (CV (Aq (BJ x)) (Yj (Yj 171 (TN x) 26) (Mr (Cm x m) (RV m)) 2)) (CV (qO (Yj (Yj 171 (TN x) 26) (Mr (Cm x m) (RV m)) 2)) (HA (Aq (BJ x)) 338))))))) (nC (λn=>FB (AV (PD k) (wF x) (qN n m) AM CO (AS BL (AU (VX n) (VX m)) AT (Po x) (eN x) CH (AE (λu=>Sv x u n u (ZZ u (Qy (Cm x m) (RV m) (cQ 2 (TN x))) (oP (cO (λv=>HG v (Ez m (Zx m x)) (sE (Cm x m) (RV m))))) (Ez m u)))) (Fs x) (YG (Fs x) (BC (JG n) (JG m)) CO (AE (λu=>Sn u (qN n m) (Dm (XJ u))))))) (Zr (XW (XW (Oy n n i) (JG n) 3 (UZ n) (UZ j)) (NF n) (YO x) (Zd x n) (Zd x l)) (VX n) 2 n (D1 (BJ x) (TN x) (JG n) (NF n) (fiV x n) (VX n))) 2 (VX n) (VX m))) (nC (λn=>FB (AV (PD k) (wF x) (qN n m) AM CO (AS BL (AU (VX n) (VX m)) AT (Po x) (eN x) CH (AE (λu=>Sv x u n u (Ez m u))) (Fs x) (YG (Fs x) (BC (JG n) (JG m)) CO (AE (λu=>Sn u (qN n m) (Dm (XJ u))))))) (Zr (XW (XW (Oy n n i) (JG n) 3 (UZ n) (UZ j)) (NF n) (YO x) (Zd x n) (Zd x l)) (VX n) 2 n (D1 (BJ x) (TN x) (JG n) (NF n) (fiV x n) (VX n))) 2 (VX n) (VX m))))) (nC (λn=>FB (AV (PD k) (wF x) (qN n m) AM CO (AS BL (AU (VX n) (VX m)) AT (Po x) (eN x) CH (AE (λu=>Sv x u n u (Ez m u))) (Fs x) (YG (Fs x) (BC (JG n) (JG m)) CO (AE (λu=>Sn u (qN n m) (Dm (XJ u))))))) (Zr (XW (XW (Oy n n i) (JG n) 3 (UZ n) (UZ j)) (NF n) (YO x) (Zd x n) (Zd x l)) (VX n) 2 n (D1 (BJ x) (TN x) (JG n) (NF n) (fiV x n) (VX n))) 2 (VX n) (VX m))))) (nC (λn=>FB (AQ (PD k) (wF x) (AU (NF n) (NF m)) (Uc (Po x) (λu=>NO u (BJ x)) (AOB (AE (λu=>Sv x u n u (Ez m u))) (Fs x) (BC (JG n) (JG m))))) (Zr (XW (Oy n n i) (JG n) 3 (UZ n) (UZ j)) (NF n) (YO x) n (fiV x n)) (YO x) (NF n) (NF l))))) (nC (λm=>EV (AG AT (BC (Ew m) (Ew j)) (KS AT (AU (JG m) (JG j)) (Po x) (Fl (eN x) CH (AE (λn=>Sv x n m n (Ez l n))) (Fs x)))) (Zr (Oy m m i) (JG m) 3 m (eE (BJ x) (TN x) (rZ (BJ x) (TN x) (vJ x) (Ew m)) (JG m))) (UZ m) (UZ j)))))))) (nC (λk=>NL (KS AT (AU (Ew k) (Ew j)) (Po x) (Fl (eN x) CH (AE (λl=>Sv x l k l (Ez j l))) (Fs x))) (Ew k) 3 (vC k (rZ (BJ x) (TN x) (vJ x) (Ew k))) (Z2 k) (Z2 i))))) (Gw (Po x) (λj=>NO j (BJ x)) (λj=>AUI x j (filM (BJ x) (TN x) (vJ x) j) (Ez i j)))))):=by kernel_rfl
theorem rngT{α:Type}(f:Nat->α):WA 2 f=[f 0,f 1]:=rfl
theorem CBD{x:Lin}(h:Ac x=true):(0<=x.f/\x.f<=2)/\(0<=x.t/\x.t<=2)/\x.f≠x.t/\(0<=x.d/\x.d<=40000)/\(-1000000<=x.r/\x.r<=1000000)/\0<=x.e/\x.e<=10000:=by
 simp only[Ac,MN,Bool.and_eq_true,decide_eq_true_eq,Bool.not_eq_true',beq_eq_false_iff_ne,ne_eq] at h
 obtain⟨h1,h2,h3,h4,h5,h6⟩:=h
 exact⟨h1,h2,h3,h4,h5,h6⟩
theorem AVH{x:Lin}(h:Ac x=true)(b:Bool):0<=goM x b/\goM x b<=2:=by
 obtain⟨h1,h2,_⟩:=CBD h
 cases b
 ·exact h2
 ·exact h1
theorem AHQ{l:List Lin}(h:l.all Ac=true){i:Nat}(hi:i<l.length):Ac (gD l i)=true:=List.all_eq_true.1 h _ (MF hi)
theorem CAO(x:LaS)(ha:x.a<3)(hl:x.l.length<=30)(hok:x.l.all Ac=true):BFC x:=by
 have hgo:∀i b,i<x.l.length->0<=goM (gD x.l i) b/\goM (gD x.l i) b<=2:=λi b hi=>AVH (AHQ hok hi) b
 rw[BQN]<;> delta LI Wo UD NX HU EZ AK AN FI AE BA BN IQ BH CV DC ER NC TD KE Ff FD ZN TE TC FT OI Fh MW ZM ZJ ZL Wc Nm HA NZ HR Dg ZP TN nC Ew BJ Ez vJ AXL AML JG Cw NF VX CS AG AP AI AO AJ Fl AR DF iC VR KS AOB YG AS CM dY IG ZZ BG DK Rq BO GJ HD AM AQ Hz HB IU EJ EB MM DR EX XJ FP FU LF JV EV GI BC JX GM AV Qk AT DT IV JD EN TZ AU EY PD FV FL TG MO SD BE HX Aq jQ CJ Z5 PL Af LA Yj Vi HH JC HL BL YV Iq CH YF YN CO BD Bz Sy FQ YZ Ba Eb JQ HG HF YH An FG Ci TK YO OF OQ Dp Bg MD Bv SA VD Z2 FM TM RV FB NO RE OV Gj ZI Xd UZ Fu QE Lk Cm PZ NG NR GY OO Xf qO kY Bm aG NL Gs Fs vC XW Qy Po By Zx Qw Oq ZE jS Oi Dm Gb Oy AUI Ol Zd eN Pi Br Mr Ry cO Sv rB Uc Ja Zr Gw tR wF qN sP aH cQ Sn
 simp only[CC,CU,CF,List.length_cons,List.length_nil,rngT]
 refine⟨⟨by omega,by omega⟩,⟨⟨0,0,0,0,x.g⟩,⟨rfl,λ_ _ _=>rfl⟩,Nat.zero_le _,rfl⟩,λy ⟨hk,hg⟩=>⟨λhlt=>⟨⟨⟨y.k,0,0,0,y.g⟩,⟨rfl,rfl,λ_ _ _=>rfl⟩,⟨show y.k<3 by omega,rfl⟩,Nat.zero_le _,hg⟩,λz ⟨⟨z1,z2⟩,z3,z4⟩=>⟨λhlt2=>?_,λhge2=>?_⟩⟩,λhge=>?_⟩⟩
 ·have hz:z.m<3:=by omega
  have hmk:eE x.l x.a (rZ x.l x.a x.g z.k) (z.m+1)=bif z.g (Qp x.a z.m)==JZ then z.g else legI x.l x.a z.m z.g x.l.length:=by rw[z4];rfl
  refine⟨⟨⟨by omega,by omega⟩,by omega,by omega⟩,λhf=>?_,λhf=>?_⟩
  ·exact⟨⟨z.k,z.m+1,0,0,z.g⟩,⟨rfl,(GH (by omega)).symm,λ_ _ _=>rfl⟩,⟨⟨z1,z2⟩,show z.m+1<=3 by omega,by show z.g=_;rw[hmk,show (z.g (Qp x.a z.m)==JZ)=true from hf];rfl⟩,show 3-(z.m+1)<3-z.m by omega⟩
  ·refine⟨⟨⟨z.k,z.m,0,0,z.g⟩,⟨rfl,λ_ _ _=>rfl,rfl⟩,⟨⟨z1,z2⟩,hz,rfl⟩,Nat.zero_le _,z4⟩,λu ⟨⟨⟨u1,u2⟩,u3,u4⟩,u5,u6⟩=>⟨λhlt3=>?_,λhge3=>?_⟩⟩
   ·refine⟨⟨⟨u.k,u.m,u.i,0,u.g⟩,⟨rfl,rfl,λ_ _ _=>rfl,rfl,rfl,λi hi=>?_⟩,⟨⟨⟨u1,u2⟩,u3,u4⟩,show u.i<x.l.length by omega,rfl⟩,Nat.zero_le _,u6⟩,λv ⟨⟨⟨⟨v1,v2⟩,v3,v4⟩,v5,v6⟩,v7,v8⟩=>⟨λhlt4=>?_,λhge4=>?_⟩⟩
    ·constructor<;>cases decide (i=0)<;>rfl
    ·have hB:=hgo v.i (!decide (v.j=0)) v5
     have hstep:D1 x.l x.a v.m v.i (fiV x v) (v.j+1)=wG x.l x.a v.m v.i (!decide (v.j=0)) v.g:=by rw[v8];rfl
     have hj1:IntKind.i64.wrap ((v.j:Int)+1)=((v.j+1:Nat):Int):=GH (by omega)
     have hi:((u.i:Nat):Int)=v.i:=by omega
     refine⟨⟨by omega,by omega⟩,by omega,⟨by omega,by omega⟩,λhs=>?_,λhs=>?_⟩
     ·have hs':(lsM (gD x.l v.i) (!decide (v.j=0))==(v.m:Int))=true:=hs
      refine⟨hs',⟨⟨by omega,by omega⟩,⟨by omega,by omega⟩,⟨by omega,by omega⟩,by omega,λj hj=>?_,by omega⟩,⟨⟨by omega,by omega⟩,⟨hB.1,by omega⟩,by omega,by omega⟩,λh5=>?_,λh5=>?_⟩
      ·match j,hj with
       |0,_=>rfl
       |1,_=>rfl
      ·refine⟨⟨⟨by omega,by omega⟩,⟨by omega,by omega⟩,⟨hB.1,by omega⟩,⟨by omega,by omega⟩,⟨hB.1,by omega⟩,by omega,by omega⟩,⟨v.k,v.m,v.i,v.j+1,wG x.l x.a v.m v.i (!decide (v.j=0)) v.g⟩,⟨rfl,hj1.symm,λi _ _=>?_,rfl,rfl,λ_ _=>rfl⟩,⟨⟨⟨⟨v1,v2⟩,v3,v4⟩,v5,v6⟩,show v.j+1<=2 by omega,hstep.symm⟩,show 2-(v.j+1)<2-v.j by omega⟩
       show wG x.l x.a v.m v.i (!decide (v.j=0)) v.g i=_
       unfold wG
       rw[hs',show decide (oP [v.g (Qp x.a v.m),sE (gD x.l v.i) (!decide (v.j=0))]<v.g (Qp x.a (goM (gD x.l v.i) (!decide (v.j=0))).toNat))=true from decide_eq_true h5]
       rfl
      ·refine⟨⟨v.k,v.m,v.i,v.j+1,wG x.l x.a v.m v.i (!decide (v.j=0)) v.g⟩,⟨rfl,hj1.symm,λi _ _=>?_,rfl,rfl,λ_ _=>rfl⟩,⟨⟨⟨⟨v1,v2⟩,v3,v4⟩,v5,v6⟩,show v.j+1<=2 by omega,hstep.symm⟩,show 2-(v.j+1)<2-v.j by omega⟩
       show wG x.l x.a v.m v.i (!decide (v.j=0)) v.g i=_
       unfold wG
       rw[hs',show decide (oP [v.g (Qp x.a v.m),sE (gD x.l v.i) (!decide (v.j=0))]<v.g (Qp x.a (goM (gD x.l v.i) (!decide (v.j=0))).toNat))=false from decide_eq_false h5]
       rfl
     ·have hs':(lsM (gD x.l v.i) (!decide (v.j=0))==(v.m:Int))=false:=hs
      refine⟨⟨v.k,v.m,v.i,v.j+1,wG x.l x.a v.m v.i (!decide (v.j=0)) v.g⟩,⟨rfl,hj1.symm,λi _ _=>?_,rfl,rfl,λ_ _=>rfl⟩,⟨⟨⟨⟨v1,v2⟩,v3,v4⟩,v5,v6⟩,show v.j+1<=2 by omega,hstep.symm⟩,show 2-(v.j+1)<2-v.j by omega⟩
      show wG x.l x.a v.m v.i (!decide (v.j=0)) v.g i=_
      unfold wG
      rw[hs'];rfl
    ·have hj2:v.j=2:=by omega
     refine⟨⟨v.k,v.m,v.i+1,0,v.g⟩,⟨(GH (by omega)).symm,λ_ _ _=>rfl,rfl⟩,⟨⟨⟨v1,v2⟩,v3,v4⟩,show v.i+1<=x.l.length by omega,?_⟩,show x.l.length-(v.i+1)<x.l.length-u.i by omega⟩
     show v.g=_
     rw[v8,hj2];rfl
   ·have e1:u.k=z.k:=by omega
    have e2:u.m=z.m:=by omega
    have e3:u.i=x.l.length:=by omega
    refine⟨⟨z.k,z.m+1,0,0,u.g⟩,⟨rfl,(GH (by omega)).symm,λ_ _ _=>rfl⟩,⟨⟨z1,z2⟩,show z.m+1<=3 by omega,?_⟩,show 3-(z.m+1)<3-z.m by omega⟩
    show u.g=_
    rw[hmk,show (z.g (Qp x.a z.m)==JZ)=false from hf,u6]
    unfold fiV
    rw[e1,e2,e3,<-z4];rfl
 ·have e1:z.k=y.k:=by omega
  have e2:z.m=3:=by omega
  refine⟨⟨z.k+1,0,0,0,z.g⟩,⟨(GH (by omega)).symm,λ_ _ _=>rfl⟩,⟨show z.k+1<=3 by omega,?_⟩,show 3-(z.k+1)<3-y.k by omega⟩
  show z.g=_
  rw[z4,e2];rfl
 ·intro i _ _
  have:y.k=3:=by omega
  rw[hg,this];rfl
theorem BYE:AH Try.prog AQU (C_lFill.spec d_la):=PU C_lFill BGM [] [] BSQ (λ_=>by kernel_rfl) (λ_=>AA AXQ (AA AZM (AA AXA (AA CEL AD)))) (λ(x:LaS) h=>CAO x h.1 h.2.1 h.2.2) (λx=>K2 mO (itFi x) rfl rfl (AA AMV AD) ANL (by kernel_rfl) (by kernel_rfl)) _
end Go.Bal
