/- Package rating: Stages, Dry. -/
import Derived.Test.YtceloknnpdonhaaGreatRatM
set_option linter.unusedVariables false
set_option linter.unusedSimpArgs false
namespace Go.Bal
open Go Go.Sym Go.Proofs
structure GBf where
 a:GB
 f:Int
def dGBf:List AVal->Heap->Option (GBf×List (Nat×Nat)×List Nat)
 |[x,y,.d t],H=>match BLF x H,W2 y H with
  |some (l,f),some (m,e)=>some (⟨⟨l,m⟩,EO t⟩,[],f ++ e)
  |_,_=>none
 |_,_=>none
def xGBf(x:GBf):List AVal:=[.d (KZ x.a.g),.d (FE x.a.b),.int x.f]
def hsK:Nat->(Int->Bool)×(Int->Int)
 |0=>(λ_=>false,λ_=>0)
 |k+1=>(YF (hsK k).1 k,S3 (hsK k).1 (hsK k).2 k)
def wK(a:GB)(k:Nat):Bk:=⟨a.g,a.b,(hsK k).1,(hsK k).2⟩
def stF(x:GBf)(k:Nat):Int:=upM st1 ⟨ZE x.a,k,⟨x.f,1⟩⟩+1
def stL(x:GBf)(k:Nat):Int:=upM st2 ⟨ZE x.a,k,⟨x.f,1⟩⟩
def lnK(a:GB)(k:Nat):List Ln:=Bm (Ys (ZE a) k) (FH (ZE a) k).lo
def stgS(x:GBf):Nat->Nat->Span->Bool->Span×Int
 |0,_,o,m=>bif m then (o,0) else (default,5)
 |n+1,k,o,m=>bif decide ((lnK x.a k).length=0) then (default,6) else bif decide (stL x k<stF x k) then stgS x n (k+1) o m else stgS x n (k+1) ⟨bif m then o.lo else stF x k,stL x k⟩ true
def preB(a:GB):Prop:=a.g.length<4611686018427387904/\a.b.length<4611686018427387904
def inF(x:GBf):Bool:=Sx x.f 0 200000
def stgM(x:GBf):Span×Int:=bif HS x.a==0 then (bif inF x then stgS x (x.a.b.length+1) 0 default false else (default,4)) else (default,HS x.a)
structure KOM where
 k:Nat
 o:Span
 m:Bool
 deriving Inhabited
def bkH(w:Bk)(p q:Nat):List (Nat×HCell):=[(p,.live (bkB w q)),(q,.live (bkM w))]
def sg8(x:GBf):Shape:={ α:=KOM,dflt:=default,T:=λy=>⟨[(2,.int x.f),(6,.bptr 1000 0),(8,.bptr 2032 0),(10,.bptr 7016 0),(11,.bool y.m),(36,.int (x.a.b.length+1)),(37,.int y.k)],bkH (wK x.a y.k) 2032 2033 ++ [(1000,.live (.box [.int 0,.int 0])),(7016,.live (.box [.int y.o.lo,.int y.o.hi]))]⟩,inv:=λy=>y.k<=x.a.b.length+1/\stgM x=stgS x (x.a.b.length+1-y.k) y.k y.o y.m,meas:=λy=>x.a.b.length+1-y.k }
def C_Stages:Ctr:={ α:=GBf,xs:=xGBf,L:=λ_=>[],val:=λx=>.tup [.d (TF (stgM x).1),.int (stgM x).2],keep:=λ_=>[],pre:=λx=>[preB x.a/\True] }
def G_sg(c:Sym.Spec):List (FuncId×Sym.Spec):=[(lO,c),(n_in,s_in),(BPO,C_span.spec dBkI),(BCE,C_lns.spec dBkS),(AYK,orS ((C_up st1 WV).spec (dUpI WV)) ((C_up st2 WW).spec (dUpI WW)))]
def DKZ(x:GBf):Ann:={ ann 75 (G_sg (C_open.spec dGB)) with loops:=λid=>if id=8 then some [sg8 x] else none }
def DOF:Ann:={ ann 75 (G_sg (C_openX.spec dGB)) with cut:=λid=>if id=6 then some [] else none }
def DOR(x:GBf):Prop:=BG Try.prog (DKZ x) AFI (AL AFI) (xGBf x) (AF []) (C_Stages.val x) [] [] []
abbrev AAS:=GBf.a
abbrev ACF:=GBf.f
abbrev Tt:=stgM
abbrev BVH:=@Exists KOM
abbrev pH:=KOM.m
abbrev ZQ:=KOM.k
abbrev Tu:=KOM.o
abbrev BPX:=@Eq (Prod Span Int)
abbrev BUM:=UpI.mk
abbrev Dq a:=JF (BN a)
abbrev Mr a:=WE (AAS a)
abbrev iH a:=Dq (Mr a)
abbrev XF a:=AU (ZQ a)
abbrev CHE a b:=APF a b b
abbrev CDO a b:=Du (Ud a) b
abbrev CJ a b:=wK (AAS a) (ZQ b)
abbrev HH a b:=CDO (CJ a b) (XF b)
abbrev Jt a b c d:=CHE (CJ a b) (HH c d)
abbrev ZA a b:=QN (CJ a b)
abbrev AGT a:=ER (Mr a)
abbrev ACB a:=AI (ACF a)
abbrev Cn a b:=Pd (CJ a b)
abbrev Qm a b:=pT (CJ a b)
abbrev XP a b:=Ud (CJ a b)
abbrev MJ a:=BOB (YH a) (WE a)
abbrev iW a:=MJ (AAS a)
abbrev Wt a:=YH (AAS a)
attribute [go_sem] AAS ACF Tt BVH pH ZQ Tu BPX BUM Dq Mr iH XF CHE CDO CJ HH Jt ZA AGT ACB Cn Qm XP MJ iW Wt
theorem DRT(x:GBf):(DOR x)=(BF (FT (Ri (Wt x) (AAS x)) (AT (Wt x) (gK (AAS x))) (OD (Mr x)) (QC (Mr x)) (Fo (Wt x)) (Aw (Mr x)) (BE (YQ (Wt x) (Mr x)))) (Hn (GA 0) (RD (ACF x) 200000)) (Kc (Tt x) 0 (Wg (Tt x)) 4) (And (BVH (λi=>QB (AY (ACB x) (HM (pH i)) (AO (OP (AGT x) 1) (ED (AGT x))) (WC (BS (ZQ i)) (IN (ZA x i) (iW x)) (λj=>CR j (ZA x i) (QN (iW x))) (MO (CJ x i) (iW x)) (λj=>MP j (CJ x i) (iW x)) (AN (λj=>HM (Xt (CJ x i) j))) (MV (CJ x i) (iW x)) (Pm (AN (λj=>EX (CJ x i) j (iW x) (λk=>DW k (CJ x i) j (iW x) (CU (CH (CJ x i) j k) (CH (iW x) j k) (CF (CJ x i) j k) (CF (iW x) j k) (FB (CJ x i) j k) (iW x) j k)))) CL (Np (Tu i)) (My (Tu i))))) (ZQ i) (iH x) (BPX (Tt x) (stgS x (IS (iH x) (ZQ i)) (ZQ i) (Tu i) (pH i))))) ((λ(f:KOM->Prop)=>∀(x:KOM),f x) (λi=>FF (MW (ZQ i) (iH x) (BPX (Tt x) (stgS x (IS (iH x) (ZQ i)) (ZQ i) (Tu i) (pH i)))) (XF i) (OP (AGT x) 1) (BF (AH (AI (XF i)) (IN (Qm x i) (CJ x i)) (LQ (AT (Qm x i) (ZA x i)) (NC (Cn x i) (CJ x i)) (λj=>TI j (Cn x i) (CJ x i) j) CV (QV (CJ x i)) (OI (CJ x i)) (AN (λj=>EX (XP x i) j (CJ x i) (λk=>DW k (XP x i) j (CJ x i) (CU (CH (XP x i) j k) (CH (CJ x i) j k) (CF (XP x i) j k) (CF (CJ x i) j k) (FB (XP x i) j k) (CJ x i) j k)))) (CG (ZA x i) (Qm x i)) (LQ (AT (ZA x i) (Qm x i)) (AW (XL (CJ x i)) (Cn x i)) (λj=>Bn j (CJ x i) (BJ (Cn x i) j)) CV (QV (CJ x i)) (OI (CJ x i)) (AN (λj=>EX (CJ x i) j (XP x i) (λk=>DW k (CJ x i) j (XP x i) (CU (CH (CJ x i) j k) (CH (XP x i) j k) (CF (CJ x i) j k) (CF (XP x i) j k) (FB (CJ x i) j k) (XP x i) j k)))) (Be (PD (Qm x i) (Cn x i) DX (λj=>PG j (Cn x i) j j)) (XF i) (Fq (XF i) (Cn x i))) (EB (AI (XF i)) (HA (tD (XP x i) (XF i))) (IN (Qm x i) (CJ x i)) (AT (Qm x i) (ZA x i)) (NC (Cn x i) (CJ x i)) (λj=>TI j (Cn x i) (CJ x i) j) CV (QV (CJ x i)) (EB (OI (CJ x i)) (AN (λj=>EX (XP x i) j (CJ x i) (λk=>DW k (XP x i) j (CJ x i) (CU (CH (XP x i) j k) (CH (CJ x i) j k) (CF (XP x i) j k) (CF (CJ x i) j k) (FB (XP x i) j k) (CJ x i) j k)))) (IN (ZA x i) (HH x i)) (SX (ZA x i) (HH x i)) (MO (CJ x i) (HH x i)) (λj=>MP j (CJ x i) (HH x i)) (PD (Qm x i) (Cn x i) DX (λj=>PG j (Cn x i) j j)) (BC (EM (tD (XP x i) (XF i)))) (HN (EM (tD (XP x i) (XF i))))))))) (GA (AU (JY (L2 (XP x i) (XF i) (EM (tD (XP x i) (XF i))) (EM (tD (XP x i) (XF i))))))) (Kc (Tt x) 0 (Wg (Tt x)) 6) (Um (WC (AI (XF i)) (IN (Qm x i) (CJ x i)) (λj=>CR j (Qm x i) (ZA x i)) (NC (Cn x i) (CJ x i)) (λj=>TI j (Cn x i) (CJ x i) j) (QV (HH x i)) (OI (HH x i)) (KE (AN (λj=>EX (Jt x i x i) j (HH x i) (λk=>DW k (Jt x i x i) j (HH x i) (CU (CH (Jt x i x i) j k) (CH (HH x i) j k) (CF (Jt x i x i) j k) (CF (HH x i) j k) (FB (Jt x i x i) j k) (HH x i) j k)))) (ACB x) (AI 1) (CG (ZA x i) (Qm x i)) (λj=>CR j (ZA x i) (Qm x i)) (AW (XL (CJ x i)) (Cn x i)) (λj=>Bn j (CJ x i) (BJ (Cn x i) j)) CV (AP (QV (HH x i)) (OI (HH x i)) (AN (λj=>EX (HH x i) j (Jt x i x i) (λk=>DW k (HH x i) j (Jt x i x i) (CU (CH (HH x i) j k) (CH (Jt x i x i) j k) (CF (HH x i) j k) (CF (Jt x i x i) j k) (FB (HH x i) j k) (Jt x i x i) j k)))) (ACB x) (AI 1) (PD (Qm x i) (Cn x i) DX (λj=>PG j (Cn x i) j j)) (BC (XF i)) (Fq (XF i) (Cn x i)) (DR (Xt (HH x i) (XF i)))))) (DV (Pp (ED (tZ (BUM (Jt x i x i) (XF i) (Rt.mk (ACF x) 1)))) (mT (BUM (Jt x i x i) (XF i) (Rt.mk (ACF x) 1)))) (BVH (λj=>RN (EP (ACB x) (JB (pH j) (pH i)) (OP (AGT x) 1) (WC (AV (ZQ j) (ZQ i)) (IN (ZA x j) (CJ x i)) (λk=>CR k (ZA x j) (ZA x i)) (MO (CJ x j) (CJ x i)) (λk=>MP k (CJ x j) (CJ x i)) (AN (λk=>SS (CJ x j) k (HH x i) k)) (MV (CJ x j) (HH x i)) (Pm (AN (λk=>EX (CJ x j) k (HH x i) (λl=>DW l (CJ x j) k (HH x i) (CU (CH (CJ x j) k l) (CH (HH x i) k l) (CF (CJ x j) k l) (CF (HH x i) k l) (FB (CJ x j) k l) (HH x i) k l)))) CL (EW (Tu j) (Tu i)) (EJ (Tu j) (Tu i))))) (ZQ j) (iH x) (BPX (Tt x) (stgS x (IS (iH x) (ZQ j)) (ZQ j) (Tu j) (pH j))) (ZQ i))) (DV (not (pH i)) (BVH (λj=>RN (EP (ACB x) (DR (pH j)) (OP (AGT x) 1) (WC (AV (ZQ j) (ZQ i)) (IN (ZA x j) (CJ x i)) (λk=>CR k (ZA x j) (ZA x i)) (MO (CJ x j) (CJ x i)) (λk=>MP k (CJ x j) (CJ x i)) (AN (λk=>SS (CJ x j) k (HH x i) k)) (MV (CJ x j) (HH x i)) (Pm (AN (λk=>EX (CJ x j) k (HH x i) (λl=>DW l (CJ x j) k (HH x i) (CU (CH (CJ x j) k l) (CH (HH x i) k l) (CF (CJ x j) k l) (CF (HH x i) k l) (FB (CJ x j) k l) (HH x i) k l)))) CL (HT (Tu j) (ED (tZ (BUM (Jt x i x i) (XF i) (Rt.mk (ACF x) 1))))) (FQ (Tu j) (mT (BUM (Jt x i x i) (XF i) (Rt.mk (ACF x) 1))))))) (ZQ j) (iH x) (BPX (Tt x) (stgS x (IS (iH x) (ZQ j)) (ZQ j) (Tu j) (pH j))) (ZQ i))) (BVH (λj=>RN (EP (ACB x) (JB (pH j) (pH i)) (OP (AGT x) 1) (WC (AV (ZQ j) (ZQ i)) (IN (ZA x j) (CJ x i)) (λk=>CR k (ZA x j) (ZA x i)) (MO (CJ x j) (CJ x i)) (λk=>MP k (CJ x j) (CJ x i)) (AN (λk=>SS (CJ x j) k (HH x i) k)) (MV (CJ x j) (HH x i)) (Pm (AN (λk=>EX (CJ x j) k (HH x i) (λl=>DW l (CJ x j) k (HH x i) (CU (CH (CJ x j) k l) (CH (HH x i) k l) (CF (CJ x j) k l) (CF (HH x i) k l) (FB (CJ x j) k l) (HH x i) k l)))) CL (EW (Tu j) (Tu i)) (FQ (Tu j) (mT (BUM (Jt x i x i) (XF i) (Rt.mk (ACF x) 1))))))) (ZQ j) (iH x) (BPX (Tt x) (stgS x (IS (iH x) (ZQ j)) (ZQ j) (Tu j) (pH j))) (ZQ i))))))) (DV (not (pH i)) (Kc (Tt x) 0 (Wg (Tt x)) 5) (Kc (Tt x) (EM (Tu i)) (EJ (oX (Tt x)) (Tu i)) 0)))))):=by kernel_rfl
def DLP(x:GBf):Prop:=BG Try.prog DOF AFI (AL AFI) (xGBf x) (AF []) (C_Stages.val x) [] [] []
theorem DSB(x:GBf):(DLP x)=(BF (FT (Ri (Wt x) (AAS x)) (AT (Wt x) (gK (AAS x))) (OD (Mr x)) (QC (Mr x)) (Fo (Wt x)) (Aw (Mr x)) (VD (YQ (Wt x) (Mr x)))) (Hn (GA (YQ (Wt x) (Mr x))) (RD (ACF x) 200000)) (And (Kc (Tt x) 0 (Wg (Tt x)) 4) FI) (And (DV (PK (YQ (Wt x) (Mr x))) (Kc (Tt x) 0 (Wg (Tt x)) (YQ (Wt x) (Mr x))) PS) FI)):=by kernel_rfl
theorem CIW{pr:Int->Bool}:∀(n:Nat) (lo hi:Int),lo<=hi->lo<=upL pr n lo hi/\upL pr n lo hi<=hi
 |0,lo,hi,h=>⟨Int.le_refl _,h⟩
 |n+1,lo,hi,h=>by
  unfold upL
  by_cases hl:lo<hi
  ·obtain⟨h3,h4⟩:=AXH hl
   rw[decide_eq_true hl]
   cases pr (lo+(hi-lo+1).tdiv 2)
   ·have:=CIW (pr:=pr) n lo (lo+(hi-lo+1).tdiv 2-1) (by omega);exact⟨this.1,by have:=this.2;show upL _ _ _ _<=_;omega⟩
   ·have:=CIW (pr:=pr) n (lo+(hi-lo+1).tdiv 2) hi h4;exact⟨by have:=this.1;show _<=upL _ _ _ _;omega,this.2⟩
  ·rw[decide_eq_false hl];exact⟨Int.le_refl _,h⟩
theorem CVG{v:BnF->Bool}{a:UpI}(h:Ic a.w.g a.w.b)(h1:0<=a.k)(h2:a.k<=a.w.b.length):(FH a.w a.k).lo-1<=upM v a/\upM v a<=(FH a.w a.k).hi /\ -1<=upM v a/\upM v a<=2000:=by
 obtain⟨s1,s2,s3,_⟩:=I8 h h1 h2
 obtain⟨i1,i2⟩:=CIW (pr:=upP v a) 3000 ((FH a.w a.k).lo-1) (FH a.w a.k).hi (by omega)
 unfold upM;omega
theorem DWY(x:GBf)(h:preB x.a)(hE:HS x.a=0):DOR x:=by
 rw[DRT]<;> delta JB hd5 Oz EM FL NE AR AK BO CI AO AU UH EA DV JD DJ DX OP IS Cu QJ Pp SG QP AN BN BJ JN oX jH EY GW FC GF GD HB CW FX Jb JY NK Dc QN XL Xt Ma tD gK WE Po AAS ACF Tt BVH pH ZQ Tu BPX BUM AH LY NX LX NY AJ AZ EV AI DG BU FJ RH Um Pm sM sI CJ DK AOR YH AP Wm DI tP BOB DY HA BZ ED BC DZ EZ Pd pT APF Ud CHE DN GQ JA JF FQ HE ER HT EJ EW ID HC AW Ca HY GT YB GY FB Il HL AY CG CF CDO Bt GV IA Dq CH CK JZ KC Yf FK BD DR HN MJ FG OB EN GH MW XF EC AV AS CV BF FU FM FF GM OI QV BE Hq JO CU Cw NC HH CR Cy HJ NT Wr Mr AT Oc CL BS EP HR EX QE DW XK HP EB IN Bn UE L2 WC GA RD MO Ka FT XP HM MP Cn ZA Mw PG OD MV KE Qm dG LQ SS TI SX YQ iH Jt QB QC My Fe PD RN Wt Fq Aw iW Be Fo Hn Wg Np Ri mT Kc AGT tZ ACB;simp only[CC,eq_self,implies_true,forall_const,Wy,eE,AOW,AOJ,eD,if_true]
 have hb:Ic x.a.g x.a.b:=BMR hE
 have hl24:x.a.b.length<=24:=hb.2.2.1
 have e0:HS x.a==0:=by rw[hE];rfl
 refine⟨⟨h.1,h.2,hE⟩,λhf=>?_,λhf=>⟨⟨⟨0,default,false⟩,⟨rfl,(JC (by omega) (by omega)).symm,rfl,rfl,λ_ _=>⟨rfl,rfl,rfl⟩,rfl,λ_ _=>rfl,λ_=>rfl,λ_=>rfl,λ_=>⟨rfl,λ_ _=>⟨rfl,rfl,rfl,rfl⟩⟩,rfl,rfl⟩,Nat.zero_le _,?_⟩,λy ⟨hy1,hy2⟩=>⟨λhlt=>?_,λhge=>?_⟩⟩⟩
 ·have e:stgM x=(default,4):=by
   have hf:(!inF x)=true:=hf
   unfold stgM;rw[e0,show inF x=false by simpa using hf];rfl
  rw[e];exact⟨rfl,rfl,rfl⟩
 ·have hf:(!inF x)=false:=hf
  show stgM x=_
  unfold stgM;rw[e0,show inF x=true by simpa using hf];rfl
 ·have hlt:y.k<=x.a.b.length:=by omega
  have hs:=I8 (w:=wK x.a y.k) (k:=y.k) hb (by omega) (by show (y.k:Int)<=(x.a.b.length:Nat);omega)
  have hkk:(0:Int)<=(y.k:Int)/\(y.k:Int)<=((wK x.a y.k).b.length:Nat):=⟨by omega,by show (y.k:Int)<=(x.a.b.length:Nat);omega⟩
  have hup:(Du (wK x.a y.k) y.k).has y.k=true:=by show YF _ _ _=true;simp[YF]
  obtain⟨n,hn⟩:∃n,x.a.b.length+1-y.k=n+1:=⟨x.a.b.length-y.k,by omega⟩
  have hn2:x.a.b.length+1-(y.k+1)=n:=by omega
  have hn3:x.a.b.length+1-(y.k+1)<x.a.b.length+1-y.k:=by omega
  have key:=hy2
  rw[hn] at key;unfold stgS at key
  have u1:=CVG (v:=st1) (a:=⟨Du (wK x.a y.k) y.k,y.k,⟨x.f,1⟩⟩) hb hkk.1 hkk.2
  have e1:IntKind.i64.wrap (upM st1 ⟨Du (wK x.a y.k) y.k,y.k,⟨x.f,1⟩⟩+1)=stF x y.k:=JC (by omega) (by omega)
  have e2:upM st2 ⟨Du (wK x.a y.k) y.k,y.k,⟨x.f,1⟩⟩=stL x y.k:=rfl
  rw[e1,e2]
  have ek:((y.k+1:Nat):Int)=IntKind.i64.wrap ((y.k:Int)+1):=by rw[JC (by omega) (by omega)];rfl
  refine⟨⟨⟨hb,hkk⟩,hb,hs.1,by omega⟩,λhc=>?_,λhc=>⟨⟨hb,hkk.1,hkk.2,hup⟩,⟨hb,hkk.1,hkk.2,hup⟩,λhg=>?_,λhg=>⟨λhm=>?_,λhm=>?_⟩⟩⟩
  ·have hc:((lnK x.a y.k).length:Int)==0:=hc
   rw[decide_eq_true (show (lnK x.a y.k).length=0 by have:=eq_of_beq hc;omega)] at key
   rw[key];exact⟨rfl,rfl,rfl⟩
  all_goals
   have hc:(((lnK x.a y.k).length:Int)==0)=false:=hc
   rw[decide_eq_false (show ¬(lnK x.a y.k).length=0 by intro h0;rw[h0] at hc;cases hc)] at key
  ·rw[decide_eq_true (show stL x y.k<stF x y.k from hg)] at key
   exact⟨⟨y.k+1,y.o,y.m⟩,⟨rfl,ek,rfl,λ_ _=>⟨rfl,rfl,rfl⟩,rfl,λ_ _=>rfl,λ_=>rfl,λ_=>rfl,λ_=>⟨rfl,λ_ _=>⟨rfl,rfl,rfl,rfl⟩⟩,rfl,rfl⟩,⟨by show y.k+1<=_;omega,by show stgM x=stgS x (x.a.b.length+1-(y.k+1)) _ _ _;rw[hn2];exact key⟩,hn3⟩
  ·rw[decide_eq_false (show ¬stL x y.k<stF x y.k from hg),hm] at key
   exact⟨⟨y.k+1,⟨stF x y.k,stL x y.k⟩,true⟩,⟨rfl,ek,rfl,λ_ _=>⟨rfl,rfl,rfl⟩,rfl,λ_ _=>rfl,λ_=>rfl,λ_=>rfl,λ_=>⟨rfl,λ_ _=>⟨rfl,rfl,rfl,rfl⟩⟩,rfl,rfl⟩,⟨by show y.k+1<=_;omega,by show stgM x=stgS x (x.a.b.length+1-(y.k+1)) _ _ _;rw[hn2];exact key⟩,hn3⟩
  ·rw[decide_eq_false (show ¬stL x y.k<stF x y.k from hg),hm] at key
   exact⟨⟨y.k+1,⟨y.o.lo,stL x y.k⟩,true⟩,⟨hm.symm,ek,rfl,λ_ _=>⟨rfl,rfl,rfl⟩,rfl,λ_ _=>rfl,λ_=>rfl,λ_=>rfl,λ_=>⟨rfl,λ_ _=>⟨rfl,rfl,rfl,rfl⟩⟩,rfl,rfl⟩,⟨by show y.k+1<=_;omega,by show stgM x=stgS x (x.a.b.length+1-(y.k+1)) _ _ _;rw[hn2];exact key⟩,hn3⟩
 ·have hk:x.a.b.length+1-y.k=0:=by omega
  rw[hk] at hy2;unfold stgS at hy2
  refine⟨λhm=>?_,λhm=>?_⟩<;>rw[hm] at hy2<;>rw[hy2]<;>exact⟨rfl,rfl,rfl⟩
theorem DWA(x:GBf)(h:preB x.a)(hE:HS x.a≠0):DLP x:=by
 rw[DSB]<;> delta hd5 Oz EM FL AR AK BO CI AO DV FI Cu Gi PS BN BJ JN oX jH EY GW CW FX gK WE AAS ACF Tt AH LY NX LX NY AJ AZ DG BU AOR YH DI DY DZ EZ DN GQ JA FQ ID HC AW HY HL CG IA KC BD FG EN GH AS BF GM CR HJ Mr AT HP GA RD FT PK OD dG YQ QC My Wt Aw VD Fo Hn Wg Ri Kc;simp only[CC,eq_self,implies_true,forall_const,Wy,eE,AOW,AOJ,eD,if_true]
 have hE:HS ⟨x.a.g,x.a.b⟩≠0:=hE
 have e0:(HS ⟨x.a.g,x.a.b⟩==0)=false:=by simpa using hE
 rw[e0]
 refine⟨⟨h.1,h.2,hE⟩,λhc=>(by cases hc),λ_=>⟨λ_=>?_,λhc=>?_⟩⟩
 ·have e:stgM x=(default,HS x.a):=by unfold stgM;rw[show (HS x.a==0)=false from e0];rfl
  rw[e];exact⟨rfl,rfl,rfl⟩
 ·exact hE (by simpa using hc)
theorem CTF:AM Try.prog BON (C_Stages.spec dGBf):=Ctr.spec_ok (C:=C_Stages) (λ(x:GBf) h=>by
 have h:preB x.a:=(show preB x.a/\True from h).1
 by_cases hE:HS x.a=0
 ·exact Mj (A:=DKZ x) (L:=[]) (keep:=[]) (ren:=[]) (fz:=[]) BUX (by kernel_rfl) (AB BNK (AB X3 (AB AMJ (AB BFL (AB (BEQ DEU DCI) AG))))) (DWY x h hE)
 ·exact Mj (A:=DOF) (L:=[]) (keep:=[]) (ren:=[]) (fz:=[]) BUX (by kernel_rfl) (AB BSM (AB X3 (AB AMJ (AB BFL (AB (BEQ DEU DCI) AG))))) (DWA x h hE)) _
end Go.Bal
