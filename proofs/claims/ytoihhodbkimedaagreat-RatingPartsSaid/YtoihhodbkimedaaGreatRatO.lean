/- Package rating: Stages, Dry. -/
import Derived.Test.YtoihhodbkimedaaGreatRatM
set_option linter.unusedVariables false
set_option linter.unusedSimpArgs false
namespace Go.Bal
open Go Go.Sym Go.Proofs
structure GBf where
 a:GB
 f:Int
def dGBf:List AVal->Heap->Option (GBf×List (Nat×Nat)×List Nat)
 |[x,y,.d t],H=>match aE x H,tT y H with
  |some (l,f),some (m,e)=>some (⟨⟨l,m⟩,KT t⟩,[],f ++ e)
  |_,_=>none
 |_,_=>none
def xGBf(x:GBf):List AVal:=[.d (BX x.a.g),.d (CZ x.a.b),.int x.f]
def hsK:Nat->(Int->Bool)×(Int->Int)
 |0=>(λ_=>false,λ_=>0)
 |k+1=>(ZS (hsK k).1 k,yE (hsK k).1 (hsK k).2 k)
def wK(a:GB)(k:Nat):Bk:=⟨a.g,a.b,(hsK k).1,(hsK k).2⟩
def stF(x:GBf)(k:Nat):Int:=upM yS ⟨PB x.a,k,⟨x.f,1⟩⟩+1
def stL(x:GBf)(k:Nat):Int:=upM st2 ⟨PB x.a,k,⟨x.f,1⟩⟩
def lnK(a:GB)(k:Nat):List Ln:=VP (Ja (PB a) k) (EN (PB a) k).lo
def stgS(x:GBf):Nat->Nat->Span->Bool->Span×Int
 |0,_,o,m=>bif m then (o,0) else (default,5)
 |n+1,k,o,m=>bif decide ((lnK x.a k).length=0) then (default,6) else bif decide (stL x k<stF x k) then stgS x n (k+1) o m else stgS x n (k+1) ⟨bif m then o.lo else stF x k,stL x k⟩ true
def preB(a:GB):Prop:=a.g.length<4611686018427387904/\a.b.length<4611686018427387904
def inF(x:GBf):Bool:=QY x.f 0 200000
def jO(x:GBf):Span×Int:=bif EG x.a==0 then (bif inF x then stgS x (x.a.b.length+1) 0 default false else (default,4)) else (default,EG x.a)
structure KOM where
 k:Nat
 o:Span
 m:Bool
 deriving Inhabited
def bkH(w:Bk)(p q:Nat):List (Nat×HCell):=[(p,.live (bkB w q)),(q,.live (bkM w))]
def sg8(x:GBf):Shape:={ α:=KOM,dflt:=default,T:=λy=>⟨[(2,.int x.f),(6,.bptr 1000 0),(8,.bptr 2032 0),(10,.bptr 7016 0),(11,.bool y.m),(36,.int (x.a.b.length+1)),(37,.int y.k)],bkH (wK x.a y.k) 2032 2033 ++ [(1000,.live (.box [.int 0,.int 0])),(7016,.live (.box [.int y.o.lo,.int y.o.hi]))]⟩,inv:=λy=>y.k<=x.a.b.length+1/\jO x=stgS x (x.a.b.length+1-y.k) y.k y.o y.m,meas:=λy=>x.a.b.length+1-y.k }
def C_Stages:Ctr:={ α:=GBf,xs:=xGBf,L:=λ_=>[],val:=λx=>.tup [.d (AUE (jO x).1),.int (jO x).2],keep:=λ_=>[],pre:=λx=>[preB x.a/\True] }
def G_sg(c:Sym.Spec):List (FuncId×Sym.Spec):=[(Sz,c),(n_in,s_in),(ARL,C_span.spec dBkI),(ABH,C_lns.spec dBkS),(A5,orS ((C_up yS SO).spec (dUpI SO)) ((C_up st2 SP).spec (dUpI SP)))]
def CKS(x:GBf):Ann:={ ann 75 (G_sg (C_open.spec dGB)) with loops:=λid=>if id=8 then some [sg8 x] else none }
def CJY:Ann:={ ann 75 (G_sg (C_openX.spec dGB)) with cut:=λid=>if id=6 then some [] else none }
def CJJ(x:GBf):Prop:=BQ Try.prog (CKS x) tL (AI tL) (xGBf x) (AD []) (C_Stages.val x) [] [] []
abbrev TK:=GBf.a
abbrev Vw:=GBf.f
abbrev AKF:=@Prod.fst Span Int
abbrev AAI:=@Prod.snd Span Int
abbrev AVB:=@Exists KOM
abbrev Wy:=KOM.m
abbrev SH:=KOM.k
abbrev ACS:=KOM.o
abbrev AOB:=@Eq (Prod Span Int)
abbrev APM:=UpI.mk
abbrev lQ a:=AAI (jO a)
abbrev qZ a:=Vv (ACS a)
abbrev pW a:=Vv (AKF (jO a))
abbrev oM a:=Vl (ACS a)
abbrev lA a:=Vl (AKF (jO a))
abbrev Yd a b:=AG a a b
abbrev Ht a:=EO (CG a)
abbrev YW a:=Ht (Jl a)
abbrev Ik a:=YW (TK a)
abbrev rL a b c d:=AF a b b c d
abbrev Kg a:=Rt.mk a 1
abbrev Er a:=AQ (SH a)
abbrev BBX a b:=ACB a b b
abbrev BBK a b:=XU (gZ a) b
abbrev BF a b:=wK (TK a) (SH b)
abbrev GN a b:=BBK (BF a b) (Er b)
abbrev Dj a b c d:=BBX (BF a b) (GN c d)
abbrev tJ a:=EK (Jl a)
abbrev Xh a:=LX (tJ a) 1
abbrev Ck a b:=XT (BF a b)
abbrev Ih a b:=Hd (BF a b)
abbrev UQ a b:=gZ (BF a b)
abbrev IG a:=AJZ (TJ a) (TE a)
abbrev Tn a:=IG (TK a)
abbrev TD a:=WU (TJ a) (TE a)
attribute [go_sem] TK Vw AKF AAI AVB Wy SH ACS AOB APM lQ qZ pW oM lA Yd Ht YW Ik rL Kg Er BBX BBK BF GN Dj tJ Xh Ck Ih UQ IG Tn TD
theorem CPF(x:GBf):(CJJ x)=(UN (IQ (TJ (TK x)) (WE (TK x)) (UG (TK x)) (NY (UA (TK x)) (UB (TK x)) (Dl (TK x)) (TE (TK x)) (CP (TD (TK x))))) (FU (Ya 0) (WR (Vw x) 200000)) (CR (lA x) 0 (pW x) 0 (lQ x) 4) (And (AVB (λi=>EI (AM (Vw x)) (LC (Wy i)) (AO (Xh (TK x)) (DU (tJ (TK x)))) (QW (BD (SH i)) (PD (BF x i) (Tn x)) (PE (BF x i) (Tn x)) (OM (BF x i) (Tn x)) (PC (BF x i) (Tn x)) (BG (λj=>LC (Jp (BF x i) j))) (JK (BF x i) (Tn x)) (rL (BG (λj=>CJ (BF x i) j (Tn x) (λk=>CK k (BF x i) j (Tn x) (EJ (BO (BF x i) j k) (BO (Tn x) j k) (BI (BF x i) j k) (BI (Tn x) j k) (DW (BF x i) j k) (Tn x) j k)))) BY (CP (oM i)) (CP (qZ i)))) (BU (SH i) (Ik x)) (AOB (jO x) (stgS x (EF (Ik x) (SH i)) (SH i) (ACS i) (Wy i))))) ((λ(f:KOM->Prop)=>∀(x:KOM),f x) (λi=>FH (VH (SH i) (Ik x) (AOB (jO x) (stgS x (EF (Ik x) (SH i)) (SH i) (ACS i) (Wy i)))) (SH i) (Xh (TK x)) (GQ (Er i) (NM (Ih x i) (BF x i)) (AX (NH (Ih x i) (BF x i)) (SB (Ck x i) (BF x i)) (SE (Ck x i) (BF x i)) EQ (WA (BF x i)) (OP (BF x i)) (BG (λj=>CJ (UQ x i) j (BF x i) (λk=>CK k (UQ x i) j (BF x i) (EJ (BO (UQ x i) j k) (BO (BF x i) j k) (BI (UQ x i) j k) (BI (BF x i) j k) (DW (UQ x i) j k) (BF x i) j k)))) (AW (PA (BF x i)) (Ih x i)) (AX (ER (PA (BF x i)) (Ih x i)) (AY (PK (BF x i)) (Ck x i)) (BM (PK (BF x i)) (Ck x i)) EQ (WA (BF x i)) (OP (BF x i)) (BG (λj=>CJ (BF x i) j (UQ x i) (λk=>CK k (BF x i) j (UQ x i) (EJ (BO (BF x i) j k) (BO (UQ x i) j k) (BI (BF x i) j k) (BI (UQ x i) j k) (DW (BF x i) j k) (UQ x i) j k)))) (AG (LA (Ih x i) (Ck x i) ES) (BC (Er i)) (VT (Er i) (Ck x i))) (AX (BE (SH i)) (AM (WQ (UQ x i) (Er i))) (NM (Ih x i) (BF x i)) (NH (Ih x i) (BF x i)) (SB (Ck x i) (BF x i)) (SE (Ck x i) (BF x i)) EQ (WA (BF x i)) (JR (OP (BF x i)) (BG (λj=>CJ (UQ x i) j (BF x i) (λk=>CK k (UQ x i) j (BF x i) (EJ (BO (UQ x i) j k) (BO (BF x i) j k) (BI (UQ x i) j k) (BI (BF x i) j k) (DW (UQ x i) j k) (BF x i) j k)))) (PD (BF x i) (GN x i)) (PE (BF x i) (GN x i)) (OM (BF x i) (GN x i)) (PC (BF x i) (GN x i)) (LA (Ih x i) (Ck x i) ES) (WQ (UQ x i) (Er i)) (GU (WQ (UQ x i) (Er i)))))))) (CS (VU (AQ (ID (S4 (UQ x i) (Er i) (WQ (UQ x i) (Er i)))))) (CR (lA x) 0 (pW x) 0 (lQ x) 6) (Yd (QW (BE (SH i)) (NM (Ih x i) (BF x i)) (NH (Ih x i) (BF x i)) (SB (Ck x i) (BF x i)) (SE (Ck x i) (BF x i)) (WA (GN x i)) (OP (GN x i)) (AX (BG (λj=>CJ (Dj x i x i) j (GN x i) (λk=>CK k (Dj x i x i) j (GN x i) (EJ (BO (Dj x i x i) j k) (BO (GN x i) j k) (BI (Dj x i x i) j k) (BI (GN x i) j k) (DW (Dj x i x i) j k) (GN x i) j k)))) (AM (Vw x)) (AM 1) (AW (PA (BF x i)) (Ih x i)) (ER (PA (BF x i)) (Ih x i)) (AY (PK (BF x i)) (Ck x i)) (BM (PK (BF x i)) (Ck x i)) EQ (AX (WA (GN x i)) (OP (GN x i)) (BG (λj=>CJ (GN x i) j (Dj x i x i) (λk=>CK k (GN x i) j (Dj x i x i) (EJ (BO (GN x i) j k) (BO (Dj x i x i) j k) (BI (GN x i) j k) (BI (Dj x i x i) j k) (DW (GN x i) j k) (Dj x i x i) j k)))) (AM (Vw x)) (AM 1) (LA (Ih x i) (Ck x i) ES) (BC (Er i)) (VT (Er i) (Ck x i)) (EL (Jp (GN x i) (Er i)))))) (CS (KO (DU (fB (APM (Dj x i x i) (Er i) (Kg (Vw x))))) (Yx (APM (Dj x i x i) (Er i) (Kg (Vw x))))) (AVB (λj=>EV (Cl (Vw x) (JT (Wy j) (Wy i)) (AM (Xh (TK x))) (QW (EA (SH j) (Er i)) (PD (BF x j) (BF x i)) (PE (BF x j) (BF x i)) (OM (BF x j) (BF x i)) (PC (BF x j) (BF x i)) (BG (λk=>OQ (BF x j) k (GN x i) k)) (JK (BF x j) (GN x i)) (rL (BG (λk=>CJ (BF x j) k (GN x i) (λl=>CK l (BF x j) k (GN x i) (EJ (BO (BF x j) k l) (BO (GN x i) k l) (BI (BF x j) k l) (BI (GN x i) k l) (DW (BF x j) k l) (GN x i) k l)))) BY (AO (oM j) (oM i)) (AO (qZ j) (qZ i))))) (VH (SH j) (Ik x) (AOB (jO x) (stgS x (EF (Ik x) (SH j)) (SH j) (ACS j) (Wy j)))) (Ik x) (SH j) (SH i))) (CS (not (Wy i)) (AVB (λj=>EV (Cl (Vw x) (EL (Wy j)) (AM (Xh (TK x))) (QW (EA (SH j) (Er i)) (PD (BF x j) (BF x i)) (PE (BF x j) (BF x i)) (OM (BF x j) (BF x i)) (PC (BF x j) (BF x i)) (BG (λk=>OQ (BF x j) k (GN x i) k)) (JK (BF x j) (GN x i)) (rL (BG (λk=>CJ (BF x j) k (GN x i) (λl=>CK l (BF x j) k (GN x i) (EJ (BO (BF x j) k l) (BO (GN x i) k l) (BI (BF x j) k l) (BI (GN x i) k l) (DW (BF x j) k l) (GN x i) k l)))) BY (AO (oM j) (DU (fB (APM (Dj x i x i) (Er i) (Kg (Vw x)))))) (AO (qZ j) (Yx (APM (Dj x i x i) (Er i) (Kg (Vw x)))))))) (VH (SH j) (Ik x) (AOB (jO x) (stgS x (EF (Ik x) (SH j)) (SH j) (ACS j) (Wy j)))) (Ik x) (SH j) (SH i))) (AVB (λj=>EV (Cl (Vw x) (JT (Wy j) (Wy i)) (AM (Xh (TK x))) (QW (EA (SH j) (Er i)) (PD (BF x j) (BF x i)) (PE (BF x j) (BF x i)) (OM (BF x j) (BF x i)) (PC (BF x j) (BF x i)) (BG (λk=>OQ (BF x j) k (GN x i) k)) (JK (BF x j) (GN x i)) (rL (BG (λk=>CJ (BF x j) k (GN x i) (λl=>CK l (BF x j) k (GN x i) (EJ (BO (BF x j) k l) (BO (GN x i) k l) (BI (BF x j) k l) (BI (GN x i) k l) (DW (BF x j) k l) (GN x i) k l)))) BY (AO (oM j) (oM i)) (AO (qZ j) (Yx (APM (Dj x i x i) (Er i) (Kg (Vw x)))))))) (VH (SH j) (Ik x) (AOB (jO x) (stgS x (EF (Ik x) (SH j)) (SH j) (ACS j) (Wy j)))) (Ik x) (SH j) (SH i))))))) (CS (not (Wy i)) (CR (lA x) 0 (pW x) 0 (lQ x) 5) (CR (lA x) (oM i) (pW x) (qZ i) (lQ x) 0)))))):=by kernel_rfl
def CMA(x:GBf):Prop:=BQ Try.prog CJY tL (AI tL) (xGBf x) (AD []) (C_Stages.val x) [] [] []
abbrev Vc a:=And a FP
attribute [go_sem] Vc
theorem CRJ(x:GBf):(CMA x)=(And (IQ (TJ (TK x)) (WE (TK x)) (UG (TK x)) (NY (UA (TK x)) (UB (TK x)) (Dl (TK x)) (TE (TK x)) (Bg (TD (TK x))))) (CL (FU (VU (TD (TK x))) (WR (Vw x) 200000)) (CR (lA x) 0 (pW x) 0 (lQ x) 4) FP (Vc (CS (FI (TD (TK x))) (CR (lA x) 0 (pW x) 0 (lQ x) (TD (TK x))) Sv)))):=by kernel_rfl
theorem BIZ{pr:Int->Bool}:∀(n:Nat) (lo hi:Int),lo<=hi->lo<=upL pr n lo hi/\upL pr n lo hi<=hi
 |0,lo,hi,h=>⟨Int.le_refl _,h⟩
 |n+1,lo,hi,h=>by
  unfold upL
  by_cases hl:lo<hi
  ·obtain⟨h3,h4⟩:=O8 hl
   rw[decide_eq_true hl]
   cases pr (lo+(hi-lo+1).tdiv 2)
   ·have:=BIZ (pr:=pr) n lo (lo+(hi-lo+1).tdiv 2-1) (by omega);exact⟨this.1,by have:=this.2;show upL _ _ _ _<=_;omega⟩
   ·have:=BIZ (pr:=pr) n (lo+(hi-lo+1).tdiv 2) hi h4;exact⟨by have:=this.1;show _<=upL _ _ _ _;omega,this.2⟩
  ·rw[decide_eq_false hl];exact⟨Int.le_refl _,h⟩
theorem BWR{v:BnF->Bool}{a:UpI}(h:ZV a.w.g a.w.b)(h1:0<=a.k)(h2:a.k<=a.w.b.length):(EN a.w a.k).lo-1<=upM v a/\upM v a<=(EN a.w a.k).hi /\ -1<=upM v a/\upM v a<=2000:=by
 obtain⟨s1,s2,s3,_⟩:=mH h h1 h2
 obtain⟨i1,i2⟩:=BIZ (pr:=upP v a) 3000 ((EN a.w a.k).lo-1) (EN a.w a.k).hi (by omega)
 unfold upM;omega
theorem CTC(x:GBf)(h:preB x.a)(hE:EG x.a=0):CJJ x:=by
 rw[CPF]<;> delta JT qD XL EE EC DP OV LY LW MN GD JG CS AO KO AR CG AK BV BZ CM AQ BU DD ES LX EF NK UM OL CI EZ LZ VY Lj ID RG LM PA PK Bq BG Jp Dd Vl Vv WE Jl GP SZ Ms TK Vw AKF AAI AVB Wy SH ACS AOB APM AG GT JO GV IE DG AF AT AH FF AJZ CA Eo CF BH AM CT GQ JM Bu Ya Yd rL aD Xf TJ BF TE AP BR cX AS AW DF DX EO DU sP CR AX BC GA CQ IC AN Ha XT IG Hd ACB gZ BBX EP GI BE AY DW BW EL GC BI FZ BBK UU HG BO CL EK PF GU EA Ng CP FU RH EM GH IH FE BM EW FM FK FD Er EQ LN MI WA LL FL Mr Gw EJ SE EV NT OP ER SB JS SD BY NH NQ BD LC FH GN CJ HZ CK NM OE Ht WQ YW QW ME A3 S4 Bz EI WR WU Dv LP Ck IQ UQ RO JK PD OM PE PC Ih OQ UE JR Ik Dj TD VH Md Ll VT Kn LA tJ Tn NY UN Kg UB UA UG VU Dl oM Yx Xh Cl lQ pW qZ lA fB;simp only[CC,eq_self,implies_true,forall_const,Fa,Sh,yL,yM,Si,if_true]
 have hb:ZV x.a.g x.a.b:=xY hE
 have hl24:x.a.b.length<=24:=hb.2.2.1
 have e0:EG x.a==0:=by rw[hE];rfl
 refine⟨⟨h.1,h.2,hE⟩,λhf=>?_,λhf=>⟨⟨⟨0,default,false⟩,⟨rfl,(JH (by omega) (by omega)).symm,rfl,rfl,λ_ _=>⟨rfl,rfl,rfl⟩,rfl,λ_ _=>rfl,λ_=>rfl,λ_=>rfl,λ_=>⟨rfl,λ_ _=>⟨rfl,rfl,rfl,rfl⟩⟩,rfl,rfl⟩,Nat.zero_le _,?_⟩,λy ⟨hy1,hy2⟩=>⟨λhlt=>?_,λhge=>?_⟩⟩⟩
 ·have e:jO x=(default,4):=by
   have hf:(!inF x)=true:=hf
   unfold jO;rw[e0,show inF x=false by simpa using hf];rfl
  rw[e];exact⟨rfl,rfl,rfl⟩
 ·have hf:(!inF x)=false:=hf
  show jO x=_
  unfold jO;rw[e0,show inF x=true by simpa using hf];rfl
 ·have hlt:y.k<=x.a.b.length:=by omega
  have hs:=mH (w:=wK x.a y.k) (k:=y.k) hb (by omega) (by show (y.k:Int)<=(x.a.b.length:Nat);omega)
  have hkk:(0:Int)<=(y.k:Int)/\(y.k:Int)<=((wK x.a y.k).b.length:Nat):=⟨by omega,by show (y.k:Int)<=(x.a.b.length:Nat);omega⟩
  have hup:(XU (wK x.a y.k) y.k).has y.k=true:=by show ZS _ _ _=true;simp[ZS]
  obtain⟨n,hn⟩:∃n,x.a.b.length+1-y.k=n+1:=⟨x.a.b.length-y.k,by omega⟩
  have hn2:x.a.b.length+1-(y.k+1)=n:=by omega
  have hn3:x.a.b.length+1-(y.k+1)<x.a.b.length+1-y.k:=by omega
  have key:=hy2
  rw[hn] at key;unfold stgS at key
  have u1:=BWR (v:=yS) (a:=⟨XU (wK x.a y.k) y.k,y.k,⟨x.f,1⟩⟩) hb hkk.1 hkk.2
  have e1:IntKind.i64.wrap (upM yS ⟨XU (wK x.a y.k) y.k,y.k,⟨x.f,1⟩⟩+1)=stF x y.k:=JH (by omega) (by omega)
  have e2:upM st2 ⟨XU (wK x.a y.k) y.k,y.k,⟨x.f,1⟩⟩=stL x y.k:=rfl
  rw[e1,e2]
  have ek:((y.k+1:Nat):Int)=IntKind.i64.wrap ((y.k:Int)+1):=by rw[JH (by omega) (by omega)];rfl
  refine⟨⟨⟨hb,hkk⟩,hb,hs.1,by omega⟩,λhc=>?_,λhc=>⟨⟨hb,hkk.1,hkk.2,hup⟩,⟨hb,hkk.1,hkk.2,hup⟩,λhg=>?_,λhg=>⟨λhm=>?_,λhm=>?_⟩⟩⟩
  ·have hc:((lnK x.a y.k).length:Int)==0:=hc
   rw[decide_eq_true (show (lnK x.a y.k).length=0 by have:=eq_of_beq hc;omega)] at key
   rw[key];exact⟨rfl,rfl,rfl⟩
  all_goals
   have hc:(((lnK x.a y.k).length:Int)==0)=false:=hc
   rw[decide_eq_false (show ¬(lnK x.a y.k).length=0 by intro h0;rw[h0] at hc;cases hc)] at key
  ·rw[decide_eq_true (show stL x y.k<stF x y.k from hg)] at key
   exact⟨⟨y.k+1,y.o,y.m⟩,⟨rfl,ek,rfl,λ_ _=>⟨rfl,rfl,rfl⟩,rfl,λ_ _=>rfl,λ_=>rfl,λ_=>rfl,λ_=>⟨rfl,λ_ _=>⟨rfl,rfl,rfl,rfl⟩⟩,rfl,rfl⟩,⟨by show y.k+1<=_;omega,by show jO x=stgS x (x.a.b.length+1-(y.k+1)) _ _ _;rw[hn2];exact key⟩,hn3⟩
  ·rw[decide_eq_false (show ¬stL x y.k<stF x y.k from hg),hm] at key
   exact⟨⟨y.k+1,⟨stF x y.k,stL x y.k⟩,true⟩,⟨rfl,ek,rfl,λ_ _=>⟨rfl,rfl,rfl⟩,rfl,λ_ _=>rfl,λ_=>rfl,λ_=>rfl,λ_=>⟨rfl,λ_ _=>⟨rfl,rfl,rfl,rfl⟩⟩,rfl,rfl⟩,⟨by show y.k+1<=_;omega,by show jO x=stgS x (x.a.b.length+1-(y.k+1)) _ _ _;rw[hn2];exact key⟩,hn3⟩
  ·rw[decide_eq_false (show ¬stL x y.k<stF x y.k from hg),hm] at key
   exact⟨⟨y.k+1,⟨y.o.lo,stL x y.k⟩,true⟩,⟨hm.symm,ek,rfl,λ_ _=>⟨rfl,rfl,rfl⟩,rfl,λ_ _=>rfl,λ_=>rfl,λ_=>rfl,λ_=>⟨rfl,λ_ _=>⟨rfl,rfl,rfl,rfl⟩⟩,rfl,rfl⟩,⟨by show y.k+1<=_;omega,by show jO x=stgS x (x.a.b.length+1-(y.k+1)) _ _ _;rw[hn2];exact key⟩,hn3⟩
 ·have hk:x.a.b.length+1-y.k=0:=by omega
  rw[hk] at hy2;unfold stgS at hy2
  refine⟨λhm=>?_,λhm=>?_⟩<;>rw[hm] at hy2<;>rw[hy2]<;>exact⟨rfl,rfl,rfl⟩
theorem CTS(x:GBf)(h:preB x.a)(hE:EG x.a≠0):CMA x:=by
 rw[CRJ]<;> delta qD XL EE EC DP WI CS AO AR CG AK BV BZ CM NK Sv OL CI EZ LZ FP Vl Vv WE Jl SZ TK Vw AKF AAI AG GT JO GV IE AF AT AH CA CF BH CT TJ TE AP BR AS AW DF DX CR IC EP GI AY GC HG CL FU EM GH IH FE BM EW FM FK NT ER JS OE FI WR WU LP IQ UE TD Md Ll Kn NY UB UA UG VU Vc Dl Bg lQ pW lA;simp only[CC,eq_self,implies_true,forall_const,Fa,Sh,yL,yM,Si,if_true]
 have hE:EG ⟨x.a.g,x.a.b⟩≠0:=hE
 have e0:(EG ⟨x.a.g,x.a.b⟩==0)=false:=by simpa using hE
 rw[e0]
 refine⟨⟨h.1,h.2,hE⟩,λhc=>(by cases hc),λ_=>⟨λ_=>?_,λhc=>?_⟩⟩
 ·have e:jO x=(default,EG x.a):=by unfold jO;rw[show (EG x.a==0)=false from e0];rfl
  rw[e];exact⟨rfl,rfl,rfl⟩
 ·exact hE (by simpa using hc)
theorem BQI:AJ Try.prog ASJ (C_Stages.spec dGBf):=Ctr.spec_ok (C:=C_Stages) (λ(x:GBf) h=>by
 have h:preB x.a:=(show preB x.a/\True from h).1
 by_cases hE:EG x.a=0
 ·exact Mn (A:=CKS x) (L:=[]) (keep:=[]) (ren:=[]) (fz:=[]) AUH (by kernel_rfl) (AC AAM (AC uN (AC vP (AC AIC (AC (AJF BVQ BWY) AE))))) (CTC x h hE)
 ·exact Mn (A:=CJY) (L:=[]) (keep:=[]) (ren:=[]) (fz:=[]) AUH (by kernel_rfl) (AC ADC (AC uN (AC vP (AC AIC (AC (AJF BVQ BWY) AE))))) (CTS x h hE)) _
end Go.Bal

namespace Go.Bal
open Go Go.Sym Go.Proofs
def dryM(a:GB):Span×Int:=bif EG a==0 then (bif decide ((lnK a 0).length=0) then (default,6) else (⟨upMO yB ⟨PB a,0⟩,upMO yJ ⟨PB a,0⟩⟩,0)) else (default,EG a)
def C_Dry:Ctr:={ α:=GB,xs:=xGB,L:=λ_=>[],val:=λx=>.tup [.d (AUE (dryM x).1),.int (dryM x).2],keep:=λ_=>[],pre:=λx=>[preB x/\True] }
def G_dy(c:Sym.Spec):List (FuncId×Sym.Spec):=[(Sz,c),(ABH,C_lns.spec dBkS),(A5,orS ((cH yB Rg).spec (dUpO Rg)) ((cH yJ Og).spec (dUpO Og)))]
def CLJ:Ann:=ann 31 (G_dy (C_open.spec dGB))
def CJI:Ann:={ ann 31 (G_dy (C_openX.spec dGB)) with cut:=λid=>if id=4 then some [] else none }
def CKP(x:GB):Prop:=BQ Try.prog CLJ BDP (AI BDP) (xGB x) (AD []) (C_Dry.val x) [] [] []
abbrev OO a:=BBK (IG a) 0
abbrev RQ a:=BBX (IG a) (OO a)
abbrev lT a:=AKF (dryM a)
abbrev De a:=XT (IG a)
abbrev It a:=Hd (IG a)
abbrev rT a:=gZ (IG a)
abbrev Xb a b c d:=AF a a b c d
attribute [go_sem] OO RQ lT De It rT Xb
theorem COB(x:GB):(CKP x)=(AG (IQ (TJ x) (WE x) (UG x) (NY (UA x) (UB x) (Dl x) (TE x) (CP (TD x)))) (Xb (Lk 0) (NM (It x) (IG x)) (NH (It x) (IG x)) (AF (SB (De x) (IG x)) (SE (De x) (IG x)) EQ ZM (AX (OP (IG x)) (BG (λi=>CJ (rT x) i (IG x) (λj=>CK j (rT x) i (IG x) (EJ (BO (rT x) i j) (BO (IG x) i j) (BI (rT x) i j) (BI (IG x) i j) (DW (rT x) i j) (IG x) i j)))) (PD (IG x) (OO x)) (PE (IG x) (OO x)) (OM (IG x) (OO x)) (PC (IG x) (OO x)) (LA (It x) (De x) ES) ML (BC 2000)))) (CS (VU (AQ (ID (A3 (rT x) 0 0 0)))) (CR (Vl (lT x)) 0 (Vv (lT x)) 0 (AAI (dryM x)) 6) (And (CA 0 VF (NM (It x) (IG x)) (AF (NH (It x) (IG x)) (SB (De x) (IG x)) (SE (De x) (IG x)) EQ (AX (WA (OO x)) (OP (OO x)) (BG (λi=>CJ (RQ x) i (OO x) (λj=>CK j (RQ x) i (OO x) (EJ (BO (RQ x) i j) (BO (OO x) i j) (BI (RQ x) i j) (BI (OO x) i j) (DW (RQ x) i j) (OO x) i j)))) (AW (PA (IG x)) (It x)) (ER (PA (IG x)) (It x)) (AY (PK (IG x)) (De x)) (BM (PK (IG x)) (De x)) EQ (AX (WA (OO x)) (OP (OO x)) (BG (λi=>CJ (OO x) i (RQ x) (λj=>CK j (OO x) i (RQ x) (EJ (BO (OO x) i j) (BO (RQ x) i j) (BI (OO x) i j) (BI (RQ x) i j) (DW (OO x) i j) (RQ x) i j)))) (AN (LA (It x) (De x) ES) ML (BC (EK (De x))) MC) (Lk 0) (NM (It x) (IG x)) (NH (It x) (IG x)) (SB (De x) (IG x)) (AX (SE (De x) (IG x)) EQ (WA (OO x)) (OP (OO x)) (BG (λi=>CJ (RQ x) i (OO x) (λj=>CK j (RQ x) i (OO x) (EJ (BO (RQ x) i j) (BO (OO x) i j) (BI (RQ x) i j) (BI (OO x) i j) (DW (RQ x) i j) (OO x) i j)))) (AW (PA (IG x)) (It x)) (ER (PA (IG x)) (It x)) (AY (PK (IG x)) (De x)) (JR (BM (PK (IG x)) (De x)) EQ (WA (OO x)) (OP (OO x)) (BG (λi=>CJ (OO x) i (RQ x) (λj=>CK j (OO x) i (RQ x) (EJ (BO (OO x) i j) (BO (RQ x) i j) (BI (OO x) i j) (BI (RQ x) i j) (DW (OO x) i j) (RQ x) i j)))) (LA (It x) (De x) ES) ML (EK (De x)) MC)))))) (CR (Vl (lT x)) (Vk yB (BkI.mk (RQ x) 0)) (Vv (lT x)) (Vk yJ (BkI.mk (RQ x) 0)) (AAI (dryM x)) 0)))):=by kernel_rfl
def CMU(x:GB):Prop:=BQ Try.prog CJI BDP (AI BDP) (xGB x) (AD []) (C_Dry.val x) [] [] []
theorem CQO(x:GB):(CMU x)=(AG (IQ (TJ x) (WE x) (UG x) (NY (UA x) (UB x) (Dl x) (TE x) (Bg (TD x)))) (CS (FI (TD x)) (CR (Vl (lT x)) 0 (Vv (lT x)) 0 (AAI (dryM x)) (TD x)) Sv) FP):=by kernel_rfl
theorem CRQ(x:GB)(h:preB x)(hE:EG x=0):CKP x:=by
 rw[COB]<;> delta JT XL EE EC DP OV LY LW MN JG CS AO AR CG AK BV BZ CM AQ BU DD ES NK UM OL CI EZ LZ VY Lj ID RG PA PK Bq BG Jp Dd Vl Vv WE Jl GP SZ Ms Vk AKF AAI AG GT JO GV IE AF AT AH AJZ CA Eo CF BH AM CT JM Bu Xb aD Xf TJ TE AP BR cX AS AW DF DX sP CR AX BC GA IC AN Ha XT IG Hd ACB gZ BBX EP GI AY DW GC BI FZ BBK UU HG BO EK PF GU Ng CP EM GH IH FE BM EW FM FK EQ MI WA Mr Gw OO EJ SE NT OP ER SB JS SD NH NQ CJ HZ CK NM ME A3 Bz MC WU De Dv LP ML IQ RQ RO It PD OM PE PC UE VF JR TD Md Ll Kn LA ZM NY UB UA UG VU Dl rT lT Lk;simp only[CC,eq_self,implies_true,forall_const,Fa,Sh,yL,yM,Si,if_true]
 have hb:ZV x.g x.b:=xY hE
 have e0:EG x==0:=by rw[hE];rfl
 refine⟨⟨h.1,h.2,hE⟩,⟨rfl,rfl,hb,by omega,by omega⟩,λhc=>?_,λhc=>⟨⟨rfl,⟨hb,by omega,by omega⟩,rfl,hb,by omega,by omega⟩,?_⟩⟩
 ·have hc:((lnK x 0).length:Int)==0:=hc
  have e:dryM x=(default,6):=by
   unfold dryM;rw[e0,decide_eq_true (show (lnK x 0).length=0 by have:=eq_of_beq hc;omega)];rfl
  rw[e];exact⟨rfl,rfl,rfl⟩
 ·have hc:(((lnK x 0).length:Int)==0)=false:=hc
  have e:dryM x=(⟨upMO yB ⟨PB x,0⟩,upMO yJ ⟨PB x,0⟩⟩,0):=by
   unfold dryM;rw[e0,decide_eq_false (show ¬(lnK x 0).length=0 by intro h0;rw[h0] at hc;cases hc)];rfl
  rw[e];exact⟨rfl,rfl,rfl⟩
theorem CSD(x:GB)(h:preB x)(hE:EG x≠0):CMU x:=by
 rw[CQO]<;> delta EE EC DP WI CS AO AR CG AK BV BZ CM NK Sv CI EZ LZ FP Vl Vv WE Jl SZ AKF AAI AG GT JO GV IE AF AT AH CA CF BH CT TJ TE AP BR AS AW DF DX CR IC EP GI AY GC HG EM GH IH FE BM EW FM FK NT ER JS FI WU LP IQ UE TD Md Ll Kn NY UB UA UG Dl Bg lT;simp only[CC,eq_self,implies_true,forall_const,Fa,Sh,yL,yM,Si,if_true]
 have hE:EG ⟨x.g,x.b⟩≠0:=hE
 have e0:(EG ⟨x.g,x.b⟩==0)=false:=by simpa using hE
 refine⟨⟨h.1,h.2,hE⟩,λ_=>?_,λhc=>?_⟩
 ·have e:dryM x=(default,EG x):=by unfold dryM;rw[show (EG x==0)=false from e0];rfl
  rw[e];exact⟨rfl,rfl,rfl⟩
 ·exact hE (by simpa using hc)
theorem COJ:AJ Try.prog BSR (C_Dry.spec dGB):=Ctr.spec_ok (C:=C_Dry) (λ(x:GB) h=>by
 have h:preB x:=(show preB x/\True from h).1
 by_cases hE:EG x=0
 ·exact Mn (A:=CLJ) (L:=[]) (keep:=[]) (ren:=[]) (fz:=[]) BWT (by kernel_rfl) (AC AAM (AC AIC (AC (AJF BMZ BPF) AE))) (CRQ x h hE)
 ·exact Mn (A:=CJI) (L:=[]) (keep:=[]) (ren:=[]) (fz:=[]) BWT (by kernel_rfl) (AC ADC (AC AIC (AC (AJF BMZ BPF) AE))) (CSD x h hE)) _
end Go.Bal
