/- Package chart, with the reference: Stage, First. -/
import Derived.Test.YtdbjalgfomknhaaGreatChZe
import Derived.Test.YtdbjalgfomknhaaGreatChZg
set_option linter.unusedVariables false
set_option linter.unusedSimpArgs false
namespace Go.Bal
open Go Go.Sym Go.Proofs
structure JoI where
 a:Span
 b:Bool
 s:Span
def joiM(x:JoI):Span:=bif x.b then⟨QC x.a.lo x.s.lo,HJ x.a.hi x.s.hi⟩ else x.s
def dJoI:List AVal->Option JoI
 |[.d (.agg [.v (.int .i64 p),.v (.int .i64 q)]),.d (.v (.bool b)),.d (.agg [.v (.int .i64 r),.v (.int .i64 s)])]=>some ⟨⟨p,q⟩,b,⟨r,s⟩⟩
 |_=>none
def xJoI(x:JoI):List AVal:=[.d (MV x.a),.bool x.b,.d (MV x.s)]
theorem hJoI(xs:List AVal)(a:JoI)(h:dJoI xs=some a):xs=xJoI a:=by
 unfold dJoI at h;split at h<;>cases h;rfl
def CPJ(x:JoI):Prop:=ES Try.prog (ann 21 []) AOS (AJ AOS) (xJoI x) (AD []) (.d (MV (joiM x))) [] [] []
theorem CXY(x:JoI):(CPJ x)=(EZ (not (JoI.b x)) (AZ (joiM x) (JoI.s x)) (AQ (joiM x) (JoI.s x)) (And (BD (joiM x) (iC (BH (JoI.a x)) (BH (JoI.s x)))) (BC (joiM x) (Md (BK (JoI.a x)) (BK (JoI.s x)))))):=by kernel_rfl
theorem AXE(h:Hul)(s:Span):joiM ⟨h.s,h.m,s⟩=(Na h s).s:=by
 obtain⟨⟨a,b⟩,m⟩:=h
 obtain⟨c,d⟩:=s
 have e1:QC a c=QC c a:=by unfold QC;split<;>split<;>omega
 have e2:HJ b d=HJ d b:=by unfold HJ;split<;>split<;>omega
 cases m with
 |true=>
  show Span.mk (QC a c) (HJ b d)=Span.mk (QC c a) (HJ d b)
  rw[e1,e2]
 |false=>rfl
def BSD:=pD dJoI λx=>.d (MV (joiM x))
theorem BQP:AW Try.prog zO BSD:=cC xJoI hJoI λx _=>Wk (A:=ann 21 []) (ren:=[]) (fz:=[]) BNO (by kernel_rfl) AK (by
 show CPJ x;rw[CXY]<;> delta BH BK AY FV Md iC BC AQ BD AZ EZ;simp only[CC,eq_self,implies_true,forall_const];unfold joiM
 refine⟨λh=>?_,λh=>?_⟩<;>rw[h]<;>exact⟨rfl,rfl⟩)
def zsB(x:CZI)(h:Hul):List (Nat×HCell):=[(201,.live (xO x.a.c)),(202,.live (.box [.int 0,.int 0])),(203,.live (.box [.int h.s.lo,.int h.s.hi]))]
def zsS(x:CZI)(h:Hul):List (Nat×AVal):=[(1,.d (GB x.a.z)),(2,.int x.t),(3,.bptr 201 0),(6,.bptr 202 0),(8,.d (HA (ZJ x.a))),(10,.bptr 203 0),(11,.bool h.m)]
def zs7(x:CZI):Shape:={ α:=Nat,dflt:=0,T:=λk=>⟨zsS x (yI x.a x.t k) ++ [(12,.int k)],zsB x (yI x.a x.t k)⟩,inv:=λk=>k<=x.a.c.ms.length/\DJ x.a=0,meas:=λk=>x.a.c.ms.length-k,first:=[(201,1000),(202,1016),(203,5000)] }
def zs14(x:CZI):Shape:={ α:=Nat,dflt:=0,T:=λk=>⟨zsS x (sW x.a x.t k) ++ [(13,.int k)],zsB x (sW x.a x.t k)⟩,inv:=λk=>(k<=x.a.c.ms.length-1/\DJ x.a=0)/\PN x.t (-100000000) 100000000=true,meas:=λk=>x.a.c.ms.length-k }
def zsP(x:CZI)(k:Nat):List Span:=V3 (ZJ x.a) ((k:Int)+1) (wr (x.t-1)) (wr (x.t+1))
def zs19(x:CZI)(m:Nat):Shape:={ α:=Nat,dflt:=0,T:=λk=>⟨zsS x (sW x.a x.t k) ++ [(13,.int k),(14,.own 204 2 0 x.a.c.ms.length)],zsB x (sW x.a x.t k) ++ [(204,.live (.row 2 x.a.c.ms.length λi=>MV (gD (zsP x k) i)))]⟩,inv:=λk=>(k+1<x.a.c.ms.length/\x.a.c.ms.length-k=m/\DJ x.a=0)/\PN x.t (-100000000) 100000000=true,meas:=λk=>0,first:=[(204,17032)] }
def CCO(x:CZI):Ann:={ ann 119 [(Wi,C_Times.spec B6),(vT,A8),(fE,C_zst.spec dCtI),(zO,BSD),(oO,C_zSet.spec dZL)] with mt:=λid=>id==16,loops:=λid=>if id=7 then some [zs7 x] else if id=14 then some [zs14 x] else none,cutIn:=λgs id=>if id=19 then some [zs19 x (gs.getD 0 0)] else none }
def CHC(x:CZI):Prop:=ES Try.prog (CCO x) BBP (AJ BBP) (xCZI x) (AD []) (.tup [.d (MV (Yb x).1),.int (Yb x).2]) [] [] []
abbrev L2 a:=zY (Yb a)
abbrev bN a:=sN (Yb a)
abbrev U0 a:=EA (Pm (Ma a))
abbrev Rl a:=Pf (JV a)
abbrev La a b c d e f g:=pI a b c d (AGR c e f g)
abbrev dB a:=GD (GV a)
abbrev I6 a:=wW (JV a)
abbrev I7 a:=vG (JV a)
abbrev Ve a b c:=joiM (JoI.mk a b c)
abbrev wM a:=BM (GV a)
abbrev rQ a b:=NJ a (Cy b)
abbrev AGJ a b:=BAY a b (λi=>i)
abbrev cA a b c d e f g h:=BB a b c d d e f g h
abbrev R6 a:=BG (Kb a)
attribute [go_sem] L2 bN U0 Rl La dB I6 I7 Ve wM rQ AGJ cA R6
theorem CMD(x:CZI):(CHC x)=(LQ (YY x) (ZQ x) (wM x) (BV (GV x)) (BQ (GV x)) (IA (Nk x x) (λi=>YC i (JV x) (GV x)) (BO (GV x)) (AB (λi=>AT i (GV x) (Ny x i) (Nr x i) (Oa x i) (Mp x i) (Nb x i) (Mz x i) (Nu x i))) (WA (JV x)) (AB (λi=>WL i (JV x))) (Aj (JV x)) (IL (GV x)) (Ad (JV x))) (Fb (MG (ZD (Ba x))) (SY (UO (bN x)) (WH (bN x)) (L2 x) (ZD (Ba x))) (λi=>DT (I7 x) (CS (I6 x) (Fu x) (ML (UU x) (XG (Ba x))) (XQ (UU x) (XG (Ba x))) (DZ (Tk x i)) (CQ i) (pI (YY x) (ZQ x) (GV x) (dB x) (oZ (GV x) (UO (TJ x i)) (WH (TJ x i))))) (CW i (NW x)) (Rl x)) (λi=>OO (KH i (NW x) (Rl x)) i (Kb x) (CL i (Kb x) (IT (tJ (Ma x) (VG (UU x) i)) (NJ i (Kb x)))) (WF (IB (tJ (Ma x) (VG (UU x) i)) (hd7 (Ma x) (XB (UU x) i))) (HV (YY x) (ZQ x) (wM x) (Ar (GV x) (Nk x x) (Sj x x) (λj=>AT j (GV x) (Ny x j) (Nr x j) (Oa x j) (Mp x j) (Nb x j) (Mz x j) (Nu x j)) (EF i) (rQ i (JV x)) (GZ (Cr x))) (KI (λj=>FH (I7 x) (CS (I6 x) (Fu x) (Lk x) (Ku x) (EA (Tk x j)) (BA j i) (La (YY x) (ZQ x) (GV x) (dB x) (TJ x j) (Ve (TJ x i) (Tk x i) (Ig (Cr x) i)) (AQ (TJ x j) (Ve (TJ x i) (Tk x i) (Ig (Cr x) i))))) (KH j (NW x) (Rl x)) (NW x) j i))) (λj=>FH (I7 x) (CS (I6 x) (Fu x) (Lk x) (Ku x) (MD (Tk x j) (Tk x i)) (BA j i) (La (YY x) (ZQ x) (GV x) (dB x) (TJ x j) (TJ x i) (AQ (TJ x j) (TJ x i)))) (KH j (NW x) (Rl x)) (NW x) j i)) (Fb (ZO (Ma x) (-100000000) 100000000) (SY (UO (bN x)) (WH (bN x)) (L2 x) 5) (λj=>DT (I7 x) (CS (I6 x) (Fu x) (Lk x) (Ku x) (MD (Po x j) (Tk x i)) (CQ j) (La (YY x) (ZQ x) (GV x) (dB x) (PE x j) (TJ x i) (AQ (PE x j) (TJ x i)))) (KH j (pF x) (Rl x)) (U0 x)) (λj=>ON (BL (CW j (pF x)) (Rl x) (U0 x)) (NL (FE j) (CG (Kb x))) (Fx (YM AG YF) IP (Kb x) (Jk (Kb x)) (Mn (Kb x)) (Nv (Kb x) 16)) (LF (QN j (Kb x) (NJ j (R6 x)) (HU (BG j) (R6 x))) (And (YG (FE j) (Kb x) (HZ (FE j) (R6 x)) (XZ (FE j) (R6 x))) (KI (λk=>DT (I7 x) (CS (I6 x) (Fu x) (Lk x) (Ku x) (MD (Po x k) (Po x j)) (CV k j) (lJ AG (DO (GV x) (R6 x)) (YY x) (ZQ x) (GV x) (dB x) (cA (JC (GV x)) (HG (GV x)) (HI (GV x)) BP (AZ (PE x k) (PE x j)) (AQ (PE x k) (PE x j)) (DO (GV x) (R6 x)) (AB (λl=>KL l (GV x) (dO (zsP x k) l (YD l (FE j) (Md (VG (UU x) (Ib j)) (B8 x)) (NU l (BG j) (VG (UU x) (QI (BG j))) (VG (UU x) (QI l))))) (gH (zsP x k) l (YD l (FE j) (NU (ZX (FE j)) (BG j) (iC (XB (UU x) j) (ZN (Ma x))) (XB (UU x) (QI (ZX (FE j))))) (NU l (BG j) (iC (XB (UU x) j) (ZN (Ma x))) (XB (UU x) (QI l)))))))))) (Td (KJ k) (NW x) (NW x) k j (Rl x)) (U0 x)))) (λk=>CJ (And (Td (KJ k) (NW x) (NW x) k j (Rl x)) (U0 x)) (And (Fp (YY x) (ZQ x) (GV x) (Nk x x) (IY (Sj x x) (BO (GV x)) (λl=>AT l (GV x) (Ny x l) (Nr x l) (Oa x l) (Mp x l) (Nb x l) (Mz x l) (Nu x l)) (WA (JV x)) (λl=>WL l (JV x)) (FW (IH (AGJ (NW x) (zsP x k))) (GV x)) (KC (NW x)) (AB (λl=>TO l (AGJ (NW x) (zsP x k)) (OV (AGJ (NW x) (zsP x k)) l) (zsP x k) (BG l))) (PreS (N0 (Ba x) (AGJ (NW x) (zsP x k)))))) (WF (kD (N0 (Ba x) (AGJ (NW x) (zsP x k)))) (Be (YY x) (ZQ x) (wM x) (Ar (GV x) (Nk x x) (Sj x x) (λl=>AT l (GV x) (Ny x l) (Nr x l) (Oa x l) (Mp x l) (Nb x l) (Mz x l) (Nu x l)) (EF k) (rQ k (JV x)) (GZ (Cr x))) (FY (YY x) (ZQ x) (wM x) (Ar (GV x) (Nk x x) (Sj x x) (λl=>AT l (GV x) (Ny x l) (Nr x l) (Oa x l) (Mp x l) (Nb x l) (Mz x l) (Nu x l)) (AF (FE k)) (HZ (FE k) (Cy (JV x))) (GZ (Cr x)))) (KI (λl=>FH (I7 x) (CS (I6 x) (Fu x) (Lk x) (Ku x) (EA (Po x l)) (BA l k) (La (YY x) (ZQ x) (GV x) (dB x) (PE x l) (Ve (Ve (PE x k) (Po x k) (Ig (Cr x) k)) LW (Ty (Cr x) (FE k))) (AQ (PE x l) (Ve (Ve (PE x k) (Po x k) (Ig (Cr x) k)) LW (Ty (Cr x) (FE k)))))) (BL (CW l (pF x)) (Rl x) (U0 x)) (NW x) l j))) (λl=>FH (I7 x) (CS (I6 x) (Fu x) (Lk x) (Ku x) (MD (Po x l) (Po x k)) (BA l k) (La (YY x) (ZQ x) (GV x) (dB x) (PE x l) (PE x k) (AQ (PE x l) (PE x k)))) (BL (CW l (pF x)) (Rl x) (U0 x)) (NW x) l j))))) (FV (not (Po x j)) (SY (UO (bN x)) (WH (bN x)) (L2 x) 5) (Qx (AZ (bN x) (PE x j)) (AQ (bN x) (PE x j)) (L2 x)))))))):=by kernel_rfl
theorem CNV(a b c:Int):(bif decide (a>=b) then decide (a<=c) else false)=PN a b c:=by
 unfold PN
 show (bif decide (b<=a) then _ else _)=_
 cases decide (b<=a)<;>rfl
theorem BTB{a:CZ}(hr:DJ a=0){t:Int}(ht:PN t (-100000000) 100000000=false):∀k,k<=a.c.ms.length->yI a t k=zHul
 |0,_=>rfl
 |k+1,hk=>by
  have hc:=KB.1 (As hr).1
  have b:=BAS hc hr (i:=k) (by omega)
  unfold nL at b
  have:PN t (gD (ZJ a) k).lo (gD (ZJ a) k).hi=false:=by
   cases q:PN t (gD (ZJ a) k).lo (gD (ZJ a) k).hi with
   |false=>rfl
   |true=>
    have:=IX.1 q
    rw[IX.2 (by omega)] at ht;cases ht
  show (bif PN t _ _ then _ else yI a t k)=_
  rw[this];exact BTB hr ht k (by omega)
theorem BUX(x:CZI)(k:Nat):(zsP x k).length=(ZJ x.a).length:=xP _ _ _ _
theorem CMM{x:CZI}(hr:DJ x.a=0)(zl:x.a.z.length<4611686018427387904)(ht:PN x.t (-100000000) 100000000=true){k:Nat}(hk:k+1<x.a.c.ms.length):PreS ⟨x.a,zsP x k⟩:=by
 have hc:=KB.1 (As hr).1
 have tl:=hX hr
 have ht:=IX.1 ht
 have at_:∀i,i<x.a.c.ms.length->gD (zsP x k) i=⟨bif decide (i=k+1) then HJ (gD (ZJ x.a) i).lo (x.t+1) else (gD (ZJ x.a) i).lo,bif decide (i=k) then QC (gD (ZJ x.a) i).hi (x.t-1) else (gD (ZJ x.a) i).hi⟩:=λi hi=>by
  unfold zsP wr
  rw[Ap (by omega) (by omega),Ap (by omega) (by omega)]
  exact CFH (by omega) (by omega)
 have bb:∀i,i<x.a.c.ms.length->(-100000000<=(gD (zsP x k) i).lo/\(gD (zsP x k) i).lo<=100000001) /\ -100000001<=(gD (zsP x k) i).hi/\(gD (zsP x k) i).hi<=100000000:=λi hi=>by
  have b:=BAS hc hr hi
  unfold nL at b
  rw[at_ i hi]
  constructor
  ·show -100000000<=(bif decide (i=k+1) then HJ (gD (ZJ x.a) i).lo (x.t+1) else (gD (ZJ x.a) i).lo)/\(bif decide (i=k+1) then HJ (gD (ZJ x.a) i).lo (x.t+1) else (gD (ZJ x.a) i).lo)<=_
   cases decide (i=k+1)
   ·show _<=(gD (ZJ x.a) i).lo/\(gD (ZJ x.a) i).lo<=_;omega
   ·show _<=HJ _ _/\HJ _ _<=_;unfold HJ;split<;>omega
  ·show -100000001<=(bif decide (i=k) then QC (gD (ZJ x.a) i).hi (x.t-1) else (gD (ZJ x.a) i).hi)/\(bif decide (i=k) then QC (gD (ZJ x.a) i).hi (x.t-1) else (gD (ZJ x.a) i).hi)<=_
   cases decide (i=k)
   ·show _<=(gD (ZJ x.a) i).hi/\(gD (ZJ x.a) i).hi<=_;omega
   ·show _<=QC _ _/\QC _ _<=_;unfold QC;split<;>omega
 have hl:(zsP x k).length=x.a.c.ms.length:=by rw[BUX,tl]
 exact⟨(As hr).1,(As hr).2.1,zl,hl,λi hi=>by
  have hi:i<(zsP x k).length:=hi
  have:=bb i (by omega);unfold nL;show (_<=(gD (zsP x k) i).lo/\(gD (zsP x k) i).lo<=_)/\_<=(gD (zsP x k) i).hi/\(gD (zsP x k) i).hi<=_;omega,λi hi=>by
  have hi:i<(zsP x k).length:=hi
  have:=bb i (by omega);show _<=(gD (zsP x k) i).lo/\(gD (zsP x k) i).hi<=_;omega⟩
theorem CBB(x:ZL):(sY x).2=(XS (FZ x.a) x.l).all Od:=by
 unfold sY;cases (XS (FZ x.a) x.l).all Od<;>rfl
theorem CGJ{l:List Span}{n:Nat}(h:l.length=n):(NK n λi=>gD l i)=l:=by
 subst h
 exact BGD (rng_length _ _) λi hi=>FF _ _ _ (by simpa using hi)
theorem CWG(x:CZI)(h:x.a.c.ms.length<4611686018427387904/\x.a.c.ns.length<4611686018427387904/\x.a.z.length<4611686018427387904):CHC x:=by
 rw[CMD]<;> delta MD N6 tJ hd7 Iv BH BK DY RD RU Mr EM EO CH IH AB CJ CE AY OV CG MY CW FV NL HD KA UI Md iC IG EB FX EC GY GX GR GG DV FO FU KI IP Me FP FS El LW US HM IV QR ED NR WW FN TW Ty Lg qQ XT Ek bC Ti sN zY JV Ma AEK T7 N0 AH CK IW AX JE AI WE BC AV AF IK IN BI Oh AQ WV JB BB AC Kv BZ CN BF MC AE Ei AO BD DD LZ AZ GV DC BG BR BE BS BJ JQ AR BQ Au IS LY cA BV HF CI EQ GQ BL Qh AS BM ER FL EV CF AG IE HR BX KL NU CU GW KJ Cy HO DN MW GD CX OT OR LH DU tP HY IC DR OU HG PC QQ EA DT KQ UU HH FE FG FW AT IZ SK ZX Qp VV MJ ZN ZS IT DX OS Ge EZ GT EX JJ BA ZR BP CV HT DO CS WX NZ GZ DZ HU HW BO JH FI AL AN AM LJ KO GP NP ZP FK KX JC NX vK LS Py Bt FT EF VW XI NV VD HI TQ IB TO KH SN Td CQ HZ CL bH Cr XP RE Ig Ak JY NW FH IL FY ML Ib VU Pf Al Bb Dt JK KC vW VB IA ON HX PE PF ZO HV IY XG LF TJ XE NJ YC XR MG VG Dj QP wW Fx vG XB YM Cl YY ZQ ZD Kb LQ SY Ad Aj YG WA WL Ba Fp QI BAY Fu UO XZ Pm YF WH OO QN YD oZ Ku Lk AGR WF Po Dp Io pI Rl XQ Tk bN Nk Ny AGJ Nr Ve Nb Jk La Ar lJ Oa Fb Mz Nu Be Mp Nv pF dB Mn Sj I7 wM I6 kD dO rQ gH Qx U0 B8 R6 L2;simp only[CC,eq_self,implies_true,forall_const,FR,Ee,AGQ]
 refine⟨h,λh1=>?_,λh1=>?_⟩
 ·have hn:(DJ x.a==0)=false:=by simpa using h1
  unfold Yb;rw[hn];exact⟨rfl,rfl,rfl⟩
 have h0:DJ x.a=0:=by simpa using h1
 have c0:=(As h0).1
 obtain⟨m1,m2⟩:=(KB.1 c0).m
 have tl:=hX h0
 have ev:Yb x=bU (A0 x):=by unfold Yb;rw[h0];rfl
 rw[AQQ h0]
 simp only[CC,eq_self,implies_true,forall_const,tl,CNV,AXE,ev]
 refine⟨⟨0,⟨rfl,rfl,rfl,rfl⟩,Nat.zero_le _,h0⟩,λk ⟨k1,_⟩=>⟨λhlt=>⟨⟨by omega,λ_=>by omega⟩,λhc=>⟨⟨by omega,c0⟩,k+1,?_,⟨by omega,h0⟩,by omega⟩,λhc=>⟨k+1,?_,⟨by omega,h0⟩,by omega⟩⟩,λhge=>⟨λho=>?_,λhi=>⟨⟨0,?_,⟨by omega,h0⟩,hi⟩,λg ⟨⟨g1,_⟩,_⟩=>?_⟩⟩⟩⟩
 ·have e:yI x.a x.t (k+1)=Na (yI x.a x.t k) (YW x.a.c k):=by
   show (bif PN x.t _ _ then Na _ (gD (Jp x.a.c) k) else _)=_
   rw[hc,Tp (by omega)];rfl
  rw[e];exact⟨rfl,(II (by omega)).symm,rfl,rfl⟩
 ·have e:yI x.a x.t (k+1)=yI x.a x.t k:=by
   show (bif PN x.t _ _ then Na _ (gD (Jp x.a.c) k) else _)=_
   rw[hc];rfl
  rw[e];exact⟨rfl,(II (by omega)).symm,rfl,rfl⟩
 ·have e:bU (A0 x)=(⟨0,0⟩,5):=by
   unfold A0;rw[ho]
   show bU (yI x.a x.t x.a.c.ms.length)=_
   rw[BTB h0 ho _ (Nat.le_refl _)];rfl
  rw[e];exact⟨rfl,rfl,rfl⟩
 ·obtain rfl:k=x.a.c.ms.length:=by omega
  exact⟨rfl,rfl,rfl,rfl⟩
 have ew:IntKind.i64.wrap ((g:Int)+1)=((g+1:Nat):Int):=II (by omega)
 simp only[ew,Int.toNat_natCast,Nat.sub_zero]
 refine⟨λhlt=>⟨⟨(λh=>by cases h),by omega,by omega⟩,⟨by omega,by omega,by omega⟩,⟨⟨by omega,by omega,by omega⟩,g,⟨rfl,rfl,rfl,rfl,λi hi2=>?_⟩,⟨by omega,rfl,h0⟩,hi⟩,λj ⟨⟨j1,j2,_⟩,_⟩=>?_⟩,λhge2=>?_⟩
 ·have e:gD (zsP x g) i=⟨bif decide (i=g+1) then HJ (gD (ZJ x.a) i).lo (wr (x.t+1)) else (gD (ZJ x.a) i).lo,bif decide (i=g) then QC (gD (ZJ x.a) i).hi (wr (x.t-1)) else (gD (ZJ x.a) i).hi⟩:=CFH (by omega) (by omega)
  rw[e]
  by_cases q1:i=g+1
  ·subst q1
   simp[wr]
  ·by_cases q2:i=g
   ·subst q2
    simp[wr]
   ·simp[q1,q2]
 ·have hL:(zsP x j).length=x.a.c.ms.length:=by rw[BUX,tl]
  have ej:IntKind.i64.wrap ((j:Int)+1)=((j+1:Nat):Int):=II (by omega)
  have ep:(sY ⟨x.a,zsP x j⟩).2=AHR x.a x.t j:=by rw[CBB];rfl
  simp only[CGJ hL,ej,ep]
  refine⟨⟨by omega,λ_ _=>⟨trivial,trivial⟩,CMM h0 h.2.2 hi j1⟩,λhp=>⟨⟨by omega,c0⟩,⟨by omega,c0⟩,j+1,?_,⟨⟨by omega,h0⟩,hi⟩,by omega⟩,λhp=>⟨j+1,?_,⟨⟨by omega,h0⟩,hi⟩,by omega⟩⟩
  ·have e:sW x.a x.t (j+1)=Na (Na (sW x.a x.t j) (YW x.a.c j)) (YW x.a.c ((j+1:Nat):Int)):=by
    show (bif AHR x.a x.t j then Na (Na _ (gD (Jp x.a.c) j)) (gD (Jp x.a.c) (j+1)) else _)=_
    rw[hp,Tp (by omega),Tp (by omega)];rfl
   rw[e]
   have e2:∀s:Span,joiM ⟨(Na (sW x.a x.t j) (YW x.a.c j)).s,true,s⟩=(Na (Na (sW x.a x.t j) (YW x.a.c j)) s).s:=λs=>AXE (Na (sW x.a x.t j) (YW x.a.c j)) s
   rw[e2];exact⟨rfl,rfl,rfl,rfl⟩
  ·have e:sW x.a x.t (j+1)=sW x.a x.t j:=by
    show (bif AHR x.a x.t j then Na (Na _ (gD (Jp x.a.c) j)) (gD (Jp x.a.c) (j+1)) else _)=_
    rw[hp];rfl
   rw[e];exact⟨rfl,rfl,rfl,rfl⟩
 ·obtain rfl:g=x.a.c.ms.length-1:=by omega
  have e:A0 x=sW x.a x.t (x.a.c.ms.length-1):=by unfold A0;rw[hi];rfl
  rw[e];unfold bU
  refine⟨λq=>?_,λq=>?_⟩<;>rw[q]<;>exact⟨rfl,rfl,rfl⟩
theorem CLY:AW Try.prog AZW (C_Stage.spec dCZI):=Je C_Stage CCO [] [] BXN (λ_=>by kernel_rfl) (λ_=>AA L0 (AA AAC (AA AYE (AA BQP (AA BHS AK))))) (λx h=>CWG x h) (λ_=>Kp rfl rfl) _
def zf7(x:CZI):Shape:={ α:=Nat,dflt:=0,T:=λk=>⟨[(2,.int x.t),(3,.bptr 201 0),(6,.bptr 202 0),(9,.d (HA (ZJ x.a))),(11,.bptr 203 0),(12,.bool (iO x k).1.m),(13,.int k)],zsB x (iO x k).1⟩,inv:=λk=>(k<=x.a.c.ms.length/\DJ x.a=0)/\(iO x k).2=false,meas:=λk=>x.a.c.ms.length-k,first:=[(201,1000),(202,1016),(203,5000)] }
def CFL(x:CZI):Ann:={ ann 54 [(Wi,C_Times.spec B6),(fE,C_zst.spec dCtI),(zO,BSD)] with loops:=λid=>if id=7 then some [zf7 x] else none }
def BXU(x:CZI):Prop:=ES Try.prog (CFL x) BBX (AJ BBX) (xCZI x) (AD []) (.tup [.d (MV (Px x).s),.bool (Px x).b,.int (Px x).e]) [] [] []
abbrev yJ:=Px
abbrev uO a:=mE (yJ a)
attribute [go_sem] yJ uO
theorem CNS(x:CZI):(BXU x)=(LQ (YY x) (ZQ x) (wM x) (BV (GV x)) (BQ (GV x)) (IA (Nk x x) (λi=>YC i (JV x) (GV x)) (BO (GV x)) (AB (λi=>AT i (GV x) (Ny x i) (Nr x i) (Oa x i) (Mp x i) (Nb x i) (Mz x i) (Nu x i))) (WA (JV x)) (AB (λi=>WL i (JV x))) (Aj (JV x)) (IL (GV x)) (Ad (JV x))) (EZ (MG (ZD (Ba x))) (UO (uO x)) (SY (WH (uO x)) (DZ (rX (yJ x))) (pT (yJ x)) (ZD (Ba x))) (HX (λi=>DT (Fu x) (AI (ML (UU x) (XG (Ba x))) (XQ (UU x) (XG (Ba x))) (DZ (Pp x i)) (CQ i) (pI (YY x) (ZQ x) (GV x) (dB x) (oZ (GV x) (UO (RS x i)) (WH (RS x i))))) (KH i (NW x) (Rl x)) (DZ (gJ x i))) (λi=>XL (BL (CW i (NW x)) (Rl x) (DZ (gJ x i))) i (Kb x) (HV (YY x) (ZQ x) (wM x) (Ar (GV x) (Nk x x) (Sj x x) (λj=>AT j (GV x) (Ny x j) (Nr x j) (Oa x j) (Mp x j) (Nb x j) (Mz x j) (Nu x j)) (EF i) (rQ i (JV x)) (GZ (Cr x))) (FV (NL (Hg (Cr x) i) (Ma x)) (KI (λj=>FH (Fu x) (AI (Lk x) (Ku x) (MD (Pp x j) (Pp x i)) (BA j i) (La (YY x) (ZQ x) (GV x) (dB x) (RS x j) (RS x i) (AQ (RS x j) (RS x i)))) (BL (CW j (NW x)) (Rl x) (DZ (gJ x j))) (NW x) j i)) (QN i (Kb x) (FY (YY x) (ZQ x) (wM x) (Ar (GV x) (Nk x x) (Sj x x) (λj=>AT j (GV x) (Ny x j) (Nr x j) (Oa x j) (Mp x j) (Nb x j) (Mz x j) (Nu x j)) (EF i) (rQ i (JV x)) (GZ (Cr x)))) (EZ (tJ (Eu (Cr x) i) (Ma x)) (AZ (uO x) (Ve (RS x i) (Pp x i) (OV (UU x) i))) (Qx (AQ (uO x) (Ve (RS x i) (Pp x i) (OV (UU x) i))) (EA (rX (yJ x))) (pT (yJ x))) (KI (λj=>FH (Fu x) (AI (Lk x) (Ku x) (EA (Pp x j)) (BA j i) (La (YY x) (ZQ x) (GV x) (dB x) (RS x j) (Ve (RS x i) (Pp x i) (OV (UU x) i)) (AQ (RS x j) (Ve (RS x i) (Pp x i) (OV (UU x) i))))) (BL (CW j (NW x)) (Rl x) (DZ (gJ x j))) (NW x) j i)))))) (EZ (not (Pp x i)) (UO (uO x)) (SY (WH (uO x)) (DZ (rX (yJ x))) (pT (yJ x)) 5) (FY (AZ (uO x) (RS x i)) (AQ (uO x) (RS x i)) (DZ (rX (yJ x))) (FG (pT (yJ x))))))))):=by kernel_rfl
theorem BKF(x:CZI)(k:Nat)(h:(iO x k).2=false):iO x (k+1)=bif decide ((gD (Jp x.a.c) k).hi>=x.t) then (Na (iO x k).1 (gD (ZJ x.a) k),decide ((gD (Jp x.a.c) k).lo>=x.t)) else iO x k:=by
 show (bif (iO x k).2 then _ else _)=_
 rw[h];rfl
theorem BMO(x:CZI){k:Nat}(h:(iO x k).2=true):∀n,k<=n->iO x n=iO x k
 |0,hn=>by
  obtain rfl:k=0:=by omega
  rfl
 |n+1,hn=>by
  by_cases e:k=n+1
  ·subst e;rfl
  ·have ih:=BMO x h n (by omega)
   show (bif (iO x n).2 then iO x n else _)=_
   rw[ih,h];rfl
theorem CXW(x:CZI)(h:x.a.c.ms.length<4611686018427387904/\x.a.c.ns.length<4611686018427387904/\x.a.z.length<4611686018427387904):BXU x:=by
 rw[CNS]<;> delta MD tJ Iv BH BK DY RD RU EM EO CH IH AB CJ CE AY OV CG MY CW FV NL HD KA UI IG EB FX EC GY GX GR GG DV FO FU KI FP FS El LW US QR FN TW Ty XT Ek bC Ti JV Ma mE rX pT AEK T7 yJ AH CK IW AX JE AI WE BC AV AF IK IN BI Oh AQ WV JB BB AC Kv BZ CN BF MC AE Ei AO BD DD LZ AZ GV DC BR BE BS BJ JQ AR BQ Au IS LY BV HF CI EQ GQ BL Qh AS BM ER FL EV IE HR BX KL CU GW Cy HO DN GD CX OT OR DU tP HY IC DR OU HG QQ EA DT KQ UU HH FE FG FW AT IZ SK Qp VV MJ ZS DX OS EZ JJ BA ZR BP NZ GZ DZ BO JH AL AN AM LJ KO GP NP ZP FK KX NX vK LS Bt FT EF NV oX HI TQ TO KH CQ Cr XP RE Ig JY NW FH IL FY ML Pf Al Dt JK VB IA HX HV RS XG PY XE NJ YC XR MG Dj QP Cl YY ZQ ZD Kb LQ SY Ad Aj WA WL Ba Fu UO WH QN oZ Eu Ku Lk XL AGR Hg Dp Io pI Pp Rl XQ Nk Ny Nr Ve Nb La Ar Oa Mz gJ Nu Mp dB uO Sj wM rQ Qx;simp only[CC,eq_self,implies_true,forall_const,FR,Ee,AGQ]
 refine⟨h,λh1=>?_,λh1=>?_⟩
 ·have hn:(DJ x.a==0)=false:=by simpa using h1
  unfold Px;rw[hn];exact⟨rfl,rfl,rfl,rfl⟩
 have h0:DJ x.a=0:=by simpa using h1
 have c0:=(As h0).1
 obtain⟨m1,m2⟩:=(KB.1 c0).m
 have tl:=hX h0
 have ev:Px x=fsV x:=by unfold Px;rw[h0];rfl
 rw[AQQ h0]
 simp only[CC,eq_self,implies_true,forall_const,tl,AXE,ev]
 refine⟨⟨0,⟨rfl,rfl,rfl,rfl⟩,⟨Nat.zero_le _,h0⟩,rfl⟩,λk ⟨⟨k1,_⟩,k2⟩=>⟨λhlt=>⟨⟨by omega,c0⟩,λhc=>⟨k+1,?_,⟨⟨by omega,h0⟩,?_⟩,by omega⟩,λhc=>⟨by omega,⟨by omega,c0⟩,λhd=>?_,λhd=>⟨k+1,?_,⟨⟨by omega,h0⟩,?_⟩,by omega⟩⟩⟩,λhge=>?_⟩⟩
 ·have e:iO x (k+1)=iO x k:=by rw[BKF x k k2,Tp (by omega),decide_eq_false (by omega)];rfl
  rw[e];exact⟨rfl,(II (by omega)).symm,rfl,rfl⟩
 ·have e:iO x (k+1)=iO x k:=by rw[BKF x k k2,Tp (by omega),decide_eq_false (by omega)];rfl
  rw[e];exact k2
 ·have e:iO x (k+1)=(Na (iO x k).1 (gD (ZJ x.a) k),true):=by
   rw[BKF x k k2,Tp (by omega),decide_eq_true (show (YW x.a.c k).hi>=x.t by omega),decide_eq_true hd];rfl
  have e2:iO x x.a.c.ms.length=iO x (k+1):=BMO x (by rw[e]) _ (by omega)
  unfold fsV;rw[e2,e];exact⟨rfl,rfl,rfl,rfl⟩
 ·have e:iO x (k+1)=(Na (iO x k).1 (gD (ZJ x.a) k),false):=by
   rw[BKF x k k2,Tp (by omega),decide_eq_true (show (YW x.a.c k).hi>=x.t by omega),decide_eq_false hd];rfl
  rw[e];exact⟨rfl,(II (by omega)).symm,rfl,rfl⟩
 ·have e:iO x (k+1)=(Na (iO x k).1 (gD (ZJ x.a) k),false):=by
   rw[BKF x k k2,Tp (by omega),decide_eq_true (show (YW x.a.c k).hi>=x.t by omega),decide_eq_false hd];rfl
  rw[e]
 ·obtain rfl:k=x.a.c.ms.length:=by omega
  unfold fsV bU;rw[k2]
  refine⟨λq=>?_,λq=>?_⟩<;>rw[q]<;>exact⟨rfl,rfl,rfl,rfl⟩
theorem COF:AW Try.prog AYQ (C_First.spec dCZI):=Je C_First CFL [] [] BWJ (λ_=>by kernel_rfl) (λ_=>AA L0 (AA AYE (AA BQP AK))) (λx h=>CXW x h) (λ_=>Kp rfl rfl) _
end Go.Bal
