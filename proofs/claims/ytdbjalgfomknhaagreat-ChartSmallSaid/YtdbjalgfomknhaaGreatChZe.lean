/- Package chart, with the reference: Times, Timed. -/
import Derived.Test.YtdbjalgfomknhaaGreatChZd
import Derived.Test.YtdbjalgfomknhaaGreatChQ
import Derived.Test.YtdbjalgfomknhaaGreatChM
set_option linter.unusedVariables false
set_option linter.unusedSimpArgs false
namespace Go.Bal
open Go Go.Sym Go.Proofs
def CDB(a:CZ):Ann:=ann 37 [(Wd,C_Check.spec iT),(BGE,C_zUnl.spec B6),(AAO,C_Stages.spec iT),(BCH,C_zNot.spec iT),(oO,C_zSet.spec dZL)]
def CFK(a:CZ):Prop:=ES Try.prog (CDB a) AYF (AJ AYF) (xCZ a) (AD []) (.tup [.d (HA (bT a).1),.int (bT a).2]) [] [] []
abbrev N0:=ZL.mk
abbrev ZD a:=T7 (bT a)
abbrev S1 a:=cD (Gf a)
abbrev XG a:=AEK (bT a)
attribute [go_sem] N0 ZD S1 XG
theorem CKO(a:CZ):(CFK a)=(And (AH (NX a) (NZ a) (YH (FN a) (Dn a a) (λi=>YC i a (FN a)) (λi=>Dz i a (Dd a i) (Dr a i) (Dh a i) (Da a i) (Ef a i) (Cz a i) (Ea a i)) (Aj a) (IL (FN a)))) (Sl (MG (dP a)) (Ed (XG a)) (ZD a) (dP a) (And (MO (NX a) (NZ a) (FN a) (YZ (FN a) (Dn a a) (Mq a a) (λi=>Dz i a (Dd a i) (Dr a i) (Dh a i) (Da a i) (Ef a i) (Cz a i) (Ea a i)) a (Ad a) (Yi a))) (Sl (not (N7 (VC a))) (Ed (XG a)) (ZD a) 2 (And (AH (NX a) (NZ a) (YH (FN a) (Dn a a) (λi=>YC i a (FN a)) (λi=>Dz i a (Dd a i) (Dr a i) (Dh a i) (Da a i) (Ef a i) (Cz a i) (Ea a i)) (Aj a) (IL (FN a)))) (Sl (MG (lF (Gf a))) (Ed (XG a)) (ZD a) 6 (BL (NX a) (CS (NZ a) (BM (FN a)) (BV (FN a)) (BQ (FN a)) (Dn a a) (Mq a a) (IA (BO (FN a)) (λi=>Dz i a (Dd a i) (Dr a i) (Dh a i) (Da a i) (Ef a i) (Cz a i) (Ea a i)) (Yi a) (NX a) (NZ a) (BM (FN a)) (BV (FN a)) (BQ (FN a)) (DI (Dn a a) (Mq a a) (BO (FN a)) (AB (λi=>Dz i a (Dd a i) (Dr a i) (Dh a i) (Da a i) (Ef a i) (Cz a i) (Ea a i))) (WA a) (AB (λi=>WL i a)) (RJ (S1 a)) (λi=>Kt i (S1 a)) (PreS (N0 (VC a) (Av (S1 a))))))) (Sl (not (kD (N0 (VC a) (Av (S1 a))))) (Ed (XG a)) (ZD a) 6 (Qx (ML (XG a) (wG (N0 (VC a) (Av (S1 a))))) (XQ (XG a) (wG (N0 (VC a) (Av (S1 a))))) (ZD a)))))))))):=by kernel_rfl
theorem AGQ(a:CZ):(bT a).2=DJ a:=by
 unfold bT
 cases h:(DJ a==0) with
 |true=>
  have:DJ a=0:=by simpa using h
  rw[this];rfl
 |false=>rfl
theorem AQQ{a:CZ}(h:DJ a=0):bT a=(ZJ a,0):=by unfold bT;rw[h];rfl
theorem BCC{a:CZ}(h:DJ a≠0):bT a=([],DJ a):=by
 unfold bT;rw[show (DJ a==0)=false by simpa using h];rfl
theorem CCE{a:CZ}(h0:AP a.c=0)(hz:N7 a=true)(zl:a.z.length<4611686018427387904):PreS ⟨a,Ov a.c⟩:=by
 have hc:=KB.1 h0
 refine⟨h0,hz,zl,QM _,BIN hc,λi hi=>?_⟩
 rw[tG (by rw[<-QM];exact hi)]
 have:=(ADD hc i).1
 unfold nL at this;omega
theorem CXK(a:CZ)(h:a.c.ms.length<4611686018427387904/\a.c.ns.length<4611686018427387904/\a.z.length<4611686018427387904):CFK a:=by
 obtain⟨l1,l2,l3⟩:=h
 rw[CKO]<;> delta BH BK DY EM EO CH IH AB CJ CE AY OV FV EB FX EC GY GX GR GG DV FO FU Me FP FS El US QR FN TW cD Y3 qQ XT AEK T7 N0 AH CK IW AX JE AI WE BC AV AF IK IN YX AQ WV JB BB AC Kv BZ CN BF MC AE Ei AO BD DD LZ AZ DC BR BE BS BJ AR BQ Au IS BV HF CI GQ Yv BL Qh AS BM tY EV CF IE CU GW Cy HO CX Av DU Gf HY IC DR QQ HH FG FW AT IZ Qp VV JA OS OM DI CS NZ GZ WO BO AL AN AM LJ KO KX NX LS NV TO XP MR IL ML Al VC VB IA XG XE UC YC XR MG Dj MO Kd ZD Ad Aj RJ YH WA WL Ht Sy Io Kt Dn XQ Dd Ed Dr Ef Dh YJ Cz Ea Da Mq Yi dP lF Sl kD wG Dz Qx YZ S1;simp only[CC,eq_self,implies_true,forall_const,FR,Ee]
 refine⟨⟨l1,l2⟩,λh=>?_,λh=>?_⟩
 ·have h:AP a.c≠0:=by simpa using h
  have e:DJ a=AP a.c:=by unfold DJ;rw[show (AP a.c==0)=false by simpa using h];rfl
  rw[BCC (by rw[e];exact h),e];exact⟨rfl,rfl,rfl⟩
 have h0:AP a.c=0:=by simpa using h
 refine⟨⟨l3,h0⟩,λhz=>?_,λhz=>⟨⟨l1,l2⟩,λhs=>?_,λhs=>?_⟩⟩
 ·have e:DJ a=2:=by unfold DJ;rw[h0,hz];rfl
  rw[BCC (by rw[e];decide),e];exact⟨rfl,rfl,rfl⟩
 ·have hq:Mg a.c=false:=by
   cases hq:Mg a.c with
   |false=>rfl
   |true=>rw[J4 h0,hq] at hs;cases hs
  have e:DJ a=6:=by
   unfold DJ JD;rw[h0,hz,Uk,hq];rfl
  rw[BCC (by rw[e];decide),e];exact⟨rfl,rfl,rfl⟩
 have hq:Mg a.c=true:=by
  cases hq:Mg a.c with
  |true=>rfl
  |false=>rw[J4 h0,hq] at hs;cases hs
 have et:JD (FZ a)=(XS (FZ a) (Ov a.c),(XS (FZ a) (Ov a.c)).all Od):=by
  unfold JD;rw[Uk,hq];rfl
 refine⟨⟨h0,CCE h0 hz l3⟩,λhv=>?_,λhv=>?_⟩
 ·have hb:(XS (FZ a) (Ov a.c)).all Od=false:=by
   cases hb:(XS (FZ a) (Ov a.c)).all Od with
   |false=>rfl
   |true=>unfold sY at hv;rw[hb] at hv;cases hv
  have e:DJ a=6:=by
   unfold DJ;rw[h0,hz,et,hb];rfl
  rw[BCC (by rw[e];decide),e];exact⟨rfl,rfl,rfl⟩
 ·have hb:(XS (FZ a) (Ov a.c)).all Od=true:=by
   cases hb:(XS (FZ a) (Ov a.c)).all Od with
   |true=>rfl
   |false=>unfold sY at hv;rw[hb] at hv;cases hv
  have e:DJ a=0:=by
   unfold DJ;rw[h0,hz,et,hb];rfl
  have e2:(sY ⟨a,Ov a.c⟩).1=ZJ a:=by
   unfold sY ZJ;rw[hb,et];rfl
  rw[AQQ e,e2];exact⟨rfl,λ_ _=>⟨rfl,rfl⟩,rfl⟩
theorem L0:AW Try.prog Wi (C_Times.spec B6):=Je C_Times CDB [] [] BWU (λ_=>by kernel_rfl) (λ_=>AA dW (AA BRV (AA BBT (AA CNP (AA BHS AK))))) (λa h=>CXK a h) (λ_=>Kp rfl rfl) _
def mH(x:TrI):Int:=bif (bif DJ x.a != 0 then DJ x.a != 6 else false) then DJ x.a else bif !PN x.m 0 (wr ((x.a.c.ms.length:Int)-1)) then 2 else bif DJ x.a != 0 then DJ x.a else bif !PN x.t (gD (ZJ x.a) x.m.toNat).lo (gD (ZJ x.a) x.m.toNat).hi then 5 else 0
def C_zTmd:Ctr:={ α:=TrI,xs:=xTrI,val:=λx=>.int (mH x),keep:=λ_=>[],pre:=λx=>[x.a.c.ms.length<4611686018427387904/\x.a.c.ns.length<4611686018427387904/\x.a.z.length<4611686018427387904] }
def BYV(x:TrI):Prop:=ES Try.prog (ann 45 [(Wi,C_Times.spec B6),(vT,A8)]) AYT (AJ AYT) (xTrI x) (AD []) (.int (mH x)) [] [] []
theorem CMG(x:TrI):(BYV x)=((x.a.c.p.lo=x.a.c.p.lo/\x.a.c.p.hi=x.a.c.p.hi/\x.a.c.base=x.a.c.base/\x.a.c.scale=x.a.c.scale/\x.a.c.off=x.a.c.off/\(NK x.a.c.ms.length λ(i:Nat)=>gD
 x.a.c.ms i).length=x.a.c.ms.length/\(∀(i:Nat),i<(NK x.a.c.ms.length λ(i:Nat)=>gD x.a.c.ms i).length->(gD (NK x.a.c.ms.length λ(i:Nat)=>gD x.a.c.ms i) i).pl=(gD x.a.c.ms i).pl/\(gD (NK
 x.a.c.ms.length λ(i:Nat)=>gD x.a.c.ms i) i).ht=(gD x.a.c.ms i).ht)/\(NK x.a.c.ns.length λ(i:Nat)=>gD x.a.c.ns i).length=x.a.c.ns.length/\(∀(i:Nat),i<(NK x.a.c.ns.length λ(i:Nat)=>gD
 x.a.c.ns i).length->(gD (NK x.a.c.ns.length λ(i:Nat)=>gD x.a.c.ns i) i).mi=(gD x.a.c.ns i).mi/\(gD (NK x.a.c.ns.length λ(i:Nat)=>gD x.a.c.ns i) i).t.lo=(gD x.a.c.ns i).t.lo/\(gD (NK
 x.a.c.ns.length λ(i:Nat)=>gD x.a.c.ns i) i).t.hi=(gD x.a.c.ns i).t.hi/\(gD (NK x.a.c.ns.length λ(i:Nat)=>gD x.a.c.ns i) i).s.lo=(gD x.a.c.ns i).s.lo/\(gD (NK x.a.c.ns.length λ(i:Nat)=>gD
 x.a.c.ns i) i).s.hi=(gD x.a.c.ns i).s.hi)/\(NK x.a.z.length λ(i:Nat)=>gD x.a.z i).length=x.a.z.length/\(∀(i:Nat),i<(NK x.a.z.length λ(i:Nat)=>gD x.a.z i).length->gD (NK x.a.z.length λ(i :
 Nat)=>gD x.a.z i) i=gD x.a.z i)/\(NK x.a.c.ms.length λ(i:Nat)=>gD x.a.c.ms i).length<4611686018427387904/\(NK x.a.c.ns.length λ(i:Nat)=>gD x.a.c.ns i).length<4611686018427387904/\(NK
 x.a.z.length λ(i:Nat)=>gD x.a.z i).length<4611686018427387904)/\bif bif (bT (CZ.mk (Cht.mk x.a.c.p x.a.c.base x.a.c.scale x.a.c.off (NK x.a.c.ms.length λ(i:Nat)=>gD x.a.c.ms i) (NK x.a.c.ns.length
 λ(i:Nat)=>gD x.a.c.ns i)) (NK x.a.z.length λ(i:Nat)=>gD x.a.z i))).snd != 0 then (bT (CZ.mk (Cht.mk x.a.c.p x.a.c.base x.a.c.scale x.a.c.off (NK x.a.c.ms.length λ(i:Nat)=>gD x.a.c.ms i) (NK
 x.a.c.ns.length λ(i:Nat)=>gD x.a.c.ns i)) (NK x.a.z.length λ(i:Nat)=>gD x.a.z i))).snd != 6 else false then mH x=(bT (CZ.mk (Cht.mk x.a.c.p x.a.c.base x.a.c.scale x.a.c.off (NK x.a.c.ms.length fun
 (i:Nat)=>gD x.a.c.ms i) (NK x.a.c.ns.length λ(i:Nat)=>gD x.a.c.ns i)) (NK x.a.z.length λ(i:Nat)=>gD x.a.z i))).snd else bif !PN x.m 0 (IntKind.i64.wrap ((↑x.a.c.ms.length:Int)-1)) then mH x=2
 else bif (bT (CZ.mk (Cht.mk x.a.c.p x.a.c.base x.a.c.scale x.a.c.off (NK x.a.c.ms.length λ(i:Nat)=>gD x.a.c.ms i) (NK x.a.c.ns.length λ(i:Nat)=>gD x.a.c.ns i)) (NK x.a.z.length λ(i:Nat)=>gD
 x.a.z i))).snd != 0 then mH x=(bT (CZ.mk (Cht.mk x.a.c.p x.a.c.base x.a.c.scale x.a.c.off (NK x.a.c.ms.length λ(i:Nat)=>gD x.a.c.ms i) (NK x.a.c.ns.length λ(i:Nat)=>gD x.a.c.ns i)) (NK x.a.z.length
 λ(i:Nat)=>gD x.a.z i))).snd else ((0<=x.m/\x.m<(↑(bT (CZ.mk (Cht.mk x.a.c.p x.a.c.base x.a.c.scale x.a.c.off (NK x.a.c.ms.length λ(i:Nat)=>gD x.a.c.ms i) (NK x.a.c.ns.length λ(i:Nat)=>gD
 x.a.c.ns i)) (NK x.a.z.length λ(i:Nat)=>gD x.a.z i))).fst.length:Int))/\0<=x.m/\x.m<(↑(bT (CZ.mk (Cht.mk x.a.c.p x.a.c.base x.a.c.scale x.a.c.off (NK x.a.c.ms.length λ(i:Nat)=>gD x.a.c.ms i) (NK
 x.a.c.ns.length λ(i:Nat)=>gD x.a.c.ns i)) (NK x.a.z.length λ(i:Nat)=>gD x.a.z i))).fst.length:Int))/\bif !PN x.t (gD (bT (CZ.mk (Cht.mk x.a.c.p x.a.c.base x.a.c.scale x.a.c.off (NK x.a.c.ms.length
 λ(i:Nat)=>gD x.a.c.ms i) (NK x.a.c.ns.length λ(i:Nat)=>gD x.a.c.ns i)) (NK x.a.z.length λ(i:Nat)=>gD x.a.z i))).fst x.m.toNat).lo (gD (bT (CZ.mk (Cht.mk x.a.c.p x.a.c.base x.a.c.scale x.a.c.off
 (NK x.a.c.ms.length λ(i:Nat)=>gD x.a.c.ms i) (NK x.a.c.ns.length λ(i:Nat)=>gD x.a.c.ns i)) (NK x.a.z.length λ(i:Nat)=>gD x.a.z i))).fst x.m.toNat).hi then mH x=5 else mH x=0):=by
 kernel_rfl
theorem CYG(x:TrI)(h:x.a.c.ms.length<4611686018427387904/\x.a.c.ns.length<4611686018427387904/\x.a.z.length<4611686018427387904):BYV x:=by
 rw[CMG];simp only[CC,eq_self,implies_true,forall_const,FR,Ee,AGQ]
 refine⟨h,λh1=>?_,λh1=>⟨λh2=>?_,λh2=>⟨λh3=>?_,λh3=>?_⟩⟩⟩
 ·unfold mH;rw[h1];rfl
 ·unfold mH wr;rw[h1,h2];rfl
 ·unfold mH wr;rw[h1,h2,h3];rfl
 ·have h0:DJ x.a=0:=by simpa using h3
  have hm:=IX.1 h2
  obtain⟨m1,m2⟩:=(KB.1 (As h0).1).m
  rw[Ap (by omega) (by omega)] at hm
  rw[AQQ h0]
  show (0<=x.m/\x.m<((ZJ x.a).length:Int))/\(PN x.t (gD (ZJ x.a) x.m.toNat).lo (gD (ZJ x.a) x.m.toNat).hi=false->mH x=5)/\(PN x.t (gD (ZJ x.a) x.m.toNat).lo (gD (ZJ x.a) x.m.toNat).hi=true->mH x=0)
  refine⟨by rw[hX h0];omega,λh4=>?_,λh4=>?_⟩
  ·unfold mH wr;rw[h1,h2,h3,h4];rfl
  ·unfold mH wr;rw[h1,h2,h3,h4];rfl
theorem COM:AW Try.prog AZX (C_zTmd.spec dTrI):=Je C_zTmd (λ_=>ann 45 [(Wi,C_Times.spec B6),(vT,A8)]) [] [] BWZ (λ_=>by kernel_rfl) (λ_=>AA L0 (AA AAC AK)) (λx h=>CYG x h) (λ_=>Kp rfl rfl) _
end Go.Bal

namespace Go.Bal
open Go Go.Sym Go.Proofs
theorem ArcOk.ext2{N M s:Nat->Span}{n:Nat}(h:ArcOk N s n)(e:∀i,i<=n->N i=M i):ArcOk M s n:=by
 refine⟨λi hi=>by rw[<-e i hi];exact h.ne i hi,λg hg x hx=>?_,λg hg y hy=>?_⟩
 ·rw[<-e (g+1) (by omega)];exact h.up g hg x (by rw[e g (by omega)];exact hx)
 ·obtain⟨x,h1,h2⟩:=h.down g hg y (by rw[e (g+1) (by omega)];exact hy)
  exact⟨x,by rw[<-e g (by omega)];exact h1,h2⟩
theorem BAJ{x:TrI}(hr:DJ x.a=0){i:Nat}(hi:i<x.a.c.ms.length)(hm:0<=x.m)(v:Int):(gD (uG x) i).has v↔(gD (ZJ x.a) i).has v/\(i=x.m.toNat->v=x.t):=by
 obtain⟨_,_,_,_,e⟩:=iQ hr
 have nl:(nlL x.a).length=x.a.c.ms.length:=by unfold nlL;rw[We,QM]
 unfold uG
 rw[FF _ _ _ (by omega),e]
 by_cases q:i=x.m.toNat
 ·rw[decide_eq_true q]
  show (uN (gD (nlL x.a) x.m.toNat) ⟨x.t,x.t⟩).has v↔_
  rw[hZ,<-q]
  constructor
  ·rintro⟨h1,h2,h3⟩
   have h2:x.t<=v:=h2
   have h3:v<=x.t:=h3
   exact⟨h1,λ_=>by omega⟩
  ·rintro⟨h1,h2⟩
   have h3:=h2 rfl
   exact⟨h1,(show x.t<=v by omega),(show v<=x.t by omega)⟩
 ·rw[decide_eq_false q]
  exact⟨λh=>⟨h,λe=>absurd e q⟩,λh=>h.1⟩
theorem BTA{x:TrI}(h:ChOk x.a.c)(hr:DJ x.a=0)(ht:-1000000000<=x.t/\x.t<=1000000000){i:Nat}(hi:i<x.a.c.ms.length):nL 1000000000 (gD (uG x) i):=by
 obtain⟨_,_,_,_,e⟩:=iQ hr
 have nl:(nlL x.a).length=x.a.c.ms.length:=by unfold nlL;rw[We,QM]
 have b:=BAS h hr hi
 rw[e] at b
 unfold uG
 rw[FF _ _ _ (by omega)]
 by_cases q:i=x.m.toNat
 ·rw[decide_eq_true q]
  show nL 1000000000 (uN (gD (nlL x.a) x.m.toNat) ⟨x.t,x.t⟩)
  rw[<-q]
  generalize gD (nlL x.a) i=L at *
  unfold nL uN at *
  unfold HJ QC
  simp only
  constructor
  ·split<;>omega
  ·split<;>omega
 ·rw[decide_eq_false q]
  show nL 1000000000 (gD (nlL x.a) i)
  unfold nL at *;omega
theorem CKX{x:TrI}(h:ChOk x.a.c)(hr:DJ x.a=0)(hm:0<=x.m/\x.m<x.a.c.ms.length)(ht:-1000000000<=x.t/\x.t<=1000000000):(xN x).all Od=true↔∃u,TrC x.a.c (FZ x.a).sp u/\u x.m.toNat=x.t:=by
 unfold xN
 rw[W0 h hr (yQ x) (λi hi=>BTA h hr ht hi) (λi hi v=>BAJ hr hi hm.1 v)]
 exact⟨λ⟨u,u1,u2⟩=>⟨u,u1,u2 _ (by omega) rfl⟩,λ⟨u,u1,u2⟩=>⟨u,u1,λi _ e=>by rw[e];exact u2⟩⟩
theorem CZS{x:TrI}(h:ChOk x.a.c)(hr:DJ x.a=0)(hm:0<=x.m/\x.m<x.a.c.ms.length)(ht:-1000000000<=x.t/\x.t<=1000000000)(hk:(xN x).all Od=true):TrC x.a.c (FZ x.a).sp (trT x)/\trT x x.m.toNat=x.t:=by
 have hl:=h.m
 have l1:=yQ x
 have l2:=AWV x
 have b1:gpOk (OG (FZ x.a)) (x.a.c.ms.length-1):=ABO (w:=FZ x.a) h
 have b2:∀g,g<x.a.c.ms.length-1->(OG (FZ x.a) g).lo<=(OG (FZ x.a) g).hi:=AAG (w:=FZ x.a) h
 have b1':gpOk (OG (FZ x.a)) ((uG x).length-1):=by rw[l1];exact b1
 have bd:=λi (hi:i<x.a.c.ms.length)=>BTA h hr ht hi
 have e:∀i,i<x.a.c.ms.length->gD (xN x) i=nar (gD (uG x)) (OG (FZ x.a)) (x.a.c.ms.length-1) i:=λi hi=>by
  have:=ADK (w:=FZ x.a) (l:=uG x) (by omega) (by omega) (λi hi=>bd i (by omega)) b1' (i:=i) (by omega)
  rw[l1] at this
  exact this
 have hle:∀i,i<x.a.c.ms.length->(gD (xN x) i).lo<=(gD (xN x) i).hi:=λi hi=>tS.1 hk i (by omega)
 have arc:ArcOk (gD (xN x)) (OG (FZ x.a)) (x.a.c.ms.length-1):=(BSH (l:=gD (uG x)) b2 (λi hi=>by rw[<-e i (by omega)];exact hle i (by omega))).ext2 λi hi=>(e i (by omega)).symm
 have low:=arc.low
 have eq:∀i,i<x.a.c.ms.length->trT x i=lowT (gD (xN x)) (OG (FZ x.a)) i:=by
  intro i
  induction i with
  |zero=>intro _;rfl
  |succ g ih=>
   intro hg
   have ih:=ih (by omega)
   have at_:=low.at_ g (by omega)
   have nb:=CTJ (l:=gD (uG x)) (s:=OG (FZ x.a)) (n:=x.a.c.ms.length-1) (i:=g) (by omega)
   rw[<-e g (by omega)] at nb
   have bg:=bd g (by omega)
   have gb:=b1 g (by omega)
   show HJ (gD (xN x) (g+1)).lo (wr (trT x g+(OG (FZ x.a) g).lo))=HJ (gD (xN x) (g+1)).lo (lowT (gD (xN x)) (OG (FZ x.a)) g+(OG (FZ x.a) g).lo)
   rw[ih]
   unfold Span.has at at_
   unfold nL at bg
   have w:wr (lowT (gD (xN x)) (OG (FZ x.a)) g+(OG (FZ x.a) g).lo)=lowT (gD (xN x)) (OG (FZ x.a)) g+(OG (FZ x.a) g).lo:=Ap (by omega) (by omega)
   rw[w]
 have low':Tr (gD (xN x)) (OG (FZ x.a)) (x.a.c.ms.length-1) (trT x):=
  ⟨λi hi=>by rw[eq i (by omega)];exact low.at_ i hi,λg hg=>by rw[eq g (by omega),eq (g+1) (by omega)];exact low.gap g hg⟩
 have in1:∀i,i<x.a.c.ms.length->(gD (ZJ x.a) i).has (trT x i)/\(i=x.m.toNat->trT x i=x.t):=λi hi=>by
  have:=low'.at_ i (by omega)
  rw[e i hi] at this
  exact (BAJ hr hi hm.1 _).1 (BTQ (by omega) this)
 refine⟨⟨λi hi=>?_,λk hk=>?_⟩,(in1 _ (by omega)).2 rfl⟩
 ·obtain⟨v,v1,v2⟩:=(BEZ h hr (by omega)).1 (in1 i (by omega)).1
  have:=v1.note (i:=i) (by omega)
  rw[v2] at this;exact this
 ·have:=low'.gap k hk
  rw[hG (w:=FZ x.a) h (by show k+1<x.a.c.ms.length;omega)] at this;exact this
theorem BUZ(x:CT):∀n,hdN x n=true↔∀k,k<n->hd1 x k=true
 |0=>⟨λ_ k h=>absurd h (Nat.not_lt_zero _),λ_=>rfl⟩
 |n+1=>by
  show (hdN x n&&hd1 x n)=true↔_
  rw[Bool.and_eq_true,BUZ x n]
  constructor
  ·rintro⟨h1,h2⟩ k hk
   rcases Nat.lt_or_ge k n with q | q
   ·exact h1 k q
   ·obtain rfl:k=n:=by omega
    exact h2
  ·intro h;exact⟨λk hk=>h k (by omega),h n (Nat.lt_succ_self _)⟩
theorem BSQ(x:CT):∀n,hgN x n=true↔∀k,k<n->hg1 x k=true
 |0=>⟨λ_ k h=>absurd h (Nat.not_lt_zero _),λ_=>rfl⟩
 |n+1=>by
  show (hgN x n&&hg1 x n)=true↔_
  rw[Bool.and_eq_true,BSQ x n]
  constructor
  ·rintro⟨h1,h2⟩ k hk
   rcases Nat.lt_or_ge k n with q | q
   ·exact h1 k q
   ·obtain rfl:k=n:=by omega
    exact h2
  ·intro h;exact⟨λk hk=>h k (by omega),h n (Nat.lt_succ_self _)⟩
theorem BYT{x:CT}(h:ChOk x.c)(hz:N7 ⟨x.c,x.t.z⟩=true)(l1:x.t.t.length=x.c.ms.length)(l2:x.t.s.length=x.c.ms.length)(hb:∀i,i<x.c.ms.length -> -100000000<=gD x.t.t i/\gD x.t.t i<=100000000) :
  (Qs x).2=0/\((Qs x).1=true↔TrC x.c (FZ ⟨x.c,x.t.z⟩).sp (gD x.t.t)/\∀i,i<x.c.ms.length->(YW x.c i).has (gD x.t.s i)):=by
 have hm:=h.m
 have e0:XV (hJ x)=0:=by
  have:N7 (hJ x)=true:=hz
  unfold XV;rw[show AP (hJ x).c=0 from KB.2 h,this];rfl
 have e1:inT x.t.t=true:=List.all_eq_true.2 λa ha=>by
  obtain⟨i,hi,rfl⟩:=Df ha
  exact IX.2 (hb i (by omega))
 have e2:Qs x=(hdN x x.c.ms.length&&hgN x (x.c.ms.length-1),0):=by
  unfold Qs hldO;rw[e0,decide_eq_true (show x.t.t.length=x.c.ms.length/\x.t.s.length=x.c.ms.length from⟨l1,l2⟩),e1];rfl
 rw[e2]
 refine⟨rfl,?_⟩
 show (hdN x x.c.ms.length&&hgN x (x.c.ms.length-1))=true↔_
 rw[Bool.and_eq_true,BUZ,BSQ]
 have a1:∀i,i<x.c.ms.length->(hd1 x i=true↔(iK x.c i).has (gD x.t.t i)/\(YW x.c i).has (gD x.t.s i)):=λi hi=>by
  unfold hd1
  rw[Bool.and_eq_true,IX,IX,tG hi];exact Iff.rfl
 have a2:∀g,g<x.c.ms.length-1->(hg1 x g=true↔(gapP x.c (FZ ⟨x.c,x.t.z⟩).sp g).has (gD x.t.t (g+1)-gD x.t.t g)):=λg hg=>by
  have q1:=hb g (by omega)
  have q2:=hb (g+1) (by omega)
  have w:wr (gD x.t.t (g+1)-gD x.t.t g)=gD x.t.t (g+1)-gD x.t.t g:=Ap (by omega) (by omega)
  unfold hg1
  rw[IX,w]
  have e:=hG (w:=FZ (hJ x)) h (g:=g) (by show g+1<x.c.ms.length;omega)
  rw[e];exact Iff.rfl
 constructor
 ·rintro⟨h1,h2⟩
  exact⟨⟨λi hi=>((a1 i (by omega)).1 (h1 i (by omega))).1,λg hg=>(a2 g hg).1 (h2 g hg)⟩,λi hi=>((a1 i hi).1 (h1 i hi)).2⟩
 ·rintro⟨h1,h2⟩
  exact⟨λi hi=>(a1 i hi).2 ⟨h1.note hi,h2 i hi⟩,λg hg=>(a2 g hg).2 (h1.gap g hg)⟩
end Go.Bal
