/- Package chart: stages. -/
import Derived.Test.YtlblbbidigejkaaGreatChE
set_option linter.unusedVariables false
set_option linter.unusedSimpArgs false
namespace Go.Bal
open Go Go.Sym Go.Proofs
def atMQ(c:Cht)(k:Int):Int:=GM (c.base+GM (c.scale*(gD c.ms k.toNat).ht))
def st0(c:Cht)(k:Int):Span:=⟨GM (atMQ c k-c.off),GM (atMQ c k+c.off)⟩
def lN(c:Cht)(k:Int):Span:=bif hasN c.ns k then T9 (st0 c k) (ntOf c.ns k).s else st0 c k
structure DkI where
 w:Dk
 k:Int
def dDkI:List AVal->Heap->Option (DkI×List (Nat×Nat)×List Nat)
 |[.bptr id _,.d k],H=>match BFK H id with
  |some (w,q)=>some (⟨w,DG k⟩,[(100,id),(101,q)],[])
  |none=>none
 |_,_=>none
def C_stgQ:Ctr:={ ro:=[100,101],α:=DkI,xs:=λa=>[.bptr 100 0,.int a.k],L:=λa=>dkL a.w,val:=λa=>.d (EQ (lN a.w.c a.k)),keep:=λa=>dkK a.w,pre:=λa=>[0<=a.k/\a.k<a.w.c.ms.length] }
def CFA:Ann:={ ann 61 [(66,C_com.spec CIZ)] with E:=[100,101] }
def CCO(a:DkI):Prop:=AS ZP CFA Tryz.f100 (AG Tryz.f100) (C_stgQ.xs a) (AC (C_stgQ.L a)) (C_stgQ.val a) (C_stgQ.keep a) [] []
abbrev dV:=DkI.k
abbrev Oa:=DkI.w
abbrev vI:=@HMul.hMul Int Int Int (@instHMul Int Int.instMul)
abbrev APR:=lN
abbrev AEH:=Span.mk
abbrev Wm a b c d:=YL a b (And c d)
abbrev cH a b:=BAP a 40 (Jr b a)
abbrev VN a:=AE (λi=>cH i a)
abbrev jT a b c(d:Nat->Prop) e f g:=AZS a b c d (VN e) f e g
abbrev Lb a b c(d:Nat->Prop) e f g:=jT a b (UE c) d e f g
abbrev AGT a:=ATS (GU a) a
abbrev BDD a b c(d:Nat->Prop) e f:=Lb (Wj a) (AGT b) c d e f (wV e)
abbrev bU a:=AOL (λi=>Dx a i)
abbrev QN a:=BK (Oa a)
abbrev Ug a b c:=AN a (CP b c)
abbrev qE a:=Sk (QN a)
abbrev UC a b:=bI (vI a b)
abbrev BEJ a b c:=CP a (UC b c)
abbrev oA a b c:=BEJ (Xr (QN a)) (K4 (QN b)) c
abbrev uP a b:=pW (YS (Oa a)) (OY (dV b))
abbrev Vp a:=hd83 1 (λi=>a)
abbrev Hr a b c d:=BBG a (PN b) b c d
abbrev AKY a:=DC a a
abbrev B6:=AKY 1
abbrev TH a b:=BB (PN a) b
attribute [go_sem] dV Oa vI APR AEH Wm cH VN jT Lb AGT BDD bU QN Ug qE UC BEJ oA uP Vp Hr AKY B6 TH
theorem CQL(a:DkI):(CCO a)=(AQ (FV (dV a) (GU (Oa a))) (BEM (BFR (BIA (AWQ (AQE hd20 0) (gU (AQE hd20 0) BGM)))) zNt) (Wm (Dx (QN a) (dV a)) (PU (BW (AI (CW (oA a a (uP a a)) (qE a))) (AI (CP (oA a a (uP a a)) (qE a))) (TH (Vp (hd23 (MU (Oa a) (dV a)))) 1) B6 (AE (λi=>Hr i (Vp (hd23 (MU (Oa a) (dV a)))) (Di (MU (Oa a) (dV a))) (El (MU (Oa a) (dV a))))) CY) (fT (APR (QN a) (dV a)) (IP (comM (SL.mk (AEH (CW (oA a a (uP a a)) (qE a)) (CP (oA a a (uP a a)) (qE a))) (Vp (hd23 (MU (Oa a) (dV a)))))))) (AN (GN (APR (QN a) (dV a))) (GN (comM (SL.mk (AEH (CW (oA a a (uP a a)) (qE a)) (CP (oA a a (uP a a)) (qE a))) (Vp (hd23 (MU (Oa a) (dV a)))))))) (QN a) (EN (QN a)) (FC (QN a)) (BDD (Oa a) (Oa a) (QN a) (λi=>gB i (QN a) (Oa a) i) (Oa a) (bU (QN a)))) (fT (APR (QN a) (dV a)) (CW (oA a a (uP a a)) (qE a))) (LZ (Ug (GN (APR (QN a) (dV a))) (oA a a (uP a a)) (qE a)) (GA (QN a)) (DO (NL (QN a)) (Xr (QN a)) (K4 (QN a)) (FC (QN a)) (BDD (Oa a) (Oa a) (QN a) (λi=>gB i (QN a) (Oa a) i) (Oa a) (bU (QN a))))))):=by kernel_rfl
theorem DCP(a:DkI)(h:0<=a.k/\a.k<a.w.c.ms.length):CCO a:=by
 rw[CQL]<;> dsimp only[go_sem];simp only[P3,CU]
 cases hq:hasN a.w.c.ns a.k with
 |true=>
  have e:lN a.w.c a.k=T9 (st0 a.w.c a.k) (ntOf a.w.c.ns a.k).s:=by unfold lN;rw[hq];rfl
  refine⟨h,rfl,λ_=>⟨⟨by omega,λj hj=>?_⟩,?_,?_⟩,λh=>by cases h⟩
  ·rw[CS _ _ _ hj];exact⟨rfl,rfl⟩
  ·rw[e];rfl
  ·rw[e];rfl
 |false=>
  have e:lN a.w.c a.k=st0 a.w.c a.k:=by unfold lN;rw[hq];rfl
  refine⟨h,rfl,(λh=>by cases h),λ_=>⟨?_,?_⟩⟩
  ·rw[e];rfl
  ·rw[e];rfl
theorem CPV:AH ZP 100 (C_stgQ.spec dDkI):=MK C_stgQ (λ_=>CFA) [] [] Tryz.func100 (λ_=>by kernel_rfl) (λ_=>AA CAF AD) (λa h=>DCP a h) (λ_=>OA rfl rfl) _
def rowS(l:List Span):AObj:=.row 2 l.length λi=>EQ (gD l i)
def C4SaO:Ctr:={ ro:=[100],α:=MSa,xs:=λa=>[.own 100 2 0 a.l.length,fvSa a.q],L:=λa=>[(100,rowS a.l)],val:=λa=>.bool (a.l.all lZ),keep:=λa=>[(100,.live (rowS a.l))],pre:=PSa }
def CUL:List AVal->Heap->Option (MSa×List (Nat×Nat)×List Nat)
 |[.own id _ _ _,.fn _ _ _],H=>match H id with
  | .live (.row _ n g)=>some (⟨default,HQ n λi=>VB (g i)⟩,[(100,id)],[])
  |_=>none
 |_,_=>none
def C4SnO:Ctr:={ ro:=[100],α:=MSn,xs:=λa=>[.own 100 2 0 a.l.length,fvSn a.q],L:=λa=>[(100,rowS a.l)],val:=λa=>.bool (a.l.all lZ),keep:=λa=>[(100,.live (rowS a.l))],pre:=PSn }
def CSH:List AVal->Heap->Option (MSn×List (Nat×Nat)×List Nat)
 |[.own id _ _ _,.fn _ _ _],H=>match H id with
  | .live (.row _ n g)=>some (⟨default,HQ n λi=>VB (g i)⟩,[(100,id)],[])
  |_=>none
 |_,_=>none
theorem CXD:AH ZP 67 (C4SaO.spec CUL):=okT C4SaO (λ(a:MSa) h=>by
 have hf:=CUF a h
 refine FnT.lend (fz:=[100]) (xs:=[.own 100 2 0 a.l.length,fvSa a.q]) (L:=[(100,rowS a.l)]) hf rfl ?_ rfl ?_ _ ?_
 ·show [AVal.d (.list 2 a.l.length (λj=>EQ (gD a.l (0+j))) false),_]=_
  simp only[Nat.zero_add];rfl
 ·show 0+a.l.length<=a.l.length;omega
 ·exact⟨rfl,trivial⟩) _
theorem CVH:AH ZP 67 (C4SnO.spec CSH):=okT C4SnO (λ(a:MSn) h=>by
 have hf:=CZA a h
 refine FnT.lend (fz:=[100]) (xs:=[.own 100 2 0 a.l.length,fvSn a.q]) (L:=[(100,rowS a.l)]) hf rfl ?_ rfl ?_ _ ?_
 ·show [AVal.d (.list 2 a.l.length (λj=>EQ (gD a.l (0+j))) false),_]=_
  simp only[Nat.zero_add];rfl
 ·show 0+a.l.length<=a.l.length;omega
 ·exact⟨rfl,trivial⟩) _
def Eo(c:Cht):List Span:=HQ c.ms.length λi=>lN c (i:Int)
def N0(c:Cht):Bool:=(Eo c).all lZ
def dDk1:List AVal->Heap->Option (Dk×List (Nat×Nat)×List Nat)
 |[.bptr id _],H=>match BFK H id with
  |some (w,q)=>some (w,[(100,id),(101,q)],[])
  |none=>none
 |_,_=>none
def C_all:Ctr:={ ro:=[100,101],α:=Dk,xs:=λ_=>[.bptr 100 0],L:=λw=>dkL w,val:=λw=>.tup [.d (NX (Eo w.c)),.bool (N0 w.c)],keep:=λw=>dkK w,pre:=λw=>[1<=w.c.ms.length/\w.c.ms.length<=40] }
def al3n(w:Dk):Shape:={ α:=One,dflt:=default,T:=λ_=>⟨[(0,.bptr 100 0),(4,.d JX),(11,.int w.c.ms.length),(12,.int 0)],dkK w⟩,inv:=λ_=>True,meas:=λ_=>50 }
def al3o(w:Dk):Shape:={ α:=Nat,dflt:=0,T:=λk=>⟨[(0,.bptr 100 0),(4,.own 202 2 0 k),(11,.int w.c.ms.length),(12,.int k)],dkK w ++ [(202,.live (.row 2 k λi=>EQ (lN w.c (i:Int))))]⟩,inv:=λk=>1<=k/\k<=w.c.ms.length,meas:=λk=>40-k,again:=[(202,6080)] }
def CRZ(w:Dk):Ann:={ ann 25 [(100,C_stgQ.spec dDkI),(67,orSQ (C4SaO.spec CUL) (C4Sa.spec d4Sa))] with E:=[100,101],mt:=λid=>id==5,loops:=λid=>if id=3 then some [al3n w,al3o w] else none }
def CRO(w:Dk):Prop:=AS ZP (CRZ w) Tryz.f62 (AG Tryz.f62) (C_all.xs w) (AC (C_all.L w)) (C_all.val w) (C_all.keep w) [] [202]
abbrev Nq:=@Exists One
abbrev Xh:=λ(f:One->Prop)=>∀(x:One),f x
abbrev dG:=Eo
abbrev AFC:=@HMul.hMul Nat Nat Nat (@instHMul Nat instMulNat)
abbrev dT:=λ(x0 x1:Nat)=>decide (x0<x1)
abbrev Un a b c(d:Nat->Prop) e f:=BDD a b c d e (iR f)
abbrev Vb a b c d:=gB a (BK b) c d
abbrev RS a:=FC (BK a)
abbrev WZ a:=EN (BK a)
abbrev WP a:=GE (BK a)
abbrev SP a:=NL (BK a)
abbrev BAZ a b:=APR a (AZ b)
abbrev Gk a b:=BAZ (BK a) b
abbrev Rk a b c:=Hr a b (IP c) (GN c)
abbrev APG a b:=DC (AJ a) b
abbrev LU a:=APG a a
abbrev lA a b:=AQ a a b
abbrev UY a b(c:Nat->Prop) d e:=CB a b (AE c) d e
abbrev UU a b c d e:=Bh a b (IP c) d (GN c) e
abbrev AB:=BI 0
abbrev AGW a b:=VU 1 a b
abbrev JH a b:=AGW a (DC a b)
abbrev VK a:=And AB a
abbrev BF a b c d:=vE (dT a b) c d
abbrev AGK a:=BPU (BK a) a
abbrev HN a:=JM a 1
abbrev OK a b:=BB a (HN b)
abbrev Qn a:=KC (BK a)
abbrev Yv a:=DC a 140737488355328
abbrev nB a b:=AFC (HN a) b
abbrev BPE a b:=DC (HN a) b
abbrev mM a:=BPE a 9223372036854775807
abbrev Iq a:=OB 0 a
abbrev aG:=RN P8 (Iq 1)
abbrev Zj a:=And B6 a
abbrev BKX a b c:=HB a b (BI c)
abbrev aJ a b:=BKX 0 a b
abbrev aB a b:=Wt a (aJ a b)
abbrev mP a:=TH a 0
abbrev AHY a b c:=AO a a b c
abbrev AAK:=JY 0
abbrev La a b c d:=UU a b c (IP d) (GN d)
abbrev XS a:=BB a 1
abbrev SK:=JF 0
abbrev LS a:=DC 1 a
abbrev Lo:=LS 9223372036854775807
abbrev AIX a:=TD CY a
abbrev Ro:=AIX (Iq 1)
abbrev CEP a b:=HB a a b
abbrev AII a b c:=And a (CEP b c)
abbrev ABZ a:=AII EB 0 (BB 0 a)
abbrev Gf a:=Uo 0 a
abbrev DJ a b:=AN a (wM b)
abbrev uU a:=DJ a 0
abbrev F6 a b:=cT a (AZ b)
abbrev AK:=ADM 0
attribute [go_sem] Nq Xh dG AFC dT Un Vb RS WZ WP SP BAZ Gk Rk APG LU lA UY UU AB AGW JH VK BF AGK HN OK Qn Yv nB BPE mM Iq aG Zj BKX aJ aB mP AHY AAK La XS SK LS Lo AIX Ro CEP AII ABZ Gf DJ uU F6 AK
theorem CVZ(w:Dk):(CRO w)=(Mp (Nq (λi=>EM AB (ACD AK (BY (GU w)) AU (BK w) (SP w) (WP w) (WZ w) (RS w) (Un w w (BK w) (λj=>Vb j w w j) w w)) EB)) (Xh (λi=>Km EB (F6 0 (GU w)) (LZ (uU 0) (GA (BK w)) (AP (SP w) (WP w) (WZ w) (RS w) (oT (HY w) w) (tI (HY w) (Fc w) w) (eK (II w) (BK w)) (AE (λj=>Hx j (II w) (J8 (BK w) j (VH w j)))) (AP (VN w) FE (AM (λj=>WK (II w) j (QI w j))) (MA w) (AM (λj=>gW (Wh w j) w j)) (Qn w) (SP w) (WP w) (BU (WZ w) (RS w) (tN w (HY w)) (US (GU w) (YS w) (Fc w)) (uI (BK w) (Xt (II w))) (AE (λj=>AAU j (BK w) j (VH w j) j)) (λj=>cH j w) FE (AP (AM (λj=>Ch (QI w j) (II w) j)) (MA w) (AM (λj=>Hy (MU w j) (Wh w j))) (And YV (Gf (HY w))) (ABZ 2) (Zj (aJ 1 2)) Ro Lo (Yv 16)))))) (EA (λj=>Kv (VK (LZ (XS j) (AZ (GU w)) (AP (TO j SK) (Qn w) (SP w) (WP w) (WZ w) (RS w) (Wj w) (AGT w) (XH (UE (BK w)) (λk=>Vb k w w k) (VN w) FE (iR w) (MA w) (wV w) (XS j) (AE (λk=>La k j (Gk w k) (APR (AGK w) 0))))))) (JH j (GU w)) 40 j 50)) (And (AHY AB AAK EB) (ACD (mP (dG (BK w))) (mP (dG (BK w))) (GT (N0 (BK w))) (BK w) (SP w) (WP w) (WZ w) (RS w) (Un w w (BK w) (λj=>Vb j w w j) w w))))) (λi=>Mm (JH i (GU w)) i (GU w) (KD (AZ i) (GA (BK w)) (AP (SP w) (WP w) (WZ w) (RS w) (oT (HY w) w) (tI (HY w) (Fc w) w) (eK (II w) (BK w)) (AE (λj=>Hx j (II w) (J8 (BK w) j (VH w j)))) (AP (VN w) FE (AM (λj=>WK (II w) j (QI w j))) (MA w) (AM (λj=>gW (Wh w j) w j)) (Qn w) (SP w) (WP w) (BU (WZ w) (RS w) (tN w (HY w)) (US (GU w) (YS w) (Fc w)) (uI (BK w) (Xt (II w))) (AE (λj=>AAU j (BK w) j (VH w j) j)) (λj=>cH j w) FE (AP (AM (λj=>Ch (QI w j) (II w) j)) (MA w) (AM (λj=>Hy (MU w j) (Wh w j))) (CL i (HY w)) (aB i 2) (Zj (aJ 1 2)) aG (mM i) (Yv (nB i 16))))))) (EA (λj=>EO (VK (LZ (OK j i) (AZ (GU w)) (AP (AR j i) (Qn w) (SP w) (WP w) (WZ w) (RS w) (Wj w) (AGT w) (XH (UE (BK w)) (λk=>Vb k w w k) (VN w) FE (iR w) (MA w) (wV w) (OK j i) (AE (λk=>UU k j (Gk w k) (BF k i (IP (Gk w k)) (IP (BAZ (AGK w) i))) (BF k i (GN (Gk w k)) (GN (BAZ (AGK w) i))))))))) (JH j (GU w)) 40 j i)) (CV AB (lA (TH (hd83 i (λj=>Gk w j)) i) (UY (AE (λj=>Rk j (hd83 i (λk=>Gk w k)) (Gk w j))) (eS i (hd83 i (λj=>Gk w j))) (λj=>UU j i (Gk w j) (FY (hd83 i (λk=>Gk w k)) j) (FT (hd83 i (λk=>Gk w k)) j)) (JY (PN (hd83 i (λj=>Gk w j)))) EB)) (TH (dG (BK w)) i) (ACD (LU i) (AE (λj=>Rk j (dG (BK w)) (Gk w (AJ j)))) (Sr (N0 (BK w)) (hd84 (hd83 i (λj=>Gk w j)) lZ)) (BK w) (SP w) (WP w) (WZ w) (RS w) (Un w w (BK w) (λj=>Vb j w w j) w w))))):=by kernel_rfl
theorem DAZ(w:Dk)(h:1<=w.c.ms.length/\w.c.ms.length<=40):CRO w:=by
 obtain⟨h1,h2⟩:=h
 rw[CVZ]<;> dsimp only[go_sem];simp only[P3,CU,Kg]
 refine⟨⟨default,trivial⟩,⟨λh0=>⟨⟨rfl,by omega,by omega,by omega,by omega,by omega,by omega⟩,1,⟨rfl,rfl,rfl,λi hi=>?_⟩,by omega,by omega⟩,λh0=>absurd h0 (by omega)⟩,λk hk=>⟨λhlt=>⟨⟨by omega,by omega,(λh=>by cases h),by omega,by omega⟩,k+1,⟨rfl,(BJ (by omega)).symm,rfl,λi hi=>?_⟩,by omega,by omega⟩,λhge=>?_⟩⟩
 ·obtain rfl:i=0:=by omega
  exact⟨rfl,rfl⟩
 ·by_cases h:i<k
  ·simp[h]
  ·obtain rfl:i=k:=by omega
   simp
 ·obtain rfl:k=w.c.ms.length:=by omega
  refine⟨⟨λi hi=>?_,λi hi=>?_,by omega⟩,rng_length _ _,by omega,λj hj=>?_,rfl⟩
  ·rw[CS _ _ _ hi];exact⟨rfl,rfl⟩
  ·rw[CS _ _ _ hi];exact⟨rfl,rfl⟩
  ·have hj:j<w.c.ms.length:=by simpa[Eo] using hj
   unfold Eo;rw[CS _ _ _ hj];exact⟨rfl,rfl⟩
theorem BMX:AH ZP 62 (C_all.spec dDk1):=MK C_all CRZ [] [202] Tryz.func62 (λ_=>by kernel_rfl) (λ_=>AA CPV (AA (CQH CXD DBP) AD)) (λw h=>DAZ w h) (λ_=>OA rfl rfl) _
def dU2:List AVal->Option I2Q
 |[.d (.v (.int .u64 a)),.d (.v (.int .u64 b))]=>some ⟨a,b⟩
 |_=>none
def xU2(x:I2Q):List AVal:=[.d (.v (.int .u64 x.a)),.d (.v (.int .u64 x.b))]
def BVM(x:I2Q):Prop:=AS ZP (ann 51 []) Tryz.f164 (AG Tryz.f164) (xU2 x) (AC []) (.tup [.d (.v (.int .u64 0)),.d (.v (.int .u64 x.b))]) [] [] []
abbrev AFG:=I2Q.a
abbrev vS:=I2Q.b
abbrev Rw a:=IntKind.wrap IntKind.u64 a
abbrev zN a b:=Rw (vI a b)
abbrev BKV a b c:=(@HDiv.hDiv Int Int Int (@instHDiv Int Int.instDiv)) a ((@HPow.hPow Int Nat Int (@instHPow Int Nat (@instPowNat Int Int.instNatPow))) b c)
abbrev APH a b:=BKV a 2 (OY b)
abbrev kA a:=APH a 32
abbrev sQ a:=andI IntKind.u64 a 4294967295
abbrev Er a b:=Uh a (KM a b)
attribute [go_sem] AFG vS Rw zN BKV APH kA sQ Er
theorem CDB(x:I2Q):(BVM x)=(lA (Er 32 (AZ 64)) (CBM (Er 32 (AZ 64)) (AN 0 (Rw (hd49 (Rw (hd49 (zN (kA (AFG x)) (kA (vS x))) (kA (Rw (hd49 (zN (kA (AFG x)) (sQ (vS x))) (kA (zN (sQ (AFG x)) (sQ (vS x))))))))) (kA (Rw (hd49 (sQ (Rw (hd49 (zN (kA (AFG x)) (sQ (vS x))) (kA (zN (sQ (AFG x)) (sQ (vS x))))))) (zN (sQ (AFG x)) (kA (vS x))))))))) (AN (vS x) (zN (AFG x) (vS x))))):=by kernel_rfl
def AGA:=pDQ dU2 (λx=>.tup [.d (.v (.int .u64 0)),.d (.v (.int .u64 x.b))]) (λx=>[x.a=1/\0<=x.b/\x.b<=40])
def CUA(x:I2Q):Prop:=AS ZP (ann 30 [(164,AGA)]) Tryz.f153 (AG Tryz.f153) (xU2 x) (AC []) (.tup [.d (.v (.int .u64 0)),.d (.v (.int .u64 x.b))]) [] [] []
abbrev xE:=wM 0
attribute [go_sem] xE
theorem CVM(x:I2Q):(CUA x)=(kG (WU (AN (AFG x) 1) (vS x) (KM (vS x) 40)) xE (vS x)):=by kernel_rfl
theorem hU2(xs:List AVal)(a:I2Q)(h:dU2 xs=some a):xs=xU2 a:=by
 unfold dU2 at h;split at h<;>cases h;rfl
theorem DCX{n:Int}(h0:0<=n)(h1:n<18446744073709551616):IntKind.u64.wrap n=n:=by
 simp only[IntKind.wrap,IntKind.bits,IntKind.signed]
 have:n % (2 ^ 64:Int)=n:=Int.emod_eq_of_lt h0 (by omega)
 simp only[this]
 simp
theorem CDI:AH ZP 164 AGA:=Y8 xU2 hU2 λx h=>TF (A:=ann 51 []) (ren:=[]) (fz:=[]) Tryz.func164 (by kernel_rfl) AD (by
 show BVM x;rw[CDB]<;> dsimp only[go_sem]
 obtain⟨a,b⟩:=x
 obtain⟨h1,h2,h3⟩:a=1/\0<=b/\b<=40:=h
 subst h1
 obtain⟨n,rfl⟩:=Int.eq_ofNat_of_zero_le h2
 have hn:n<41:=by omega
 clear h2 h3
 revert hn;revert n;decide +kernel)
theorem CWF:AH ZP 153 AGA:=Y8 xU2 hU2 λx h=>TF (A:=ann 30 [(164,AGA)]) (ren:=[]) (fz:=[]) Tryz.func153 (by kernel_rfl) (AA CDI AD) (by
 show CUA x;rw[CVM]<;> dsimp only[go_sem];exact⟨h,rfl,rfl⟩)
def sng(s:Span):List Span:=[s]
def zSp:Span:=⟨0,0⟩
structure SpN where
 s:Span
 n:Nat
def C_rep:Ctr:={ α:=SpN,xs:=λa=>[.d (NX (sng a.s)),.int a.n],val:=λa=>.own 0 2 0 a.n,keep:=λa=>[(0,.live (.row 2 a.n λ_=>EQ a.s))],pre:=λa=>[1<=a.n/\a.n<=40] }
def CSG:List AVal->Heap->Option (SpN×List (Nat×Nat)×List Nat)
 |[y,.d n],H=>match AQD y H with
  |some (l,f)=>some (⟨gD l 0,(DG n).toNat⟩,[],f)
  |none=>none
 |_,_=>none
def rp8(a:SpN):Shape:={ α:=Nat,dflt:=0,T:=λk=>⟨[(7,.own 201 2 0 a.n),(8,.int k)],[(201,.live (.row 2 a.n λi=>EQ (bif decide (i<k) then a.s else zSp)))]⟩,inv:=λk=>1<=k/\k<=a.n,meas:=λk=>a.n-k,first:=[(201,7032)] }
def CRV(a:SpN):Ann:={ ann 48 [(153,AGA)] with loops:=λid=>if id=8 then some [rp8 a] else none }
def CSC(a:SpN):Prop:=AS ZP (CRV a) Tryz.f128 (AG Tryz.f128) (C_rep.xs a) (AC []) (C_rep.val a) (C_rep.keep a) [(0,201)] []
abbrev U9:=SpN.s
abbrev Ji:=SpN.n
abbrev ATK:=@min Nat instMinNat
abbrev lU:=@cond Span
abbrev CHG:=λ(x0 x1:Nat)=>decide (x0<=x1)
abbrev xB a b c d:=CB a b c b d
abbrev MQ a:=AJ (OY a)
abbrev Y3:=AI 0
abbrev AJM a:=AZ (Ji a)
abbrev ABA a:=IM (AZ a)
abbrev Uz a b:=Uo (AZ a) b
abbrev xK a b c:=AQ a (LS b) c
abbrev D4 a:=sng (U9 a)
abbrev ANY a:=Rw (AJM a)
abbrev aK a:=bI (ANY a)
abbrev AT a b:=TO a (AZ b)
abbrev ABV a:=hd94 a 0
attribute [go_sem] U9 Ji ATK lU CHG xB MQ Y3 AJM ABA Uz xK D4 ANY aK AT ABV
theorem CWS(a:SpN):(CSC a)=(And (WU (AN (Rw (AZ (PN (D4 a)))) 1) (ANY a) (KM (ANY a) 40)) (Ba (ABV 0) (hd94 (ANY a) 9223372036854775807) Tt (Hl (Uh (aK a) (AQ (AI (aK a)) (KM (aK a) 9223372036854775807) (KM (vI (AZ 16) (aK a)) 281474976710656))) (EM EB (aJ (PN (D4 a)) 2) (MH (OY (aK a)) (OY (aK a)))) (EA (λi=>xK (xB AB (BB (Ji a) (OY (aK a))) (AT i (ATK (PN (D4 a)) (OY (aK a)))) (AE (λj=>UU j (Ji a) (lU (dT j i) (U9 a) zSp) (BF j (ATK (PN (D4 a)) (OY (aK a))) (FY (D4 a) j) 0) (BF j (ATK (PN (D4 a)) (OY (aK a))) (FT (D4 a) j) 0)))) i (DC i (Ji a)))) (λi=>Mm (JH i (Ji a)) i (Ji a) (AO (Uh (AZ i) (AQ (KM (AZ i) (AJM a)) (KM (AJM a) (AJM a)) (Or (BC i) (Uz i (Ji a))))) (AO YV (ABA i) (KM (AZ i) (AJM a)) (Or Y3 (Gf i))) (VU (AJ (Bu i)) (Ji a) (aJ (Bu i) 2)) (MH (JM (AJ i) (KO (Ji a) i)) (Ji a))) (EA (λj=>EO (xB AB (BI (Ji a)) (TO j (CP (AZ i) (AZ (ATK (KO i LP) (KO (Ji a) i))))) (AE (λk=>UU k (Ji a) (lU (dT k j) (U9 a) zSp) (vE (and (CHG (AJ i) k) (dT k (JM (AJ i) (ATK (KO i LP) (KO (Ji a) i))))) (IP (lU (dT (JM (MQ 0) (KO k (AJ i))) i) (U9 a) zSp)) (IP (lU (dT k i) (U9 a) zSp))) (vE (and (CHG (AJ i) k) (dT k (JM (AJ i) (ATK (KO i LP) (KO (Ji a) i))))) (GN (lU (dT (JM (MQ 0) (KO k (AJ i))) i) (U9 a) zSp)) (GN (lU (dT k i) (U9 a) zSp)))))) (JH j (Ji a)) (Ji a) j i)) (VK (lA (BI (Ji a)) (AE (λj=>La j (Ji a) (U9 a) (lU (dT j i) (U9 a) zSp))))))))):=by kernel_rfl
theorem DDC(a:SpN)(h:1<=a.n/\a.n<=40):CSC a:=by
 obtain⟨h1,h2⟩:=h
 have e1:IntKind.u64.wrap (a.n:Int)=a.n:=DCX (by omega) (by omega)
 have e2:IntKind.i64.wrap (a.n:Int)=a.n:=ER (by omega) (by omega)
 have e3:(sng a.s).length=1:=rfl
 rw[CWS]<;> dsimp only[go_sem];simp only[P3,CU,e1,e2,e3,Nat.sub_zero,Int.toNat_zero]
 refine⟨⟨rfl,by omega,by omega⟩,λh=>?_,λ_=>⟨⟨by omega,by omega,by omega⟩,by omega,⟨1,⟨by omega,λi hi=>?_⟩,by omega,by omega⟩,λk hk=>⟨λhlt=>⟨⟨by omega,by omega,by omega⟩,min (2*k) a.n,⟨?_,λi hi=>?_⟩,by omega,by omega⟩,λhge i hi=>?_⟩⟩⟩
 ·simp at h;omega
 ·by_cases h:i<1
  ·obtain rfl:i=0:=by omega
   have:0<min 1 a.n:=by omega
   simp[this];exact⟨rfl,rfl⟩
  ·have:¬ i<min 1 a.n:=by omega
   simp[h,this,zSp]
 ·rw[ER (by omega) (by omega)];omega
 ·have e:(decide (k<=i)&&decide (i<k+min k (a.n-k)))=(decide (k<=i)&&decide (i<min (2*k) a.n)):=by
   congr 1;rw[decide_eq_decide];omega
  rw[e]
  by_cases q1:k<=i
  ·by_cases q2:i<min (2*k) a.n
   ·have q3:i-k<k:=by omega
    simp[q1,q2,q3]
   ·have q4:¬ i<k:=by omega
    simp[q1,q2,q4]
  ·have q2:i<min (2*k) a.n:=by omega
   have q3:i<k:=by omega
   simp[q1,q2,q3]
 ·have:i<k:=by omega
  simp[this]
theorem CWB:AH ZP 128 (C_rep.spec CSG):=MK C_rep CRV [(0,201)] [] Tryz.func128 (λ_=>by kernel_rfl) (λ_=>AA CWF AD) (λa h=>DDC a h) (λ_=>OA rfl rfl) _
def dSs1:List AVal->Heap->Option (List Span×List (Nat×Nat)×List Nat)
 |[y],H=>match AQD y H with
  |some (l,f)=>some (l,[],f)
  |none=>none
 |_,_=>none
def C_clo:Ctr:={ α:=List Span,xs:=λl=>[.d (NX l)],val:=λl=>.own 0 2 0 l.length,keep:=λl=>[(0,.live (rowS l))],pre:=λl=>[0<l.length/\l.length<1073741824] }
def CRQ:Ann:={ ann 8 [] with mt:=λid=>id==3 }
def CRP(l:List Span):Prop:=AS ZP CRQ Tryz.f64 (AG Tryz.f64) (C_clo.xs l) (AC []) (C_clo.val l) (C_clo.keep l) [(0,4032)] []
abbrev ALU a b c d:=CB a b c c d
abbrev Ep a b c d e f:=CB a b c d (DC e f)
abbrev Pn a b c d e f g:=Ep a (And b c) d e f g
abbrev ANG a b c d e f:=Pn a b c d e f 140737488355328
abbrev AJD a b c d e f g:=ANG a b (aJ c d) e f g
abbrev Y9 a:=RN P8 (Iq a)
abbrev GI:=BI 2
attribute [go_sem] ALU Ep Pn ANG AJD Y9 GI
theorem CVQ(l:List Span):(CRP l)=(And (FI 0 (PN l)) (ALU (AJD (AII AB 0 GI) EB (PN l) 2 (Y9 (PN l)) (APG (PN l) 9223372036854775807) (AFC (AJ (PN l)) 16)) AB (TH l (AJ (PN l))) (AE (λi=>Hr i l (FY l (Bu i)) (FT l (Bu i)))))):=by kernel_rfl
theorem BZF:AH ZP 64 (C_clo.spec dSs1):=MK C_clo (λ_=>CRQ) [(0,4032)] [] Tryz.func64 (λ_=>by kernel_rfl) (λ_=>AD) (λ(l:List Span) h=>by
 show CRP l;rw[CVQ]<;> dsimp only[go_sem];simp only[P3,CU]
 obtain⟨h1,h2⟩:0<l.length/\l.length<1073741824:=h
 exact⟨h1,⟨λ_=>h1,by omega,by omega⟩,λ_ _=>⟨rfl,rfl⟩⟩) (λ_=>OA rfl rfl) _
def farS:Span:=⟨-100000000,100000000⟩
def notM(c:Cht)(j:Int):Span:=bif hasN c.ns j then (ntOf c.ns j).t else farS
def xC(c:Cht):List Span:=HQ c.ms.length λi=>notM c (i:Int)
structure Sn where
 seen:Int->Bool
 deriving Inhabited
def left(c:Cht)(seen:Int->Bool):Nat->Nat
 |0=>0
 |k+1=>left c seen k+bif (hasN c.ns (k:Int)&&!seen (k:Int)) then 1 else 0
def nt3(w:Dk):Shape:={ α:=Sn,dflt:=default,T:=λs=>⟨[(3,.own 202 2 0 w.c.ms.length),(19,.bptr 203 0)],dkK w ++ [(202,.live (.row 2 w.c.ms.length λi=>EQ (bif s.seen (i:Int) then (ntOf w.c.ns (i:Int)).t else farS))),(203,.live (.miter 101 (hasN w.c.ns) w.st s.seen none))]⟩,inv:=λs=>∀j,s.seen j=true->hasN w.c.ns j=true,meas:=λs=>left w.c s.seen w.c.ms.length,first:=[(202,2128),(203,3064)] }
def nsIn(c:Cht):Prop:=∀j,hasN c.ns j=true->0<=j/\j<c.ms.length
def C_not:Ctr:={ ro:=[100,101],α:=Dk,xs:=λ_=>[.bptr 100 0],L:=λw=>dkL w,val:=λw=>.d (NX (xC w.c)),keep:=λw=>dkK w,pre:=λw=>[1<=w.c.ms.length/\w.c.ms.length<=40/\nsIn w.c] }
def CTF(w:Dk):Ann:={ ann 31 [(128,C_rep.spec CSG)] with E:=[100,101],md:=λid=>if id=2 then some (λk=>if k=4 then 5 else 0) else if id=3 then some (λk=>if k=0 then 6 else 0) else if id=4 then some (λk=>if k=0 then 7 else 0) else none,loops:=λid=>if id=3 then some [nt3 w] else none }
def CSK(w:Dk):Prop:=AS ZP (CTF w) Tryz.f99 (AG Tryz.f99) (C_not.xs w) (AC (C_not.L w)) (C_not.val w) (C_not.keep w) [] [202]
abbrev Xi:=Sn.seen
abbrev ACA a b c d:=vE (BHS a b) c d
abbrev OQ a b c d:=ACA a (MQ b) c d
abbrev Pm a b(c:Nat->Prop) d e f g h p:=AP a b (AE c) d e f g h p
attribute [go_sem] Xi ACA OQ Pm
theorem CXR(w:Dk):(CSK w)=(AQ (Wt 1 (PO B6 (AE (λi=>BBG i 1 (sng (hd33 (Vp (AEH (-100000000) 100000000)) 0)) (-100000000) 100000000)) (AZ (GU w)) (LS (GU w)) (Zr (GU w)))) ((@Exists Sn) (λi=>And (PO AB (Wj w) (GA (BK w)) (SP w) (BV (WP w) (WZ w) (RS w) (Wj w) (AGT w) (FU (BK w)) (λj=>Vb j w w j) (VN w) (BFX FE (iR w) (MA w) (wV w) (Wj w) (AE (λj=>UU j (GU w) (lU (Xi i (AZ j)) (hd22 (MU w (AZ j))) farS) (FY (Vp (AEH (-100000000) 100000000)) 0) (FT (Vp (AEH (-100000000) 100000000)) 0))) (MA w) (AM (λj=>Hd (Xi i j)))))) (AM (λj=>RN (Xi i j) (GT (QI w j)))))) ((λ(f:Sn->Prop)=>∀(x:Sn),f x) (λi=>TD (AM (λj=>RN (Xi i j) (GT (QI w j)))) (AO (iR w) (MA w) (TD (AM (λj=>RN (QI w j) (GT (Xi i j)))) (Pm (TH (xC (BK w)) (GU w)) (LU (GU w)) (λj=>Rk j (xC (BK w)) (lU (Xi i (AZ (AJ j))) (hd22 (MU w (AZ (AJ j)))) farS)) (Qn w) (SP w) (WP w) (WZ w) (RS w) (Un w w (BK w) (λj=>Vb j w w j) w w))) (AM (λj=>RN (QI w j) (TD (Hd (Xi i j)) (AO (iR w) (MA w) (And (FV j (GU w)) (FI (MQ j) (GU w))) ((@Exists Sn) (λk=>NT (PO AB (Wj w) (GA (BK w)) (SP w) (BV (WP w) (WZ w) (RS w) (Wj w) (AGT w) (FU (BK w)) (λl=>Vb l w w l) (VN w) (BFX FE (iR w) (MA w) (wV w) (Wj w) (AE (λl=>UU l (GU w) (lU (Xi k (AZ l)) (hd22 (MU w (AZ l))) farS) (OQ l j (QX (MU w j)) (IP (lU (Xi i (AZ l)) (hd22 (MU w (AZ l))) farS))) (OQ l j (Bw (MU w j)) (GN (lU (Xi i (AZ l)) (hd22 (MU w (AZ l))) farS))))) (MA w) (AM (λl=>Sr (Xi k l) (or (BJA l j) (Xi i l))))))) (AM (λl=>RN (Xi k l) (GT (QI w l)))) (left (BK w) (Xi k) (GU w)) (left (BK w) (Xi i) (GU w)))))))))))):=by kernel_rfl
theorem BTF(c:Cht)(s t:Int->Bool)(h:∀j,s j=true->t j=true):∀k,left c t k<=left c s k
 |0=>Nat.le_refl _
 |k+1=>by
  have ih:=BTF c s t h k
  have hk:=h (k:Int)
  simp only[left]
  cases hN:hasN c.ns (k:Int)<;>cases h1:s (k:Int)<;>cases h2:t (k:Int)<;>simp_all<;>omega
theorem BQJ(c:Cht)(s t:Int->Bool)(h:∀j,s j=true->t j=true){j:Nat}(h0:hasN c.ns (j:Int)=true)(h1:s (j:Int)=false)(h2:t (j:Int)=true):∀k,j<k->left c t k<left c s k
 |0,hj=>by omega
 |k+1,hj=>by
  by_cases e:j=k
  ·subst e
   have:=BTF c s t h j
   simp only[left,h0,h1,h2]
   simp;omega
  ·have ih:=BQJ c s t h h0 h1 h2 k (by omega)
   have hk:=h (k:Int)
   simp only[left]
   cases hN:hasN c.ns (k:Int)<;>cases h3:s (k:Int)<;>cases h4:t (k:Int)<;>simp_all<;>omega
theorem DCU(w:Dk)(h:1<=w.c.ms.length/\w.c.ms.length<=40/\nsIn w.c):CSK w:=by
 obtain⟨h1,h2,h3⟩:=h
 rw[CXR]<;> dsimp only[go_sem];simp only[P3,CU]
 refine⟨⟨by omega,λj hj=>?_,by omega,h2⟩,⟨⟨λ_=>false⟩,⟨λi hi=>⟨rfl,rfl⟩,λ_=>rfl⟩,λj hj=>by cases hj⟩,λs hs=>⟨λhall=>⟨rng_length _ _,Nat.le_refl _,λj hj=>?_⟩,λk hk hsk=>⟨⟨h3 k hk,by have:=h3 k hk;omega⟩,⟨λn=>decide (n=k)||s.seen n⟩,⟨λi hi=>?_,λ_=>rfl⟩,λj hj=>?_,?_⟩⟩⟩
 ·obtain rfl:j=0:=by omega
  exact⟨rfl,rfl⟩
 ·have hj:j<w.c.ms.length:=by simpa[xC] using hj
  have e:s.seen (j:Int)=hasN w.c.ns (j:Int):=by
   cases hq:hasN w.c.ns (j:Int) with
   |true=>exact hall _ hq
   |false=>
    cases hq2:s.seen (j:Int) with
    |false=>rfl
    |true=>rw[hs _ hq2] at hq;cases hq
  unfold xC;rw[CS _ _ _ hj,e];exact⟨rfl,rfl⟩
 ·have hk0:=h3 k hk
  have e:decide ((i:Int)=k)=decide (i=k.toNat):=by
   rw[Bool.eq_iff_iff,decide_eq_true_eq,decide_eq_true_eq];omega
  simp only[e]
  by_cases hi2:i=k.toNat
  ·have:(i:Int)=k:=by omega
   rw[this];simp[hi2]
  ·simp[hi2]
 ·simp only[Bool.or_eq_true,decide_eq_true_eq] at hj
  rcases hj with rfl | hj
  ·exact hk
  ·exact hs j hj
 ·have hk0:=h3 k hk
  have e:((k.toNat:Nat):Int)=k:=by omega
  exact BQJ w.c _ _ (λj hj=>by simp[hj]) (j:=k.toNat) (by rw[e];exact hk) (by rw[e];exact hsk) (by rw[e];simp) _ (by omega)
theorem CWT:AH ZP 99 (C_not.spec dDk1):=MK C_not CTF [] [202] Tryz.func99 (λ_=>by kernel_rfl) (λ_=>AA CWB AD) (λw h=>DCU w h) (λ_=>OA rfl rfl) _
def C_gaps:Ctr:={ ro:=[100,101],α:=Dk,xs:=λ_=>[.bptr 100 0],L:=λw=>dkL w,val:=λ_=>.fn (.func 63) [] [.bptr 0 0],keep:=λw=>dkK w ++ [(0,.live (.box [.bptr 100 0]))] }
def CJG:Ann:={ ann 4 [] with E:=[100,101] }
def CGA(w:Dk):Prop:=AS ZP CJG Tryz.f33 (AG Tryz.f33) (C_gaps.xs w) (AC (C_gaps.L w)) (C_gaps.val w) (C_gaps.keep w) [(0,1000)] []
theorem CKX(w:Dk):(CGA w)=(And (Qn w) (DO (SP w) (Xr (BK w)) (K4 (BK w)) (RS w) (Un w w (BK w) (λi=>Vb i w w i) w w))):=by kernel_rfl
theorem BRB:AH ZP 33 (C_gaps.spec dDk1):=MK C_gaps (λ_=>CJG) [(0,1000)] [] Tryz.func33 (λ_=>by kernel_rfl) (λ_=>AD) (λ(w:Dk) _=>by
 show CGA w;rw[CKX]<;> dsimp only[go_sem];simp) (λ_=>OA rfl rfl) _
def farM(c:Cht)(g:Nat):Int:=GM ((gD c.ms (g+1)).pl-(gD c.ms g).pl)
def Ey(w:Dk)(g:Nat):Span:=⟨GM (w.c.p.lo*farM w.c g),bif w.sp g then 200000000 else GM (w.c.p.hi*farM w.c g)⟩
def gapL(w:Dk):List Span:=HQ (w.c.ms.length-1) λg=>Ey w g
structure LIS where
 l:List Span
 k:Int
 s:Span
def upd1(l:List Span)(k:Int)(s:Span)(i:Nat):Span:=bif decide (i=k.toNat) then T9 (gD l k.toNat) s else gD l i
def lkR(n:Nat)(f:Nat->Span):List (Nat×HCell):=[(100,.live (.box [.own 101 2 0 n])),(101,.live (.row 2 n λi=>EQ (f i)))]
def C_nar1:Ctr:={ ro:=[100],α:=LIS,xs:=λa=>[.int a.k,.d (EQ a.s),.bptr 100 0],L:=λa=>[(100,.box [.own 101 2 0 a.l.length]),(101,rowS a.l)],val:=λ_=>.d (.tup []),keep:=λa=>lkR a.l.length (upd1 a.l a.k a.s),pre:=λa=>[0<=a.k/\a.k<a.l.length] }
def CHA:List AVal->Heap->Option (LIS×List (Nat×Nat)×List Nat)
 |[.d k,.d s,.bptr id _],H=>match H id with
  | .live (.box [.own j _ _ _])=>match H j with
   | .live (.row _ n g)=>some (⟨HQ n λi=>VB (g i),DG k,VB s⟩,[(100,id),(101,j)],[])
   |_=>none
  |_=>none
 |_,_=>none
def CHM:Ann:={ ann 15 [(66,C_com.spec CIZ)] with E:=[100,101] }
def CGG(a:LIS):Prop:=AS ZP CHM Tryz.f65 (AG Tryz.f65) (C_nar1.xs a) (AC (C_nar1.L a)) (C_nar1.val a) (C_nar1.keep a) [] []
abbrev AOF:=LIS.k
abbrev dJ:=LIS.l
abbrev AOZ:=LIS.s
abbrev ACB a:=MQ (AOF a)
abbrev OV a:=BI (PN a)
attribute [go_sem] AOF dJ AOZ ACB OV
theorem CLL(a:LIS):(CGG a)=(ALU (And (FV (AOF a) (PN (dJ a))) (AP (OB (ACB a) (PN (dJ a))) (AI (FY (dJ a) (ACB a))) (AI (FT (dJ a) (ACB a))) (TH (Vp (AOZ a)) 1) B6 (AE (λi=>Rk i (Vp (AOZ a)) (AOZ a))) CY (FV (AOF a) (PN (dJ a))) (FI (ACB a) (PN (dJ a))))) AB (OV (dJ a)) (AE (λi=>UU i (PN (dJ a)) (upd1 (dJ a) (AOF a) (AOZ a) i) (OQ i (AOF a) (IP (comM (SL.mk (hd33 (dJ a) (ACB a)) (Vp (AOZ a))))) (FY (dJ a) i)) (OQ i (AOF a) (GN (comM (SL.mk (hd33 (dJ a) (ACB a)) (Vp (AOZ a))))) (FT (dJ a) i))))):=by kernel_rfl
theorem CMZ:AH ZP 65 (C_nar1.spec CHA):=MK C_nar1 (λ_=>CHM) [] [] Tryz.func65 (λ_=>by kernel_rfl) (λ_=>AA CAF AD) (λ(a:LIS) h=>by
 show CGG a;rw[CLL]<;> dsimp only[go_sem];simp only[P3,CU]
 have h:0<=a.k/\a.k<a.l.length:=h
 have e:comM ⟨gD a.l a.k.toNat,HQ 1 λ_=>a.s⟩=T9 (gD a.l a.k.toNat) a.s:=rfl
 refine⟨⟨h,by omega,by omega,λj hj=>by rw[CS _ _ _ hj];exact⟨rfl,rfl⟩,h,by omega⟩,λi hi=>?_⟩
 rw[e];unfold upd1
 cases decide (i=a.k.toNat)<;>exact⟨rfl,rfl⟩) (λ_=>OA rfl rfl) _
def addS(a s:Span):Span:=⟨GM (a.lo+s.lo),GM (a.hi+s.hi)⟩
def subS(a s:Span):Span:=⟨GM (a.lo-s.hi),GM (a.hi-s.lo)⟩
def fwM(l:List Span)(s:Nat->Span):Nat->Span
 |0=>gD l 0
 |g+1=>T9 (gD l (g+1)) (addS (fwM l s g) (s g))
def bkMQ(f s:Nat->Span)(n:Nat):Nat->Span
 |0=>f n
 |j+1=>T9 (f (n-(j+1))) (subS (bkMQ f s n j) (s (n-(j+1))))
def lC(w:Dk)(l:List Span):List Span:=HQ l.length λi=>bkMQ (fwM l (Ey w)) (Ey w) (l.length-1) (l.length-1-i)
structure DkS where
 w:Dk
 l:List Span
def dDkS:List AVal->Heap->Option (DkS×List (Nat×Nat)×List Nat)
 |[.bptr id _,y],H=>match BFK H id,AQD y H with
  |some (w,q),some (l,f)=>some (⟨w,l⟩,[(100,id),(101,q)],f)
  |_,_=>none
 |_,_=>none
def C_nar:Ctr:={ ro:=[100,101],α:=DkS,xs:=λa=>[.bptr 100 0,.d (NX a.l)],L:=λa=>dkL a.w,val:=λa=>.tup [.d (NX (lC a.w a.l)),.bool ((lC a.w a.l).all lZ)],keep:=λa=>dkK a.w,pre:=λa=>[a.l.length=a.w.c.ms.length/\1<=a.w.c.ms.length/\a.w.c.ms.length<=40] }
def nrH(a:DkS)(f:Nat->Span)(p:AVal):List (Nat×HCell):=dkK a.w ++ [(2016,.live (.row 2 a.l.length λi=>EQ (f i))),(2032,.live (.box [.own 2016 2 0 a.l.length])),(3000,.live (.box [p]))]
def gpS(a:DkS)(l k:Nat):List (Nat×AVal):=[(0,.fn (.yield l) [] []),(1,.bptr 4016 0),(12,.int (GM ((a.w.c.ms.length:Int)-1))),(13,.int k)]
def gpB:Nat×HCell:=(4016,.live (.box [.bptr 100 0]))
def gp1n(a:DkS)(l:Nat):Shape:={ α:=One,dflt:=default,T:=λ_=>⟨gpS a l 0,nrH a (gD a.l) (.d JX) ++ [gpB]⟩,inv:=λ_=>True,meas:=λ_=>60 }
def gp1o(a:DkS)(l:Nat):Shape:={ α:=Nat,dflt:=0,T:=λk=>⟨gpS a l k,nrH a (gD a.l) (.own 302 2 0 k) ++ [gpB,(302,.live (.row 2 k λi=>EQ (Ey a.w i)))]⟩,inv:=λk=>1<=k/\k<=a.w.c.ms.length-1,meas:=λk=>50-k,again:=[(302,6048)] }
noncomputable def CSP(a:DkS):IterAnn:={ fn:=Tryz.f63,code:=AG Tryz.f63,live:=[6,7],ann:={ base:=λid=>100000+1000*(id+1),Γ:=Sym.look [],E:=[100,101,2016,2032,3000,4016],n:=66,inner:=λgs id=>if id=1 then some [gp1n a (gs.getD 0 0),gp1o a (gs.getD 0 0)] else none } }
def nr6T(a:DkS):One->ST:=λ_=>⟨[(6,.bptr 2032 0),(7,.bptr 3000 0)],nrH a (gD a.l) (.d (NX (gapL a.w)))⟩
def nr6(a:DkS)(z:List Nat):Shape:={ α:=One,dflt:=default,T:=nr6T a,inv:=λ_=>True,meas:=λ_=>0,ffz:=z }
def nr7(a:DkS):Shape:={ α:=One,dflt:=default,T:=λ_=>⟨[(6,.bptr 2032 0),(7,.bptr 3000 0),(10,.fn (.func 65) [] [.bptr 2032 0])],nrH a (gD a.l) (.d (NX (gapL a.w)))⟩,inv:=λ_=>True,meas:=λ_=>0 }
def nrF(a:DkS)(k i:Nat):Span:=bif decide (i<=k) then fwM a.l (Ey a.w) i else gD a.l i
def nrB(a:DkS)(j i:Nat):Span:=bif decide (a.w.c.ms.length-1-j<=i) then bkMQ (fwM a.l (Ey a.w)) (Ey a.w) (a.w.c.ms.length-1) (a.w.c.ms.length-1-i) else fwM a.l (Ey a.w) i
def nr8(a:DkS):Shape:={ α:=Nat,dflt:=0,T:=λk=>⟨[(6,.bptr 2032 0),(7,.bptr 3000 0),(10,.fn (.func 65) [] [.bptr 2032 0]),(25,.d (NX (gapL a.w))),(26,.int (gapL a.w).length),(27,.int k)],nrH a (nrF a k) (.d (NX (gapL a.w)))⟩,inv:=λk=>k<=a.w.c.ms.length-1,meas:=λk=>50-k }
def nr13(a:DkS):Shape:={ α:=Nat,dflt:=0,T:=λj=>⟨[(6,.bptr 2032 0),(7,.bptr 3000 0),(10,.fn (.func 65) [] [.bptr 2032 0]),(13,.int ((a.w.c.ms.length:Int)-2-j))],nrH a (nrB a j) (.d (NX (gapL a.w)))⟩,inv:=λj=>j<=a.w.c.ms.length-1,meas:=λj=>50-j }
noncomputable def CTB(a:DkS):Ann:={ ann 92 [(64,C_clo.spec dSs1),(33,C_gaps.spec dDk1),(65,C_nar1.spec CHA),(67,C4SnO.spec CSH)] with E:=[100,101],mt:=λid=>id==5,iter:=λg=>if g=63 then some (CSP a) else none,loops:=λid=>if id=8 then some [nr8 a] else if id=13 then some [nr13 a] else none,cut:=λid=>if id=6 then some [nr6 a [],nr6 a [302]] else if id=7 then some [nr7 a] else none }
def CSN(a:DkS):Prop:=AS ZP (CTB a) Tryz.f34 (AG Tryz.f34) (C_nar.xs a) (AC (C_nar.L a)) (C_nar.val a) (C_nar.keep a) [] [2016]
abbrev ZZ:=DkS.l
abbrev WE:=DkS.w
abbrev S4:=lC
abbrev WH a b:=AQ a b b
abbrev Wd a b c:=TD a (And b c)
abbrev Pb a b c:=Xh (λi=>Wd a b c)
abbrev ADG a b:=Xh (λi=>TD a b)
abbrev uF a:=ADG EB a
abbrev mQ a:=AM (λi=>Zm (AAE a i))
abbrev CI a:=BK (WE a)
abbrev Lr a:=mQ (CI a)
abbrev Kr a:=bU (CI a)
abbrev Ra a:=GU (WE a)
abbrev Mu a b:=ATS (Ra a) (WE b)
abbrev Le a:=BI (Ra a)
abbrev Dn a:=FC (CI a)
abbrev Eh a:=EN (CI a)
abbrev zD a(b:Nat->Span):=BKR (ZZ a) b
abbrev Ju a b c:=zD a (λi=>nrB b c i)
abbrev HJ a:=PN (ZZ a)
abbrev Dz a:=KO a 1
abbrev Wg a:=Dz (Ra a)
abbrev PG a:=AE (λi=>BLM i a)
abbrev NK a:=gapL (WE a)
abbrev Wx a:=BI (HJ a)
abbrev tS a b:=hd21 a (AZ b)
abbrev BOK a b:=hd21 (AZ a) b
abbrev BMR a b:=BOK (Ra a) b
abbrev RV a b:=tS (BMR a 2) b
abbrev fD a:=MA (WE a)
abbrev tT a b:=cH a (WE b)
abbrev mJ a:=Ih (CI a)
abbrev uQ a:=UE (CI a)
abbrev Vm a:=IS (CI a)
abbrev gZ a:=GA (CI a)
abbrev Z8 a b c d e f g h:=AP a b c a d e f g h
abbrev Iu a b c d e f g h:=AP a b c c d e f g h
abbrev G0 a:=PN (NK a)
abbrev Zp a b c d e f g h:=AP a b c d e f d g h
abbrev Oo a:=Mo (AZ a)
abbrev ASQ a b:=Nq (λi=>And a b)
abbrev TV a:=ASQ a EB
abbrev AHK a b c d e f g h:=AP a b c d e c f g h
abbrev fN a b:=Ey (WE a) b
abbrev Uq a b c:=AQ (BI a) b c
abbrev AON a b c d e f g h:=AP a b c d e f g g h
abbrev ANL a b c d e f g:=AON a b c d b e f g
abbrev AZQ a:=YS (WE a)
abbrev Qq a b:=Zc (AZQ a) b
abbrev Dh a:=OY (HC a)
abbrev zU a:=GM (BMR a 1)
abbrev FX a:=(@Eq Fn) (Fn.yield a) (Fn.yield a)
abbrev BCF a b c d e f:=AJD a b 1 c d e f
abbrev BJG a b c d e:=BCF a B6 b c d e
abbrev AAN a b c:=BJG (aB a b) b aG (mM a) (nB a c)
abbrev jE a:=AAN a 2 16
abbrev Oq a b c d:=Is a b c (Nq (λi=>d))
abbrev Wr a b:=BJG (ABZ a) a Ro Lo b
abbrev Kd a b:=ntOf (Se a) b
abbrev Yy a b c:=Hy a (AAE b c)
abbrev WJ a:=OB a 1073741824
attribute [go_sem] ZZ WE S4 WH Wd Pb ADG uF mQ CI Lr Kr Ra Mu Le Dn Eh zD Ju HJ Dz Wg PG NK Wx tS BOK BMR RV fD tT mJ uQ Vm gZ Z8 Iu G0 Zp Oo ASQ TV AHK fN Uq AON ANL AZQ Qq Dh zU FX BCF BJG AAN jE Oq Wr Kd Yy WJ
theorem CXM(a:DkS):(CSN a)=(Kw (BB (QF (ZZ a)) (HJ a)) (AE (λi=>Iv i (QF (ZZ a)) (MN (ZZ a)) (ZZ a) i i)) (Iq (QF (ZZ a))) (WJ (QF (ZZ a))) (WH (Ob (And (KC (CI a)) (KD (Vm a) (Xr (CI a)) (BU (Eh a) (Dn a) (BB (HY (WE a)) (Ra a)) (US (HY (WE a)) (Fc (WE a)) (AZQ a)) (WN (CI a)) (AE (λi=>XG i (CI a) i i)) (λi=>tT i a) FE (PU (AM (λi=>WK (Se (CI a)) i (Dx (CI a) i))) (fD a) (AM (λi=>Yy (Kd (CI a) i) (CI a) i)) (CI a) (Eh a) (Dn a) (jT (BB (Ra a) (HY (WE a))) (US (Ra a) (AZQ a) (Fc (WE a))) (Ez (CI a)) (λi=>Ex i (CI a) i i i) (WE a) (AM (λi=>Ch (Dx (CI a) i) (Se (CI a)) i)) (AM (λi=>Gq (CI a) i (Kd (CI a) i)))))))) (λi=>Mp (TV (LL (FX i) (zU a) (Oo (Ra a)) (DO AU (gZ a) (Vm a) (GE (CI a)) (BU (Eh a) (Dn a) (Le a) (Mu a a) (uQ a) (mJ a) (λj=>tT j a) FE (Zp (Kr a) (fD a) (Lr a) (BB (HJ a) (QF (ZZ a))) (AE (λj=>Iv j (HJ a) (ZZ a) (MN (ZZ a)) j j)) AB AB AK))))) (Xh (λj=>Oq EB (RL 0 (zU a)) (AO (WU (FV (HC 0) (Ra a)) (AZ 0) (Uz 0 (Ra a))) (CL 0 40) (FI 0 40) (YL (Jr (WE a) 0) (Uq i (Wr 2 16) (EA (λk=>Kv (PU (FX i) (AI (zU a)) (AR k 0) (CI a) (Eh a) (Dn a) (Lb (Le a) (Mu a a) (CI a) (λl=>ZH l (CI a)) (WE a) (Kr a) (ANL (Lr a) (Wx a) (AE (λl=>oF l (HJ a) (ZZ a))) AB AB (XS k) (AE (λl=>UU l k (fN a l) (UC (gZ a) (CW (Qq a (Dh 0)) (Qq a 0))) 200000000))))) (JH k (Wg a)) 50 k 60))) (Uq i (Wr 2 16) (EA (λk=>Kv (PU (FX i) (AI (zU a)) (AR k 0) (CI a) (Eh a) (Dn a) (Lb (Le a) (Mu a a) (CI a) (λl=>ZH l (CI a)) (WE a) (Kr a) (ANL (Lr a) (Wx a) (AE (λl=>oF l (HJ a) (ZZ a))) AB AB (XS k) (AE (λl=>UU l k (fN a l) (UC (gZ a) (CW (Qq a (Dh 0)) (Qq a 0))) (UC (Vm a) (CW (Qq a (Dh 0)) (Qq a 0)))))))) (JH k (Wg a)) 50 k 60))))) (EM (KC (CI a)) (KD (Vm a) (Xr (CI a)) (BU (Eh a) (Dn a) (Le a) (Mu a a) (uQ a) (mJ a) (λk=>tT k a) FE (Zp (Kr a) (fD a) (Lr a) (Wx a) (AE (λk=>oF k (HJ a) (ZZ a))) AB (mP (NK a)) (mP (NK a))))) EB))) (λj=>Is (JH j (Wg a)) (RL j (zU a)) (AO (WU (FV (HC j) (Ra a)) (AZ j) (Uz j (Ra a))) (CL j 40) (FI j 40) (YL (Jr (WE a) j) (Uq i (jE j) (EA (λk=>EO (PU (FX i) (AI (zU a)) (AR k j) (CI a) (Eh a) (Dn a) (Lb (Le a) (Mu a a) (CI a) (λl=>ZH l (CI a)) (WE a) (Kr a) (ANL (Lr a) (Wx a) (AE (λl=>oF l (HJ a) (ZZ a))) AB AB (OK k j) (AE (λl=>UU l k (fN a l) (BF l j (IP (fN a l)) (UC (gZ a) (CW (Qq a (Dh j)) (Qq a j)))) (BF l j (GN (fN a l)) 200000000)))))) (JH k (Wg a)) 50 k j))) (Uq i (jE j) (EA (λk=>EO (PU (FX i) (AI (zU a)) (AR k j) (CI a) (Eh a) (Dn a) (Lb (Le a) (Mu a a) (CI a) (λl=>ZH l (CI a)) (WE a) (Kr a) (ANL (Lr a) (Wx a) (AE (λl=>oF l (HJ a) (ZZ a))) AB AB (OK k j) (AE (λl=>UU l k (fN a l) (BF l j (IP (fN a l)) (UC (gZ a) (CW (Qq a (Dh j)) (Qq a j)))) (BF l j (GN (fN a l)) (UC (Vm a) (CW (Qq a (Dh j)) (Qq a j))))))))) (JH k (Wg a)) 50 k j))))) (TV (DO (KC (CI a)) (Vm a) (Xr (CI a)) (Eh a) (AP (Dn a) (Le a) (Mu a a) (uQ a) (mJ a) (VN (WE a)) FE (Kr a) (AHK (fD a) (Lr a) (Wx a) (AE (λk=>oF k (HJ a) (ZZ a))) AB (TH (NK a) j) (LU j) (AE (λk=>Rk k (NK a) (fN a (AJ k))))))))))) (Pb EB (Nq (λi=>EM (KC (CI a)) (KD (Vm a) (Xr (CI a)) (BU (Eh a) (Dn a) (Le a) (Mu a a) (uQ a) (mJ a) (λj=>tT j a) FE (Zp (Kr a) (fD a) (Lr a) (Wx a) (AE (λj=>oF j (HJ a) (ZZ a))) AB (OV (NK a)) (PG (NK a))))) EB)) (uF (LR (λi=>Vs (Yo (G0 a) (NK a) (DO (BC i) (gZ a) (Vm a) (GE (CI a)) (BU (Eh a) (Dn a) (Le a) (Mu a a) (uQ a) (mJ a) (λj=>tT j a) FE (Zp (Kr a) (fD a) (Lr a) (Wx a) (AE (λj=>UU j (HJ a) (nrF a i j) (FY (ZZ a) j) (FT (ZZ a) j))) AB (OV (NK a)) (PG (NK a)))))) i (Wg a)) (λi=>OU (MH i (Wg a)) i (G0 a) (Fl i (G0 a) (Fl i (HJ a) (OB (AJ i) (HJ a)) (PO (CL i (HJ a)) (OB (AJ i) (HJ a)) (HC i) (AI (CP (IP (nrF a i (AJ i))) (FY (NK a) i))) (Iu (AI (CP (GN (nrF a i (AJ i))) (FT (NK a) i))) AB (TH (zD a (λj=>nrF a i j)) (HJ a)) (AE (λj=>Rk j (zD a (λk=>nrF a i k)) (nrF a i j))) AB (eS (HJ a) (zD a (λj=>nrF a i j))) (IM (HC i)) (Uo (HC i) (PN (zD a (λj=>nrF a i j))))))) (EA (λj=>iH (Yo (G0 a) (NK a) (DO (AR j i) (gZ a) (Vm a) (GE (CI a)) (BU (Eh a) (Dn a) (Le a) (Mu a a) (uQ a) (mJ a) (λk=>tT k a) FE (AP (Kr a) (fD a) (Lr a) (eS (HJ a) (zD a (λk=>nrF a i k))) (AE (λk=>La k (HJ a) (nrF a j k) (upd1 (zD a (λl=>nrF a i l)) (HC i) (AEH (CP (IP (nrF a i (AJ i))) (FY (NK a) i)) (CP (GN (nrF a i (AJ i))) (FT (NK a) i))) k))) AB (Wx a) (OV (NK a)) (PG (NK a)))))) j (Wg a) 50 j i))) (LR (λj=>Vs (DO (AN (RV a j) (Oo (G0 a))) (gZ a) (Vm a) (GE (CI a)) (BU (Eh a) (Dn a) (Le a) (Mu a a) (uQ a) (mJ a) (λk=>tT k a) FE (Zp (Kr a) (fD a) (Lr a) (Wx a) (AE (λk=>La k (HJ a) (nrB a j k) (nrF a i k))) AB (OV (NK a)) (PG (NK a))))) j (Wg a)) (λj=>Km (MH j (Wg a)) (hd6 (RV a j) 0) (Z8 (FV (JF (RV a j)) (HJ a)) (OB (MQ (JF (RV a j))) (HJ a)) (FV (RV a j) (G0 a)) (OB (MQ (JF (RV a j))) (HJ a)) (FV (RV a j) (G0 a)) (AI (RV a j)) (AI (CW (IP (nrB a j (MQ (JF (RV a j))))) (FT (NK a) (OY (RV a j))))) (Iu (AI (CW (GN (nrB a j (MQ (JF (RV a j))))) (FY (NK a) (OY (RV a j))))) AB (TH (Ju a a j) (HJ a)) (AE (λk=>Rk k (Ju a a j) (nrB a j k))) AB (eS (HJ a) (Ju a a j)) (IM (RV a j)) (Uo (RV a j) (PN (Ju a a j))))) (EA (λk=>iH (DO (AN (RV a k) (Mo (RV a j))) (gZ a) (Vm a) (GE (CI a)) (BU (Eh a) (Dn a) (Le a) (Mu a a) (uQ a) (mJ a) (λl=>tT l a) FE (AP (Kr a) (fD a) (Lr a) (eS (HJ a) (Ju a a j)) (AE (λl=>La l (HJ a) (nrB a k l) (upd1 (Ju a a j) (RV a j) (AEH (CW (IP (nrB a j (MQ (JF (RV a j))))) (FT (NK a) (OY (RV a j)))) (CW (GN (nrB a j (MQ (JF (RV a j))))) (FY (NK a) (OY (RV a j))))) l))) AB (Wx a) (OV (NK a)) (PG (NK a))))) k (Wg a) 50 k j)) (CV AB (lA (TH (Ju a a j) (HJ a)) (UY (AE (λk=>Rk k (Ju a a j) (nrB a j k))) (eS (HJ a) (Ju a a j)) (λk=>UU k (HJ a) (nrB a j k) (FY (Ju a a j) k) (FT (Ju a a j) k)) (JY (PN (Ju a a j))) EB)) (TH (S4 (WE a) (ZZ a)) (HJ a)) (PU (LU (HJ a)) (AE (λk=>Rk k (S4 (WE a) (ZZ a)) (nrB a j (AJ k)))) (Sr (hd84 (S4 (WE a) (ZZ a)) lZ) (hd84 (Ju a a j) lZ)) (CI a) (Eh a) (Dn a) (Lb (Le a) (Mu a a) (CI a) (λk=>ZH k (CI a)) (WE a) (Kr a) (Lr a)))))))))))):=by kernel_rfl
theorem BTN{L:Nat}{f:Nat->Span}{k:Int}{s:Span}{i:Nat}(hi:i<L)(hk:k.toNat<L):upd1 (HQ L f) k s i=bif decide (i=k.toNat) then T9 (f k.toNat) s else f i:=by
 unfold upd1;rw[CS _ _ _ hi,CS _ _ _ hk]
theorem CAX(a:DkS){k i:Nat}(hk:k+1<a.l.length)(hi:i<a.l.length):nrF a (k+1) i=upd1 (HQ a.l.length λi=>nrF a k i) ((k+1:Nat):Int) (addS (nrF a k k) (Ey a.w k)) i:=by
 rw[BTN hi (by show k+1<_;exact hk)]
 show _=bif decide (i=k+1) then T9 (nrF a k (k+1)) _ else _
 by_cases h:i=k+1
 ·subst h
  simp only[nrF,Nat.le_refl,decide_true,cond_true,show ¬ k+1<=k by omega,decide_false,cond_false]
  rfl
 ·have e:decide (i<=k+1)=decide (i<=k):=by rw[decide_eq_decide];omega
  simp only[nrF,h,e,decide_false,cond_false]
theorem CJR(a:DkS){j i:Nat}(hl:a.l.length=a.w.c.ms.length)(hj:j+2<=a.l.length)(hi:i<a.l.length):nrB a (j+1) i=upd1 (HQ a.l.length λi=>nrB a j i) ((a.w.c.ms.length-2-j:Nat):Int) (subS (nrB a j (a.w.c.ms.length-2-j+1)) (Ey a.w (a.w.c.ms.length-2-j))) i:=by
 rw[BTN hi (by show a.w.c.ms.length-2-j<_;omega)]
 show _=bif decide (i=a.w.c.ms.length-2-j) then T9 (nrB a j (a.w.c.ms.length-2-j)) _ else _
 by_cases h:i=a.w.c.ms.length-2-j
 ·have e1:decide (a.w.c.ms.length-1-(j+1)<=i)=true:=by rw[decide_eq_true_eq];omega
  have e2:decide (a.w.c.ms.length-1-j<=a.w.c.ms.length-2-j)=false:=by rw[decide_eq_false_iff_not];omega
  have e3:decide (a.w.c.ms.length-1-j<=a.w.c.ms.length-2-j+1)=true:=by rw[decide_eq_true_eq];omega
  have e4:a.w.c.ms.length-1-i=j+1:=by omega
  have e5:a.w.c.ms.length-1-(a.w.c.ms.length-2-j+1)=j:=by omega
  have e6:a.w.c.ms.length-1-(j+1)=a.w.c.ms.length-2-j:=by omega
  have e7:decide (i=a.w.c.ms.length-2-j)=true:=by rw[decide_eq_true_eq];exact h
  have e8:decide (a.w.c.ms.length-2-j<=i)=true:=by rw[decide_eq_true_eq];omega
  rw[e7]
  simp only[nrB,e2,e3,e4,e5,cond_true,cond_false,bkMQ,e6,e8]
 ·have e1:decide (a.w.c.ms.length-1-(j+1)<=i)=decide (a.w.c.ms.length-1-j<=i):=by rw[decide_eq_decide];omega
  simp only[nrB,h,e1,decide_false,cond_false]
theorem DCS(a:DkS)(h:a.l.length=a.w.c.ms.length/\1<=a.w.c.ms.length/\a.w.c.ms.length<=40):CSN a:=by
 obtain⟨hl,h1,h2⟩:=h
 have e1:GM ((a.w.c.ms.length:Int)-1)=((a.w.c.ms.length-1:Nat):Int):=by unfold GM;rw[ER (by omega) (by omega)];omega
 have e2:IntKind.i64.wrap ((a.w.c.ms.length:Int)-1)=((a.w.c.ms.length-1:Nat):Int):=e1
 have gl:(gapL a.w).length=a.w.c.ms.length-1:=rng_length _ _
 have gg:∀{j:Nat},j<a.w.c.ms.length-1->gD (gapL a.w) j=Ey a.w j:=λhj=>CS _ _ _ hj
 have lo:∀k,(Ey a.w k).lo=IntKind.i64.wrap (a.w.c.p.lo*IntKind.i64.wrap ((gD a.w.c.ms (k+1)).pl-(gD a.w.c.ms k).pl)):=λ_=>rfl
 have hi1:∀k,a.w.sp k=true->(Ey a.w k).hi=200000000:=λk h=>by unfold Ey;rw[h];rfl
 have hi0:∀k,a.w.sp k=false->(Ey a.w k).hi=IntKind.i64.wrap (a.w.c.p.hi*IntKind.i64.wrap ((gD a.w.c.ms (k+1)).pl-(gD a.w.c.ms k).pl)):=λk h=>by unfold Ey;rw[h];rfl
 have ws:∀{k:Nat},k<40->IntKind.i64.wrap ((k:Int)+1)=((k+1:Nat):Int):=λh=>BJ (by omega)
 rw[CXM]<;> dsimp only[go_sem];simp only[P3,CU];simp only[e1,e2,gl,hl]
 refine⟨by omega,⟨⟨default,trivial⟩,⟨λh0=>?_,λh0=>⟨default,by omega⟩⟩,λk hk=>⟨λhlt=>?_,λhge=>⟨default,by omega,Nat.le_refl _,λj hj=>by rw[gg hj];exact⟨rfl,rfl⟩⟩⟩⟩,⟨default,trivial⟩,⟨0,⟨rfl,λi hi=>?_⟩,Nat.zero_le _⟩,λk hk=>⟨λhlt=>?_,λhge=>⟨⟨0,⟨?_,λi hi=>?_⟩,Nat.zero_le _⟩,λj hj=>⟨λhlt=>?_,λhlt=>?_⟩⟩⟩⟩
 ·simp only[ws (show (0:Nat)<40 by omega),Int.toNat_natCast]
  refine⟨by omega,by omega,by omega,λh=>⟨by simp,1,⟨rfl,rfl,rfl,λi hi=>?_⟩,by omega,by omega⟩,λh=>⟨by simp,1,⟨rfl,rfl,rfl,λi hi=>?_⟩,by omega,by omega⟩⟩
  ·obtain rfl:i=0:=by omega
   exact⟨lo 0,hi1 0 h⟩
  ·obtain rfl:i=0:=by omega
   exact⟨lo 0,hi0 0 h⟩
 ·simp only[ws (show k<40 by omega),Int.toNat_natCast]
  refine⟨by omega,by omega,by omega,λh=>⟨⟨by omega,(λh=>by cases h),by omega,by omega⟩,k+1,⟨rfl,rfl,rfl,λi hi=>?_⟩,by omega,by omega⟩,λh=>⟨⟨by omega,(λh=>by cases h),by omega,by omega⟩,k+1,⟨rfl,rfl,rfl,λi hi=>?_⟩,by omega,by omega⟩⟩
  ·by_cases q:i<k
   ·simp only[q,decide_true,cond_true,and_self]
   ·obtain rfl:i=k:=by omega
    simp only[q,decide_false,cond_false]
    exact⟨lo i,hi1 i h⟩
  ·by_cases q:i<k
   ·simp only[q,decide_true,cond_true,and_self]
   ·obtain rfl:i=k:=by omega
    simp only[q,decide_false,cond_false]
    exact⟨lo i,hi0 i h⟩
 ·by_cases q:i=0
  ·subst q;exact⟨rfl,rfl⟩
  ·have:¬ i<=0:=by omega
   simp only[nrF,this,decide_false,cond_false,and_self]
 ·simp only[ws (show k<40 by omega)]
  refine⟨by omega,⟨by omega,by omega,by omega,by omega,λi hi=>by rw[CS _ _ _ hi];exact⟨rfl,rfl⟩,by omega,by omega⟩,k+1,⟨rfl,λi hi=>?_⟩,by omega,by omega⟩
  have e:=CAX a (k:=k) (i:=i) (by omega) (by omega)
  rw[gg (by omega),e,hl];exact⟨rfl,rfl⟩
 ·rw[ER (by omega) (by omega)];omega
 ·obtain rfl:k=a.w.c.ms.length-1:=by omega
  have q1:decide (i<=a.w.c.ms.length-1)=true:=by rw[decide_eq_true_eq];omega
  unfold nrB nrF;rw[q1]
  by_cases q:a.w.c.ms.length-1-0<=i
  ·have q2:a.w.c.ms.length-1-i=0:=by omega
   have q3:i=a.w.c.ms.length-1:=by omega
   simp only[q,decide_true,cond_true,q2,bkMQ];rw[<-q3];exact⟨rfl,rfl⟩
  ·simp only[q,decide_false,cond_false,cond_true,and_self]
 ·have g0:(a.w.c.ms.length:Int)-2-j=((a.w.c.ms.length-2-j:Nat):Int):=by omega
  have g1:IntKind.i64.wrap (((a.w.c.ms.length-2-j:Nat):Int)+1)=((a.w.c.ms.length-2-j+1:Nat):Int):=ws (by omega)
  simp only[g0,g1,Int.toNat_natCast]
  refine⟨⟨by omega,by omega,by omega,by omega,by omega,by omega,λi hi=>by rw[CS _ _ _ hi];exact⟨rfl,rfl⟩,by omega,by omega⟩,j+1,⟨?_,λi hi=>?_⟩,by omega,by omega⟩
  ·rw[ER (by omega) (by omega)];omega
  ·have e:=CJR a (j:=j) (i:=i) hl (by omega) (by omega)
   rw[gg (by omega),e,hl];exact⟨rfl,rfl⟩
 ·have q:j=a.w.c.ms.length-1:=by omega
  have eq1:∀i,i<a.w.c.ms.length->gD (lC a.w a.l) i=nrB a j i:=λi hi=>by
   unfold lC;rw[CS _ _ _ (by omega),hl]
   have q2:decide (a.w.c.ms.length-1-j<=i)=true:=by rw[decide_eq_true_eq];omega
   unfold nrB;rw[q2];rfl
  have nl:(lC a.w a.l).length=a.w.c.ms.length:=by unfold lC;rw[rng_length,hl]
  refine⟨⟨λi hi=>by rw[CS _ _ _ hi];exact⟨rfl,rfl⟩,λi hi=>by rw[CS _ _ _ hi];exact⟨rfl,rfl⟩,by omega⟩,nl,Nat.le_refl _,λi hi=>by rw[eq1 i (by omega)];exact⟨rfl,rfl⟩,?_⟩
  congr 1
  exact CHZ (by rw[nl,rng_length]) λi hi=>by rw[eq1 i (by omega),CS _ _ _ (by omega)]
theorem CFE:AH ZP 34 (C_nar.spec dDkS):=MK C_nar CTB [] [2016] Tryz.func34 (λ_=>by kernel_rfl) (λ_=>AA BZF (AA BRB (AA CMZ (AA CVH AD)))) (λa h=>DCS a h) (λa=>ASE 63 (CSP a) rfl rfl AD Tryz.func63 (by kernel_rfl) (by kernel_rfl)) _
end Go.Bal
