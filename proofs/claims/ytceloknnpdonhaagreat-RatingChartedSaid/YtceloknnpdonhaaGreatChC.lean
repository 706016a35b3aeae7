/- Package chart: stages. -/
import Derived.Test.YtceloknnpdonhaaGreatChB
set_option linter.unusedVariables false
set_option linter.unusedSimpArgs false
namespace Go.Bal
open Go Go.Sym Go.Proofs
def atMQ(c:Cht)(k:Int):Int:=MQ (c.base+MQ (c.scale*(gD c.ms k.toNat).ht))
def st0(c:Cht)(k:Int):Span:=⟨MQ (atMQ c k-c.off),MQ (atMQ c k+c.off)⟩
def xT(c:Cht)(k:Int):Span:=bif hasN c.ns k then com (st0 c k) (ntOf c.ns k).s else st0 c k
structure DkI where
 w:Dk
 k:Int
def dDkI:List AVal->Heap->Option (DkI×List (Nat×Nat)×List Nat)
 |[.bptr id _,.d k],H=>match CFW H id with
  |some (w,q)=>some (⟨w,EO k⟩,[(100,id),(101,q)],[])
  |none=>none
 |_,_=>none
def C_stgQ:Ctr:={ ro:=[100,101],α:=DkI,xs:=λa=>[.bptr 100 0,.int a.k],L:=λa=>dkL a.w,val:=λa=>.d (TF (xT a.w.c a.k)),keep:=λa=>dkK a.w,pre:=λa=>[0<=a.k/\a.k<a.w.c.ms.length] }
def DAZ:Ann:={ ann 61 [(BCB,C_com.spec DAC)] with E:=[100,101] }
def CUV(a:DkI):Prop:=BG Try.prog DAZ BRR (AL BRR) (C_stgQ.xs a) (AF (C_stgQ.L a)) (C_stgQ.val a) (C_stgQ.keep a) [] []
abbrev rV:=DkI.k
abbrev Yi:=DkI.w
abbrev Hy:=@HMul.hMul Int Int Int (@instHMul Int Int.instMul)
abbrev AOY:=xT
abbrev X6:=Span.mk
abbrev Dn a b:=Dh a 40 (WJ b a)
abbrev Cx a b(c:Nat->Prop) d(e:Int->Prop):=lU a b c (λi=>Dn i a) d e
abbrev VZ a:=BV (Yi a)
abbrev vQ a:=Pz (VZ a)
abbrev xR a b:=DK a (EV b)
abbrev vX a b c:=xR (Kz (VZ a)) (Hy (Rn (VZ b)) c)
abbrev wJ a b:=MZ (Yi a) (FZ (rV b))
abbrev Mt a:=qH 1 (λi=>a)
abbrev Ks a b c d:=Cc a b (EW c d) (EJ c d)
abbrev PV a b c d:=Ks a b (SH b c) d
abbrev Bo:=EA 1 1
abbrev RB a b:=AR (RP a) b
attribute [go_sem] rV Yi Hy AOY X6 Dn Cx VZ vQ xR vX wJ Mt Ks PV Bo RB
theorem DHC(a:DkI):(CUV a)=(PC (CE (rV a) (Wi (Yi a))) (QP (BDD (BBR (APJ (APC NE 0) (Vr (APC NE 0) BBO)))) zNt) (OX (VZ a) (rV a)) (AP (BB (AI (LI (vX a a (wJ a a)) (vQ a))) (AI (DK (vX a a (wJ a a)) (vQ a))) (RB (Mt (MH (Yi a) (rV a))) 1) Bo (AK (λi=>PV i (Mt (MH (Yi a) (rV a))) i (MH (Yi a) (rV a)))) MK) (EW (AOY (VZ a) (rV a)) (comM (SL.mk (X6 (LI (vX a a (wJ a a)) (vQ a)) (DK (vX a a (wJ a a)) (vQ a))) (Mt (MH (Yi a) (rV a)))))) (EJ (AOY (VZ a) (rV a)) (comM (SL.mk (X6 (LI (vX a a (wJ a a)) (vQ a)) (DK (vX a a (wJ a a)) (vQ a))) (Mt (MH (Yi a) (rV a)))))) (IH (Yi a)) (IE (VZ a)) (CP (VZ a)) (CO (VZ a)) (CQ (VZ a)) (Cx (Yi a) (EE (VZ a)) (λi=>Lf i (VZ a) (Yi a) i) (RS (VZ a)) (λi=>RZ (Yi a) i i i i i))) (And (HT (AOY (VZ a) (rV a)) (LI (vX a a (wJ a a)) (vQ a))) (DN (FL (AOY (VZ a) (rV a))) (DK (vX a a (wJ a a)) (vQ a)) (IH (Yi a)) (AJ (IE (VZ a)) (CP (VZ a)) (CO (VZ a)) (CQ (VZ a)) (Cx (Yi a) (EE (VZ a)) (λi=>Lf i (VZ a) (Yi a) i) (RS (VZ a)) (λi=>RZ (Yi a) i i i i i)))))):=by kernel_rfl
theorem DXP(a:DkI)(h:0<=a.k/\a.k<a.w.c.ms.length):CUV a:=by
 rw[DHC]<;> delta JB EM FL ZF NE Kq NU XB AR RP AK BO CI AO SH AU EA DV DJ DX OP Iz Bh YN Kz Rn Pz Vq Hc Av Gh qH QJ FZ QP BDD BBR APJ APC BBO AN Af BV Ia WJ rV Yi Hy AOY X6 AH YJ AJ JJ AZ EV AI BI FJ RH DK AP jF LI Lg HA BZ BC IZ xR DN JE FQ FP HT EJ EW EU UU WK LV Dh NG GT WF SE IE Bt Dy BB VB LF OX LN YO CE KJ MH YZ EE OO CS KH CQ CO CP MZ Cc NB VZ Dn ZK Az GP RS Bo AXO bL UY RB IH Jc MK oJ Jh Wi TS XV Lf Ks bO PV Vr PC RZ Mt vQ lU wJ vX Cx;simp only[CCQ,eq_self,implies_true,forall_const]
 cases hq:hasN a.w.c.ns a.k with
 |true=>
  have e:xT a.w.c a.k=com (st0 a.w.c a.k) (ntOf a.w.c.ns a.k).s:=by unfold xT;rw[hq];rfl
  refine⟨h,rfl,λ_=>⟨⟨by omega,λj hj=>?_⟩,?_,?_⟩,λh=>by cases h⟩
  ·rw[OW _ _ _ hj];exact⟨rfl,rfl⟩
  ·rw[e];rfl
  ·rw[e];rfl
 |false=>
  have e:xT a.w.c a.k=st0 a.w.c a.k:=by unfold xT;rw[hq];rfl
  refine⟨h,rfl,(λh=>by cases h),λ_=>⟨?_,?_⟩⟩
  ·rw[e];rfl
  ·rw[e];rfl
theorem DFP:AM Try.prog BOC (C_stgQ.spec dDkI):=WY C_stgQ (λ_=>DAZ) [] [] CSR (λ_=>by kernel_rfl) (λ_=>AB DFB AG) (λa h=>DXP a h) (λ_=>YE rfl rfl) _
def rowS(l:List Span):AObj:=.row 2 l.length λi=>TF (gD l i)
def C4SaO:Ctr:={ ro:=[100],α:=MSa,xs:=λa=>[.own 100 2 0 a.l.length,fvSa a.q],L:=λa=>[(100,rowS a.l)],val:=λa=>.bool (a.l.all qF),keep:=λa=>[(100,.live (rowS a.l))],pre:=PSa }
def DNN:List AVal->Heap->Option (MSa×List (Nat×Nat)×List Nat)
 |[.own id _ _ _,.fn _ _ _],H=>match H id with
  | .live (.row _ n g)=>some (⟨default,KA n λi=>Ty (g i)⟩,[(100,id)],[])
  |_=>none
 |_,_=>none
def C4SnO:Ctr:={ ro:=[100],α:=MSn,xs:=λa=>[.own 100 2 0 a.l.length,fvSn a.q],L:=λa=>[(100,rowS a.l)],val:=λa=>.bool (a.l.all qF),keep:=λa=>[(100,.live (rowS a.l))],pre:=PSn }
def DLM:List AVal->Heap->Option (MSn×List (Nat×Nat)×List Nat)
 |[.own id _ _ _,.fn _ _ _],H=>match H id with
  | .live (.row _ n g)=>some (⟨default,KA n λi=>Ty (g i)⟩,[(100,id)],[])
  |_=>none
 |_,_=>none
theorem DQT:AM Try.prog n_eS (C4SaO.spec DNN):=okT C4SaO (λ(a:MSa) h=>by
 have hf:=DNT a h
 refine FnT.lend (fz:=[100]) (xs:=[.own 100 2 0 a.l.length,fvSa a.q]) (L:=[(100,rowS a.l)]) hf rfl ?_ rfl ?_ _ ?_
 ·show [AVal.d (.list 2 a.l.length (λj=>TF (gD a.l (0+j))) false),_]=_
  simp only[Nat.zero_add];rfl
 ·show 0+a.l.length<=a.l.length;omega
 ·exact⟨rfl,trivial⟩) _
theorem DQO:AM Try.prog n_eS (C4SnO.spec DLM):=okT C4SnO (λ(a:MSn) h=>by
 have hf:=DXC a h
 refine FnT.lend (fz:=[100]) (xs:=[.own 100 2 0 a.l.length,fvSn a.q]) (L:=[(100,rowS a.l)]) hf rfl ?_ rfl ?_ _ ?_
 ·show [AVal.d (.list 2 a.l.length (λj=>TF (gD a.l (0+j))) false),_]=_
  simp only[Nat.zero_add];rfl
 ·show 0+a.l.length<=a.l.length;omega
 ·exact⟨rfl,trivial⟩) _
def Ol(c:Cht):List Span:=KA c.ms.length λi=>xT c (i:Int)
def AEQ(c:Cht):Bool:=(Ol c).all qF
def dDk1:List AVal->Heap->Option (Dk×List (Nat×Nat)×List Nat)
 |[.bptr id _],H=>match CFW H id with
  |some (w,q)=>some (w,[(100,id),(101,q)],[])
  |none=>none
 |_,_=>none
def C_all:Ctr:={ ro:=[100,101],α:=Dk,xs:=λ_=>[.bptr 100 0],L:=λw=>dkL w,val:=λw=>.tup [.d (SR (Ol w.c)),.bool (AEQ w.c)],keep:=λw=>dkK w,pre:=λw=>[1<=w.c.ms.length/\w.c.ms.length<=40] }
def al3n(w:Dk):Shape:={ α:=One,dflt:=default,T:=λ_=>⟨[(0,.bptr 100 0),(4,.d TE),(11,.int w.c.ms.length),(12,.int 0)],dkK w⟩,inv:=λ_=>True,meas:=λ_=>50 }
def al3o(w:Dk):Shape:={ α:=Nat,dflt:=0,T:=λk=>⟨[(0,.bptr 100 0),(4,.own 202 2 0 k),(11,.int w.c.ms.length),(12,.int k)],dkK w ++ [(202,.live (.row 2 k λi=>TF (xT w.c (i:Int))))]⟩,inv:=λk=>1<=k/\k<=w.c.ms.length,meas:=λk=>40-k,again:=[(202,6080)] }
def DNJ(w:Dk):Ann:={ ann 25 [(BOC,C_stgQ.spec dDkI),(n_eS,orSQ (C4SaO.spec DNN) (C4Sa.spec d4Sa))] with E:=[100,101],mt:=λid=>id==5,loops:=λid=>if id=3 then some [al3n w,al3o w] else none }
def DLJ(w:Dk):Prop:=BG Try.prog (DNJ w) CZH (AL CZH) (C_all.xs w) (AF (C_all.L w)) (C_all.val w) (C_all.keep w) [] [202]
abbrev ZY:=@Exists One
abbrev Ip:=λ(f:One->Prop)=>∀(x:One),f x
abbrev sC:=Ol
abbrev Me:=@HMul.hMul Nat Nat Nat (@instHMul Nat instMulNat)
abbrev tC:=λ(x0 x1:Nat)=>decide (x0<x1)
abbrev He a:=RS (BV a)
abbrev Mv a b c d:=Lf a (BV b) c d
abbrev Nl a:=EE (BV a)
abbrev SV a:=CQ (BV a)
abbrev SY a:=CO (BV a)
abbrev SU a:=CP (BV a)
abbrev SO a:=IE (BV a)
abbrev BOX a b:=AOY a (AU b)
abbrev Eu a b:=BOX (BV a) b
abbrev Hr a:=EA (BP a) a
abbrev AQ:=BI 0
abbrev ZH a:=And AQ a
abbrev Um a b:=AH a a b
abbrev ZC a b(c:Nat->Prop) d e:=AJ a b (AK c) d e
abbrev HG a b c d:=And (AH a b c) d
abbrev GJ a b c d:=Pg (tC a b) c d
abbrev V3 a:=BHO a (BV a)
abbrev JF a:=SG a 1
abbrev Nz a b:=AR a (JF b)
abbrev PU a:=AK (λi=>Dn i a)
abbrev UQ a:=EA a 140737488355328
abbrev RV a:=EA a 9223372036854775807
abbrev Ms a:=RV (JF a)
abbrev Ht a:=GC Oz a
abbrev ZI a:=CI 0 a
abbrev Fp:=Ht (ZI 1)
abbrev Ji a b c:=And a (AZ 0 b (BI c))
abbrev Xl a b:=Ji a 1 b
abbrev Jr a:=Xl Bo a
abbrev Mu a b:=Ji (BI a) a b
abbrev bM a b:=XB (RJ a b)
abbrev Z4 a b c d:=AJ a a b c d
abbrev LD a:=AR a 1
abbrev FW a:=EA 1 a
abbrev Hf:=FW 9223372036854775807
abbrev Ir:=BO MK (ZI 1)
abbrev Je a b:=And a (AZ 0 0 b)
abbrev El a:=Je FI a
abbrev Hg a:=El (AR 0 a)
abbrev Ih a b:=CE a (AU b)
abbrev Ce a:=VQ a 0
abbrev BK:=AK Ce
attribute [go_sem] ZY Ip sC Me tC He Mv Nl SV SY SU SO BOX Eu Hr AQ ZH Um ZC HG GJ V3 JF Nz PU UQ RV Ms Ht ZI Fp Ji Xl Jr Mu bM Z4 LD FW Hf Ir Je El Hg Ih Ce BK
theorem DRW(w:Dk):(DLJ w)=(Ou (ZY (λi=>NO AQ (AP BK (AI (Wi w)) CL (IH w) (SO w) (SU w) (SY w) (SV w) (Cx w (Nl w) (λj=>Mv j w w j) (He w) (λj=>RZ w j j j j j))) FI)) (Ip (λi=>FF FI 0 (Wi w) (Vy (DN 0 FU (IH w) (EB (SO w) (SU w) (SY w) (SV w) (Ze (JQ w) w) (λj=>DO j (JQ w) (Ho w j) (OO w j) (Hk w j) (MZ w j)) (OC (Bb w) (BV w)) (AK (λj=>YW j (Bb w) (BV w) j j j (TA (BV w) j (LN w j)) (SZ (BV w) j (LN w j)))) (AP (PU w) CS (AN (λj=>VP (Vv w) j (BV w) j)) (KH w) (AN (λj=>Ik (RJ w j) (UU w j) (LF w j) (hP (RJ w j) w j) (MH w j))) (IH w) (SO w) (SU w) (EB (SY w) (SV w) (AR (LV w) (JQ w)) (AK (λj=>DO j (LV w) (OO w j) (Ho w j) (MZ w j) (Hk w j))) (Hj (BV w) (Bb w)) (λj=>NR j (BV w) j j j j (LN w j) j) (PU w) CS (AP (AN (λj=>VT (BV w) j (Vv w) j)) (KH w) (AN (λj=>Cl (UU w j) (RJ w j) (LF w j) (NU (RJ w j)) (Sa w j (bM w j)) (Sk w j (bM w j)))) (Ih 0 (JQ w)) (Hg 2) (Jr 2) Ir Hf (UQ 16)))))) (λj=>JO (EP AQ (LD j) (Wi w) (AP (GV j (ED 0)) (IH w) (SO w) (SU w) (SY w) (SV w) (Jh w) (AK (λk=>bO k w)) (DC (Nl w) (AK (λk=>Mv k w w k)) (PU w) CS (He w) (KH w) (AN (λk=>RZ w k k k k k)) (LD j) (λk=>BZ k j (EW (Eu w k) (AOY (V3 w) 0)) (EJ (Eu w k) (AOY (V3 w) 0)))))) (MW 1 j (EA j (LV w))) 40 j 50)) (And (ON AQ AQ 0) (Z4 (RB (sC (BV w)) 0) (DR (AEQ (BV w))) (IH w) (AJ (SO w) (SU w) (SY w) (SV w) (Cx w (Nl w) (λj=>Mv j w w j) (He w) (λj=>RZ w j j j j j))))))) (λi=>Bc 1 i (EA i (LV w)) i (Wi w) (HG (TT i) (IH w) (EB (SO w) (SU w) (SY w) (SV w) (Ze (JQ w) w) (λj=>DO j (JQ w) (Ho w j) (OO w j) (Hk w j) (MZ w j)) (OC (Bb w) (BV w)) (AK (λj=>YW j (Bb w) (BV w) j j j (TA (BV w) j (LN w j)) (SZ (BV w) j (LN w j)))) (AP (PU w) CS (AN (λj=>VP (Vv w) j (BV w) j)) (KH w) (AN (λj=>Ik (RJ w j) (UU w j) (LF w j) (hP (RJ w j) w j) (MH w j))) (IH w) (SO w) (SU w) (EB (SY w) (SV w) (AR (LV w) (JQ w)) (AK (λj=>DO j (LV w) (OO w j) (Ho w j) (MZ w j) (Hk w j))) (Hj (BV w) (Bb w)) (λj=>NR j (BV w) j j j j (LN w j) j) (PU w) CS (AP (AN (λj=>VT (BV w) j (Vv w) j)) (KH w) (AN (λj=>Cl (UU w j) (RJ w j) (LF w j) (NU (RJ w j)) (Sa w j (bM w j)) (Sk w j (bM w j)))) (DU i (JQ w)) (Mu i 2) (Jr 2) Fp (Ms i) (UQ (Me (JF i) 16)))))) (LA (λj=>Fe (EP AQ (Nz j i) (Wi w) (AP (AV j i) (IH w) (SO w) (SU w) (SY w) (SV w) (Jh w) (AK (λk=>bO k w)) (DC (Nl w) (AK (λk=>Mv k w w k)) (PU w) CS (He w) (KH w) (AN (λk=>RZ w k k k k k)) (Nz j i) (λk=>BZ k j (HT (Eu w k) (GJ k i (EM (Eu w k)) (EM (BOX (V3 w) i)))) (FQ (Eu w k) (GJ k i (FL (Eu w k)) (FL (BOX (V3 w) i)))))))) 1 j (EA j (LV w)) 40 j i))) (AH (ZH (Um (RB (qH i (λj=>Eu w j)) i) (ZC (AK (λj=>PV j (qH i (λk=>Eu w k)) j (Eu w j))) (AR i (RP (qH i (λj=>Eu w j)))) (λj=>VV j i (WB (Eu w j) (qH i (λk=>Eu w k)) j) (Eu w j) (qH i (λk=>Eu w k)) j) (BD (RP (qH i (λj=>Eu w j)))) FI))) (RB (sC (BV w)) i) (LP (Hr i) (λj=>PV j (sC (BV w)) j (Eu w (BP j))) (JB (AEQ (BV w)) (hd84 (qH i (λj=>Eu w j)) qF)) (IH w) (SO w) (SU w) (SY w) (SV w) (Cx w (Nl w) (λj=>Mv j w w j) (He w) (λj=>RZ w j j j j j)))))):=by kernel_rfl
theorem DUJ(w:Dk)(h:1<=w.c.ms.length/\w.c.ms.length<=40):DLJ w:=by
 obtain⟨h1,h2⟩:=h
 rw[DRW]<;> delta JB Oz EM FL ZF NE NU XB AR RP AK BO CI AO SH AU UH EA DV JD DJ DX OP IS Iz Bh YN Kz Rn Pz Vq Hc Av Gh jM LA FI qH hd84 QJ SG QP AN Af Pg BV Ia WJ AOY ZY Ip sC Me tC AH YJ AJ JJ Bs AZ EV Pq AI BI FJ RH Um Z4 Ui DK AP jF Pb mY Lg HA BZ ED BC IZ Cf W7 DN JE JF FQ FP HE HT EJ EW EU UU Xp WK LV Dh AQ NG BP GT GY WF AY Vv SE BDS IE Bt GV Dy CK JZ VB LF OX VQ Gz LN BD DR YO CE KJ MW MH Ce Ec SB YZ EE EC AV OO CS KH CQ BK CO CP DO ES MZ FU GC Cc FF NB RJ FW Dn JO ZK GJ BHO Az GP CX NT Ji JI Kd QD OC RS PZ RO DC ZI Bo CL UQ JQ EP HR PU bL UY DU PY RB IH Xl HG Jc Jr MK EB Am oJ QZ Cl LD Jh SU TA Wi SY SZ Ik BOX SV Km TS Ht NO SO RV XV Fp Eu TT Bb Je Lf Ks Hj El Hf UP V3 bO VS Bc Ir ON He LP PV Hk Hg Ho Fe VT VP RZ Nl ZH Nz YW Hr Ms ZC WB bM Mv Ih Sa Mu lU Sk Ze VV hP Ou NR Cx Vy;simp only[CCQ,eq_self,implies_true,forall_const,Ur]
 refine⟨⟨default,trivial⟩,⟨λh0=>⟨⟨rfl,by omega,by omega,by omega,by omega,by omega,by omega⟩,1,⟨rfl,rfl,rfl,λi hi=>?_⟩,by omega,by omega⟩,λh0=>absurd h0 (by omega)⟩,λk hk=>⟨λhlt=>⟨⟨by omega,by omega,(λh=>by cases h),by omega,by omega⟩,k+1,⟨rfl,(FN (by omega)).symm,rfl,λi hi=>?_⟩,by omega,by omega⟩,λhge=>?_⟩⟩
 ·obtain rfl:i=0:=by omega
  exact⟨rfl,rfl⟩
 ·by_cases h:i<k
  ·simp[h]
  ·obtain rfl:i=k:=by omega
   simp
 ·obtain rfl:k=w.c.ms.length:=by omega
  refine⟨⟨λi hi=>?_,λi hi=>?_,by omega⟩,rng_length _ _,by omega,λj hj=>?_,rfl⟩
  ·rw[OW _ _ _ hi];exact⟨rfl,rfl⟩
  ·rw[OW _ _ _ hi];exact⟨rfl,rfl⟩
  ·have hj:j<w.c.ms.length:=by simpa[Ol] using hj
   unfold Ol;rw[OW _ _ _ hj];exact⟨rfl,rfl⟩
theorem CLJ:AM Try.prog CPE (C_all.spec dDk1):=WY C_all DNJ [] [202] DPU (λ_=>by kernel_rfl) (λ_=>AB DFP (AB (DGM DQT DXJ) AG)) (λw h=>DUJ w h) (λ_=>YE rfl rfl) _
end Go.Bal

namespace Go.Bal
open Go Go.Sym Go.Proofs
def dU2:List AVal->Option I2Q
 |[.d (.v (.int .u64 a)),.d (.v (.int .u64 b))]=>some ⟨a,b⟩
 |_=>none
def xU2(x:I2Q):List AVal:=[.d (.v (.int .u64 x.a)),.d (.v (.int .u64 x.b))]
def CNG(x:I2Q):Prop:=BG Try.prog (ann 51 []) BPB (AL BPB) (xU2 x) (AF []) (.tup [.d (.v (.int .u64 0)),.d (.v (.int .u64 x.b))]) [] [] []
abbrev AHD:=I2Q.a
abbrev BVK:=@HPow.hPow Int Nat Int (@instHPow Int Nat (@instPowNat Int Int.instNatPow))
abbrev sA:=I2Q.b
abbrev bX a:=IntKind.wrap IntKind.u64 a
abbrev T5 a b:=bX (Hy a b)
abbrev BRF a b:=(@HDiv.hDiv Int Int Int (@instHDiv Int Int.instDiv)) a (BVK 2 b)
abbrev AYN a b:=BRF a (FZ b)
abbrev kV a:=AYN a 32
abbrev xE a:=andI IntKind.u64 a 4294967295
abbrev Sf a b:=EU a (DJ a b)
attribute [go_sem] AHD BVK sA bX T5 BRF AYN kV xE Sf
theorem DCD(x:I2Q):(CNG x)=(Um (Sf 32 (AU 64)) (CDT (Sf 32 (AU 64)) (AO 0 (bX (OP (bX (OP (T5 (kV (AHD x)) (kV (sA x))) (kV (bX (OP (T5 (kV (AHD x)) (xE (sA x))) (kV (T5 (xE (AHD x)) (xE (sA x))))))))) (kV (bX (OP (xE (bX (OP (T5 (kV (AHD x)) (xE (sA x))) (kV (T5 (xE (AHD x)) (xE (sA x))))))) (T5 (xE (AHD x)) (kV (sA x))))))))) (AO (sA x) (T5 (AHD x) (sA x))))):=by kernel_rfl
def BCZ:=pDQ dU2 (λx=>.tup [.d (.v (.int .u64 0)),.d (.v (.int .u64 x.b))]) (λx=>[x.a=1/\0<=x.b/\x.b<=40])
def DMX(x:I2Q):Prop:=BG Try.prog (ann 30 [(BDF,BCZ)]) CKT (AL CKT) (xU2 x) (AF []) (.tup [.d (.v (.int .u64 0)),.d (.v (.int .u64 x.b))]) [] [] []
theorem DSN(x:I2Q):(DMX x)=(HE (DN (AHD x) 1 (BC (sA x)) (DJ (sA x) 40)) FU (AI (sA x))):=by kernel_rfl
theorem hU2(xs:List AVal)(a:I2Q)(h:dU2 xs=some a):xs=xU2 a:=by
 unfold dU2 at h;split at h<;>cases h;rfl
theorem DXU{n:Int}(h0:0<=n)(h1:n<18446744073709551616):IntKind.u64.wrap n=n:=by
 simp only[IntKind.wrap,IntKind.bits,IntKind.signed]
 have:n % (2 ^ 64:Int)=n:=Int.emod_eq_of_lt h0 (by omega)
 simp only[this]
 simp
theorem CUZ:AM Try.prog BDF BCZ:=ATH xU2 hU2 λx h=>Mj (A:=ann 51 []) (ren:=[]) (fz:=[]) CTX (by kernel_rfl) AG (by
 show CNG x;rw[DCD]<;> delta AO AU DJ OP FZ Hy AHD BVK sA AH AJ pE Um CDT BC EU Sf bX BRF AYN kV T5 xE
 obtain⟨a,b⟩:=x
 obtain⟨h1,h2,h3⟩:a=1/\0<=b/\b<=40:=h
 subst h1
 obtain⟨n,rfl⟩:=Int.eq_ofNat_of_zero_le h2
 have hn:n<41:=by omega
 clear h2 h3
 revert hn;revert n;decide +kernel)
theorem DPN:AM Try.prog CIK BCZ:=ATH xU2 hU2 λx h=>Mj (A:=ann 30 [(BDF,BCZ)]) (ren:=[]) (fz:=[]) DIL (by kernel_rfl) (AB CUZ AG) (by
 show DMX x;rw[DSN]<;> delta AO UH DJ AHD sA AH AI BC DN HE FU;exact⟨h,rfl,rfl⟩)
def sng(s:Span):List Span:=[s]
def zSp:Span:=⟨0,0⟩
structure SpN where
 s:Span
 n:Nat
def C_rep:Ctr:={ α:=SpN,xs:=λa=>[.d (SR (sng a.s)),.int a.n],val:=λa=>.own 0 2 0 a.n,keep:=λa=>[(0,.live (.row 2 a.n λ_=>TF a.s))],pre:=λa=>[1<=a.n/\a.n<=40] }
def DNU:List AVal->Heap->Option (SpN×List (Nat×Nat)×List Nat)
 |[y,.d n],H=>match BOO y H with
  |some (l,f)=>some (⟨gD l 0,(EO n).toNat⟩,[],f)
  |none=>none
 |_,_=>none
def rp8(a:SpN):Shape:={ α:=Nat,dflt:=0,T:=λk=>⟨[(7,.own 201 2 0 a.n),(8,.int k)],[(201,.live (.row 2 a.n λi=>TF (bif decide (i<k) then a.s else zSp)))]⟩,inv:=λk=>1<=k/\k<=a.n,meas:=λk=>a.n-k,first:=[(201,7032)] }
def DNW(a:SpN):Ann:={ ann 48 [(CIK,BCZ)] with loops:=λid=>if id=8 then some [rp8 a] else none }
def DMN(a:SpN):Prop:=BG Try.prog (DNW a) CJZ (AL CJZ) (C_rep.xs a) (AF []) (C_rep.val a) (C_rep.keep a) [(0,201)] []
abbrev BXU:Prop:=(2:Nat)=(2:Nat)
abbrev BBU(a:SpN):Nat:=(IntKind.i64.wrap (IntKind.u64.wrap (↑a.n:Int))).toNat
abbrev BMV:Prop:=(0:Nat)=(0:Nat)
abbrev CAD(a:SpN):Prop:=a.n=BBU a
abbrev CAP(a:SpN):Nat:=min (sng a.s).length (BBU a)
abbrev BXT(i:Nat)(a:Nat)(a1:SpN):Span:=bif decide (i<a) then a1.s else zSp
abbrev BBD(i:Nat)(a:Nat)(a1:SpN):Int:=(BXT i a a1).lo
abbrev BZD(i:Nat)(a:SpN):Bool:=decide (i<CAP a)
abbrev BDO(i:Nat)(a:Nat)(a1:SpN):Int:=(BXT i a a1).hi
abbrev BNL(a:Nat)(a1:SpN):Prop:=(1:Nat)<=a/\a<=a1.n
abbrev BPD(a:Nat)(a1:SpN):Prop:=(↑a:Int)<(↑a1.n:Int)
abbrev BSI(a:Nat):Prop:=(0:Int)<=(↑a:Int)
abbrev BSJ(a:Nat)(a1:SpN):Prop:=(↑a:Int)<=(↑a1.n:Int)
abbrev BQX(a:Nat):Nat:=a-(0:Nat)
abbrev AIP(a:Nat):Nat:=(0:Nat)+a
abbrev ABS(a:SpN)(a1:Nat):Nat:=a.n-a1
abbrev BRD(a:Nat)(a1:SpN):Nat:=min (a-Int.toNat (0:Int)) (ABS a1 a)
abbrev BRC(a:Nat)(i:Nat)(a1:SpN):Bool:=decide (AIP a<=i)&&decide (i<AIP a+BRD a a1)
abbrev BRW(i:Nat)(a:Nat)(a1:SpN):Span:=bif decide ((0:Nat)+Int.toNat (0:Int)+(i-AIP a)<a) then a1.s else zSp
theorem DPD(a:SpN):(DMN a)=((IntKind.u64.wrap (↑(sng a.s).length:Int)=(1:Int)/\(0:Int)<=IntKind.u64.wrap (↑a.n:Int)/\IntKind.u64.wrap (↑a.n:Int)<=(40:Int))/\bif bif decide ((0:Int)>(0 :
 Int)) then true else decide (IntKind.u64.wrap (↑a.n:Int)>(9223372036854775807:Int)) then False else ((0:Int)<=IntKind.i64.wrap (IntKind.u64.wrap (↑a.n:Int))/\IntKind.i64.wrap (IntKind.u64.wrap (↑a.n:Int)) =
 IntKind.i64.wrap (IntKind.u64.wrap (↑a.n:Int))/\IntKind.i64.wrap (IntKind.u64.wrap (↑a.n:Int))<=(9223372036854775807:Int)/\(↑(16:Nat):Int)*IntKind.i64.wrap (IntKind.u64.wrap (↑a.n:Int)) <=
 (281474976710656:Int))/\((True/\((0:Nat)<(sng a.s).length->BXU))/\(BBU a).le (BBU a))/\(∃(a_1:Nat),(BMV/\CAD a/\(↑a_1:Int)=(↑(CAP a):Int)/\CAD a/\∀(i:Nat),i<a.n
 -> (BBD i a_1 a=bif BZD i a then (gD (sng a.s) i).lo else (0:Int))/\BDO i a_1 a=bif BZD i a then (gD (sng a.s) i).hi else (0:Int))/\BNL a_1 a)/\∀(a_1:Nat),BNL a_1 a->bif decide
 (BPD a_1 a) then ((BSI a_1/\BSJ a_1 a/\(↑a.n:Int)<=(↑a.n:Int)/\((↑a_1:Int)=(0:Int)∨BPD a_1 a))/\((0:Int)<=(0:Int)/\BSI a_1/\BSJ a_1 a/\((0:Int)=(0:Int)∨(0 :
 Int)<(↑a_1:Int)))/\((0:Nat)+BQX a_1<=a.n/\((0:Nat)<BQX a_1->BXU))/\(AIP a_1+ABS a a_1).le a.n)/\∃(a_3:Nat),(BMV/\a.n=a.n/\(↑a_3:Int)=IntKind.i64.wrap ((↑a_1 :
 Int)+(↑(BRD a_1 a):Int))/\a.n=a.n/\∀(i:Nat),i<a.n->(BBD i a_3 a=bif BRC a_1 i a then (BRW i a_1 a).lo else BBD i a_1 a)/\BDO i a_3 a=bif BRC a_1 i a then (BRW i
 a_1 a).hi else BDO i a_1 a)/\BNL a_3 a/\ABS a a_3<ABS a a_1 else BMV/\a.n=a.n/\a.n=a.n/\∀(i:Nat),i<a.n->a.s.lo=BBD i a_1 a/\a.s.hi=BDO i a_1 a):=by kernel_rfl
theorem DXX(a:SpN)(h:1<=a.n/\a.n<=40):DMN a:=by
 obtain⟨h1,h2⟩:=h
 have e1:IntKind.u64.wrap (a.n:Int)=a.n:=DXU (by omega) (by omega)
 have e2:IntKind.i64.wrap (a.n:Int)=a.n:=JC (by omega) (by omega)
 have e3:(sng a.s).length=1:=rfl
 rw[DPD];delta BXU BBU BMV CAD CAP BXT BBD BZD BDO BNL BPD BSI BSJ BQX AIP ABS BRD BRC BRW;simp only[CCQ,eq_self,implies_true,forall_const,e1,e2,e3,Nat.sub_zero,Int.toNat_zero]
 refine⟨⟨rfl,by omega,by omega⟩,λh=>?_,λ_=>⟨⟨by omega,by omega,by omega⟩,by omega,⟨1,⟨by omega,λi hi=>?_⟩,by omega,by omega⟩,λk hk=>⟨λhlt=>⟨⟨by omega,by omega,by omega⟩,min (2*k) a.n,⟨?_,λi hi=>?_⟩,by omega,by omega⟩,λhge i hi=>?_⟩⟩⟩
 ·simp at h;omega
 ·by_cases h:i<1
  ·obtain rfl:i=0:=by omega
   have:0<min 1 a.n:=by omega
   simp[this];exact⟨rfl,rfl⟩
  ·have:¬ i<min 1 a.n:=by omega
   simp[h,this,zSp]
 ·rw[JC (by omega) (by omega)];omega
 ·have e:(decide (k<=i)&&decide (i<k+min k (a.n-k)))=(decide (k<=i)&&decide (i<min (2*k) a.n)):=by
   congr 1;rw[decide_eq_decide];omega
  rw[e]
  by_cases q1:k<=i
  ·by_cases q2:i<min (2*k) a.n
   ·have q3:i-k<k:=by omega
    simp[q1,q2,q3]
   ·have q4:¬ i<k:=by omega
    simp[q1,q2,q4]
  ·have q2:i<min (2*k) a.n:=by omega
   have q3:i<k:=by omega
   simp[q1,q2,q3]
 ·have:i<k:=by omega
  simp[this]
theorem DPW:AM Try.prog CJN (C_rep.spec DNU):=WY C_rep DNW [(0,201)] [] DIP (λ_=>by kernel_rfl) (λ_=>AB DPN AG) (λa h=>DXX a h) (λ_=>YE rfl rfl) _
def dSs1:List AVal->Heap->Option (List Span×List (Nat×Nat)×List Nat)
 |[y],H=>match BOO y H with
  |some (l,f)=>some (l,[],f)
  |none=>none
 |_,_=>none
def C_clo:Ctr:={ α:=List Span,xs:=λl=>[.d (SR l)],val:=λl=>.own 0 2 0 l.length,keep:=λl=>[(0,.live (rowS l))],pre:=λl=>[0<l.length/\l.length<1073741824] }
def DMV:Ann:={ ann 8 [] with mt:=λid=>id==3 }
def DNS(l:List Span):Prop:=BG Try.prog DMV BTF (AL BTF) (C_clo.xs l) (AF []) (C_clo.val l) (C_clo.keep l) [(0,4032)] []
abbrev Ws a b c d:=AJ a b c c d
abbrev uN a b c:=Ws a AQ b c
abbrev En a b(c:Nat->Prop):=uN a b (AK c)
abbrev Ov a b c d e:=AJ a b c d (UQ e)
abbrev Fg:=BI 2
attribute [go_sem] Ws uN En Ov Fg
theorem DSA(l:List Span):(DNS l)=(And (KO 0 (RP l)) (En (Ov (Je AQ Fg) (Ji FI (RP l) 2) (Ht (ZI (RP l))) (RV (BP (RP l))) (Me (BP (RP l)) 16)) (RB l (BP (RP l))) (λi=>PV i l i (SH l (IS i 0))))):=by kernel_rfl
theorem CUE:AM Try.prog BDT (C_clo.spec dSs1):=WY C_clo (λ_=>DMV) [(0,4032)] [] CTE (λ_=>by kernel_rfl) (λ_=>AG) (λ(l:List Span) h=>by
 show DNS l;rw[DSA]<;> delta JB Oz EM FL AR RP AK BO CI AO SH EA IS FI QJ SG QT Me AH AJ AZ BI Ws BZ FQ HT EJ EW AQ BP DR GC Cc Ji ZI UQ RB Ov KO Fg Ht RV Je Ks PV uN En;simp only[CCQ,eq_self,implies_true,forall_const]
 obtain⟨h1,h2⟩:0<l.length/\l.length<1073741824:=h
 exact⟨h1,⟨λ_=>h1,by omega,by omega⟩,λ_ _=>⟨rfl,rfl⟩⟩) (λ_=>YE rfl rfl) _
def farS:Span:=⟨-100000000,100000000⟩
def notM(c:Cht)(j:Int):Span:=bif hasN c.ns j then (ntOf c.ns j).t else farS
def notL(c:Cht):List Span:=KA c.ms.length λi=>notM c (i:Int)
structure Sn where
 seen:Int->Bool
 deriving Inhabited
def left(c:Cht)(seen:Int->Bool):Nat->Nat
 |0=>0
 |k+1=>left c seen k+bif (hasN c.ns (k:Int)&&!seen (k:Int)) then 1 else 0
def nt3(w:Dk):Shape:={ α:=Sn,dflt:=default,T:=λs=>⟨[(3,.own 202 2 0 w.c.ms.length),(19,.bptr 203 0)],dkK w ++ [(202,.live (.row 2 w.c.ms.length λi=>TF (bif s.seen (i:Int) then (ntOf w.c.ns (i:Int)).t else farS))),(203,.live (.miter 101 (hasN w.c.ns) w.st s.seen none))]⟩,inv:=λs=>∀j,s.seen j=true->hasN w.c.ns j=true,meas:=λs=>left w.c s.seen w.c.ms.length,first:=[(202,2128),(203,3064)] }
def nsIn(c:Cht):Prop:=∀j,hasN c.ns j=true->0<=j/\j<c.ms.length
def C_not:Ctr:={ ro:=[100,101],α:=Dk,xs:=λ_=>[.bptr 100 0],L:=λw=>dkL w,val:=λw=>.d (SR (notL w.c)),keep:=λw=>dkK w,pre:=λw=>[1<=w.c.ms.length/\w.c.ms.length<=40/\nsIn w.c] }
def DMU(w:Dk):Ann:={ ann 31 [(CJN,C_rep.spec DNU)] with E:=[100,101],md:=λid=>if id=2 then some (λk=>if k=4 then 5 else 0) else if id=3 then some (λk=>if k=0 then 6 else 0) else if id=4 then some (λk=>if k=0 then 7 else 0) else none,loops:=λid=>if id=3 then some [nt3 w] else none }
def DLT(w:Dk):Prop:=BG Try.prog (DMU w) CBK (AL CBK) (C_not.xs w) (AF (C_not.L w)) (C_not.val w) (C_not.keep w) [] [202]
abbrev BCI:=@cond Span
abbrev xO:=Sn.seen
abbrev RX a b c d:=Pg (jJ a b) c d
abbrev M5 a b:=LF a (AU b)
abbrev P8 a b:=xO a (AU b)
abbrev Ej a:=BP (FZ a)
abbrev LQ a b(c:Nat->Prop) d e f g h p:=AP a b (AK c) d e f g h p
attribute [go_sem] BCI xO RX M5 P8 Ej LQ
theorem DSG(w:Dk):(DLT w)=(AH (BB (BI 1) Bo (AK (λi=>BZ i 1 (HT (SH (sng (SH (Mt (X6 (-100000000) 100000000)) 0)) i) (-100000000)) (FQ (SH (sng (SH (Mt (X6 (-100000000) 100000000)) 0)) i) 100000000))) (AI (Wi w)) (FW (LV w)) (Fv (LV w))) ((@Exists Sn) (λi=>And (AJ AQ (Jh w) (IH w) (SO w) (KE (SU w) (SY w) (SV w) (Jh w) (λj=>bO j w) (Nl w) (λj=>Mv j w w j) (PU w) (AOU CS (He w) (KH w) (AN (λj=>RZ w j j j j j)) (Jh w) (AK (λj=>VV j (LV w) (WB (BCI (P8 i j) (M5 w j) farS) (Mt (X6 (-100000000) 100000000)) 0) (BCI (P8 i j) (M5 w j) farS) (Mt (X6 (-100000000) 100000000)) 0)) (KH w) (AN (λj=>HM (xO i j)))))) (AN (λj=>GC (xO i j) (DR (OX (BV w) j)))))) ((λ(f:Sn->Prop)=>∀(x:Sn),f x) (λi=>BO (AN (λj=>GC (xO i j) (DR (OX (BV w) j)))) (AY (He w) (KH w) (BO (AN (λj=>GC (OX (BV w) j) (DR (xO i j)))) (LQ (RB (notL (BV w)) (LV w)) (Hr (LV w)) (λj=>PV j (notL (BV w)) j (BCI (P8 i (BP j)) (M5 w (BP j)) farS)) (IH w) (SO w) (SU w) (SY w) (SV w) (Cx w (Nl w) (λj=>Mv j w w j) (He w) (λj=>RZ w j j j j j)))) (AN (λj=>GC (OX (BV w) j) (BO (HM (xO i j)) (AY (He w) (KH w) (And (CE j (Wi w)) (KO (Ej j) (LV w))) ((@Exists Sn) (λk=>CK (AJ AQ (Jh w) (IH w) (SO w) (KE (SU w) (SY w) (SV w) (Jh w) (λl=>bO l w) (Nl w) (λl=>Mv l w w l) (PU w) (AOU CS (He w) (KH w) (AN (λl=>RZ w l l l l l)) (Jh w) (AK (λl=>BZ l (LV w) (HT (BCI (P8 k l) (M5 w l) farS) (RX l (Ej j) (EM (LF w j)) (EM (BCI (P8 i l) (M5 w l) farS)))) (FQ (BCI (P8 k l) (M5 w l) farS) (RX l (Ej j) (FL (LF w j)) (FL (BCI (P8 i l) (M5 w l) farS)))))) (KH w) (AN (λl=>JB (xO k l) (or (BVM l j) (xO i l))))))) (AN (λl=>GC (xO k l) (DR (OX (BV w) l)))) (left (BV w) (xO k) (LV w)) (left (BV w) (xO i) (LV w)))))))))))):=by kernel_rfl
theorem CPP(c:Cht)(s t:Int->Bool)(h:∀j,s j=true->t j=true):∀k,left c t k<=left c s k
 |0=>Nat.le_refl _
 |k+1=>by
  have ih:=CPP c s t h k
  have hk:=h (k:Int)
  simp only[left]
  cases hN:hasN c.ns (k:Int)<;>cases h1:s (k:Int)<;>cases h2:t (k:Int)<;>simp_all<;>omega
theorem CQR(c:Cht)(s t:Int->Bool)(h:∀j,s j=true->t j=true){j:Nat}(h0:hasN c.ns (j:Int)=true)(h1:s (j:Int)=false)(h2:t (j:Int)=true):∀k,j<k->left c t k<left c s k
 |0,hj=>by omega
 |k+1,hj=>by
  by_cases e:j=k
  ·subst e
   have:=CPP c s t h j
   simp only[left,h0,h1,h2]
   simp;omega
  ·have ih:=CQR c s t h h0 h1 h2 k (by omega)
   have hk:=h (k:Int)
   simp only[left]
   cases hN:hasN c.ns (k:Int)<;>cases h3:s (k:Int)<;>cases h4:t (k:Int)<;>simp_all<;>omega
theorem DUF(w:Dk)(h:1<=w.c.ms.length/\w.c.ms.length<=40/\nsIn w.c):DLT w:=by
 obtain⟨h1,h2,h3⟩:=h
 rw[DSG]<;> delta JB Oz EM FL ZF NU XB AR RP AK BO CI AO SH AU EA DJ DX Iz Bh YN Kz Rn Pz Vq Hc Av Gh qH QJ FZ SG QP AN Af QT Pg BVM BV Ia WJ jJ X6 BCI xO AH YJ AJ JJ AZ AI BI FJ RH AP jF Lg HA BZ BC IZ AOU JE FQ FP HT EJ EW EU UU WK LV Dh AQ NG BP GT WF AY SE IE Bt Dy BB CK VB LF OX LN DR YO CE KJ MH YZ EE OO CS KH CQ CO CP MZ Ej GC Cc NB FW Dn ZK Az GP RS Bo PU bL UY RB IH Jc oJ Jh KO SU Wi SY HM SV TS SO XV RX Lf Ks KE bO LQ He PV RZ Nl Hr Mt WB Mv Fv lU VV Cx M5 P8;simp only[CCQ,eq_self,implies_true,forall_const]
 refine⟨⟨by omega,λj hj=>?_,by omega,h2⟩,⟨⟨λ_=>false⟩,⟨λi hi=>⟨rfl,rfl⟩,λ_=>rfl⟩,λj hj=>by cases hj⟩,λs hs=>⟨λhall=>⟨rng_length _ _,Nat.le_refl _,λj hj=>?_⟩,λk hk hsk=>⟨⟨h3 k hk,by have:=h3 k hk;omega⟩,⟨λn=>decide (n=k)||s.seen n⟩,⟨λi hi=>?_,λ_=>rfl⟩,λj hj=>?_,?_⟩⟩⟩
 ·obtain rfl:j=0:=by omega
  exact⟨rfl,rfl⟩
 ·have hj:j<w.c.ms.length:=by simpa[notL] using hj
  have e:s.seen (j:Int)=hasN w.c.ns (j:Int):=by
   cases hq:hasN w.c.ns (j:Int) with
   |true=>exact hall _ hq
   |false=>
    cases hq2:s.seen (j:Int) with
    |false=>rfl
    |true=>rw[hs _ hq2] at hq;cases hq
  unfold notL;rw[OW _ _ _ hj,e];exact⟨rfl,rfl⟩
 ·have hk0:=h3 k hk
  have e:decide ((i:Int)=k)=decide (i=k.toNat):=by
   rw[Bool.eq_iff_iff,decide_eq_true_eq,decide_eq_true_eq];omega
  simp only[e]
  by_cases hi2:i=k.toNat
  ·have:(i:Int)=k:=by omega
   rw[this];simp[hi2]
  ·simp[hi2]
 ·simp only[Bool.or_eq_true,decide_eq_true_eq] at hj
  rcases hj with rfl | hj
  ·exact hk
  ·exact hs j hj
 ·have hk0:=h3 k hk
  have e:((k.toNat:Nat):Int)=k:=by omega
  exact CQR w.c _ _ (λj hj=>by simp[hj]) (j:=k.toNat) (by rw[e];exact hk) (by rw[e];exact hsk) (by rw[e];simp) _ (by omega)
theorem DRG:AM Try.prog BZX (C_not.spec dDk1):=WY C_not DMU [] [202] DES (λ_=>by kernel_rfl) (λ_=>AB DPW AG) (λw h=>DUF w h) (λ_=>YE rfl rfl) _
end Go.Bal
