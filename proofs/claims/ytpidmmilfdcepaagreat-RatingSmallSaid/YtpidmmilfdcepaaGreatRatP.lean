/- Package rating: Dry. -/
import Derived.Test.YtpidmmilfdcepaaGreatRatO
set_option linter.unusedVariables false
set_option linter.unusedSimpArgs false
namespace Go.Bal
open Go Go.Sym Go.Proofs
def Du(a:GB):Span×Int:=bif AV a==0 then (bif decide ((lnK a 0).length=0) then (default,6) else (⟨sT rU ⟨FM a,0⟩,sT sY ⟨FM a,0⟩⟩,0)) else (default,AV a)
def C_Dry:Ctr:={ α:=GB,xs:=xGB,L:=λ_=>[],val:=λx=>.tup [.d (AHZ (Du x).1),.int (Du x).2],keep:=λ_=>[],pre:=λx=>[preB x/\True] }
def G_dy(c:Sym.Spec):List (FuncId×Sym.Spec):=[(67,c),(88,C_lns.spec dBkS),(90,orS ((cJ rU 95).spec (dUpO 95)) ((cJ sY 96).spec (dUpO 96)))]
def CPR:Ann:=ann 31 (G_dy (C_open.spec dGB))
def CNF:Ann:={ ann 31 (G_dy (C_openX.spec dGB)) with cut:=λid=>if id=4 then some [] else none }
def COS(x:GB):Prop:=AS ZP CPR Tryz.f45 (AE Tryz.f45) (xGB x) (AB []) (C_Dry.val x) [] [] []
abbrev Y4 a:=CEC (Du a)
abbrev HW a:=BJJ (EU a) 0
abbrev QH a:=BWE (EU a) (HW a)
abbrev Ng a:=jQ (BDY (Du a))
abbrev Pk a:=AHW (BDY (Du a))
abbrev Dg a:=Is (EU a)
abbrev Fq:=oD 0 0
abbrev V1 a:=Ej (EU a)
abbrev BQI a b c d e f g h:=BK a a b c d e f g h
abbrev Mq a b:=V0 (PO a) (PQ b)
attribute [go_sem] Y4 HW QH Ng Pk Dg Fq V1 BQI Mq
theorem CRX(x:GB):(COS x)=(AO (CY (Tk x x) (Sc x x) (Lz x x) (Lw x x) (W3 x) (P6 x) (CL (Mq x x))) (BQI Fq (Eb (EU x)) (Gd (EU x)) (OL (Dg x) (EU x)) (OX (Dg x) (EU x)) CZ Gq (BK (MU (EU x)) (EL (λi=>DI (V1 x) i (EU x) (λj=>CP j (V1 x) i (EU x) (CE (BA (V1 x) i j) (BA (EU x) i j) (BE (V1 x) i j) (BE (EU x) i j) (V1 x) i j (BZ (EU x) i j))))) (JJ (EU x) (HW x)) (JK (EU x) (HW x)) (JI (EU x) (HW x)) (JM (EU x) (HW x)) (SF (EU x) (Dg x) OB) zM (FJ 2000))) (Gj (mN (CO (BHG (V1 x) 0 0 0))) (Jr (Pk x) (Ng x) (Y4 x) 6) (CY Fq (Eb (EU x)) (Gd (EU x)) (OL (Dg x) (EU x)) (OX (Dg x) (EU x)) CZ (DO (VO (HW x)) (MU (HW x)) (EL (λi=>DI (QH x) i (HW x) (λj=>CP j (QH x) i (HW x) (CE (BA (QH x) i j) (BA (HW x) i j) (BE (QH x) i j) (BE (HW x) i j) (QH x) i j (BZ (HW x) i j))))) (cU (Be (EU x)) (EU x)) (qW (Be (EU x)) (EU x)) (BC (Cp (EU x)) (Dg x)) (λi=>AOV i (Cp (EU x)) (Dg x)) CZ (DO (VO (HW x)) (MU (HW x)) (EL (λi=>DI (HW x) i (QH x) (λj=>CP j (HW x) i (QH x) (CE (BA (HW x) i j) (BA (QH x) i j) (BE (HW x) i j) (BE (QH x) i j) (HW x) i j (BZ (QH x) i j))))) (BD (SF (EU x) (Dg x) OB) zM (FJ (NP (Dg x))) UN) Fq (Eb (EU x)) (λi=>UA i (bH (EU x)) (Be (EU x))) (OL (Dg x) (EU x)) (Ro (OX (Dg x) (EU x)) (VO (HW x)) (MU (HW x)) (λi=>DI (QH x) i (HW x) (λj=>CP j (QH x) i (HW x) (CE (BA (QH x) i j) (BA (HW x) i j) (BE (QH x) i j) (BE (HW x) i j) (QH x) i j (BZ (HW x) i j)))) (cU (Be (EU x)) (EU x)) (λi=>UA i (Be (EU x)) (bH (EU x))) (BC (Cp (EU x)) (Dg x)) (X7 (BR (Cp (EU x)) (Dg x)) CZ (VO (HW x)) (MU (HW x)) (EL (λi=>DI (HW x) i (QH x) (λj=>CP j (HW x) i (QH x) (CE (BA (HW x) i j) (BA (QH x) i j) (BE (HW x) i j) (BE (QH x) i j) (HW x) i j (BZ (QH x) i j))))) (SF (EU x) (Dg x) OB) zM (NP (Dg x)) UN))))) (Lm (Pk x) (jW rU (BkI.mk (QH x) 0)) (Ng x) (jW sY (BkI.mk (QH x) 0)) (Y4 x) 0))):=by kernel_rfl
def CPA(x:GB):Prop:=AS ZP CNF Tryz.f45 (AE Tryz.f45) (xGB x) (AB []) (C_Dry.val x) [] [] []
theorem CTT(x:GB):(CPA x)=(AO (CY (Tk x x) (Sc x x) (Lz x x) (Lw x x) (W3 x) (P6 x) (II (Mq x x))) (HZ (RR (Mq x x)) (Jr (Pk x) (Ng x) (Y4 x) (Mq x x)) zA) HO):=by kernel_rfl
theorem CYC(x:GB)(h:preB x)(hE:AV x=0):COS x:=by
 rw[CRX]<;> dsimp only[go_sem];simp only[CC,CU,XS,Fe,sK,sJ,Fh,if_true]
 have hb:US x.g x.b:=WT hE
 have e0:AV x==0:=by rw[hE];rfl
 refine⟨⟨h.1,h.2,hE⟩,⟨rfl,rfl,hb,by omega,by omega⟩,λhc=>?_,λhc=>⟨⟨rfl,⟨hb,by omega,by omega⟩,rfl,hb,by omega,by omega⟩,?_⟩⟩
 ·have hc:((lnK x 0).length:Int)==0:=hc
  have e:Du x=(default,6):=by
   unfold Du;rw[e0,decide_eq_true (show (lnK x 0).length=0 by have:=eq_of_beq hc;omega)];rfl
  rw[e];exact⟨rfl,rfl,rfl⟩
 ·have hc:(((lnK x 0).length:Int)==0)=false:=hc
  have e:Du x=(⟨sT rU ⟨FM x,0⟩,sT sY ⟨FM x,0⟩⟩,0):=by
   unfold Du;rw[e0,decide_eq_false (show ¬(lnK x 0).length=0 by intro h0;rw[h0] at hc;cases hc)];rfl
  rw[e];exact⟨rfl,rfl,rfl⟩
theorem CYL(x:GB)(h:preB x)(hE:AV x≠0):CPA x:=by
 rw[CTT]<;> dsimp only[go_sem];simp only[CC,CU,XS,Fe,sK,sJ,Fh,if_true]
 have hE:AV ⟨x.g,x.b⟩≠0:=hE
 have e0:(AV ⟨x.g,x.b⟩==0)=false:=by simpa using hE
 refine⟨⟨h.1,h.2,hE⟩,λ_=>?_,λhc=>?_⟩
 ·have e:Du x=(default,AV x):=by unfold Du;rw[show (AV x==0)=false from e0];rfl
  rw[e];exact⟨rfl,rfl,rfl⟩
 ·exact hE (by simpa using hc)
theorem BYS:AH ZP 45 (C_Dry.spec dGB):=Ctr.spec_ok (C:=C_Dry) (λ(x:GB) h=>by
 have h:preB x:=(show preB x/\True from h).1
 by_cases hE:AV x=0
 ·exact WP (A:=CPR) (L:=[]) (keep:=[]) (ren:=[]) (fz:=[]) Tryz.func45 (by kernel_rfl) (AA C4 (AA AGW (AA (pR BTG BQC) AD))) (CYC x h hE)
 ·exact WP (A:=CNF) (L:=[]) (keep:=[]) (ren:=[]) (fz:=[]) Tryz.func45 (by kernel_rfl) (AA yY (AA AGW (AA (pR BTG BQC) AD))) (CYL x h hE)) _
def C_isKnot:Ctr:={ C_line with val:=λ(s:List Gau)=>.bool (!(EV s).2) }
def BFP(s:List Gau):Prop:=AS ZP (ann 12 [(69,C_line.spec dGsK)]) Tryz.f78 (AE Tryz.f78) (C_isKnot.xs s) (AB []) (C_isKnot.val s) [] [] []
abbrev To a:=not (Yo (CG a))
abbrev Sn a:=Pb (CG a)
abbrev HV a:=KV (CG a)
attribute [go_sem] To Sn HV
theorem BUC(s:List Gau):(BFP s)=(Wo (BD (AY s) (BJ s) (HV s) (Sn s)) (not (Yo s)) (To s)):=by kernel_rfl
structure GG where
 a:Gau
 b:Gau
def dGG:List AVal->Option GG
 |[.d (.agg [.v (.int .i64 a),.v (.int .i64 b),.v (.int .i64 c)]),.d (.agg [.v (.int .i64 p),.v (.int .i64 q),.v (.int .i64 r)])]=>some ⟨⟨a,b,c⟩,⟨p,q,r⟩⟩
 |_=>none
def xGG(a:GG):List AVal:=[.d (Ry a.a),.d (Ry a.b)]
def CNW:=pD dGG λa=>.int (Ib a.a.st a.b.st)
def CPJ(a:GG):Prop:=AS ZP (ann 10 [(81,N8)]) Tryz.f116 (AE Tryz.f116) (xGG a) (AB []) (.int (Ib a.a.st a.b.st)) [] [] []
theorem CTJ(a:GG):(CPJ a)=(AK (hd30 (Wk (GG.a a)) (Wk (GG.b a)))):=by kernel_rfl
def srtK(s:List Gau):Nat->Bool
 |0=>true
 |k+1=>bif decide (Ib (gD s (k+1)).st (gD s k).st<0) then false else srtK s k
def srtM(s:List Gau):Bool:=srtK s (s.length-1)
def C_sorted:Ctr:={ α:=List Gau,xs:=λs=>[.d (AT s),.fn (.func 116) [] []],L:=λ_=>[],val:=λs=>.bool (srtM s),keep:=λ_=>[],pre:=λs=>[0<s.length/\s.length<1073741824] }
def BGD:List AVal->Heap->Option (List Gau×List (Nat×Nat)×List Nat)
 |[y,.fn (.func g) [] []],H=>if g=116 then match Ht y H with
  |some (l,f)=>some (l,[],f)
  |none=>none else none
 |_,_=>none
def so2(s:List Gau):Shape:={ α:=Nat,dflt:=0,T:=λk=>⟨[(0,.d (AT s)),(1,.fn (.func 116) [] []),(5,.int k)],[]⟩,inv:=λk=>k+1<=s.length/\srtM s=srtK s k,meas:=λk=>k }
def BEM(s:List Gau):Ann:={ ann 25 [(116,CNW)] with loops:=λid=>if id=2 then some [so2 s] else none }
def BDP(s:List Gau):Prop:=AS ZP (BEM s) Tryz.f115 (AE Tryz.f115) (C_sorted.xs s) (AB []) (C_sorted.val s) [] [] []
abbrev lU a b:=MM a (Dv b)
abbrev Rm a b:=Wr a (CH b)
attribute [go_sem] lU Rm
theorem BVA(s:List Gau):(BDP s)=(HU (λi=>EE (Af s (lU i (CH s))) (CN i) (CH s) (Va (srtM s) (srtK s i))) (λi=>MO (GP (CN i) (CH s) (Va (srtM s) (srtK s i))) (Ru i) (YE (PH i s) (Dv i) (Rm (Dv i) s)) (HZ (eC (BL s i) (BL s (Uh i))) (KU (srtM s)) (EI (λj=>IB (Af s (lU j i)) (GP (CN j) (CH s) (Va (srtM s) (srtK s j))) j i))) (IN (srtM s)))):=by kernel_rfl
structure GK where
 g:List Gau
 k:List Int
def dGK:List AVal->Heap->Option (GK×List (Nat×Nat)×List Nat)
 |[x,y],H=>match Ht x H,Xt y H with
  |some (l,f),some (m,e)=>some (⟨l,m⟩,[],f ++ e)
  |_,_=>none
 |_,_=>none
def xGK(a:GK):List AVal:=[.d (AT a.g),.d (AZ a.k)]
def Ax(a:GK):List Gau:=a.k.map λi=>gD a.g i.toNat
def Fx(a:GK):Bool:=bif JD a.k.length 2 3 then a.k.all λx=>JD x 0 (wr (a.g.length-1)) else false
def nmB(s:List Gau):Bool:=bif srtM s then decide ((gD s 0).st<(gD s (s.length-1)).st) else false
def Cn(a:GK):List Gau×Bool:=bif Fx a then (Ax a,nmB (Ax a)) else ([],false)
def C_named:Ctr:={ α:=GK,xs:=xGK,L:=λ_=>[],val:=λa=>.tup [.d (AT (Cn a).1),.bool (Cn a).2],keep:=λ_=>[],pre:=λa=>[a.g.length<1073741824/\a.k.length<1073741824] }
def nm5n(a:GK):Shape:={ α:=One,dflt:=default,T:=λ_=>⟨[(2,.bptr 200 0),(6,.d NC),(20,.d (AZ a.k)),(21,.int a.k.length),(22,.int 0)],[(200,.live (.box [.d (AT a.g)]))]⟩,inv:=λ_=>Fx a=true,meas:=λ_=>a.k.length+1,first:=[(200,1000)] }
def nm5o(a:GK):Shape:={ α:=GsK,dflt:=default,T:=λx=>⟨[(2,.bptr 200 0),(6,.own 201 3 0 x.l.length),(20,.d (AZ a.k)),(21,.int a.k.length),(22,.int x.i)],[(200,.live (.box [.d (AT a.g)])),(201,.live (rowG x.l))]⟩,inv:=λx=>Fx a=true/\1<=x.i/\x.i<=a.k.length/\x.l=(a.k.take x.i).map λi=>gD a.g i.toNat,meas:=λx=>a.k.length-x.i,again:=[(201,8096)] }
def nm9(a:GK):Shape:={ α:=One,dflt:=default,T:=λ_=>⟨[(6,.d (AT (Ax a)))],[]⟩,inv:=λ_=>Fx a=true,meas:=λ_=>0,ffz:=[201] }
def BOT(a:GK):Ann:={ ann 52 [(49,G4),(113,C4In.spec d4In),(115,C_sorted.spec BGD)] with mt:=λid=>id==7,loops:=λid=>if id=5 then some [nm5n a,nm5o a] else none,cut:=λid=>if id=9 then some [nm9 a] else none }
def BQR(a:GK):Prop:=AS ZP (BOT a) Tryz.f77 (AE Tryz.f77) (C_named.xs a) (AB []) (C_named.val a) [] [] []
abbrev GW:=GK.k
abbrev CI:=GK.g
abbrev BEF:=@Prod.fst (List Gau) Bool
abbrev CDF:=@Prod.snd (List Gau) Bool
abbrev AON:=@List.map Int Gau
abbrev cW a:=CDF (Cn a)
abbrev Gf a b:=TG a (CH b)
abbrev jZ a:=SA (CH a)
abbrev APV a b:=And a (IN b)
abbrev EQ a:=GZ (GW a)
abbrev Nq a:=FF 1 a
abbrev W6 a:=Nq (CF a)
abbrev O1 a b:=NV (KL a b)
abbrev Cu a b:=O1 (GW a) b
abbrev Qx a b c:=BL (CI a) (Cu b c)
abbrev vP a:=EZ (GW a)
abbrev vE a:=IW (GW a)
abbrev Dp a b c d e f:=HF a b c d e 9223372036854775807 (tW f)
abbrev vK a:=ABE a 24
abbrev Ws:=APT AUD
abbrev VA a b c:=Gf (KL a b) c
abbrev oW a:=AIO a 0
abbrev X4:=Xk 3
abbrev AEH a:=BO (EQ a)
attribute [go_sem] GW CI BEF CDF AON cW Gf jZ APV EQ Nq W6 O1 Cu Qx vP vE Dp vK Ws VA oW X4 AEH
theorem BWS(a:GK):(BQR a)=(TC (Pa (Lx (AEH a) 2 3) (DY (EA (GW a)) (CM (GW a)) (AY (CI a)) (BJ (CI a)) (OW (CI a)) (VG (CI a)) (lF (GW a)) HO)) (JR (Lx (AEH a) 2 3) (not (BZA (FI (GW a)) (λi=>gL i (ANS (CG (CI a))))))) (uO (Td (BEF (Cn a))) (KU (cW a))) (Ir (AO (Ur (λi=>APV (DY AF AN (vE a) (vP a) (BP (EQ a)) BB (BQ (CI a)) (AP (CI a))) (Fx a))) (Ep (λi=>FA (Fx a) (HZ (Tx 0 (AEH a)) (AO (VL (EQ a)) (Dp (VA (GW a) 0 (CI a)) X4 Dl Xg 1 24) (I4 (λj=>Je (EN (UQ (Oo j 1) (vE a) (vP a) (BP (EQ a)) (oW (CF j)) (BQ (CI a)) (λk=>fX k (CI a)) (Oo j 1) (λk=>S1 k (JG j) (CI a) (Cu a DW)))) (JO (IN (Fx a)) (W6 j) (CF j) (EQ a) (Gv j (AON (λk=>sU (CI a) (NV k)) (G5 (CF j) (GW a))))) (EQ a) (CF j) (CN (EQ a))))) (Ur (λj=>APV (AAX (Td (Ax a))) (Fx a)))))) (ATH (λi=>YH (JO (IN (Fx a)) (W6 i) (CF i) (EQ a) (Gv i (AON (λj=>sU (CI a) (NV j)) (G5 (CF i) (GW a))))) (CF i) (EQ a) (CR (CF i) (EQ a)) (Dp (VA (GW a) (CF i) (CI a)) (XY (JG i) (AAL 0 (JG i) Iq)) Dl Ws (Tc i) (vK (Tc i))) (I4 (λj=>EO (EN (UQ (Oo j (Tc i)) (vE a) (vP a) (BP (EQ a)) (AJ (CF j) (CF i)) (BQ (CI a)) (λk=>fX k (CI a)) (Oo j (Tc i)) (λk=>Pg k (JG j) (gB k i (BL (JG i) k) (Qx a a (CF i))) (gB k i (DF (JG i) k) (DF (CI a) (Cu a (CF i)))) (gB k i (DG (JG i) k) (DG (CI a) (Cu a (CF i))))))) (JO (IN (Fx a)) (W6 j) (CF j) (EQ a) (Gv j (AON (λk=>sU (CI a) (NV k)) (G5 (CF j) (GW a))))) (EQ a) (CF j) (CF i))) (Ur (λj=>APV (Tl (fK (Ax a) i) (AOS i) (fS (Ax a) (JG i))) (Fx a)))))) (FA (Fx a) (AR (BD (AY (Ax a)) (BJ (Ax a)) (jZ (CG (Ax a))) (HV (Ax a))) (And (FA (srtM (CG (Ax a))) (Wg (Rm 0 (Ax a)))) (FA (srtM (CG (Ax a))) (Gf (Dv (CH (Ax a))) (Ax a)))) (HQ (BEF (Cn a)) (Ax a)) (EK (BEF (Cn a)) (Ax a)) (Mn (cW a) (srtM (CG (Ax a))) (Tx (BL (Ax a) DW) (BL (Ax a) (Uh (CH (Ax a)))))))))):=by kernel_rfl
def cI(a:GK):Int:=bif AL a.g==0 then (bif (Cn a).2 then 0 else 2) else AL a.g
def rV(a:GK):Bool:=bif cI a==0 then !(EV (Cn a).1).2 else false
def C_Knot:Ctr:={ α:=GK,xs:=xGK,L:=λ_=>[],val:=λa=>.tup [.bool (rV a),.int (cI a)],keep:=λ_=>[],pre:=λa=>[a.g.length<1073741824/\a.k.length<1073741824] }
def BYP:Ann:=ann 24 [(9,C_Check.spec NU),(77,C_named.spec dGK),(78,C_isKnot.spec dGsK)]
def BVX(a:GK):Prop:=AS ZP BYP Tryz.f35 (AE Tryz.f35) (C_Knot.xs a) (AB []) (C_Knot.val a) [] [] []
abbrev vF:=rV
abbrev tJ:=cI
abbrev BKM a b:=GK.mk a (FI b)
abbrev BCF a b:=BKM (CG a) b
abbrev BJR a b:=Cn (BCF a b)
abbrev V4 a b:=BEF (BJR a b)
abbrev Xz a b:=V4 (CI a) (GW b)
abbrev dM a b:=CDF (BJR a b)
abbrev Sd a b c d e f:=AW a b (EA c) d e f
abbrev LV a:=MB (FI a)
abbrev lG a:=sE (CG a)
abbrev eR a b:=BM a (lG b)
abbrev J8 a:=RR (lG a)
attribute [go_sem] vF tJ BKM BCF BJR V4 Xz dM Sd LV lG eR J8
theorem CIY(a:GK):(BVX a)=(SK (zF (CI a)) (J8 (CI a)) (KU (vF a)) (eR (tJ a) (CI a)) (SK (Sd (AY (CI a)) (BJ (CI a)) (GW a) (CM (GW a)) (HV (CI a)) (LV (GW a))) (not (dM (CI a) (GW a))) (KU (vF a)) (aS (tJ a)) (Sg (AY (Xz a a)) (BJ (Xz a a)) (HV (Xz a a)) (Sn (Xz a a)) (Va (vF a) (To (Xz a a))) (CL (tJ a))))):=by kernel_rfl
theorem iP:AH ZP 78 (C_isKnot.spec dGsK):=PW C_isKnot (λ_=>ann 12 [(69,C_line.spec dGsK)]) [] [] Tryz.func78 (λ_=>by kernel_rfl) (λ_=>AA AKE AD) (λ(s:List Gau) h=>by
 show BFP s;rw[BUC]<;> dsimp only[go_sem];simp only[CC,CU];exact h) (λ_=>RA rfl rfl) _
theorem hGG(xs:List AVal)(a:GG)(h:dGG xs=some a):xs=xGG a:=by
 unfold dGG at h;split at h<;>cases h;rfl
theorem CWK:AH ZP 116 CNW:=OG xGG hGG λa _=>WP (A:=ann 10 [(81,N8)]) (ren:=[]) (fz:=[]) Tryz.func116 (by kernel_rfl) (AA AJK AD) (by
 show CPJ a;rw[CTJ]<;> dsimp only[go_sem])
theorem BVM:AH ZP 115 (C_sorted.spec BGD):=PW C_sorted BEM [] [] Tryz.func115 (λ_=>by kernel_rfl) (λ_=>AA CWK AD) (λ(s:List Gau) h=>by
 show BDP s;rw[BVA]<;> dsimp only[go_sem];simp only[CC,CU]
 obtain⟨h1,h2⟩:0<s.length/\s.length<1073741824:=h
 refine⟨⟨s.length-1,by rw[HL (by omega) (by omega)];omega,by omega,rfl⟩,λk ⟨hk1,hk2⟩=>⟨λhlt=>?_,λhge=>?_⟩⟩
 ·obtain⟨k,rfl⟩:∃n,k=n+1:=⟨k-1,by omega⟩
  have e:IntKind.i64.wrap (((k+1:Nat):Int)-1)=(k:Nat):=by rw[HL (by omega) (by omega)];omega
  rw[e,Int.toNat_natCast]
  unfold srtK at hk2
  refine⟨⟨⟨by omega,by omega⟩,by omega,by omega⟩,λhc=>?_,λhc=>⟨k,rfl,⟨by omega,?_⟩,by omega⟩⟩
  ·rw[hk2,decide_eq_true hc];rfl
  ·rw[hk2,decide_eq_false hc];rfl
 ·rw[hk2,show k=0 by omega];rfl) (λ_=>RA rfl rfl) _
theorem cK{a:GK}(hg:a.g.length<1073741824)(h:Fx a=true):2<=a.k.length/\a.k.length<=3/\∀x∈a.k,0<=x/\x<a.g.length:=by
 unfold Fx at h
 cases hc:JD a.k.length 2 3 with
 |false=>rw[hc] at h;cases h
 |true=>
  rw[hc] at h
  have h:(a.k.all λx=>JD x 0 (wr (a.g.length-1)))=true:=h
  unfold JD at hc
  simp only[Bool.and_eq_true,decide_eq_true_eq] at hc
  refine⟨by omega,by omega,λx hx=>?_⟩
  have:=List.all_eq_true.1 h x hx
  unfold JD wr at this
  rw[HL (by omega) (by omega)] at this
  simp only[Bool.and_eq_true,decide_eq_true_eq] at this
  omega
theorem CLF(a:GK)(h1:a.g.length<1073741824)(h2:a.k.length<1073741824):BQR a:=by
 rw[BWS]<;> dsimp only[go_sem];simp only[CC,CU]
 have hk:∀{i:Nat},Fx a=true->i<a.k.length->0<=gD a.k i/\gD a.k i<a.g.length:=λh hi=>(cK h1 h).2.2 _ (BU hi)
 have hl:∀i,((a.k.take i).map λi=>gD a.g i.toNat).length<=a.k.length:=λi=>by simp;omega
 have hnl:(Ax a).length=a.k.length:=by unfold Ax;simp
 refine⟨λ_=>by omega,λhb=>?_,λhb=>⟨⟨⟨default,?_⟩,λhn=>⟨λhlt=>⟨⟨by omega,by omega⟩,⟨hk hn (by omega),by omega,by omega,by omega,by omega,by omega⟩,⟨1,[gD a.g (gD a.k 0).toNat]⟩,⟨rfl,rfl,rfl,λi hi=>?_⟩,⟨hn,by show 0<1;omega,by show 1<=_;omega,?_⟩,by show a.k.length-1<_;omega⟩,λhge=>?_⟩,λx ⟨hn,x1,x2,x3⟩=>⟨λhlt=>⟨⟨by omega,by omega⟩,⟨hk hn (by omega),by omega,λh=>(by cases h),?_,?_⟩,⟨x.i+1,x.l ++ [gD a.g (gD a.k x.i).toNat]⟩,⟨by simp,(BF (by omega)).symm,by simp,BOK _ _⟩,⟨hn,by show 0<x.i+1;omega,by show x.i+1<=_;omega,?_⟩,by show a.k.length-(x.i+1)<_;omega⟩,λhge=>⟨default,?_,hn⟩⟩⟩,λhn=>?_⟩⟩
 ·have e:Fx a=false:=by
   unfold Fx
   cases hc:JD a.k.length 2 3 with
   |false=>rfl
   |true=>rw[hc] at hb;simpa using hb
  have:Cn a=([],false):=by unfold Cn;rw[e];rfl
  rw[this];exact⟨rfl,rfl,rfl⟩
 ·unfold Fx
  cases hc:JD a.k.length 2 3 with
  |false=>rw[hc] at hb;cases hb
  |true=>rw[hc] at hb;simpa using hb
 ·have hi:i<1:=hi
  rw[show i=0 by omega];exact⟨rfl,rfl,rfl⟩
 ·show [gD a.g (gD a.k 0).toNat]=(a.k.take 1).map _
  rw[LG (by omega:0<a.k.length)];rfl
 ·have:=cK h1 hn;omega
 ·have:=hl x.i;rw[<-x3] at this;omega
 ·have:=hl x.i;rw[<-x3] at this;omega
 ·show x.l ++ _=(a.k.take (x.i+1)).map _
  rw[LG (by omega:x.i<a.k.length),List.map_append,x3];rfl
 ·have:x.l=Ax a:=by rw[x3,List.take_of_length_le (by omega)];rfl
  rw[this];exact⟨rfl,Nat.le_refl _,λ_ _=>⟨rfl,rfl,rfl⟩⟩
 ·have:=cK h1 hn
  have e:Cn a=(Ax a,nmB (Ax a)):=by unfold Cn;rw[hn];rfl
  rw[e,HL (by omega) (by omega)]
  refine⟨⟨by omega,by omega⟩,⟨λ_=>⟨by omega,by omega⟩,λ_=>⟨by omega,by omega⟩⟩,rfl,λ_ _=>⟨rfl,rfl,rfl⟩,?_⟩
  rw[show ((Ax a).length-1:Int).toNat=(Ax a).length-1 by omega];rfl
theorem ABG:AH ZP 77 (C_named.spec dGK):=PW C_named BOT [] [] Tryz.func77 (λ_=>by kernel_rfl) (λ_=>AA aH (AA CXH (AA BVM AD))) (λ(a:GK) h=>CLF a h.1 h.2) (λ_=>RA rfl rfl) _
theorem BNH{a:GK}(hg:∀g∈a.g,IT g)(h1:a.g.length<1073741824):(Cn a).1.length<1073741824/\∀g∈(Cn a).1,IT g:=by
 unfold Cn
 cases hc:Fx a with
 |false=>exact⟨by show 0<_;omega,λg hg=>by cases hg⟩
 |true=>
  have:=cK h1 hc
  refine⟨by show (Ax a).length<_;unfold Ax;rw[List.length_map];omega,λg hgm=>?_⟩
  have hgm:g∈Ax a:=hgm
  unfold Ax at hgm
  obtain⟨x,hx,rfl⟩:=List.mem_map.1 hgm
  have:=this.2.2 x hx
  exact hg _ (BU (by omega))
theorem JU{g:List Gau}(h:AL g=0):(1<=g.length/\g.length<=24)/\∀x∈g,IT x:=by
 unfold AL at h
 cases h2:JD g.length 1 24 with
 |false=>rw[h2] at h;cases h
 |true=>
  rw[h2] at h
  cases h3:g.all riG with
  |false=>rw[h3] at h;cases h
  |true=>
   unfold JD at h2
   simp only[Bool.and_eq_true,decide_eq_true_eq] at h2
   refine⟨by omega,λx hx=>?_⟩
   have:=List.all_eq_true.1 h3 x hx
   unfold riG JD at this
   simp only[Bool.and_eq_true,decide_eq_true_eq] at this
   unfold IT;omega
theorem BOU:AH ZP 35 (C_Knot.spec dGK):=PW C_Knot (λ_=>BYP) [] [] Tryz.func35 (λ_=>by kernel_rfl) (λ_=>AA Jx (AA ABG (AA iP AD))) (λ(a:GK) h=>by
 show BVX a;rw[CIY]<;> dsimp only[go_sem];simp only[CC,CU]
 obtain⟨h1,h2⟩:a.g.length<1073741824/\a.k.length<1073741824:=h
 refine⟨by omega,λhc=>?_,λhc=>⟨⟨h1,h2⟩,λhn=>?_,λhn=>?_⟩⟩
 ·have e0:(AL a.g==0)=false:=by simpa using hc
  have e:cI a=AL a.g:=by unfold cI;rw[e0];rfl
  have e2:rV a=false:=by unfold rV;rw[e,e0];rfl
  exact⟨e2,e⟩
 all_goals
  have c0:AL a.g=0:=by simpa using hc
  have e0:(AL a.g==0)=true:=by simpa using hc
 ·have e:cI a=2:=by unfold cI;rw[e0,show (Cn a).2=false from hn];rfl
  have e2:rV a=false:=by unfold rV;rw[e];rfl
  exact⟨e2,e⟩
 ·have e:cI a=0:=by unfold cI;rw[e0,show (Cn a).2=true from hn];rfl
  have e2:rV a=!(EV (Cn a).1).2:=by unfold rV;rw[e];rfl
  exact⟨BNH (JU c0).2 h1,e2,e⟩) (λ_=>RA rfl rfl) _
end Go.Bal
