/- Package chart: Truths (a truth in which a mark has a time). -/
import Derived.Test.YtdbjalgfomknhaaGreatChZd
import Derived.Test.YtdbjalgfomknhaaGreatChM
import Derived.Test.YtdbjalgfomknhaaGreatChZa
set_option linter.unusedVariables false
set_option linter.unusedSimpArgs false
namespace Go.Bal
open Go Go.Sym Go.Proofs
structure TrI where
 a:CZ
 m:Int
 t:Int
def dTrI:List AVal->Heap->Option (TrI×List (Nat×Nat)×List Nat)
 |[x,y,.d m,.d t],H=>match tN x H,tL y H with
  |some (c,g),some (l,e)=>some (⟨⟨c,l⟩,KN m,KN t⟩,[],g ++ e)
  |_,_=>none
 |_,_=>none
def xTrI(x:TrI):List AVal:=[.d (Nj x.a.c),.d (GB x.a.z),.int x.m,.int x.t]
def nlL(a:CZ):List Span:=XS (FZ a) (Ov a.c)
def uG(x:TrI):List Span:=NK (nlL x.a).length λi=>bif decide (i=x.m.toNat) then uN (gD (nlL x.a) x.m.toNat) ⟨x.t,x.t⟩ else gD (nlL x.a) i
def xN(x:TrI):List Span:=XS (FZ x.a) (uG x)
def trT(x:TrI):Nat->Int
 |0=>(gD (xN x) 0).lo
 |g+1=>HJ (gD (xN x) (g+1)).lo (wr (trT x g+(OG (FZ x.a) g).lo))
def trS(x:TrI)(i:Nat):Int:=(YW x.a.c (i:Int)).lo
def BLM(x:TrI):Prop:=(x.a.c.ms.length<4611686018427387904/\x.a.c.ns.length<4611686018427387904/\x.a.z.length<4611686018427387904)/\DJ x.a=0/\0<=x.m/\x.m<x.a.c.ms.length
def zE(x:TrI):Tru:=⟨NK x.a.c.ms.length (trT x),NK x.a.c.ms.length (trS x),x.a.z⟩
def C_TruD:Ctr:={ α:=TrI,xs:=xTrI,val:=λx=>.tup [.d (eTru (zE x)),.int 0],keep:=λ_=>[],pre:=λx=>[BLM x/\(xN x).all Od=true] }
def nilT:Tru:=⟨[],[],[]⟩
def C_TruX:Ctr:={ α:=TrI,xs:=xTrI,val:=λx=>.tup [.d (eTru nilT),.int 5],keep:=λ_=>[],pre:=λx=>[BLM x/\(xN x).all Od=false] }
def trH(x:TrI):List (Nat×HCell):=[(1016,.live (.box [.d Ej,.d Ej,.d Ej])),(2096,.live (.box [.bptr 2032 0])),(2032,.live (dkB (FZ x.a) 2033)),(2033,.live (dkM (FZ x.a))),(7080,.live (.box [.d (HA (xN x))]))]
def trH0(x:TrI)(l:List Span):List (Nat×HCell):=[(1016,.live (.box [.d Ej,.d Ej,.d Ej])),(2096,.live (.box [.bptr 2032 0])),(2032,.live (dkB (FZ x.a) 2033)),(2033,.live (dkM (FZ x.a))),(7016,.live (rowS l)),(7080,.live (.box [.own 7016 2 0 l.length]))]
def tr7(x:TrI):Shape:={ α:=One,dflt:=default,T:=λ_=>⟨[(1,.d (GB x.a.z)),(2,.int x.m),(3,.int x.t),(8,.bptr 1016 0),(10,.bptr 2096 0),(12,.bptr 7080 0),(13,.bool ((nlL x.a).all Od))],trH0 x (nlL x.a)⟩,inv:=λ_=>True,meas:=λ_=>0 }
def tr10(x:TrI):Shape:={ α:=One,dflt:=default,T:=λ_=>⟨[(1,.d (GB x.a.z)),(8,.bptr 1016 0),(10,.bptr 2096 0),(12,.bptr 7080 0)],trH0 x (uG x)⟩,inv:=λ_=>True,meas:=λ_=>0 }
def tr13(x:TrI):Shape:={ α:=One,dflt:=default,T:=λ_=>⟨[(1,.d (GB x.a.z)),(8,.bptr 1016 0),(10,.bptr 2096 0),(12,.bptr 7080 0)],trH x⟩,inv:=λ_=>True,meas:=λ_=>0 }
def tr1(x:TrI)(l:Nat):Shape:={ α:=Nat,dflt:=0,T:=λk=>⟨[(0,.fn (.yield l) [] []),(1,.bptr 15016 0),(12,.int (wr ((x.a.c.ms.length:Int)-1))),(13,.int k)],trH x ++ [(14192,.live (.box [.own 301 1 0 (k+1),.own 302 1 0 (k+1),.d (GB x.a.z)])),(301,.live (.row 1 (k+1) λi=>Gk (trT x i))),(302,.live (.row 1 (k+1) λi=>Gk (trS x i))),(15016,.live (.box [.bptr 2032 0]))]⟩,inv:=λk=>k<=x.a.c.ms.length-1,meas:=λk=>50-k,first:=[(301,14064),(302,14128)],again:=[(301,18288),(302,19128)] }
noncomputable def itTr(x:TrI):IterAnn:={ fn:=mK,code:=AJ mK,live:=[8,10,12,14],ann:={ base:=λid=>100000+1000*(id+1),Γ:=Sym.look [],E:=[1016,2096,2032,2033,7080,14192,15016],n:=66,inner:=λgs id=>if id=1 then some [tr1 x (gs.getD 0 0)] else none } }
noncomputable def CQT(x:TrI):Ann:={ ann 113 [(Zw,C_beg.spec B6),(n_in,s_in),(mQ,C_timO.spec sX),(zQ,C_com.spec BKP),(No,C_nar.spec dDkS),(S4,C_stg.spec dDkI),(AIV,C_clI.spec dIs1),(AMK,C_gaps.spec sX)] with mt:=λid=>id==17||id==18,iter:=λg=>if g=bO then some (itTr x) else none,cut:=λid=>if id=7 then some [tr7 x] else if id=10 then some [tr10 x] else if id=13 then some [tr13 x] else none }
def CHY(x:TrI):Prop:=ES Try.prog (CQT x) bJ (AJ bJ) (xTrI x) (AD []) (C_TruD.val x) [] [] [301,302]
abbrev iN:=TrI.a
abbrev cE:=TrI.m
abbrev V1:=TrI.t
abbrev Lr:=uG
abbrev Ux a b:=AB (λi=>KO i a b)
abbrev Mj a:=TW (iN a)
abbrev O5 a:=Tru.z (zE a)
abbrev Bd a b c d:=Xk a b b c d
abbrev U7 a:=Tru.s (zE a)
abbrev O9 a:=Tru.t (zE a)
abbrev MS a:=FN (iN a)
abbrev U5 a b c:=Jc a AG b c
abbrev Sa a b:=U5 EY a b
abbrev BU a:=LX (iN a)
abbrev K8 a:=FQ (BU a)
abbrev G5 a:=Ak (Mj a)
abbrev B9 a:=Ge (Mj a)
abbrev Xj a:=Hk (iN a)
abbrev Pu a b:=XD a (iN b)
abbrev Yf a:=BQ (BU a)
abbrev Wu a:=BV (BU a)
abbrev Wq a:=BM (BU a)
abbrev Ye a:=BY (BU a)
abbrev qY a b:=XI a b 1
abbrev Xs:=qY HN 1
abbrev eK a b:=AR (BU a) b
abbrev Rk a b:=AE (BU a) b
abbrev gK a b:=AS (BU a) b
abbrev Sd a b:=AC (BU a) b
abbrev G2 a:=DF (BU a)
abbrev vV a:=Ko (iN a)
abbrev Bn a:=EV a 0
abbrev Ck a:=nlL (iN a)
abbrev Ww a:=Ps (Rc (V1 a) (V1 a))
abbrev dN a:=ZX (cE a)
abbrev sS a:=IH (Ck a)
abbrev CB a:=BFB (MS a) (MS a) (Mj a)
abbrev kV a:=FQ (CB a)
abbrev D0 a:=cD (kV a)
abbrev Kh a:=qG (MS a) (Mj a)
abbrev pC a:=Ko (Kh a)
attribute [go_sem] iN cE V1 Lr Ux Mj O5 Bd U7 O9 MS U5 Sa BU K8 G5 B9 Xj Pu Yf Wu Wq Ye qY Xs eK Rk gK Sd G2 vV Bn Ck Ww dN sS CB kV D0 Kh pC
theorem CMR(x:TrI):(CHY x)=(And (Ag (MS x) (YJ (MS x) (BW (MS x)) (DK (MS x)) (λi=>AT i (MS x) (AM (MS x) i) (AN (MS x) i) (AS (MS x) i) (AC (MS x) i) (AL (MS x) i) (AR (MS x) i) (AE (MS x) i)) (HL (Mj x)) (λi=>QE i (Mj x)) (Dl (RQ (MS x)) (MS x) (PG (Mj x))) (SA (MS x)))) (Ht (Sg (Kh x)) (Bn (O9 x)) (M3 (Bn (U7 x)) (Bn (O5 x)) (Xa 0 (Kh x))) (Ht (An (cE x) (ZN (MZ (MS x)))) (Bn (O9 x)) (M3 (Bn (U7 x)) (Bn (O5 x)) (ZZ (MY 0) 2)) (And (LQ (BY (CB x)) (DF (CB x)) (BM (CB x)) (BV (CB x)) (BQ (CB x)) (UZ (CB x) (λi=>AT i (CB x) (AM (CB x) i) (AN (CB x) i) (AS (CB x) i) (AC (CB x) i) (AL (CB x) i) (AR (CB x) i) (AE (CB x) i)) (λi=>XD i (Kh x)) (pC x) (QG (MF (CB x)) (BY (CB x)) (CB x) (BM (CB x)) (BV (CB x)) (BQ (CB x)) (HS (CB x)) (λi=>JL i (CB x)) (VP (CB x) (λi=>AU i (CB x) (EI (CB x) i) (EJ (CB x) i) (AC (CB x) i) (AS (CB x) i) (EH (CB x) i) (AE (CB x) i) (AR (CB x) i)) (λi=>XD i (Kh x)) (Hk (Kh x)) (AH (Ci (CB x)) (ZB (CB x)) (KM (λi=>Ro (WK (CB x) i) i (CB x)))) (EA (Ze (kV x)))))) (Dg (AI (B9 x) (G5 x) (AF (cE x)) (AF (V1 x)) (Kc (Ya (Ia (Ck x)) (aP (kV x) (pC x) (D0 x))) EY (Sa (GM (BU x) (CB x)) (AI (CY (BU x) (CB x)) (GO (BU x) (CB x)) (GH (BU x) (CB x)) (GK (BU x) (CB x)) (Wy (VK (BU x) (CB x)) (VH (BU x) (CB x)) (XF (BU x) (CB x)) (λi=>AU i (BU x) (PT (BU x) i (CB x)) (CX (Sd x i) (CB x) i) (Sd x i) (AC (CB x) i) (CU (Rk x i) (CB x) i) (Rk x i) (AE (CB x) i)) (λi=>Jw i (Dc (iN x) i) (Dc (Kh x) i)) LR (λi=>Hv (BU x) i (CB x) i) (λi=>Ul (iN x) i (Yk (Kh x) i)) (oN (KM (λi=>Gs (BU x) i (CB x) i i i)) (ML (Ck x) (aP (kV x) (pC x) (D0 x))) (XQ (Ck x) (aP (kV x) (pC x) (D0 x))) AG)))))))) (Qj (λi=>PY IP (not (Ia (Ck x))) (YX (Bn (O9 x)) (M3 (Bn (U7 x)) (Bn (O5 x)) (ZZ (MY 0) 6))) (BL (WY (cE x) (sS x) (QP (CE (dN x) (sS x)) (ZP (Ck x) (dN x)) (ZR (Ck x) (dN x)) (KX (Ww x) 1) HN (λj=>QQ j (Ww x) (dO (Ww x) j (V1 x)) (gH (Ww x) j (V1 x))) IU (HZ (cE x) (sS x)) (XZ (cE x) (sS x)))) (Pj (B9 x) (Kc (G5 x) EY (Sa (Ye x) (AI (G2 x) (Wq x) (Wu x) (Yf x) (Dv (BU x) (λj=>Pu j x) (vV x) (oN (RL (BU x)) (ML (Lr x) (Ck x)) (AB (λj=>QQ j (Lr x) (dO (Lr x) j (YD j (cE x) (BH (cX (OV (Ck x) (dN x)) (Ww x))) (VG (Ck x) j))) (gH (Lr x) j (YD j (cE x) (BK (cX (OV (Ck x) (dN x)) (Ww x))) (XB (Ck x) j))))) AG)))))) (Dw (Yc (BL (RJ (Lr x)) (IA (KC (IH (Lr x))) (λj=>TO j (Av (Lr x)) (WO (Lr x) j) (Lr x) (BG j)) (Ye x) (G2 x) (Wq x) (Wu x) (Yf x) (BW (BU x)) (Hp (BU x) (λj=>AT j (BU x) (AM (BU x) j) (AN (BU x) j) (gK x j) (Sd x j) (AL (BU x) j) (eK x j) (Rk x j)) (AB (λj=>Pu j x)) (Xj x) (Bh (λj=>AU j (BU x) (EI (BU x) j) (EJ (BU x) j) (Sd x j) (gK x j) (EH (BU x) j) (Rk x j) (eK x j)) (λj=>Pu j x) (BU x) (Xj x) (Te (OM (Lr x)) (BU x)) (Ci (BU x)) (ZB (BU x))))) (Ht (not (Ia (Lt (K8 x) (vV x) (Lr x)))) (Bn (O9 x)) (M3 (Bn (U7 x)) (Bn (O5 x)) (ZZ (MY 0) 5)) (Mv (B9 x) (G5 x) AG (Wb EY AG (QG EY (Ye x) (BU x) (Wq x) (Wu x) (Yf x) (GD (BU x)) (λj=>GP j (BU x)) (VQ (HG (BU x)) (HI (BU x)) (λj=>Pu j x) (XK (BU x)) (Xj x) (RL (BU x)) (ML (xN x) (Lt (K8 x) (vV x) (Lr x))) (XQ (xN x) (Lt (K8 x) (vV x) (Lr x)))))) IP))) (LF (EX WZ 0 (IH (xN x)) (QG Sx (Ye x) (BU x) (Wq x) (Wu x) (Yf x) (BW (BU x)) (λj=>ID j (BU x)) (Pq (BO (BU x)) (λj=>AT j (BU x) (AM (BU x) j) (AN (BU x) j) (gK x j) (Sd x j) (AL (BU x) j) (eK x j) (Rk x j)) (λj=>Pu j x) (TE (BU x)) (Xj x) (MF (BU x)) (Ye x) (RR (BU x) (Wq x) (Wu x) (Yf x) (HS (BU x)) (Gc (BU x)) (KS (BU x)) (λj=>AU j (BU x) (EI (BU x) j) (EJ (BU x) j) (Sd x j) (gK x j) (EH (BU x) j) (Rk x j) (eK x j)) (DI (AB (λj=>Pu j x)) LR (WJ (BU x)) (Xj x) (VZ (BU x)) (eM (HK (BU x))) (HL (Mj x)) (λj=>QE j (Mj x)) (HU (Vf (Mj x)) 1000000)))))) (FY (Ye x) (G2 x) (Wq x) (ZE (Wu x) (Yf x) (BW (BU x)) (DK (BU x)) (BO (BU x)) (AB (λj=>AT j (BU x) (AM (BU x) j) (AN (BU x) j) (gK x j) (Sd x j) (AL (BU x) j) (eK x j) (Rk x j))) (λj=>Pu j x) (Aq (TE (BU x)) (Xj x) (MF (BU x)) (BU x) (TF (HS (BU x)) (Gc (BU x)) (KS (BU x)) (λj=>AU j (BU x) (EI (BU x) j) (EJ (BU x) j) (Sd x j) (gK x j) (EH (BU x) j) (Rk x j) (eK x j)) (λj=>Pu j x) (WJ (BU x)) (vV x) (VZ (BU x)))))) (λj=>HX (λk=>Kk (AH (Fy j) (Ld (Pd (MS x)) (MZ (BU x))) (Kc (CQ k) EY (Sa (Ye x) (RR (BU x) (Wq x) (Wu x) (Yf x) (GD (BU x)) (JC (BU x)) (HG (BU x)) (λl=>FT l (BU x)) (Ih (AB (λl=>Pu l x)) (XK (BU x)) (Xj x) (RL (BU x)) (SK (xN x)) (λl=>Bt l (xN x)) AG (U5 (LP (KJ k)) (IZ (Mj x) (WQ (Mj x))) (Mi (Ux (Mj x) (WQ (Mj x))) (LP (KJ k)) (AB (λl=>AV l (KJ k) (AY (trT x l) (VG (xN x) Cn)))) (AB (λl=>AV l (KJ k) (AY (trS x l) (BH (qR (K8 x))))))))))))) k (kZ (MS x))) (λk=>Fe k (kZ (MS x)) (FK k (Pd (MS x))) (Gv (FE k) (BU x) (DX k) (cN k (BU x))) (QN k 40 (Xu k) (BNI (Dc (iN x) k) (FY (BI j) (WY (FE k) (IH (xN x)) (QN k (KJ k) (CE (BG k) (KJ k)) (PF (qY (BI (KJ k)) (KJ k)) Xs Cd (Ep (KJ k)) (Es (KJ k) 8)))) (AH (AF (FE k)) (Ye x) (RR (BU x) (Wq x) (Wu x) (Yf x) (BW (BU x)) (DK (BU x)) (BO (BU x)) (λl=>AT l (BU x) (AM (BU x) l) (AN (BU x) l) (gK x l) (Sd x l) (AL (BU x) l) (eK x l) (Rk x l)) (BB (AB (λl=>Pu l x)) LR (TE (BU x)) (Xj x) (MF (BU x)) (Ye x) (G2 x) (Wq x) (ZE (Wu x) (Yf x) (HS (BU x)) (Gc (BU x)) (KS (BU x)) (AB (λl=>AU l (BU x) (EI (BU x) l) (EJ (BU x) l) (Sd x l) (gK x l) (EH (BU x) l) (Rk x l) (eK x l))) (λl=>Pu l x) (BB (WJ (BU x)) (Xj x) (VZ (BU x)) (HZ (FE k) (HK (BU x))) (qY (BI (KJ k)) (KJ k)) Xs Cd (Ep (KJ k)) (CW (Es (KJ k) 8) 140737488355328)))))) (KI (λl=>Fv (AH (Fy j) (AF (Pd (MS x))) (Kc (BA l k) EY (Sa (Ye x) (RR (BU x) (Wq x) (Wu x) (Yf x) (GD (BU x)) (JC (BU x)) (HG (BU x)) (λm=>FT m (BU x)) (Ih (AB (λm=>Pu m x)) (XK (BU x)) (Xj x) (RL (BU x)) (SK (xN x)) (λm=>Bt m (xN x)) AG (U5 (PI (KJ l) (KJ k)) (B9 x) (Mi (G5 x) (PI (KJ l) (KJ k)) (AB (λm=>AV m (KJ l) (AY (trT x m) (OZ m (KJ k) (trT x m) (Md (VG (xN x) (Ib k)) (EQ (trT x (BG k)) (rB (EC (BU x)) (BE (BU x) (Ib k)) (BE (BU x) k)))))))) (AB (λm=>AV m (KJ l) (AY (trS x m) (OZ m (KJ k) (trS x m) (BH (Ty (K8 x) (FE k)))))))))))))) (ED l (kZ (MS x))) l k))))) (CR (EV (O9 x) (KJ k)) (KC (KJ k)) (λl=>Bd l (O9 x) l (trT x (BG l))) (EV (U7 x) (KJ k)) (KC (KJ k)) (AB (λl=>Bd l (U7 x) l (trS x (BG l)))) (IZ (O5 x) (Mj x)) (Ux (O5 x) (Mj x)) BP))))))))))))):=by kernel_rfl
def CAU(x:TrI):Ann:={ ann 113 [(Zw,C_beg.spec B6),(n_in,s_in),(mQ,C_timO.spec sX),(zQ,C_com.spec BKP),(No,C_nar.spec dDkS)] with cut:=λid=>if id=7 then some [tr7 x] else if id=10 then some [tr10 x] else if id=13 then some [] else none }
def CFR(x:TrI):Prop:=ES Try.prog (CAU x) bJ (AJ bJ) (xTrI x) (AD []) (C_TruX.val x) [] [] []
abbrev LI:=ER 5
attribute [go_sem] LI
theorem CIU(x:TrI):(CFR x)=(And (Ag (MS x) (YJ (MS x) (BW (MS x)) (DK (MS x)) (λi=>AT i (MS x) (AM (MS x) i) (AN (MS x) i) (AS (MS x) i) (AC (MS x) i) (AL (MS x) i) (AR (MS x) i) (AE (MS x) i)) (HL (Mj x)) (λi=>QE i (Mj x)) (Dl (RQ (MS x)) (MS x) (PG (Mj x))) (SA (MS x)))) (Ht (Sg (Kh x)) AG (Vt (Xa 5 (Kh x))) (Ht (An (cE x) (ZN (MZ (MS x)))) AG (Vt (ZZ (MY 5) 2)) (And (LQ (BY (CB x)) (DF (CB x)) (BM (CB x)) (BV (CB x)) (BQ (CB x)) (UZ (CB x) (λi=>AT i (CB x) (AM (CB x) i) (AN (CB x) i) (AS (CB x) i) (AC (CB x) i) (AL (CB x) i) (AR (CB x) i) (AE (CB x) i)) (λi=>XD i (Kh x)) (pC x) (QG (MF (CB x)) (BY (CB x)) (CB x) (BM (CB x)) (BV (CB x)) (BQ (CB x)) (HS (CB x)) (λi=>JL i (CB x)) (VP (CB x) (λi=>AU i (CB x) (EI (CB x) i) (EJ (CB x) i) (AC (CB x) i) (AS (CB x) i) (EH (CB x) i) (AE (CB x) i) (AR (CB x) i)) (λi=>XD i (Kh x)) (Hk (Kh x)) (AH (Ci (CB x)) (ZB (CB x)) (KM (λi=>Ro (WK (CB x) i) i (CB x)))) (EA (Ze (kV x)))))) (Dg (AI (B9 x) (G5 x) (AF (cE x)) (AF (V1 x)) (Kc (Ya (Ia (Ck x)) (aP (kV x) (pC x) (D0 x))) EY (Sa (GM (BU x) (CB x)) (AI (CY (BU x) (CB x)) (GO (BU x) (CB x)) (GH (BU x) (CB x)) (GK (BU x) (CB x)) (Wy (VK (BU x) (CB x)) (VH (BU x) (CB x)) (XF (BU x) (CB x)) (λi=>AU i (BU x) (PT (BU x) i (CB x)) (CX (Sd x i) (CB x) i) (Sd x i) (AC (CB x) i) (CU (Rk x i) (CB x) i) (Rk x i) (AE (CB x) i)) (λi=>Jw i (Dc (iN x) i) (Dc (Kh x) i)) LR (λi=>Hv (BU x) i (CB x) i) (λi=>Ul (iN x) i (Yk (Kh x) i)) (oN (KM (λi=>Gs (BU x) i (CB x) i i i)) (ML (Ck x) (aP (kV x) (pC x) (D0 x))) (XQ (Ck x) (aP (kV x) (pC x) (D0 x))) AG)))))))) (Qj (λi=>PY IP (not (Ia (Ck x))) (YX AG (Vt (ZZ (MY 5) 6))) (BL (WY (cE x) (sS x) (QP (CE (dN x) (sS x)) (ZP (Ck x) (dN x)) (ZR (Ck x) (dN x)) (KX (Ww x) 1) HN (λj=>QQ j (Ww x) (dO (Ww x) j (V1 x)) (gH (Ww x) j (V1 x))) IU (HZ (cE x) (sS x)) (XZ (cE x) (sS x)))) (Pj (B9 x) (Kc (G5 x) EY (Sa (Ye x) (AI (G2 x) (Wq x) (Wu x) (Yf x) (Dv (BU x) (λj=>Pu j x) (vV x) (oN (RL (BU x)) (ML (Lr x) (Ck x)) (AB (λj=>QQ j (Lr x) (dO (Lr x) j (YD j (cE x) (BH (cX (OV (Ck x) (dN x)) (Ww x))) (VG (Ck x) j))) (gH (Lr x) j (YD j (cE x) (BK (cX (OV (Ck x) (dN x)) (Ww x))) (XB (Ck x) j))))) AG)))))) (Dw (And (BL (RJ (Lr x)) (IA (KC (IH (Lr x))) (λj=>TO j (Av (Lr x)) (WO (Lr x) j) (Lr x) (BG j)) (Ye x) (G2 x) (Wq x) (Wu x) (Yf x) (BW (BU x)) (Hp (BU x) (λj=>AT j (BU x) (AM (BU x) j) (AN (BU x) j) (gK x j) (Sd x j) (AL (BU x) j) (eK x j) (Rk x j)) (AB (λj=>Pu j x)) (Xj x) (Bh (λj=>AU j (BU x) (EI (BU x) j) (EJ (BU x) j) (Sd x j) (gK x j) (EH (BU x) j) (Rk x j) (eK x j)) (λj=>Pu j x) (BU x) (Xj x) (Te (OM (Lr x)) (BU x)) (Ci (BU x)) (ZB (BU x))))) (Ht (not (Ia (Lt (K8 x) (vV x) (Lr x)))) AG (Vt LI) VS)) IP))))))))):=by kernel_rfl
theorem iQ{a:CZ}(h:DJ a=0):AP a.c=0/\N7 a=true/\Mg a.c=true/\(nlL a).all Od=true/\ZJ a=nlL a:=by
 obtain⟨h1,h2,h3⟩:=As h
 unfold JD at h3
 cases hs:Mg (FZ a).c with
 |false=>rw[hs] at h3;cases h3
 |true=>
  rw[hs] at h3
  refine⟨h1,h2,hs,h3,?_⟩
  unfold ZJ JD
  rw[hs];rfl
theorem CBH:∀{z:List Int} {a b:Int},z.Pairwise (· < ·)->(∀g∈z,a<=g/\g<b)->(z.length:Int)<=b-a∨z=[]
 |[],_,_,_,_=>.inr rfl
 |g :: r,a,b,hp,hb=>by
  rw[List.pairwise_cons] at hp
  have h0:=hb g (List.mem_cons_self ..)
  rcases CBH (a:=g+1) (b:=b) hp.2 (λx hx=>by have:=hp.1 x hx;have:=hb x (List.mem_cons_of_mem _ hx);omega) with h | h
  ·left;rw[List.length_cons];omega
  ·subst h;left;show ((1:Nat):Int)<=_;omega
theorem CRB(a s:Span):comM ⟨a,NK 1 λ_=>s⟩=uN a s:=rfl
theorem yQ(x:TrI):(uG x).length=x.a.c.ms.length:=by unfold uG nlL;rw[rng_length,We,QM]
theorem AWV(x:TrI):(xN x).length=x.a.c.ms.length:=by unfold xN;rw[We,yQ]
theorem CWQ(x:TrI)(h:BLM x)(hk:(xN x).all Od=true):CHY x:=by
 obtain⟨⟨l1,l2,l3⟩,hr,m1,m2⟩:=h
 obtain⟨c0,zo,so,no,_⟩:=iQ hr
 have nl:(nlL x.a).length=x.a.c.ms.length:=by unfold nlL;rw[We,QM]
 have tl1:=yQ x
 have tl:=AWV x
 obtain⟨_,hm,_⟩:=PR c0
 have ni:=(Zu c0).1
 have e0:XV x.a=0:=by unfold XV;rw[c0,zo];rfl
 have ws:∀a:Nat,a<=40->IntKind.i64.wrap ((a:Int)+1)=((a+1:Nat):Int):=λa h=>II (by omega)
 have wn:IntKind.i64.wrap ((x.a.c.ms.length:Int)-1)=((x.a.c.ms.length-1:Nat):Int):=by rw[Ap (by omega) (by omega)];omega
 have wn2:wr ((x.a.c.ms.length:Int)-1)=((x.a.c.ms.length-1:Nat):Int):=wn
 have lo:∀k,(OG (FZ x.a) k).lo=IntKind.i64.wrap (x.a.c.p.lo*IntKind.i64.wrap ((gD x.a.c.ms (k+1)).pl-(gD x.a.c.ms k).pl)):=λ_=>rfl
 rw[CMR]<;> delta MD Iv BH BK DY RD RU Mr EM EO CH IH AB CJ CE AY OV CG MY CW FV NL HD KA UI Md IG EB FX EC GY GX GR GG DV FO FU KI IP Me hd84 FP FS El LW US HM IV QR YU KM WU ED NR BN YV WT WW FN TW Yq Ko Qu Ty Rc Qr Qj Ze Lg bX cD XT iN cE V1 Lr AH CK IW AX JE AI MS LX WE BC AV AF IK IN BNI BI GJ oN MK Jc YX Sz Wb M3 Mi AQ WV JB BB AC BZ CN Eh BF ADZ Mj MC AE AO BD HK DD LZ AZ DC BG BR BE BU BS BJ JQ Ch AR BQ WQ IS LY SZ BV HF ZK CI OC EQ GQ Yv BL AS BM CY Oc BY ER BFB FL EV CF AG IE HR BX TV KL NU CU GW YS KJ HO DN GD CX OT OR Cx OE LH Av FQ DF DU HY IC MZ DR OU HG OD QQ EA Ql DT LR Gi KQ oR HH FE FG FW Qe AT yV ADY IZ SK HN ZX MJ JA ZN ZS IT DX HE OF Ge CR EZ EX JJ BA ZR BP WK OM NF RG Fs HT AU DO DI WX GZ HU WO BO BW JH CB Zq JG AL AN AM LJ KO GP ID HQ XK VX Ct NP ZP FK MQ KX JC MN DK VI IU Kr JU HL LS Py SC Bt FT QD JW Mc GK Gb MH VW XD XI Eb NV VD HI JZ GM GH FA TF TQ TO SN CQ GO HZ QE KS HS Gr XP PT EH EJ EI EY RL Ak IL FY ML Ib OZ Fo Eo VU JK KC Do JL ZZ Cn IF IA Ha HX qG Hd PF ZO TE HV Ck Hk LF PY VK UC XF Fh Ff Dv MF WJ Gw Te MG PG VG LP kZ VZ QP PI MO Mw XB SA Si Va Cl RQ Vf Pe Kd Ps LQ Pd UV Es RJ YG Kh Hf WZ Ci Cd Ht XZ VH RR Fy VQ Vn aP Aq QN Qv Ep ZB YD Dl Dc Bn An Jz Xn Ia Pu WY Io Gd kV Dw QG Lx Sd Yk XQ Vq Rk Xk Xj Ww Wq Dg qY Lt Gc Bd YJ Jt Ag Ye Pq Ld Wu Hv rB Yf dN U5 ZE Fv Gv Sx Sa Kc gK Wy Kk VP UZ Xs eK Sg Ux pC sS Jw Fe Xd jV Pj cX Xb vV Ih Xu Gs Vw Mv Ro dO cN Hp gH Ul Yc Ya G5 G2 Xa B9 K8 U7 D0 qR O9 O5 eM Bh;simp only[CC,eq_self,implies_true,forall_const,FR,Ee,Uk,bD,show XS (FZ x.a) (Ov x.a.c)=nlL x.a from rfl,show XS (FZ x.a) (uG x)=xN x from rfl,e0,CRB];simp only[nl,tl1,tl,wn,wn2]
 have z9:x.a.z.length<1000000:=by
  obtain⟨q1,q2⟩:=(BJF (a:=x.a) hm).1 zo
  rcases CBH q2 (a:=0) (b:=40) (λg hg=>by have:=q1 g hg;omega) with h | h
  ·omega
  ·rw[h];decide
 have step:∀k,k<x.a.c.ms.length-1->∀i,i<k+1+1->trT x i=bif decide (i<k+1) then trT x i else HJ (gD (xN x) (IntKind.i64.wrap ((k:Int)+1)).toNat).lo (IntKind.i64.wrap (trT x k+IntKind.i64.wrap (x.a.c.p.lo*IntKind.i64.wrap ((gD x.a.c.ms (IntKind.i64.wrap ((k:Int)+1)).toNat).pl-(gD x.a.c.ms k).pl)))):=λk hk i hi=>by
  rw[ws k (by omega),Int.toNat_natCast]
  by_cases q:i<k+1
  ·rw[decide_eq_true q];rfl
  ·obtain rfl:i=k+1:=by omega
   rw[decide_eq_false q];rfl
 have step2:∀k,k<x.a.c.ms.length-1->∀i,i<k+1+1->trS x i=bif decide (i<k+1) then trS x i else (YW x.a.c (IntKind.i64.wrap ((k:Int)+1))).lo:=λk hk i hi=>by
  rw[ws k (by omega)]
  by_cases q:i<k+1
  ·rw[decide_eq_true q];rfl
  ·obtain rfl:i=k+1:=by omega
   rw[decide_eq_false q];rfl
 have bd:∀k:Nat,k<x.a.c.ms.length-1->0<=IntKind.i64.wrap ((k:Int)+1)/\IntKind.i64.wrap ((k:Int)+1)<x.a.c.ms.length:=λk hk=>by rw[ws k (by omega)];omega
 have bk:=bd
 refine⟨⟨⟨l1,l2,l3⟩,c0⟩,(λh=>by simp at h),λ_=>⟨λhf=>?_,λ_=>⟨⟨⟨⟨hm.1,hm.2,ni⟩,so⟩,default,trivial⟩,(λhf=>by rw[no] at hf;cases hf),λ_=>⟨⟨⟨⟨m1,m2⟩,by omega,Nat.one_pos,λj hj=>?_,⟨m1,m2⟩,by omega⟩,default,trivial,λi hi=>?_,trivial⟩,⟨⟨Nat.le_refl _,trivial,hm.1,hm.2⟩,(λhf=>by rw[hk] at hf;cases hf),λ_=>⟨default,trivial⟩⟩,⟨⟨Int.le_refl _,by omega⟩,rfl,⟨Int.le_refl _,by omega⟩,z9⟩,⟨0,⟨trivial,rfl,rfl,rfl,rfl,λi hi=>?_,rfl,λi hi=>?_⟩,Nat.zero_le _⟩,λk hk=>⟨λhlt=>⟨⟨bd k (by omega),by omega,by omega⟩,⟨by omega,by omega⟩,by omega,λhs=>?_,λhs=>?_⟩,λhge=>?_⟩⟩⟩⟩⟩
 ·have:PN x.m 0 ((x.a.c.ms.length-1:Nat):Int)=true:=IX.2 (by omega)
  rw[this] at hf;cases hf
 ·obtain rfl:j=0:=by omega
  exact⟨rfl,rfl⟩
 ·unfold uG
  rw[FF _ _ _ (by omega)]
  cases decide (i=x.m.toNat)<;>exact⟨rfl,rfl⟩
 ·obtain rfl:i=0:=by omega
  rfl
 ·obtain rfl:i=0:=by omega
  rfl
 ·exact⟨⟨bd k (by omega),⟨by omega,by omega⟩,by omega,Nat.one_pos,(λh=>by cases h),by omega,by omega⟩,⟨bd k (by omega),Nat.one_pos,(λh=>by cases h),by omega,by omega⟩,k+1,⟨(ws k (by omega)).symm,rfl,rfl,rfl,step k (by omega),rfl,step2 k (by omega)⟩,by omega,by omega⟩
 ·exact⟨⟨bd k (by omega),⟨by omega,by omega⟩,by omega,Nat.one_pos,(λh=>by cases h),by omega,by omega⟩,⟨bd k (by omega),Nat.one_pos,(λh=>by cases h),by omega,by omega⟩,k+1,⟨(ws k (by omega)).symm,rfl,rfl,rfl,step k (by omega),rfl,step2 k (by omega)⟩,by omega,by omega⟩
 ·have e:x.a.c.ms.length=k+1:=by omega
  have l1:(zE x).t.length=x.a.c.ms.length:=rng_length _ _
  have l2:(zE x).s.length=x.a.c.ms.length:=rng_length _ _
  exact⟨by omega,by omega,λj hj=>FF _ _ _ (by omega),by omega,by omega,λj hj=>FF _ _ _ (by omega),rfl,λ_ _=>rfl⟩
theorem CXX(x:TrI)(h:BLM x)(hk:(xN x).all Od=false):CFR x:=by
 obtain⟨⟨l1,l2,l3⟩,hr,m1,m2⟩:=h
 obtain⟨c0,zo,so,no,_⟩:=iQ hr
 have nl:(nlL x.a).length=x.a.c.ms.length:=by unfold nlL;rw[We,QM]
 have tl1:=yQ x
 have tl:=AWV x
 obtain⟨_,hm,_⟩:=PR c0
 have ni:=(Zu c0).1
 have e0:XV x.a=0:=by unfold XV;rw[c0,zo];rfl
 have wn:IntKind.i64.wrap ((x.a.c.ms.length:Int)-1)=((x.a.c.ms.length-1:Nat):Int):=by rw[Ap (by omega) (by omega)];omega
 rw[CIU]<;> delta MD Iv BH BK DY RD RU Mr EM EO CH IH AB CJ CE AY OV CG MY CW FV HD KA EB FX EC GY GX GR GG DV FO FU IP Me hd84 FP FS El LW US HM IV QR VS YU KM WU ED NR BN YV WT WW FN TW Yq Ko Rc Qr Qj Ze cD XT iN cE V1 Lr AH CK IW AX JE AI MS LX WE BC AV AF IK IN BI GJ oN MK Jc YX Yw N4 Mi AQ WV JB BB AC BZ CN Eh BF ADZ Mj MC AE AO BD HK DD LZ AZ DC BG BR BE BU BS BJ JQ Ch AR BQ WQ IS LY SZ BV HF ZK CI OC GQ Yv BL AS BM CY Oc BY ER BFB EV CF AG IE BX TV KL NU CU GW YS HO DN GD CX OT OR Cx OE LH Av FQ DF DU HY IC MZ DR OU HG OD QQ EA Ql LR Gi KQ oR HH FG FW Qe AT yV IZ HN ZX JA ZN ZS IT HE OF Ge CR EX ZR WK OM NF RG Fs HT AU DO DI GZ HU WO BO BW CB Zq JG AL AN AM LJ KO GP ID HQ XK VX Ct NP ZP MQ KX JC MN DK VI IU Kr JU HL LS Py SC FT QD JW Mc GK Gb MH VW XD Eb NV JZ GM GH TF TO GO HZ QE KS HS Gr XP PT EH EJ EI EY RL Ak IL ML Fo Eo VU KC Do JL ZZ IA Ha qG ZO TE Ck Hk LI PY VK UC XF Fh Ff Dv MF WJ Gw Te MG PG VG VZ QP MO Mw XB SA RQ Pe Kd Ps LQ UV RJ Kh Hf Ci Ht XZ VH VQ aP Qv ZB YD Dl Dc An Xn Ia Pu WY Io Gd kV Dw QG Lx Sd Yk XQ Vq Rk Xj Ww Wq Dg Lt YJ Jt Ag Ye Pq Wu Hv Yf dN U5 Sa Kc gK Wy Vt VP UZ eK Sg pC sS Jw Xd jV Pj cX Xb vV Gs Vw Ro dO Hp gH Ul Ya G5 G2 Xa B9 K8 D0 Bh;simp only[CC,eq_self,implies_true,forall_const,FR,Ee,Uk,bD,show XS (FZ x.a) (Ov x.a.c)=nlL x.a from rfl,show XS (FZ x.a) (uG x)=xN x from rfl,e0,CRB];simp only[nl,tl1,tl,wn]
 refine⟨⟨⟨l1,l2,l3⟩,c0⟩,(λh=>by simp at h),λ_=>⟨λhf=>?_,λ_=>⟨⟨⟨⟨hm.1,hm.2,ni⟩,so⟩,default,trivial⟩,(λhf=>by rw[no] at hf;cases hf),λ_=>⟨⟨⟨⟨m1,m2⟩,by omega,Nat.one_pos,λj hj=>?_,⟨m1,m2⟩,by omega⟩,default,trivial,λi hi=>?_,trivial⟩,⟨Nat.le_refl _,trivial,hm.1,hm.2⟩,(λhf=>by rw[hk] at hf;cases hf)⟩⟩⟩⟩
 ·have:PN x.m 0 ((x.a.c.ms.length-1:Nat):Int)=true:=IX.2 (by omega)
  rw[this] at hf;cases hf
 ·obtain rfl:j=0:=by omega
  exact⟨rfl,rfl⟩
 ·unfold uG
  rw[FF _ _ _ (by omega)]
  cases decide (i=x.m.toNat)<;>exact⟨rfl,rfl⟩
end Go.Bal
