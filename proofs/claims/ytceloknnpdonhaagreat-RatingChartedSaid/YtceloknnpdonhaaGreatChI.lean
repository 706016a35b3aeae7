/- Package chart: stages at a time, from a time to another one, and when one is reached. -/
import Derived.Test.YtceloknnpdonhaaGreatChD3
set_option linter.unusedVariables false
set_option linter.unusedSimpArgs false
namespace Go.Bal
open Go Go.Sym Go.Proofs
def zHul:Hul:=⟨⟨0,0⟩,false⟩
structure CZI where
 a:CZ
 t:Int
def dCZI:List AVal->Heap->Option (CZI×List (Nat×Nat)×List Nat)
 |[x,y,.d t],H=>match DBP x H,W2 y H with
  |some (c,f),some (l,e)=>some (⟨⟨c,l⟩,EO t⟩,[],f ++ e)
  |_,_=>none
 |_,_=>none
def xCZI(x:CZI):List AVal:=[.d (eCht x.a.c),.d (FE x.a.z),.int x.t]
def eA(a:CZ):List Span:=(VH (Fh a)).1
theorem DJI(h:Hul):Hul.mk h.s h.m=h:=rfl
theorem DUL(a:CZ):(VH (Fh a)).1=eA a:=rfl
theorem COV{a:CZ}(h:Ac a=0):(eA a).length=a.c.ms.length:=by
 have h3:=(BBT h).2.2
 unfold eA
 unfold VH at h3 ⊢
 rw[BGQ] at h3 ⊢
 cases hs:AEQ a.c with
 |false=>rw[hs] at h3;cases h3
 |true=>show (dF _ _).length=_;unfold dF;rw[rng_length,Ae]
theorem CHG(c:Cht):(Ol c).length=c.ms.length:=rng_length _ _
def hul1(a:CZ)(t:Int):Nat->Hul
 |0=>zHul
 |k+1=>bif XA t (gD (eA a) k).lo (gD (eA a) k).hi then vT (hul1 a t k) (gD (Ol a.c) k) else hul1 a t k
def ADP(a:CZ)(t:Int)(g:Nat):Bool:=(dF (Fh a) (parL (eA a) ((g:Int)+1) (MQ (t-1)) (MQ (t+1)))).all qF
def hul2(a:CZ)(t:Int):Nat->Hul
 |0=>hul1 a t a.c.ms.length
 |g+1=>bif ADP a t g then vT (vT (hul2 a t g) (gD (Ol a.c) g)) (gD (Ol a.c) (g+1)) else hul2 a t g
def stgH(x:CZI):Hul:=bif XA x.t (-100000000) 100000000 then hul2 x.a x.t (x.a.c.ms.length-1) else hul1 x.a x.t x.a.c.ms.length
def Gt(x:CZI):Span×Int:=bif Ac x.a==0 then whoM (stgH x) else (⟨0,0⟩,Ac x.a)
def C_Stage:Ctr:={ α:=CZI,xs:=xCZI,val:=λx=>.tup [.d (TF (Gt x).1),.int (Gt x).2],keep:=λ_=>[],pre:=λx=>[x.a.c.ms.length<4611686018427387904/\x.a.c.ns.length<4611686018427387904/\x.a.z.length<4611686018427387904] }
def sgH(x:CZI)(h:Hul):List (Nat×HCell):=[(201,.live (.box [.int x.t])),(202,.live (.box [.int 0,.int 0])),(203,.live (.box [.bptr 208 0])),(204,.live (.box [.d (SR (eA x.a))])),(205,.live (.box [.d (SR (Ol x.a.c))])),(206,.live (hlB h)),(207,.live (.box [.fn (.func CCT) [.bptr 206 0] []])),(208,.live (dkB (Fh x.a) 209)),(209,.live (dkM (Fh x.a)))]
def sg7(x:CZI):Shape:={ α:=Nat,dflt:=0,T:=λk=>⟨[(5,.bptr 201 0),(6,.bptr 202 0),(8,.bptr 203 0),(9,.bptr 204 0),(10,.bptr 205 0),(12,.bptr 206 0),(13,.bptr 207 0),(32,.int x.a.c.ms.length),(33,.int k)],sgH x (hul1 x.a x.t k)⟩,inv:=λk=>k<=x.a.c.ms.length,meas:=λk=>x.a.c.ms.length-k,first:=[(201,1016),(202,1032),(203,2128),(204,2144),(205,2160),(206,5000),(207,6016),(208,2032),(209,2033)] }
def sg1(x:CZI)(l:Nat):Shape:={ α:=Nat,dflt:=0,T:=λg=>⟨[(0,.fn (.yield l) [] []),(1,.bptr 14016 0),(12,.int (MQ ((x.a.c.ms.length:Int)-1))),(13,.int g)],sgH x (hul2 x.a x.t g) ++ [(14016,.live (.box [.bptr 208 0]))]⟩,inv:=λg=>g<=x.a.c.ms.length-1,meas:=λg=>50-g }
noncomputable def itSg(x:CZI):IterAnn:={ fn:=BBP,code:=AL BBP,live:=[5,6,8,9,10,12,13],ann:={ base:=λid=>100000+1000*(id+1),Γ:=Sym.look [],E:=[201,202,203,204,205,206,207,208,209,14016],n:=66,inner:=λgs id=>if id=1 then some [sg1 x (gs.getD 0 0)] else none } }
noncomputable def CQK(x:CZI):Ann:={ ann 92 [(BSH,C_rdO.spec dCZ),(BCD,BLL),(CCT,C_hadd.spec dHuS),(BXP,C_gaps.spec dDk1),(BSG,C_partQ.spec dDkQ),(K6,C_nar.spec dDkS),(BZG,C_who.spec dHu1)] with iter:=λg=>if g=AOE then some (itSg x) else none,loops:=λid=>if id=7 then some [sg7 x] else none }
def CFV:Ann:=ann 92 [(BSH,C_rdX.spec dCZ)]
def COL(x:CZI):Prop:=BG Try.prog (CQK x) BCV (AL BCV) (xCZI x) (AF []) (.tup [.d (TF (whoM (stgH x)).1),.int (whoM (stgH x)).2]) [] [] []
abbrev FO:=CZI.a
abbrev yG:=CZI.t
abbrev ID a b c d e:=DN a b c (AO d e)
abbrev dG a:=EM (oX a)
abbrev Kc a b c d:=ID (dG a) b c (jH a) d
abbrev iT a b:=Hul.mk a (Tk b)
abbrev V9 a b:=hul1 (FO a) (yG a) b
abbrev YX a b:=lC (V9 a b)
abbrev CRC a b c:=nO a b c b
abbrev V0 a b:=Tk (V9 a b)
abbrev Xx a b:=hul2 (FO a) (yG a) b
abbrev VK a b:=lC (Xx a b)
abbrev Is a b c d:=iT (VK a b) (Xx c d)
abbrev TV a:=Xe (FO a)
abbrev AX a:=KY (FO a)
abbrev Df a b:=Lg (AX a) b
abbrev Nm a:=jI (FO a)
abbrev Gd a:=KH (Nm a)
abbrev hJ a b:=Dn a (Nm b)
abbrev Ez a:=CQ (AX a)
abbrev Eh a:=CO (AX a)
abbrev Gy a:=CP (AX a)
abbrev Er a:=IE (AX a)
abbrev Fs a:=LC (AX a)
abbrev YS a:=HZ (FO a)
abbrev ME a:=sC (YS a)
abbrev HK a:=eA (FO a)
abbrev uM a:=AI (yG a)
abbrev AUA a b:=SH (ME a) b
abbrev Ob a b c:=AFB a (AUA b c)
abbrev Dd a b c d:=parL (Kj (HK a)) (GY b) (FA (yG c)) (ED (yG d))
abbrev Uv a:=Cf (AX a)
abbrev YA a:=QX (AX a)
abbrev iD a b:=S4 (AX a) b
abbrev Vi a:=BH (FO a)
abbrev CN a b:=GV a (AU b)
abbrev K2 a:=Gf (FO a)
attribute [go_sem] FO yG ID dG Kc iT V9 YX CRC V0 Xx VK Is TV AX Df Nm Gd hJ Ez Eh Gy Er Fs YS ME HK uM AUA Ob Dd Uv YA iD Vi CN K2
theorem DET(x:CZI):(COL x)=(Ou (AJ (Ta (FO x)) (Rf (FO x)) (CP (YS x)) (CO (YS x)) (FM (CQ (YS x)) (Px (FO x) (TV x)) (λi=>DO i (Jn (FO x)) (So (FO x) i) (Py (FO x) i) (Td (FO x) i) (Qz (FO x) i)) (Qi (FO x) (YS x)) (λi=>QZ i (Im (FO x)) (PY (PF (FO x) i) (YS x) i) (JI (YY (FO x) i) (YS x) i) (YY (FO x) i) (YS x) (RO (PF (FO x) i) (FP (YS x) i)) (QD (PF (FO x) i) (FP (YS x) i))) (AW (K2 x) (Ts (FO x))) (AS (K2 x) (Ts (FO x))) (Ns (Qn (FO x)) (Sr (FO x)) (K2 x) 4611686018427387904) (BE (zB (Qv (FO x)))))) (LA (λi=>NO (CN (TV x) (RP (Xv (Eb (FO x))))) (Ws (BS i) (uM x) CL (AJ (Eg (HK x) (Xv (Eb (FO x)))) (AK (λj=>PV j (HK x) j (SH (Xv (Eb (FO x))) j))) (Eg (ME x) (sC (rY (FO x)))) (AK (λj=>PV j (ME x) j (SH (sC (rY (FO x))) j))) (AP (Np (YX x i)) (My (YX x i)) (HM (V0 x i)) (EW (YN (AX x)) (YN (Vi x))) (EJ (YN (AX x)) (YN (Vi x))) (Rm (AX x) (Vi x)) (Qg (AX x) (Vi x)) (Sc (AX x) (Vi x)) (XV (MY (XN (AX x)) (Vi x)) (λj=>Hl j (XN (AX x)) (XR (AX x) j) (Vi x) j (As (AX x) j) j) (dQ (AX x) (Vi x)) (λj=>UP j (AX x) j (NG (Vi x) j) (JI (JE (AX x) j) (Vi x) j) (PZ (JE (AX x) j) (Vi x) j) (FP (AX x) j) (Gv (FO x) j)) (λj=>Od j 40 (WJ (Nm x) j) (WJ (Eb (FO x)) j)) (AN (λj=>Km (OX (AX x) j) (Vi x) j)) (AN (λj=>Vx (Nm x) j (Ia (Eb (FO x)) j))) (λj=>RU (Df x j) (Vf (FO x) j)))))) (QT i (TV x)))) (λi=>CX (QT i (TV x)) i (AU (TV x)) (BF (Be (DU i (RP (HK x))) (AU i) (DX (AU i) (Jj (HK x)))) (hd1 (yG x) (EM (SH (HK x) i)) (FL (SH (HK x) i))) (Vy (BB (DU i (RP (ME x))) (Mx (ME x) i) (Mz (ME x) i) (HA (YX x i)) (IZ (YX x i)) (FJ (V0 x i))) (λj=>Ux (And (TT (TV x)) (Ws (AV j i) (uM x) CL (AJ (PH (HK x)) (QY (HK x)) (PH (ME x)) (QY (ME x)) (AP (EW (YX x j) (Ob (iT (YX x i) (V9 x i)) x i)) (EJ (YX x j) (Ob (iT (YX x i) (V9 x i)) x i)) (DR (V0 x j)) (Fs x) (Er x) (Gy x) (Eh x) (Ez x) (TS (NP (AX x)) (λk=>VO k (AX x)) (EE (AX x)) (SJ (AX x)) (λk=>hJ k x) (RS (AX x)) (Gd x) (λk=>bV (Df x k))))))) j (TV x) j i)) (LA (λj=>Ux (And (TT (TV x)) (Ws (AV j i) (uM x) CL (AJ (PH (HK x)) (QY (HK x)) (PH (ME x)) (QY (ME x)) (AP (EW (YX x j) (YX x i)) (EJ (YX x j) (YX x i)) (JB (V0 x j) (V0 x i)) (Fs x) (Er x) (Gy x) (Eh x) (Ez x) (TS (NP (AX x)) (λk=>VO k (AX x)) (EE (AX x)) (SJ (AX x)) (λk=>hJ k x) (RS (AX x)) (Gd x) (λk=>bV (Df x k))))))) j (TV x) j i))) (DV (hd1 (yG x) (-100000000) 100000000) (FK (EP (Fs x) (Er x) (Kz (AX x)) (EB (Eh x) (Ez x) (MY (YA x) (AX x)) (AK (λj=>SC j (YA x) (AX x) j j j j)) (PL (AX x)) (λj=>OZ j (AX x) j j j (VY (AX x) j j) (VE (AX x) j j)) (PU (Nm x)) CS (AP (AN (λj=>VP (Uv x) j (AX x) j)) (Gd x) (AN (λj=>RU (iD x j) (Df x j))) (Fs x) (Er x) (Gy x) (Eh x) (Ez x) (XV (TD (AX x) (YA x)) (λj=>YC j (AX x) j j j j) (UM (AX x)) (λj=>NR j (AX x) j j j j (FP (AX x) j) j) (λj=>hJ j x) (AN (λj=>VT (AX x) j (Uv x) j)) (Gd x) (λj=>RU (Df x j) (iD x j)))))) (λj=>KF (λk=>HG (Zb j) (AO (uD (AU (TV x))) (FA (Na (AX x)))) (Ws (BS k) (uM x) CL (AJ (PH (HK x)) (QY (HK x)) (PH (ME x)) (QY (ME x)) (AP (EW (VK x k) (YX x i)) (EJ (VK x k) (YX x i)) (JB (Tk (Xx x k)) (V0 x i)) (Fs x) (Er x) (Gy x) (Eh x) (Ez x) (TS (NP (AX x)) (λl=>VO l (AX x)) (EE (AX x)) (SJ (AX x)) (λl=>hJ l x) (RS (AX x)) (Gd x) (λl=>bV (Df x l)))))) (QT k (bG (TV x)))) (λk=>CX (QT k (bG (TV x))) k (uD (AU (TV x))) (AY (Be (CE (GY k) (Na (AX x))) (AU k) (DX (AU k) (Na (AX x)))) (DU k 40) (KO k 40) (DV (WJ (Nm x) k) (PC (BI j) (AH (Bq (HK x) (RP (HK x))) (AK (λl=>VV l (QA (HK x)) (WB (LB (HK x) l) (HK x) l) (LB (HK x) l) (HK x) l)) (AP (AI (GY k)) (AI (FA (yG x))) (AI (ED (yG x))) (Fs x) (Er x) (Gy x) (Eh x) (Ez x) (UY (MY (YA x) (AX x)) (λl=>SC l (YA x) (AX x) l l l l) (PL (AX x)) (AK (λl=>OZ l (AX x) l l l (VY (AX x) l l) (VE (AX x) l l))) (λl=>hJ l x) CS (AN (λl=>VP (Uv x) l (AX x) l)) (Gd x) (AP (AN (λl=>RU (iD x l) (Df x l))) (Fs x) (Er x) (Gy x) (Eh x) (Ez x) (TD (AX x) (YA x)) (AK (λl=>YC l (AX x) l l l l)) (LP (UM (AX x)) (λl=>NR l (AX x) l l l l (FP (AX x) l) l) (PU (Nm x)) CS (AN (λl=>VT (AX x) l (Uv x) l)) (Gd x) (AN (λl=>RU (Df x l) (iD x l))) (Be (MW 1 (QA (HK x)) (Fv (QA (HK x)))) (GY k) (DJ (GY k) (AU (QA (HK x))))) (LP (Bq (Dd x k x x) (RP (Dd x k x x))) (λl=>VV l (QA (Dd x k x x)) (WB (LB (Dd x k x x) l) (Dd x k x x) l) (LB (Dd x k x x) l) (Dd x k x x) l) (Fs x) (Er x) (Gy x) (Eh x) (Ez x) (MY (YA x) (AX x)) (LQ (AK (λl=>SC l (YA x) (AX x) l l l l)) (PL (AX x)) (λl=>OZ l (AX x) l l l (VY (AX x) l l) (VE (AX x) l l)) (PU (Nm x)) CS (AN (λl=>VP (Uv x) l (AX x) l)) (Gd x) (AN (λl=>RU (iD x l) (Df x l))) (AP (Fs x) (Er x) (Gy x) (Eh x) (Ez x) (TD (AX x) (YA x)) (AK (λl=>YC l (AX x) l l l l)) (UM (AX x)) (AP (AK (λl=>NR l (AX x) l l l l (FP (AX x) l) l)) (PU (Nm x)) CS (AN (λl=>VT (AX x) l (Uv x) l)) (Gd x) (AN (λl=>RU (Df x l) (iD x l))) (Bq (Dd x k x x) (YA x)) (FW (YA x)) (Fv (YA x))))))))))) (hd84 (dF (uE (Kw (AX x) (Uv x)) (Nm x)) (Kj (Dd x k x x))) qF) (AH (BB (DU k (RP (ME x))) (Mx (ME x) k) (Mz (ME x) k) (HA (VK x k)) (IZ (VK x k)) (FJ (Tk (Xx x k)))) (BB (CE (GY k) (Jj (ME x))) (Mx (ME x) (Fl k)) (Mz (ME x) (Fl k)) (HA (Ob (Is x k x k) x k)) (IZ (Ob (Is x k x k) x k)) MK) (LA (λl=>Wj (HE (Zb j) (uD (AU (TV x))) (Ws (AV l k) (uM x) CL (AJ (PH (HK x)) (QY (HK x)) (PH (ME x)) (QY (ME x)) (AP (EW (VK x l) (Ob (iT (Ob (Is x k x k) x k) (vT (Is x k x k) (AUA x k))) x (Fl k))) (EJ (VK x l) (Ob (iT (Ob (Is x k x k) x k) (vT (Is x k x k) (AUA x k))) x (Fl k))) (DR (Tk (Xx x l))) (Fs x) (Er x) (Gy x) (Eh x) (Ez x) (TS (NP (AX x)) (λm=>VO m (AX x)) (EE (AX x)) (SJ (AX x)) (λm=>hJ m x) (RS (AX x)) (Gd x) (λm=>bV (Df x m))))))) l (bG (TV x)) 50 l k))) (LA (λl=>Wj (HE (Zb j) (uD (AU (TV x))) (Ws (AV l k) (uM x) CL (AJ (PH (HK x)) (QY (HK x)) (PH (ME x)) (QY (ME x)) (AP (EW (VK x l) (VK x k)) (EJ (VK x l) (VK x k)) (JB (Tk (Xx x l)) (Tk (Xx x k))) (Fs x) (Er x) (Gy x) (Eh x) (Ez x) (TS (NP (AX x)) (λm=>VO m (AX x)) (EE (AX x)) (SJ (AX x)) (λm=>hJ m x) (RS (AX x)) (Gd x) (λm=>bV (Df x m))))))) l (bG (TV x)) 50 l k))) (PC (BI j) (AH (Bq (HK x) (RP (HK x))) (AK (λl=>VV l (QA (HK x)) (WB (LB (HK x) l) (HK x) l) (LB (HK x) l) (HK x) l)) (AP (AI (GY k)) (AI (FA (yG x))) (AI (ED (yG x))) (Fs x) (Er x) (Gy x) (Eh x) (Ez x) (UY (MY (YA x) (AX x)) (λl=>SC l (YA x) (AX x) l l l l) (PL (AX x)) (AK (λl=>OZ l (AX x) l l l (VY (AX x) l l) (VE (AX x) l l))) (λl=>hJ l x) CS (AN (λl=>VP (Uv x) l (AX x) l)) (Gd x) (AP (AN (λl=>RU (iD x l) (Df x l))) (Fs x) (Er x) (Gy x) (Eh x) (Ez x) (TD (AX x) (YA x)) (AK (λl=>YC l (AX x) l l l l)) (LP (UM (AX x)) (λl=>NR l (AX x) l l l l (FP (AX x) l) l) (PU (Nm x)) CS (AN (λl=>VT (AX x) l (Uv x) l)) (Gd x) (AN (λl=>RU (Df x l) (iD x l))) (Be (MW 1 (QA (HK x)) (Fv (QA (HK x)))) (GY k) (DJ (GY k) (AU (QA (HK x))))) (LP (Bq (Dd x k x x) (RP (Dd x k x x))) (λl=>VV l (QA (Dd x k x x)) (WB (LB (Dd x k x x) l) (Dd x k x x) l) (LB (Dd x k x x) l) (Dd x k x x) l) (Fs x) (Er x) (Gy x) (Eh x) (Ez x) (MY (YA x) (AX x)) (LQ (AK (λl=>SC l (YA x) (AX x) l l l l)) (PL (AX x)) (λl=>OZ l (AX x) l l l (VY (AX x) l l) (VE (AX x) l l)) (PU (Nm x)) CS (AN (λl=>VP (Uv x) l (AX x) l)) (Gd x) (AN (λl=>RU (iD x l) (Df x l))) (AP (Fs x) (Er x) (Gy x) (Eh x) (Ez x) (TD (AX x) (YA x)) (AK (λl=>YC l (AX x) l l l l)) (UM (AX x)) (AP (AK (λl=>NR l (AX x) l l l l (FP (AX x) l) l)) (PU (Nm x)) CS (AN (λl=>VT (AX x) l (Uv x) l)) (Gd x) (AN (λl=>RU (Df x l) (iD x l))) (Bq (Dd x k x x) (YA x)) (FW (YA x)) (Fv (YA x))))))))))) (hd84 (dF (uE (Kw (AX x) (Uv x)) (Nm x)) (Kj (Dd x k x x))) qF) (AH (BB (DU k (RP (ME x))) (Mx (ME x) k) (Mz (ME x) k) (HA (VK x k)) (IZ (VK x k)) (FJ (Tk (Xx x k)))) (BB (CE (GY k) (Jj (ME x))) (Mx (ME x) (Fl k)) (Mz (ME x) (Fl k)) (HA (Ob (Is x k x k) x k)) (IZ (Ob (Is x k x k) x k)) MK) (LA (λl=>Wj (HE (Zb j) (uD (AU (TV x))) (Ws (AV l k) (uM x) CL (AJ (PH (HK x)) (QY (HK x)) (PH (ME x)) (QY (ME x)) (AP (EW (VK x l) (Ob (iT (Ob (Is x k x k) x k) (vT (Is x k x k) (AUA x k))) x (Fl k))) (EJ (VK x l) (Ob (iT (Ob (Is x k x k) x k) (vT (Is x k x k) (AUA x k))) x (Fl k))) (DR (Tk (Xx x l))) (Fs x) (Er x) (Gy x) (Eh x) (Ez x) (TS (NP (AX x)) (λm=>VO m (AX x)) (EE (AX x)) (SJ (AX x)) (λm=>hJ m x) (RS (AX x)) (Gd x) (λm=>bV (Df x m))))))) l (bG (TV x)) 50 l k))) (LA (λl=>Wj (HE (Zb j) (uD (AU (TV x))) (Ws (AV l k) (uM x) CL (AJ (PH (HK x)) (QY (HK x)) (PH (ME x)) (QY (ME x)) (AP (EW (VK x l) (VK x k)) (EJ (VK x l) (VK x k)) (JB (Tk (Xx x l)) (Tk (Xx x k))) (Fs x) (Er x) (Gy x) (Eh x) (Ez x) (TS (NP (AX x)) (λm=>VO m (AX x)) (EE (AX x)) (SJ (AX x)) (λm=>hJ m x) (RS (AX x)) (Gd x) (λm=>bV (Df x m))))))) l (bG (TV x)) 50 l k))))) (NO (HA (VK x k)) (CRC (IZ (VK x k)) (FJ (Tk (Xx x k))) (HA (VK x k))) (Kc (yN (stgH x)) (dG (yN (Is x k x k))) (EJ (uP (stgH x)) (uP (Is x k x k))) (jH (yN (Is x k x k)))))))) (NO (HA (YX x i)) (CRC (IZ (YX x i)) (FJ (V0 x i)) (HA (YX x i))) (Kc (yN (stgH x)) (dG (yN (iT (YX x i) (V9 x i)))) (EJ (uP (stgH x)) (uP (iT (YX x i) (V9 x i)))) (jH (yN (iT (YX x i) (V9 x i))))))))):=by kernel_rfl
def CHZ(x:CZI):Prop:=BG Try.prog CFV BCV (AL BCV) (xCZI x) (AF []) (.tup [.d (TF zSp),.int (Ac x.a)]) [] [] []
theorem CSC(x:CZI):(CHZ x)=(RA (AJ (Ta (FO x)) (Rf (FO x)) (CP (YS x)) (CO (YS x)) (FM (CQ (YS x)) (Px (FO x) (TV x)) (λi=>DO i (Jn (FO x)) (So (FO x) i) (Py (FO x) i) (Td (FO x) i) (Qz (FO x) i)) (Qi (FO x) (YS x)) (λi=>QZ i (Im (FO x)) (PY (PF (FO x) i) (YS x) i) (JI (YY (FO x) i) (YS x) i) (YY (FO x) i) (YS x) (RO (PF (FO x) i) (FP (YS x) i)) (QD (PF (FO x) i) (FP (YS x) i))) (AW (K2 x) (Ts (FO x))) (AS (K2 x) (Ts (FO x))) (Ns (Qn (FO x)) (Sr (FO x)) (K2 x) 4611686018427387904) (VD (zB (Qv (FO x)))))) (zB (Qv (FO x))) (Um CL (AO (zB (FO x)) (zB (Qv (FO x))))) PS):=by kernel_rfl
theorem DHZ(x:CZI)(h1:x.a.c.ms.length<4611686018427387904/\x.a.c.ns.length<4611686018427387904/\x.a.z.length<4611686018427387904)(c0:Ac x.a=0):COL x:=by
 have tl:=COV c0
 have sl:=CHG x.a.c
 have hl:=kH (BBT c0).1
 obtain⟨_,⟨n1,n2⟩,_⟩:=hl
 have w1:MQ ((x.a.c.ms.length:Int)-1)=((x.a.c.ms.length-1:Nat):Int):=by unfold MQ;rw[JC (by omega) (by omega)];omega
 have w2:IntKind.i64.wrap ((x.a.c.ms.length:Int)-1)=((x.a.c.ms.length-1:Nat):Int):=w1
 have po:∀g:Nat,(dF (Fh x.a) (parL (eA x.a) ((g:Int)+1) (IntKind.i64.wrap (x.t-1)) (IntKind.i64.wrap (x.t+1)))).all qF=ADP x.a x.t g:=λ_=>rfl
 rw[DET]<;> delta JB hd1 Oz EM FL ZF NE Kq NU XB AR RP AK BO CI AO SH AU UH EA DV JD DJ DX OP IS Iz Bh YN Kz Rn Pz Vq Hc Av Gh jM LA qH hd84 QJ FZ QP AN Af QT BV Ia BN BJ WJ HZ JN Ts jI sC APB zB Tk lC oX yN jH FO yG AH LY YJ LX AJ zJ JJ Bs AZ KY EV Pq AI DG BI FJ RH Ws nO CRC Ui AAC DK AP Pb mY Gf AX LI Lg HA BZ ED BC IZ EZ Cf AGP W5 W7 DN JE JA FQ FP HE HT EJ EW ID rY EU AW Xp WK Dh NG ADX GT GY oI HL WF AY XN SE IE Bt GV IA BB CK JZ KC FK VB OX S4 Gz HK LC BD DR XR YO Kj CE BH FG EN KJ MW Ec SB YZ As EE EC AV YS CS QX QA Df AS KH CQ CO CP DO BF ES FU FM FA Cc FF Vf NB BE FW Hi Dn JO ZK CN PH ME bG LB Az GP ADH CX AKR NT JI Kd QD OC RS PZ RO Nw Mz Gw PF NP CL Mx BS EP HR Eb Xx uE Qv OA PU Hh bL UY DU PY iD RB HG Jc SJ Nm MK EB Yn Xe Am V9 QZ Cl VO ADW bB KO QY Na Fl VK Im Jn TA SZ iA TV HM Gv Ik Km YX TS NO MY XV KF TT O9 Ks Hj Jj iT dG UP PL LQ Eg Vi LP PV Hl UM bV RU TD YY YA My PC VT VP AFB Eh Gd uD Er Xv YW Ez WB Be Fs Bq OZ VE VY Gy AUA Fv Zb Np Wj Kw Ux Zh Od Qn Uv Rf uP Sr Ta VV Is Ob Ou NR Kc SC Ns Qi hJ Td Py V0 Vy Sc dQ Qz So Px K2 YC Qg Dd Rm Vx uM;simp only[CCQ,eq_self,implies_true,forall_const,Ur,BQO,BGQ,BQB,BOL,DJI,DUL];simp only[tl,sl,w1,w2,CEX]
 have e1:∀k,XA x.t (gD (eA x.a) k).lo (gD (eA x.a) k).hi=true->hul1 x.a x.t (k+1)=vT (hul1 x.a x.t k) (gD (Ol x.a.c) k):=λk h=>by
  show (bif XA x.t (gD (eA x.a) k).lo (gD (eA x.a) k).hi then _ else _)=_;rw[h];rfl
 have e0:∀k,XA x.t (gD (eA x.a) k).lo (gD (eA x.a) k).hi=false->hul1 x.a x.t (k+1)=hul1 x.a x.t k:=λk h=>by
  show (bif XA x.t (gD (eA x.a) k).lo (gD (eA x.a) k).hi then _ else _)=_;rw[h];rfl
 have f1:∀g,ADP x.a x.t g=true->hul2 x.a x.t (g+1)=vT (vT (hul2 x.a x.t g) (gD (Ol x.a.c) g)) (gD (Ol x.a.c) (g+1)):=λg h=>by
  show (bif ADP x.a x.t g then _ else _)=_;rw[h];rfl
 have f0:∀g,ADP x.a x.t g=false->hul2 x.a x.t (g+1)=hul2 x.a x.t g:=λg h=>by
  show (bif ADP x.a x.t g then _ else _)=_;rw[h];rfl
 refine⟨⟨h1,c0⟩,⟨0,⟨trivial,rfl,rfl,rfl,rfl⟩,Nat.zero_le _⟩,λk hk=>⟨λhlt=>⟨by omega,λhin=>⟨by omega,k+1,⟨(FN (by omega)).symm,?_,?_,?_⟩,by omega,by omega⟩,λhin=>⟨k+1,⟨(FN (by omega)).symm,?_,?_,?_⟩,by omega,by omega⟩⟩,λhge=>⟨λht=>⟨⟨0,⟨trivial,rfl,?_,?_,?_⟩,Nat.zero_le _⟩,λg hg=>⟨λhlt=>?_,λhgg=>?_⟩⟩,λht=>?_⟩⟩⟩
 ·rw[e1 k hin]
 ·rw[e1 k hin]
 ·rw[e1 k hin];rfl
 ·rw[e0 k hin]
 ·rw[e0 k hin]
 ·rw[e0 k hin]
 ·obtain rfl:k=x.a.c.ms.length:=by omega
  rfl
 ·obtain rfl:k=x.a.c.ms.length:=by omega
  rfl
 ·obtain rfl:k=x.a.c.ms.length:=by omega
  rfl
 ·have hlt:g<x.a.c.ms.length-1:=by omega
  have ew:IntKind.i64.wrap ((g:Int)+1)=(g:Int)+1:=by rw[FN (by omega)];rfl
  have tn:((g:Int)+1).toNat=g+1:=by omega
  have ec:((g+1:Nat):Int)=(g:Int)+1:=rfl
  simp only[ew,tn,po]
  have body:((((0:Nat)<x.a.c.ms.length/\x.a.c.ms.length<=40)/\0<=(g:Int)+1/\(g:Int)+1<=x.a.c.ms.length)):=⟨⟨by omega,by omega⟩,by omega,by omega⟩
  refine⟨⟨⟨by omega,by omega⟩,by omega,by omega⟩,⟨by omega,by omega⟩,by omega,λ_=>?_,λ_=>?_⟩ <;>
  ·refine⟨⟨body,trivial,by omega,n2⟩,λh=>⟨⟨by omega,by omega⟩,⟨by omega,by omega⟩,g+1,⟨ec,?_,?_,?_⟩,by omega,by omega⟩,λh=>⟨g+1,⟨ec,?_,?_,?_⟩,by omega,by omega⟩⟩
   ·rw[f1 g h]
   ·rw[f1 g h]
   ·rw[f1 g h];rfl
   ·rw[f0 g h]
   ·rw[f0 g h]
   ·rw[f0 g h]
 ·obtain rfl:g=x.a.c.ms.length-1:=by omega
  have:stgH x=hul2 x.a x.t (x.a.c.ms.length-1):=by unfold stgH;rw[ht];rfl
  rw[this];exact⟨rfl,rfl,rfl⟩
 ·obtain rfl:k=x.a.c.ms.length:=by omega
  have:stgH x=hul1 x.a x.t x.a.c.ms.length:=by unfold stgH;rw[ht];rfl
  rw[this];exact⟨rfl,rfl,rfl⟩
theorem CWI:AM Try.prog CBN (C_Stage.spec dCZI):=okT C_Stage (λ(x:CZI) h=>by
 have h1:x.a.c.ms.length<4611686018427387904/\x.a.c.ns.length<4611686018427387904/\x.a.z.length<4611686018427387904:=h
 by_cases c0:Ac x.a=0
 ·have e:C_Stage.val x=.tup [.d (TF (whoM (stgH x)).1),.int (whoM (stgH x)).2]:=by
   show AVal.tup [.d (TF (Gt x).1),.int (Gt x).2]=_
   unfold Gt;rw[c0];rfl
  rw[e]
  exact Mj (A:=CQK x) (L:=[]) (keep:=[]) (ren:=[]) (fz:=[]) CFZ (by kernel_rfl) (AB DRH (AB BSB (AB DGT (AB CQY (AB DEL (AB CWF (AB DRX AG))))))) (DHZ x h1 c0) (CDQ AOE (itSg x) rfl rfl AG CHN (by kernel_rfl) (by kernel_rfl))
 ·have c0':(Ac x.a==0)=false:=by simpa using c0
  have e:C_Stage.val x=.tup [.d (TF zSp),.int (Ac x.a)]:=by
   show AVal.tup [.d (TF (Gt x).1),.int (Gt x).2]=_
   unfold Gt;rw[c0'];rfl
  rw[e]
  refine Mj (A:=CFV) (L:=[]) (keep:=[]) (ren:=[]) (fz:=[]) CFZ (by kernel_rfl) (AB DSX AG) ?_
  show CHZ x;rw[CSC]<;> delta EM FL ZF NU XB AR AK BO CI AO UH DV Iz Bh YN Kz Rn Pz Vq Hc Av Gh jM Gi PS BN BJ HZ JN Ts zB FO AH LY YJ LX AJ zJ JJ Bs AZ Pq AI DG Um Ui AAC AP Pb mY Gf HA BZ IZ EZ AGP W5 JE JA FQ FP HT EJ EW rY AW WK NG GT HL WF SE IA CK JZ KC BD FG EN SB YS AS CQ CO CP DO BF FU FM AKR JI QD OC PZ RO PF CL Qv PY Xe Am QZ Im Jn TV PK YY RA VD Qn Rf Sr Ta Ns Qi Td Py Qz So Px K2;simp only[CCQ,eq_self,implies_true,forall_const,Ur,BQB]
  exact⟨⟨h1,c0⟩,λh=>by simp[c0] at h⟩) _
end Go.Bal
