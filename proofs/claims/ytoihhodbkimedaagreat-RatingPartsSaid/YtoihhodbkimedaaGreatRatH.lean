/- Package rating: the least and the greatest flow at a stage. -/
import Derived.Test.YtoihhodbkimedaaGreatRatG
set_option linter.unusedVariables false
set_option linter.unusedSimpArgs false
namespace Go.Bal
open Go Go.Sym Go.Proofs
def uO(p q:Rt):Int:=Oz (wr (p.n*q.d)) (wr (q.n*p.d))
def BAQ:=pD dR2 λx=>.bool (decide (uO x.lo x.hi<0))
def AYO:=pD dR2 λx=>.bool (decide (uO x.lo x.hi>0))
def A_lm:Ann:=ann 9 [(xU,ADY)]
def BKN(a:Bnd):Prop:=BQ Try.prog A_lm AYB (AI AYB) (xR2 a) (AD []) (.bool (decide (uO a.lo a.hi<0))) [] [] []
abbrev YL a b:=XG (Mo a b)
attribute [go_sem] YL
theorem CAB(a:Bnd):(BKN a)=(JT (XG (uO (iR a) (gU a))) (YL (Fq (OS a) (OX a)) (Fq (JP a) (JI a)))):=by kernel_rfl
def BPH(a:Bnd):Prop:=BQ Try.prog A_lm AZD (AI AZD) (xR2 a) (AD []) (.bool (decide (uO a.lo a.hi>0))) [] [] []
theorem BYD(a:Bnd):(BPH a)=(JT (Az (uO (iR a) (gU a))) (Az (Mo (Fq (OS a) (OX a)) (Fq (JP a) (JI a))))):=by kernel_rfl
theorem BWJ:AJ Try.prog Bm BAQ:=UX xR2 hR2 λg _=>Mn (A:=A_lm) (ren:=[]) (fz:=[]) BTW (by kernel_rfl) (AC pO AE) (by
 show BKN g;rw[CAB]<;> delta JT GD Mo WL WY mT iR gU OX OS JI JP XG YL Fq;rfl)
theorem CBZ:AJ Try.prog Bo AYO:=UX xR2 hR2 λg _=>Mn (A:=A_lm) (ren:=[]) (fz:=[]) BUP (by kernel_rfl) (AC pO AE) (by
 show BPH g;rw[BYD]<;> delta JT Mo KO WL WY mT iR gU OX OS JI JP Az Fq;rfl)
def CMP:AVal:=.agg [.fn (.func Bm) [] []]
def CMB:AVal:=.agg [.fn (.func Bo) [] []]
def d0:List AVal->Heap->Option (One×List (Nat×Nat)×List Nat)
 |[],_=>some (default,[],[])
 |_,_=>none
def C_less:Ctr:={ α:=One,xs:=λ_=>[],L:=λ_=>[],val:=λ_=>CMP,keep:=λ_=>[] }
def C_more:Ctr:={ α:=One,xs:=λ_=>[],L:=λ_=>[],val:=λ_=>CMB,keep:=λ_=>[] }
def BXL(_x:One):Prop:=BQ Try.prog (ann 2 []) BJL (AI BJL) [] (AD []) CMP [] [] []
theorem CHP(_x:One):(BXL _x)=(FP):=by kernel_rfl
def BZU(_x:One):Prop:=BQ Try.prog (ann 2 []) BGP (AI BGP) [] (AD []) CMB [] [] []
theorem CHD(_x:One):(BZU _x)=(FP):=by kernel_rfl
def dAL:List AVal->Option LnI
 |[.d (.iface 72 (.agg [.v (.int .i64 a),.v (.int .i64 b),.v (.int .i64 c),.v (.int .i64 d)])),.d (.v (.int .i64 s))]=>some ⟨⟨a,b,c,d⟩,s⟩
 |_=>none
def xAL(a:LnI):List AVal:=[.d (.iface 72 (eLn a.x)),.int a.s]
def BJF:=pD dAL (λa=>.d (eRt (MF a.x a.s))) (λa=>[PJ a.x,0<=a.s/\a.s<=2000])
def CDH(a:LnI):Prop:=BQ Try.prog (ann 8 [(ALU,AXD)]) AZC (AI AZC) (xAL a) (AD []) (.d (eRt (MF a.x a.s))) [] [] []
abbrev fS a:=AM (WY a)
abbrev dF a:=AM (WL a)
attribute [go_sem] fS dF
theorem CIK(a:LnI):(CDH a)=(AG (AG (ED (dK a) (Fz (dK a) (Ux a) (ZF a) (yA a))) (BC (oB a)) (GU (oB a))) (dF (MF (yA a) (oB a))) (fS (MF (yA a) (oB a)))):=by kernel_rfl
theorem CFN:AJ Try.prog BJV (C_less.spec d0):=VD C_less (λ_=>ann 2 []) [] [] CJD (λ_=>by kernel_rfl) (λ_=>AE) (λ(x:One) _=>by
 show BXL x;rw[CHP]<;> delta FP;trivial) (λ_=>WK rfl rfl) _
theorem CDJ:AJ Try.prog BFN (C_more.spec d0):=VD C_more (λ_=>ann 2 []) [] [] CGU (λ_=>by kernel_rfl) (λ_=>AE) (λ(x:One) _=>by
 show BZU x;rw[CHD]<;> delta FP;trivial) (λ_=>WK rfl rfl) _
theorem hAL(xs:List AVal)(a:LnI)(h:dAL xs=some a):xs=xAL a:=by
 unfold dAL at h;split at h<;>cases h;rfl
theorem BAC:AJ Try.prog ALY BJF:=UX xAL hAL λa h=>Mn (A:=ann 8 [(ALU,AXD)]) (ren:=[]) (fz:=[]) BVZ (by kernel_rfl) (AC BSX AE) (by
 show CDH a;rw[CIK]<;> delta OV LY LW MN AO DD ES WL WY yA oB AG AF AM BC ED GU MI HZ dK Ux ZF fS Fz dF;exact⟨⟨h.1,h.2⟩,rfl,rfl⟩)
def Gv(lt:Rt->Rt->Bool)(t:Int)(b x:Ln):Ln:=bif lt (MF x t) (MF b t) then x else b
def iJ(lt:Rt->Rt->Bool)(t:Int)(l:List Ln)(i:Nat):Ln:=(l.take i).foldl (Gv lt t) (gD l 0)
def aV(lt:Rt->Rt->Bool)(t:Int)(l:List Ln):Ln:=l.foldl (Gv lt t) (gD l 0)
def zK(p q:Rt):Bool:=decide (uO p q<0)
def yP(p q:Rt):Bool:=decide (uO p q>0)
structure BkT where
 w:Bk
 st:Int
def kB(a:BkT):Int:=Et a.w.b a.st
def lB(a:BkT):List Ln:=VP (Ja a.w (kB a)) a.st
def dBkT(n:FuncId):List AVal->Heap->Option (BkT×List (Nat×Nat)×List Nat)
 |[.bptr id _,.d t,.agg [.fn (.func g) [] []]],H=>if g=n then match ATT H id with
  |some (w,q)=>some (⟨w,KT t⟩,[(100,id),(101,q)],[])
  |none=>none else none
 |_,_=>none
def bvL(x:Ln)(b:Bool):AVal:=.tup [.d (eLn x),.bool b]
def be6(lt:Rt->Rt->Bool)(n:FuncId)(a:BkT):Shape:={ α:=Nat,dflt:=0,T:=λi=>⟨[(1,.int a.st),(5,.bptr 1000 0),(6,.bptr 1016 0),(9,.bptr 5048 0),(29,.d (eLns (lB a))),(30,.int (lB a).length),(31,.int i)],bkK (XU a.w (kB a)) ++ [(1000,.live (.box [.fn (.func n) [] []])),(1016,zLn),(5048,.live (.box [.int (iJ lt a.st (lB a) i).a0,.int (iJ lt a.st (lB a) i).a1,.int (iJ lt a.st (lB a) i).b0,.int (iJ lt a.st (lB a) i).b1]))]⟩,inv:=λi=>i<=(lB a).length,meas:=λi=>(lB a).length-i }
def Lz(lt:Rt->Rt->Bool)(n:FuncId):Ctr:={ ro:=[100],α:=BkT,xs:=λa=>[.bptr 100 0,.int a.st,.agg [.fn (.func n) [] []]],L:=λa=>bkL a.w,val:=λa=>bvL (bif decide ((lB a).length=0) then default else aV lt a.st (lB a)) (decide ((lB a).length≠0)),keep:=λa=>bkK (XU a.w (kB a)),pre:=λa=>[ZV a.w.g a.w.b/\0<=a.st/\a.st<=2000] }
def AZG(lt:Rt->Rt->Bool)(n:FuncId)(f:Sym.Spec)(a:BkT):Ann:={ ann 49 [(AVK,C_part.spec dIX),(ABH,C_lns.spec dBkS),(ALY,BJF),(n,f)] with E:=[100,101],loops:=λid=>if id=6 then some [be6 lt n a] else none }
def BNA(a:BkT):Prop:=BQ Try.prog (AZG zK Bm BAQ a) AQQ (AI AQQ) ((Lz zK Bm).xs a) (AD ((Lz zK Bm).L a)) ((Lz zK Bm).val a) ((Lz zK Bm).keep a) [] []
abbrev Ms:=@List.Mem Int
abbrev HE:=BkT.w
abbrev ZT:=BkT.st
abbrev rQ a b:=XU a (kB b)
abbrev GS a:=rQ (HE a) a
abbrev Ge a b c:=BO (GS a) b c
abbrev lL a:=OP (GS a)
abbrev oZ a:=WA (GS a)
abbrev Ax a:=PK (GS a)
abbrev mY a:=FC (Ax a)
abbrev lC a:=CX (Ax a)
abbrev At a:=PA (GS a)
abbrev mS a:=BN (At a)
abbrev nF a:=AZ (At a)
abbrev rE a:=(λ(x0 x1:Nat)=>decide (x0≠x1)) a 0
abbrev OH a:=ID (lB a)
abbrev fI a:=rE (OH a)
abbrev Dh a b:=AO (MN a) (MN b)
abbrev APO a b c:=iJ a (ZT b) (lB b) c
abbrev RU a b:=APO zK a b
abbrev AEO a b c d:=(@cond Ln) (XS a 0) (@default Ln instInhabitedLn) (aV b (ZT c) d)
abbrev YJ a b c d:=AEO (OH a) b c (lB d)
abbrev Cy a b:=AO (LW a) (LW b)
abbrev Ct a b:=AO (LY a) (LY b)
abbrev Cm a b c d:=AF a b c b d
abbrev ABQ a b c:=Cm a b b c
abbrev Gu a b:=RG (lB a) b
abbrev Gb a:=AM (ZT a)
abbrev Uy a b:=MF a (ZT b)
abbrev Kv a:=GU (ZT a)
abbrev A3 a b c d:=VP (sB (BkS.mk a b c)) d
abbrev S4 a b c:=A3 a b c c
abbrev Ag a:=XT (HE a)
abbrev AJK a:=Et (Ag a) (ZT a)
abbrev cX a b c d e:=Bk.mk a (aD b c) (Jp d) (Dd e)
abbrev AUB a b c d e:=cX a b (HE c) d e
abbrev Xf a b:=GV (PA a) (PA b)
abbrev Nj a:=Xf (HE a) (HE a)
abbrev Bs a:=AUB (Nj a) (HE a) a (HE a) (HE a)
abbrev AGA a b:=RG (S4 (Bs a) (AQ (AJK a)) (ZT a)) b
abbrev HB:=EU 0
abbrev Yp a:=AGA a HB
abbrev CJ a b c(d:Nat->Prop):=FZ (Mr a b (Ha c b)) d
abbrev CK a b c d e:=Ng a b c (PF (Eo b c a) (Eo d c a)) e
abbrev EJ a b c d e f g h:=CR a b c d e (DW f g h)
abbrev HO a:=XU (Bs a) (AQ (AJK a))
abbrev JK a b:=BG (λi=>AO (Dd a i) (Dd b i))
abbrev OQ a b c d:=JT (Jp a b) (Jp c d)
abbrev SE a b:=BM a (PK b)
abbrev Ez a b:=SE a (HE b)
abbrev SB a b:=AY a (PK b)
abbrev Fl a b:=SB a (HE b)
abbrev NH a b:=ER a (PA b)
abbrev Mk a b:=NH a (HE b)
abbrev NM a b:=AW a (PA b)
abbrev Kh a b:=NM a (HE b)
abbrev Xy a:=ID (S4 (Bs a) (AQ (AJK a)) (ZT a))
abbrev TQ a:=HI 0 a
abbrev ML:=DD 0 0
abbrev JR a b c d e f g h p:=AX a b c d e f g (BC h) p
abbrev ME a b c:=BV a (And b c)
abbrev RO a:=VY (λi=>NQ i a (HZ (SD i) (EE i) (EC i) (DP i)))
abbrev LA a b(c:Int->Int->Prop):=AF (Bz a) (RO a) (Dv b) (Lj c b) (BG (λi=>ME (Ms i b) (DD 1 i) (GU i)))
abbrev PC a b:=SE (PK a) b
abbrev OM a b:=SB (PK a) b
abbrev PE a b:=NH (PA a) b
abbrev PD a b:=NM (PA a) b
attribute [go_sem] Ms HE ZT rQ GS Ge lL oZ Ax mY lC At mS nF rE OH fI Dh APO RU AEO YJ Cy Ct Cm ABQ Gu Gb Uy Kv A3 S4 Ag AJK cX AUB Xf Nj Bs AGA HB Yp CJ CK EJ HO JK OQ SE Ez SB Fl NH Mk NM Kh Xy TQ ML JR ME RO LA PC OM PE PD
theorem BVM(a:BkT):(BNA a)=(UN (AF (Fl (Ag a) a) (Ez (Ag a) a) (Gb a) (And (LP (Ag a)) (Lj ES (Ag a))) (AX (BE (AJK a)) (Gb a) (Kh (Nj a) a) (Mk (Nj a) a) (Fl (Ag a) a) (Ez (Ag a) a) EQ (WA (HE a)) (JR (OP (HE a)) (BG (λi=>CJ (Bs a) i (HE a) (λj=>CK j (Bs a) i (HE a) (EJ (BO (Bs a) i j) (BO (HE a) i j) (BI (Bs a) i j) (BI (HE a) i j) (DW (Bs a) i j) (HE a) i j)))) (PD (HE a) (HO a)) (PE (HE a) (HO a)) (OM (HE a) (HO a)) (PC (HE a) (HO a)) (LA (Nj a) (Ag a) ES) (ZT a) (Kv a)))) (VU (AQ (Xy a))) (AF (UU (YJ a zK a a) 0) (CP (LY (YJ a zK a a))) (CP (LW (YJ a zK a a))) (CP (MN (YJ a zK a a))) (OF (LC (fI a)) (Kh (At a) a) (Mk (At a) a) (Fl (Ax a) a) (Ez (Ax a) a) (BG (λi=>OQ (GS a) i (HO a) i)) (JK (GS a) (HO a)) (λi=>CJ (GS a) i (HO a) (λj=>CK j (GS a) i (HO a) (EJ (Ge a i j) (BO (HO a) i j) (BI (GS a) i j) (BI (HO a) i j) (DW (GS a) i j) (HO a) i j))))) (DE ML (TQ (Xy a)) (FB (λi=>And (RS (Gb a) (AR (OH a) (Xy a)) (λj=>QE j (OH a) (Gu a j) (AGA a j)) (CB (OH a) (Xy a)) (QW (BD i) (Kh (At a) a) (Mk (At a) a) (Fl (Ax a) a) (Ez (Ax a) a) (BG (λj=>OQ (GS a) j (HO a) j)) (JK (GS a) (HO a)) (ABQ (BG (λj=>CJ (GS a) j (HO a) (λk=>CK k (GS a) j (HO a) (EJ (Ge a j k) (BO (HO a) j k) (BI (GS a) j k) (BI (HO a) j k) (DW (GS a) j k) (HO a) j k)))) BY (AF BY (PF (RU a i) (Yp a)) (Ct (RU a i) (Yp a)) (Cy (RU a i) (Yp a)) (Dh (RU a i) (Yp a)))))) (IY i (OH a)))) (AK (λi=>NJ (IY i (OH a)) (UI i (OH a)) (IR i (OH a)) (AF (ZN (Gu a i)) (ED (ZT a) (Kv a)) (ZN (RU a i)) (BC (ZT a)) (Kv a)) (NO (XG (uO (Uy (Gu a i) a) (Uy (RU a i) a))) (FB (λj=>RL (RS (Gb a) (BL (OH a)) (λk=>Fp k (OH a) (Gu a k)) (BE (OH a)) (QW (BS j i) (nF a) (mS a) (lC a) (mY a) (oZ a) (lL a) (ABQ (BG (λk=>UL (GS a) k (λl=>UC l (GS a) k (Ge a k l)))) BY (AF BY (PF (RU a j) (Gu a i)) (Ct (RU a j) (Gu a i)) (Cy (RU a j) (Gu a i)) (Dh (RU a j) (Gu a i)))))) j (OH a) j i)) (λj=>RL (RS (Gb a) (BL (OH a)) (λk=>Fp k (OH a) (Gu a k)) (BE (OH a)) (QW (BS j i) (nF a) (mS a) (lC a) (mY a) (oZ a) (lL a) (ABQ (BG (λk=>UL (GS a) k (λl=>UC l (GS a) k (Ge a k l)))) BY (AF BY (PF (RU a j) (RU a i)) (Ct (RU a j) (RU a i)) (Cy (RU a j) (RU a i)) (Dh (RU a j) (RU a i)))))) j (OH a) j i)) (AF (PF (YJ a zK a a) (RU a i)) (Ct (YJ a zK a a) (RU a i)) (Cy (YJ a zK a a) (RU a i)) (Dh (YJ a zK a a) (RU a i)) (OF (EL (fI a)) (nF a) (mS a) (lC a) (mY a) (oZ a) (lL a) (λj=>UL (GS a) j (λk=>UC k (GS a) j (Ge a j k))))))))):=by kernel_rfl
def BLB(a:BkT):Prop:=BQ Try.prog (AZG yP Bo AYO a) AQQ (AI AQQ) ((Lz yP Bo).xs a) (AD ((Lz yP Bo).L a)) ((Lz yP Bo).val a) ((Lz yP Bo).keep a) [] []
abbrev RP a b:=APO yP a b
attribute [go_sem] RP
theorem BWA(a:BkT):(BLB a)=(UN (AF (Fl (Ag a) a) (Ez (Ag a) a) (Gb a) (And (LP (Ag a)) (Lj ES (Ag a))) (AX (BE (AJK a)) (Gb a) (Kh (Nj a) a) (Mk (Nj a) a) (Fl (Ag a) a) (Ez (Ag a) a) EQ (WA (HE a)) (JR (OP (HE a)) (BG (λi=>CJ (Bs a) i (HE a) (λj=>CK j (Bs a) i (HE a) (EJ (BO (Bs a) i j) (BO (HE a) i j) (BI (Bs a) i j) (BI (HE a) i j) (DW (Bs a) i j) (HE a) i j)))) (PD (HE a) (HO a)) (PE (HE a) (HO a)) (OM (HE a) (HO a)) (PC (HE a) (HO a)) (LA (Nj a) (Ag a) ES) (ZT a) (Kv a)))) (VU (AQ (Xy a))) (AF (UU (YJ a yP a a) 0) (CP (LY (YJ a yP a a))) (CP (LW (YJ a yP a a))) (CP (MN (YJ a yP a a))) (OF (LC (fI a)) (Kh (At a) a) (Mk (At a) a) (Fl (Ax a) a) (Ez (Ax a) a) (BG (λi=>OQ (GS a) i (HO a) i)) (JK (GS a) (HO a)) (λi=>CJ (GS a) i (HO a) (λj=>CK j (GS a) i (HO a) (EJ (Ge a i j) (BO (HO a) i j) (BI (GS a) i j) (BI (HO a) i j) (DW (GS a) i j) (HO a) i j))))) (DE ML (TQ (Xy a)) (FB (λi=>And (RS (Gb a) (AR (OH a) (Xy a)) (λj=>QE j (OH a) (Gu a j) (AGA a j)) (CB (OH a) (Xy a)) (QW (BD i) (Kh (At a) a) (Mk (At a) a) (Fl (Ax a) a) (Ez (Ax a) a) (BG (λj=>OQ (GS a) j (HO a) j)) (JK (GS a) (HO a)) (ABQ (BG (λj=>CJ (GS a) j (HO a) (λk=>CK k (GS a) j (HO a) (EJ (Ge a j k) (BO (HO a) j k) (BI (GS a) j k) (BI (HO a) j k) (DW (GS a) j k) (HO a) j k)))) BY (AF BY (PF (RP a i) (Yp a)) (Ct (RP a i) (Yp a)) (Cy (RP a i) (Yp a)) (Dh (RP a i) (Yp a)))))) (IY i (OH a)))) (AK (λi=>NJ (IY i (OH a)) (UI i (OH a)) (IR i (OH a)) (AF (ZN (Gu a i)) (ED (ZT a) (Kv a)) (ZN (RP a i)) (BC (ZT a)) (Kv a)) (NO (Az (uO (Uy (Gu a i) a) (Uy (RP a i) a))) (FB (λj=>RL (RS (Gb a) (BL (OH a)) (λk=>Fp k (OH a) (Gu a k)) (BE (OH a)) (QW (BS j i) (nF a) (mS a) (lC a) (mY a) (oZ a) (lL a) (ABQ (BG (λk=>UL (GS a) k (λl=>UC l (GS a) k (Ge a k l)))) BY (AF BY (PF (RP a j) (Gu a i)) (Ct (RP a j) (Gu a i)) (Cy (RP a j) (Gu a i)) (Dh (RP a j) (Gu a i)))))) j (OH a) j i)) (λj=>RL (RS (Gb a) (BL (OH a)) (λk=>Fp k (OH a) (Gu a k)) (BE (OH a)) (QW (BS j i) (nF a) (mS a) (lC a) (mY a) (oZ a) (lL a) (ABQ (BG (λk=>UL (GS a) k (λl=>UC l (GS a) k (Ge a k l)))) BY (AF BY (PF (RP a j) (RP a i)) (Ct (RP a j) (RP a i)) (Cy (RP a j) (RP a i)) (Dh (RP a j) (RP a i)))))) j (OH a) j i)) (AF (PF (YJ a yP a a) (RP a i)) (Ct (YJ a yP a a) (RP a i)) (Cy (YJ a yP a a) (RP a i)) (Dh (YJ a yP a a) (RP a i)) (OF (EL (fI a)) (nF a) (mS a) (lC a) (mY a) (oZ a) (lL a) (λj=>UL (GS a) j (λk=>UC k (GS a) j (Ge a j k))))))))):=by kernel_rfl
theorem mC{lt:Rt->Rt->Bool}{t:Int}{l:List Ln}{i:Nat}(h:i<l.length):iJ lt t l (i+1)=Gv lt t (iJ lt t l i) (gD l i):=by
 unfold iJ;rw[ND h,List.foldl_append];rfl
theorem AIL{lt:Rt->Rt->Bool}{t:Int}{l:List Ln}:iJ lt t l l.length=aV lt t l:=by unfold iJ aV;rw[List.take_length]
theorem BKR{lt:Rt->Rt->Bool}{t:Int}:∀(l:List Ln) (b:Ln),(∀x∈l,PJ x)->PJ b->PJ (l.foldl (Gv lt t) b)
 |[],_,_,hb=>hb
 |x :: l,b,h,hb=>by
  rw[List.foldl_cons]
  refine BKR l _ (λy hy=>h y (by simp[hy])) ?_
  unfold Gv;cases lt (MF x t) (MF b t)
  ·exact hb
  ·exact h x (by simp)
theorem AMT{lt:Rt->Rt->Bool}{t:Int}{l:List Ln}{i:Nat}(h:∀x∈l,PJ x)(h0:0<l.length):PJ (iJ lt t l i):=
 BKR _ _ (λx hx=>h x (List.mem_of_mem_take hx)) (h _ (CV h0))
theorem BKJ{s:List Gau}(h:∀g∈s,RK g):∀x∈Nh s,PJ x:=λx hx=>by
 unfold Nh at hx
 obtain⟨p,hp,hx⟩:=List.mem_flatMap.1 hx
 unfold blk at hx
 rcases List.mem_cons.1 hx with rfl | hx
 ·exact eQ (cM h hp)
 ·exact aQ.1 (List.mem_filter.1 hx).2
theorem BZJ{s:List Gau}{t:Int}(h:∀g∈s,RK g):∀x∈VP s t,PJ x:=λx hx=>by
 rw[M4] at hx
 revert hx
 cases (bif decide ((s.length:Int)>0) then ((SQ s).length:Int)==0 else false) with
 |true=>intro hx;cases hx
 |false=>
  intro hx
  rcases List.mem_append.1 hx with hx | hx
  ·exact BKJ h x (List.mem_filter.1 hx).1
  ·have:=(List.mem_filter.1 hx).2
   unfold yU at this
   cases hr:Va x with
   |true=>exact aQ.1 hr
   |false=>rw[hr] at this;cases this
theorem BXM{a:BkT}(h:ZV a.w.g a.w.b):(lB a).length<=10098/\∀x∈lB a,PJ x:=by
 obtain⟨hs,hN,hg⟩:=CBY (a:=⟨a.w,kB a,a.st⟩) h
 refine⟨?_,BZJ hg⟩
 show (VP (sB ⟨a.w,kB a,a.st⟩) a.st).length<=_
 have h1:=BMT hN
 have h2:=List.length_filter_le (yU (sB ⟨a.w,kB a,a.st⟩)) (MJ (sB ⟨a.w,kB a,a.st⟩) a.st)
 have h3:=ABR (s:=sB ⟨a.w,kB a,a.st⟩) (t:=a.st)
 rw[M4]
 cases (bif decide (((sB ⟨a.w,kB a,a.st⟩).length:Int)>0) then ((SQ (sB ⟨a.w,kB a,a.st⟩)).length:Int)==0 else false) with
 |true=>exact Nat.zero_le _
 |false=>rw[cond_false,List.length_append];omega
theorem CJC(a:BkT)(h:ZV a.w.g a.w.b)(h2:0<=a.st/\a.st<=2000):BNA a:=by
 rw[BVM]<;> delta JT XL EE EC DP OV LY LW MN GD JG CS AO AR CG AK BV BZ CM AQ BU DD ES LX EF NK UM OL CI EZ FB LZ VY EU Lj ID RG IY XS PA PK Bq BG Jp Dd Ms HE ZT AG GT JO GV IE DG AF AT AH FF CA Eo CF rQ AM BL GQ JM Bu Cm ABQ aD Xf AP BR cX AS AW DF DX DU CR AX BC HH GA AUB CQ HL IC Ha XT AZ Nj EP GI BE ED AY DW BW EL GC HI CX JD BI FZ UU JA HG BO Ag PF GU EA Ng CP RH DV GS EM GH Bs PG IH GF FE CB BN BM FC EW FM FK FD EQ LN Aa OH HB MI WA LL Mr Gw EJ SE EV AJK NT OP Gu ER BS SB JS SD BY NH NQ BD LC APO CJ HZ CK VW NM HP DE UL QW ME Ax A3 S4 HO At Bz OF Dv AEO RU LP ML UC RO JK IR Dh TQ PD OM Cy Ct PE PC AGA XG OQ JR YJ Fz Fp Fm NO NJ RS Fl LA UI Gb Ii Ez Ge Kv UN Kh Mk RL QE VU Xy Uy Yp rE ZN fI lL mY mS oZ lC nF;simp only[CC,eq_self,implies_true,forall_const,Fa,show Et a.w.b a.st=kB a from rfl,show (BkS.mk a.w (kB a) a.st).w=a.w from rfl,show VP (sB (BkS.mk a.w (kB a) a.st)) a.st=lB a from rfl,if_true]
 obtain⟨hl,hok⟩:=BXM h
 refine⟨⟨⟨by have:=h.2.2.1;omega,h.2.2.2.1⟩,rfl,λ_ _=>⟨rfl,rfl,rfl⟩,rfl,λ_ _=>rfl,h,h2⟩,λhc=>?_,λhc=>?_⟩
 ·have hc:(lB a).length=0:=by simpa using hc
  rw[decide_eq_true hc]
  exact⟨rfl,rfl,rfl,rfl,by omega,rfl,λ_ _=>⟨rfl,rfl,rfl⟩,rfl,λ_ _=>rfl⟩
 ·have hc:(lB a).length≠0:=by simpa using hc
  have hb:∀i,PJ (iJ zK a.st (lB a) i):=λi=>AMT hok (by omega)
  refine⟨⟨by omega,by omega⟩,⟨0,⟨rfl,rfl,λ_ _=>⟨rfl,rfl,rfl⟩,rfl,λ_ _=>rfl,rfl,rfl,rfl,rfl⟩,Nat.zero_le _⟩,λi hi=>⟨λhlt=>?_,λhge=>?_⟩⟩
  ·have hlt':i<(lB a).length:=Int.ofNat_lt.1 hlt
   refine⟨⟨by omega,hlt⟩,⟨hok _ (CV hlt'),h2,hb i,h2⟩,λhp=>⟨i+1,⟨(CN (by omega)).symm,?_⟩,hlt',by omega⟩,λhp=>⟨i+1,⟨(CN (by omega)).symm,?_⟩,hlt',by omega⟩⟩
   ·rw[mC hlt',Gv,show zK _ _=true from decide_eq_true hp];exact⟨rfl,rfl,rfl,rfl⟩
   ·rw[mC hlt',Gv,show zK _ _=false from decide_eq_false hp];exact⟨rfl,rfl,rfl,rfl⟩
  ·rw[decide_eq_false hc,show i=(lB a).length by omega,AIL]
   exact⟨rfl,rfl,rfl,rfl,hc⟩
theorem BZF:AJ Try.prog AXN ((Lz zK Bm).spec (dBkT Bm)):=VD (Lz zK Bm) (AZG zK Bm BAQ) [] [] BPX (λ_=>by kernel_rfl) (λ_=>AC AZJ (AC AIC (AC BAC (AC BWJ AE)))) (λ(a:BkT) h=>by
 have h:ZV a.w.g a.w.b/\0<=a.st/\a.st<=2000:=h
 exact CJC a h.1 h.2) (λ_=>WK rfl rfl) _
theorem CFQ(a:BkT)(h:ZV a.w.g a.w.b)(h2:0<=a.st/\a.st<=2000):BLB a:=by
 rw[BWA]<;> delta JT XL EE EC DP OV LY LW MN GD JG CS AO KO AR CG AK BV BZ CM AQ BU DD ES LX EF NK UM OL CI EZ FB LZ VY EU Lj ID RG IY XS PA PK Bq BG Jp Dd Ms HE ZT AG GT JO GV IE DG AF AT AH FF CA Eo CF rQ AM BL GQ JM Bu Cm ABQ aD Xf AP BR cX AS AW DF DX DU CR AX BC HH GA AUB CQ HL IC Ha XT AZ Nj EP GI BE ED AY DW BW EL GC HI CX JD BI FZ UU JA HG BO Ag PF GU EA Ng CP RH DV GS EM GH Bs PG IH GF FE CB BN BM FC EW FM FK FD EQ LN Aa OH HB MI WA LL Mr Gw EJ SE EV AJK NT OP Gu ER BS SB JS SD BY NH NQ BD LC APO CJ HZ CK VW NM HP DE UL QW ME Ax A3 S4 HO At Bz OF RP Dv AEO LP ML UC RO JK IR Dh TQ PD OM Cy Ct PE PC AGA Az OQ JR YJ Fz Fp Fm NO NJ RS Fl LA UI Gb Ii Ez Ge Kv UN Kh Mk RL QE VU Xy Uy Yp rE ZN fI lL mY mS oZ lC nF;simp only[CC,eq_self,implies_true,forall_const,Fa,show Et a.w.b a.st=kB a from rfl,show (BkS.mk a.w (kB a) a.st).w=a.w from rfl,show VP (sB (BkS.mk a.w (kB a) a.st)) a.st=lB a from rfl,if_true]
 obtain⟨hl,hok⟩:=BXM h
 refine⟨⟨⟨by have:=h.2.2.1;omega,h.2.2.2.1⟩,rfl,λ_ _=>⟨rfl,rfl,rfl⟩,rfl,λ_ _=>rfl,h,h2⟩,λhc=>?_,λhc=>?_⟩
 ·have hc:(lB a).length=0:=by simpa using hc
  rw[decide_eq_true hc]
  exact⟨rfl,rfl,rfl,rfl,by omega,rfl,λ_ _=>⟨rfl,rfl,rfl⟩,rfl,λ_ _=>rfl⟩
 ·have hc:(lB a).length≠0:=by simpa using hc
  have hb:∀i,PJ (iJ yP a.st (lB a) i):=λi=>AMT hok (by omega)
  refine⟨⟨by omega,by omega⟩,⟨0,⟨rfl,rfl,λ_ _=>⟨rfl,rfl,rfl⟩,rfl,λ_ _=>rfl,rfl,rfl,rfl,rfl⟩,Nat.zero_le _⟩,λi hi=>⟨λhlt=>?_,λhge=>?_⟩⟩
  ·have hlt':i<(lB a).length:=Int.ofNat_lt.1 hlt
   refine⟨⟨by omega,hlt⟩,⟨hok _ (CV hlt'),h2,hb i,h2⟩,λhp=>⟨i+1,⟨(CN (by omega)).symm,?_⟩,hlt',by omega⟩,λhp=>⟨i+1,⟨(CN (by omega)).symm,?_⟩,hlt',by omega⟩⟩
   ·rw[mC hlt',Gv,show yP _ _=true from decide_eq_true hp];exact⟨rfl,rfl,rfl,rfl⟩
   ·rw[mC hlt',Gv,show yP _ _=false from decide_eq_false hp];exact⟨rfl,rfl,rfl,rfl⟩
  ·rw[decide_eq_false hc,show i=(lB a).length by omega,AIL]
   exact⟨rfl,rfl,rfl,rfl,hc⟩
theorem BWB:AJ Try.prog AXN ((Lz yP Bo).spec (dBkT Bo)):=VD (Lz yP Bo) (AZG yP Bo AYO) [] [] BPX (λ_=>by kernel_rfl) (λ_=>AC AZJ (AC AIC (AC BAC (AC CBZ AE)))) (λ(a:BkT) h=>by
 have h:ZV a.w.g a.w.b/\0<=a.st/\a.st<=2000:=h
 exact CFQ a h.1 h.2) (λ_=>WK rfl rfl) _
end Go.Bal
