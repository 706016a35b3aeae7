/- Package chart: times. -/
import Derived.Test.YtlblbbidigejkaaGreatChC
set_option linter.unusedVariables false
set_option linter.unusedSimpArgs false
namespace Go.Bal
open Go Go.Sym Go.Proofs
def PS(w:Dk):List Span×Bool:=bif N0 w.c then (lC w (xC w.c),(lC w (xC w.c)).all lZ) else ([],false)
def C_times:Ctr:={ ro:=[100,101],α:=Dk,xs:=λ_=>[.bptr 100 0],L:=λw=>dkL w,val:=λw=>.tup [.d (NX (PS w).1),.bool (PS w).2],keep:=λw=>dkK w,pre:=λw=>[1<=w.c.ms.length/\w.c.ms.length<=40/\nsIn w.c] }
def BQR:Ann:={ ann 19 [(62,C_all.spec dDk1),(99,C_not.spec dDk1),(34,C_nar.spec dDkS)] with E:=[100,101] }
def BQE(w:Dk):Prop:=AS ZP BQR Tryz.f61 (AG Tryz.f61) (C_times.xs w) (AC (C_times.L w)) (C_times.val w) (C_times.keep w) [] []
abbrev AUT:=PS
abbrev BGI:=@Prod.snd (List Span) Bool
abbrev fR a:=xC (AGK a)
abbrev Lt a:=(@Prod.fst (List Span) Bool) (AUT a)
abbrev xM a b:=TH a (PN b)
abbrev SE(a:Nat->Prop) b c d e f g h p:=AP (AE a) b c d e f g h p
attribute [go_sem] AUT BGI fR Lt xM SE
theorem CEF(w:Dk):(BQE w)=(EM (Qn w) (DO (SP w) (Xr (BK w)) (K4 (BK w)) (RS w) (jT (oT (HY w) w) (tI (HY w) (Fc w) w) (eK (II w) (BK w)) (λi=>Hx i (II w) (J8 (BK w) i (VH w i))) w (AM (λi=>WK (II w) i (QI w i))) (AP (AM (λi=>gW (Wh w i) w i)) (Qn w) (SP w) (WP w) (WZ w) (RS w) (tN w (HY w)) (US (GU w) (YS w) (Fc w)) (XH (uI (BK w) (Xt (II w))) (λi=>AAU i (BK w) i (VH w i) i) (VN w) FE (AM (λi=>Ch (QI w i) (II w) i)) (MA w) (AM (λi=>Hy (MU w i) (Wh w i))) (LS (HY w)) (Zr (HY w)))))) (Be (N0 (AGK w)) (ACD (mP (Lt w)) (mP (Lt w)) (Hd (BGI (AUT w))) (BK w) (SP w) (WP w) (WZ w) (RS w) (Un w w (BK w) (λi=>Vb i w w i) w w)) (EM (Qn w) (DO (SP w) (Xr (BK w)) (K4 (BK w)) (RS w) (jT (oT (HY w) w) (tI (HY w) (Fc w) w) (eK (II w) (BK w)) (λi=>Hx i (II w) (J8 (BK w) i (VH w i))) w (AM (λi=>WK (II w) i (QI w i))) (AP (AM (λi=>gW (Wh w i) w i)) (Qn w) (SP w) (WP w) (WZ w) (RS w) (tN w (HY w)) (US (GU w) (YS w) (Fc w)) (XH (uI (BK w) (Xt (II w))) (λi=>AAU i (BK w) i (VH w i) i) (VN w) FE (AM (λi=>Ch (QI w i) (II w) i)) (MA w) (AM (λi=>Hy (MU w i) (Wh w i))) (DK (LS (HY w)) (HY w) 40 (AM (λi=>RN (mA (II w) i) (FV i (HY w))))) (XH (Uc (fR w)) (λi=>Iv i (QF (fR w)) (MN (fR w)) (fR w) i i) (Qn w) (SP w) (WP w) (WZ w) (RS w) (oT (HY w) w) (DY (tI (HY w) (Fc w) w) (eK (II w) (BK w)) (AE (λi=>Hx i (II w) (J8 (BK w) i (VH w i)))) (λi=>cH i w) FE (AM (λi=>WK (II w) i (QI w i))) (MA w) (AM (λi=>gW (Wh w i) w i)) (BU (Qn w) (SP w) (WP w) (WZ w) (RS w) (tN w (HY w)) (λi=>Vw i (GU w) (YS w) (Fc w)) (uI (BK w) (Xt (II w))) (SE (λi=>AAU i (BK w) i (VH w i) i) (VN w) FE (AM (λi=>Ch (QI w i) (II w) i)) (MA w) (AM (λi=>Hy (MU w i) (Wh w i))) (BB (QF (fR w)) (HY w)) (LS (HY w)) (Zr (HY w)))))))))) (ACD (xM (Lt w) (S4 (X3 (BK w) w w) (MN (fR w)))) (AE (λi=>Hr i (Lt w) (FY (S4 (X3 (BK w) w w) (MN (fR w))) i) (FT (S4 (X3 (BK w) w w) (MN (fR w))) i))) (Sr (BGI (AUT w)) (hd84 (S4 (X3 (BK w) w w) (MN (fR w))) lZ)) (BK w) (SP w) (WP w) (WZ w) (RS w) (Un w w (BK w) (λi=>Vb i w w i) w w))))):=by kernel_rfl
theorem ASX(a:CZ):CZ.mk a.c a.z=a:=rfl
theorem SX(c:Cht):(xC c).length=c.ms.length:=rng_length _ _
theorem BGE:AH ZP 61 (C_times.spec dDk1):=MK C_times (λ_=>BQR) [] [] Tryz.func61 (λ_=>by kernel_rfl) (λ_=>AA BMX (AA CWT (AA CFE AD))) (λ(w:Dk) h=>by
 obtain⟨h1,h2,h3⟩:1<=w.c.ms.length/\w.c.ms.length<=40/\nsIn w.c:=h
 show BQE w;rw[CEF]<;> dsimp only[go_sem];simp only[P3,CU,Kg,ARB]
 refine⟨⟨h1,h2⟩,λh=>?_,λh=>⟨⟨⟨h1,h2,h3⟩,SX _,h1,h2⟩,?_⟩⟩
 ·unfold PS;rw[h];exact⟨rfl,rfl,rfl⟩
 ·unfold PS;rw[h];exact⟨rfl,λ_ _=>⟨rfl,rfl⟩,rfl⟩) (λ_=>OA rfl rfl) _
def TA(a:CZ):Int:=bif FB a.c==0 then bif okZ a then bif (PS (XK a)).2 then 0 else 6 else 2 else FB a.c
def C_rdO:Ctr:={ α:=CZ,xs:=xCZ,val:=λa=>.tup [.bptr 0 0,.d (NX (PS (XK a)).1),.d (NX (Eo a.c)),.int 0],keep:=λa=>dkN (XK a),pre:=λa=>[(a.c.ms.length<4611686018427387904/\a.c.ns.length<4611686018427387904/\a.z.length<4611686018427387904)/\TA a=0] }
def C_rdX:Ctr:={ α:=CZ,xs:=xCZ,val:=λa=>.tup [.d (.v (.pointer none)),.d JX,.d JX,.int (TA a)],keep:=λ_=>[],pre:=λa=>[(a.c.ms.length<4611686018427387904/\a.c.ns.length<4611686018427387904/\a.z.length<4611686018427387904)/\TA a≠0] }
def A_rd:Ann:=ann 38 [(60,C_beg.spec dCZ),(61,C_times.spec dDk1),(62,C_all.spec dDk1)]
def CRM:Ann:=ann 38 [(60,C_begX.spec dCZ)]
def CSF(a:CZ):Prop:=AS ZP A_rd Tryz.f30 (AG Tryz.f30) (xCZ a) (AC []) (C_rdO.val a) (C_rdO.keep a) [(0,2032),(1,2033)] []
abbrev BD a:=MF (CZ.mk (E4 a) (XT a))
abbrev aN a:=CZ.mk (E4 a) (XT a)
abbrev ZG a:=wB (aN a)
abbrev eT a b:=Dx (BD a) b
abbrev Hu a:=CO (BD a)
abbrev Uu a:=Se (BD a)
abbrev eI a:=Mf (BD a)
abbrev oQ a b c:=rX (BD a) (eI b) (Uu c)
abbrev QA a:=ZA (BD a)
abbrev rI a b:=Kd (BD a) b
abbrev AAM a:=MA (ZG a)
abbrev Y6 a:=FC (BD a)
abbrev AAV a:=GE (BD a)
abbrev AEB a:=NL (BD a)
abbrev W7 a:=KC (BD a)
attribute [go_sem] BD aN ZG eT Hu Uu eI oQ QA rI AAM Y6 AAV AEB W7
theorem CXG(a:CZ):(CSF a)=(And (Ea (C3 a) (F8 a) (Xr (QM a)) (EN (QM a)) (BU (FC (QM a)) (E8 a (AAZ a)) (US (jS a) (gL a) (J4 a)) (G4 a (QM a)) (AE (λi=>Rf i (Ye a) i (nY a i))) (BH (XT a) (dL a)) (λi=>Zs i (XT a) (dL a)) (NT (xZ a) (I5 a) (BQ (XT a)) 4611686018427387904) (BZ (aF a)))) (Wm (UH (V3 (aN a))) Tt (KD (GA (BD a)) (IS (BD a)) (DO (AAV a) (K4 (BD a)) (Sk (BD a)) (BB (QA a) (Hu a)) (DY (ZL (QA a) (eI a) (BD a)) (WN (BD a)) (AE (λi=>XG i (BD a) i i)) (λi=>cH i (ZG a)) FE (AM (λi=>WK (Uu a) i (eT a i))) (AAM a) (AM (λi=>Yy (rI a i) (BD a) i)) (BU (W7 a) (AEB a) (AAV a) (EN (BD a)) (Y6 a) (BB (Hu a) (QA a)) (λi=>Vw i (Hu a) (Cs (BD a)) (eI a)) (Ez (BD a)) (SE (λi=>Ex i (BD a) i i i) (VN (ZG a)) FE (AM (λi=>Ch (eT a i) (Uu a) i)) (AAM a) (AM (λi=>Gq (BD a) i (rI a i))) (LS (QA a)) (Zr (QA a)) (AM (λi=>RN (mA (Uu a) i) (FV i (QA a))))))))) (Be (BGI (AUT (qV (oQ a a a) (ZG a)))) Tt (AO (And (W7 a) (DO (AEB a) (Xr (BD a)) (K4 (BD a)) (Y6 a) (jT (BB (QA a) (Hu a)) (ZL (QA a) (eI a) (BD a)) (WN (BD a)) (λi=>XG i (BD a) i i) (ZG a) (AM (λi=>WK (Uu a) i (eT a i))) (AP (AM (λi=>Yy (rI a i) (BD a) i)) (W7 a) (AEB a) (AAV a) (EN (BD a)) (Y6 a) (BB (Hu a) (QA a)) (Og (Hu a) (BD a) (eI a)) (XH (Ez (BD a)) (λi=>Ex i (BD a) i i i) (VN (ZG a)) FE (AM (λi=>Ch (eT a i) (Uu a) i)) (AAM a) (AM (λi=>Gq (BD a) i (rI a i))) (LS (QA a)) (Zr (QA a))))))) (xM (Lt (wB a)) (Lt (qV (oQ a a a) (ZG a)))) (AE (λi=>Hr i (Lt (wB a)) (FY (Lt (qV (oQ a a a) (ZG a))) i) (FT (Lt (qV (oQ a a a) (ZG a))) i))) (XH (xM (dG (QM a)) (dG (oQ a a a))) (λi=>Hr i (dG (QM a)) (FY (dG (oQ a a a)) i) (FT (dG (oQ a a a)) i)) AU (AN (GA (MF a)) (GA (BD a))) (AN (IS (MF a)) (IS (BD a))) (pE (MF a) (BD a)) (rB (MF a) (BD a)) (AN (Sk (MF a)) (Sk (BD a))) (Zh (BB (ABW a) (Hu a)) (ZL (ABW a) (Cs (MF a)) (BD a)) (E6 (MF a) (BD a)) (λi=>bA i (MF a) (RJ (BD a) i) (LG (MF a) i) (LG (BD a) i)) (AE (λi=>fJ i 40 (Jr (wB a) i) (Jr (ZG a) i))) (AM (λi=>Sr (Dx (MF a) i) (eT a i))) (AM (λi=>rC (wB a) i (I4 (ZG a) i))) (AM (λi=>Gq (MF a) i (AAE (BD a) i))))))))):=by kernel_rfl
def CCV(a:CZ):Prop:=AS ZP A_rd Tryz.f30 (AG Tryz.f30) (xCZ a) (AC []) (C_rdX.val a) [] [] []
abbrev AEM:=TA
abbrev AVU a b c:=BRD a b b c
attribute [go_sem] AEM AVU
theorem COB(a:CZ):(CCV a)=(And (Ea (C3 a) (F8 a) (Xr (QM a)) (EN (QM a)) (BU (FC (QM a)) (E8 a (AAZ a)) (US (jS a) (gL a) (J4 a)) (G4 a (QM a)) (AE (λi=>Rf i (Ye a) i (nY a i))) (BH (XT a) (dL a)) (λi=>Zs i (XT a) (dL a)) (NT (xZ a) (I5 a) (BQ (XT a)) 4611686018427387904) (BZ (aF a)))) (iM (UH (V3 (aN a))) pY (AVU AB AK (AN (AEM a) (V3 (aN a)))) (KD (GA (BD a)) (IS (BD a)) (DO (AAV a) (K4 (BD a)) (Sk (BD a)) (BB (QA a) (Hu a)) (DY (ZL (QA a) (eI a) (BD a)) (WN (BD a)) (AE (λi=>XG i (BD a) i i)) (λi=>cH i (ZG a)) FE (AM (λi=>WK (Uu a) i (eT a i))) (AAM a) (AM (λi=>Yy (rI a i) (BD a) i)) (BU (W7 a) (AEB a) (AAV a) (EN (BD a)) (Y6 a) (BB (Hu a) (QA a)) (λi=>Vw i (Hu a) (Cs (BD a)) (eI a)) (Ez (BD a)) (SE (λi=>Ex i (BD a) i i i) (VN (ZG a)) FE (AM (λi=>Ch (eT a i) (Uu a) i)) (AAM a) (AM (λi=>Gq (BD a) i (rI a i))) (LS (QA a)) (Zr (QA a)) (AM (λi=>RN (mA (Uu a) i) (FV i (QA a))))))))) (FW (not (BGI (AUT (qV (oQ a a a) (ZG a))))) pY (AVU AB AK (AN (AEM a) 6)) (EM (W7 a) (DO (AEB a) (Xr (BD a)) (K4 (BD a)) (Y6 a) (jT (BB (QA a) (Hu a)) (ZL (QA a) (eI a) (BD a)) (WN (BD a)) (λi=>XG i (BD a) i i) (ZG a) (AM (λi=>WK (Uu a) i (eT a i))) (AP (AM (λi=>Yy (rI a i) (BD a) i)) (W7 a) (AEB a) (AAV a) (EN (BD a)) (Y6 a) (BB (Hu a) (QA a)) (Og (Hu a) (BD a) (eI a)) (XH (Ez (BD a)) (λi=>Ex i (BD a) i i i) (VN (ZG a)) FE (AM (λi=>Ch (eT a i) (Uu a) i)) (AAM a) (AM (λi=>Gq (BD a) i (rI a i))) (LS (QA a)) (Zr (QA a)))))) Tt)))):=by kernel_rfl
def BZO(a:CZ):Prop:=AS ZP CRM Tryz.f30 (AG Tryz.f30) (xCZ a) (AC []) (C_rdX.val a) [] [] []
theorem COV(a:CZ):(BZO a)=(And (Ea (C3 a) (F8 a) (Xr (QM a)) (EN (QM a)) (BU (FC (QM a)) (E8 a (AAZ a)) (US (jS a) (gL a) (J4 a)) (G4 a (QM a)) (AE (λi=>Rf i (Ye a) i (nY a i))) (BH (XT a) (dL a)) (λi=>Zs i (XT a) (dL a)) (NT (xZ a) (I5 a) (BQ (XT a)) 4611686018427387904) (Ha (aF a)))) (FW (UH (V3 (aN a))) pY (AVU AB AK (AN (AEM a) (V3 (aN a)))) Tt)):=by kernel_rfl
theorem AOD(a:CZ):Dk.mk a.c (XK a).st (XK a).sp=XK a:=rfl
theorem BBI{c:Cht}(h:FB c=0):nsIn c/\∀n∈c.ns,SJ n c.ms.length=true:=by
 obtain⟨h1,⟨h2,h3⟩,h4⟩:=Yb h
 have hr:c.ns.all (λn=>SJ n c.ms.length)=true:=by
  cases hq:c.ns.all (λn=>SJ n c.ms.length) with
  |true=>rfl
  |false=>
   unfold FB at h
   rw[h1,hq] at h
   cases hm:(mkC (-1) c.ms != 0) with
   |true=>
    rw[hm] at h
    have h:mkC (-1) c.ms=0:=h
    rw[h] at hm;cases hm
   |false=>rw[hm] at h;cases h
 refine⟨λj hj=>?_,λn hn=>List.all_eq_true.1 hr n hn⟩
 unfold hasN at hj
 obtain⟨x,hx,e⟩:=List.any_eq_true.1 hj
 have e:x.mi=j:=by simpa using e
 have:=List.all_eq_true.1 hr x hx
 unfold SJ PX GM at this
 rw[ER (by omega) (by omega)] at this
 simp only[Bool.and_eq_true,decide_eq_true_eq] at this
 omega
theorem AED{a:CZ}(h:TA a=0):FB a.c=0/\okZ a=true/\(PS (XK a)).2=true:=by
 unfold TA at h
 cases h1:(FB a.c==0) with
 |false=>rw[h1] at h;have h:FB a.c=0:=h;rw[h] at h1;cases h1
 |true=>
  rw[h1] at h
  cases h2:okZ a with
  |false=>rw[h2] at h;cases h
  |true=>
   rw[h2] at h
   cases h3:(PS (XK a)).2 with
   |false=>rw[h3] at h;cases h
   |true=>exact⟨by simpa using h1,rfl,rfl⟩
theorem CWK:AH ZP 30 (C_rdO.spec dCZ):=MK C_rdO (λ_=>A_rd) [(0,2032),(1,2033)] [] Tryz.func30 (λ_=>by kernel_rfl) (λ_=>AA CDU (AA BGE (AA BMX AD))) (λ(a:CZ) h=>by
 obtain⟨h1,h2⟩:(a.c.ms.length<4611686018427387904/\a.c.ns.length<4611686018427387904/\a.z.length<4611686018427387904)/\TA a=0:=h
 obtain⟨c0,c1,c2⟩:=AED h2
 have e:begE a=0:=by unfold begE;rw[c0,c1];rfl
 have hl:=Yb c0
 have hn:=(BBI c0).1
 show CSF a;rw[CXG]<;> dsimp only[go_sem];simp only[P3,CU,Kg,ARB,AIF,ASX,AOD,e,c2]
 exact⟨⟨h1,c0⟩,(λh=>by simp at h),λ_=>⟨⟨by omega,by omega,hn⟩,(λh=>by cases h),by omega,by omega⟩⟩) (λ_=>OA rfl rfl) _
theorem CWJ:AH ZP 30 (C_rdX.spec dCZ):=okT C_rdX (λ(a:CZ) h=>by
 obtain⟨h1,h2⟩:(a.c.ms.length<4611686018427387904/\a.c.ns.length<4611686018427387904/\a.z.length<4611686018427387904)/\TA a≠0:=h
 by_cases c0:FB a.c=0
 ·have e:begE a=bif okZ a then 0 else 2:=by unfold begE;rw[c0];rfl
  have e2:TA a=bif okZ a then bif (PS (XK a)).2 then 0 else 6 else 2:=by unfold TA;rw[c0];rfl
  have hl:=Yb c0
  have hn:=(BBI c0).1
  refine TF (A:=A_rd) (L:=[]) (keep:=[]) (ren:=[]) (fz:=[]) Tryz.func30 (by kernel_rfl) (AA CDU (AA BGE (AA BMX AD))) ?_
  show CCV a;rw[COB]<;> dsimp only[go_sem];simp only[P3,CU,Kg,ARB,AIF,ASX,AOD,e]
  rw[e2] at h2 ⊢
  refine⟨⟨h1,c0⟩,?_⟩
  cases ho:okZ a with
  |false=>exact⟨λ_=>rfl,λh=>by simp at h⟩
  |true=>
   rw[ho] at h2
   cases hq:(PS (XK a)).2 with
   |false=>exact⟨λh=>by simp at h,λ_=>⟨⟨by omega,by omega,hn⟩,λ_=>rfl,λh=>by cases h⟩⟩
   |true=>rw[hq] at h2;exact absurd rfl h2
 ·have c0':(FB a.c==0)=false:=by simpa using c0
  have e:begE a=FB a.c:=by unfold begE;rw[c0'];rfl
  have e2:TA a=FB a.c:=by unfold TA;rw[c0'];rfl
  refine TF (A:=CRM) (L:=[]) (keep:=[]) (ren:=[]) (fz:=[]) Tryz.func30 (by kernel_rfl) (AA CKI AD) ?_
  show BZO a;rw[COV]<;> dsimp only[go_sem];simp only[P3,CU,Kg,ASX,e,e2]
  simp[h1,c0]) _
def CKE(l:List Int):AObj:=.row 1 l.length λi=>CF (gD l i)
structure Hul where
 s:Span
 m:Bool
 deriving Inhabited
def hlB(h:Hul):AObj:=.box [.int h.s.lo,.int h.s.hi,.bool h.m]
def jL(h:Hul)(s:Span):Hul:=⟨⟨bif h.m then IF s.lo h.s.lo else s.lo,bif h.m then EU s.hi h.s.hi else s.hi⟩,true⟩
structure HuS where
 h:Hul
 s:Span
def CRL(H:Heap)(id:Nat):Option Hul:=match H id with
 | .live (.box [.d a,.d b,.d c])=>some ⟨⟨DG a,DG b⟩,CSJ c⟩
 |_=>none
def dHuS:List AVal->Heap->Option (HuS×List (Nat×Nat)×List Nat)
 |[.bptr id _,.d s],H=>match CRL H id with
  |some h=>some (⟨h,VB s⟩,[(100,id)],[])
  |none=>none
 |_,_=>none
def C_hadd:Ctr:={ α:=HuS,xs:=λa=>[.bptr 100 0,.d (EQ a.s)],L:=λa=>[(100,hlB a.h)],val:=λ_=>.d (.tup []),keep:=λa=>[(100,.live (hlB (jL a.h a.s)))] }
def CHB:Ann:={ ann 32 [] with E:=[100] }
def CBU(a:HuS):Prop:=AS ZP CHB Tryz.f31 (AG Tryz.f31) (C_hadd.xs a) (AC (C_hadd.L a)) (C_hadd.val a) (C_hadd.keep a) [] []
abbrev Tq:=Hul.m
abbrev ALB:=HuS.h
abbrev AEK:=HuS.s
abbrev TQ a:=GN (Hul.s a)
abbrev Kq a:=IP (Hul.s a)
attribute [go_sem] Tq ALB AEK TQ Kq
theorem CLU(a:HuS):(CBU a)=(YL (Tq (ALB a)) (LL (AN (Kq (jL (ALB a) (AEK a))) (hd51 (IP (AEK a)) (Kq (ALB a)))) (TQ (jL (ALB a) (AEK a))) (hd50 (GN (AEK a)) (TQ (ALB a))) CY) (LL (AN (Kq (jL (ALB a) (AEK a))) (IP (AEK a))) (TQ (jL (ALB a) (AEK a))) (GN (AEK a)) CY)):=by kernel_rfl
theorem CLA:AH ZP 31 (C_hadd.spec dHuS):=MK C_hadd (λ_=>CHB) [] [] Tryz.func31 (λ_=>by kernel_rfl) (λ_=>AD) (λ(a:HuS) _=>by
 show CBU a;rw[CLU]<;> dsimp only[go_sem];simp only[P3,CU]
 refine⟨λh=>?_,λh=>?_⟩<;>· unfold jL;rw[h];exact⟨rfl,rfl⟩) (λ_=>OA rfl rfl) _
def xS(h:Hul):Span×Int:=bif h.m then (h.s,0) else (⟨0,0⟩,5)
def dHu1:List AVal->Heap->Option (Hul×List (Nat×Nat)×List Nat)
 |[.bptr id _],H=>match CRL H id with
  |some h=>some (h,[(100,id)],[])
  |none=>none
 |_,_=>none
def C_who:Ctr:={ ro:=[100],α:=Hul,xs:=λ_=>[.bptr 100 0],L:=λh=>[(100,hlB h)],val:=λh=>.tup [.d (EQ (xS h).1),.int (xS h).2],keep:=λh=>[(100,.live (hlB h))] }
def CUT:Ann:={ ann 14 [] with E:=[100] }
def CUP(h:Hul):Prop:=AS ZP CUT Tryz.f36 (AG Tryz.f36) (C_who.xs h) (AC (C_who.L h)) (C_who.val h) (C_who.keep h) [] []
abbrev CFS:=@Prod.fst Span Int
abbrev BUX:=@Prod.snd Span Int
abbrev hX a:=AI (TQ a)
abbrev Z1 a:=BUX (xS a)
abbrev xQ a:=CFS (xS a)
abbrev ADT a:=GN (xQ a)
attribute [go_sem] CFS BUX hX Z1 xQ ADT
theorem CVT(h:Hul):(CUP h)=(iM (not (Tq h)) (BZ (IP (xQ h))) (PO (BZ (ADT h)) (AN (Z1 h) 5) (Kq h) (hX h) (WI (Tq h))) (fT (xQ h) (Kq h)) (PO (AN (ADT h) (TQ h)) (BZ (Z1 h)) (Kq h) (hX h) (WI (Tq h)))):=by kernel_rfl
theorem CXL:AH ZP 36 (C_who.spec dHu1):=MK C_who (λ_=>CUT) [] [] Tryz.func36 (λ_=>by kernel_rfl) (λ_=>AD) (λ(h:Hul) _=>by
 show CUP h;rw[CVT]<;> dsimp only[go_sem];simp only[P3,CU]
 refine⟨λq=>?_,λq=>?_⟩<;>· unfold xS;rw[q];exact⟨rfl,rfl,rfl⟩) (λ_=>OA rfl rfl) _
structure DkQ where
 w:Dk
 l:List Span
 k:Int
 a:Int
 b:Int
def parM(l:List Span)(k a b:Int)(i:Nat):Span:=⟨bif decide (i=k.toNat)&&decide (k<l.length) then EU (gD l i).lo b else (gD l i).lo,bif decide (k>0)&&decide (i=(k-1).toNat) then IF (gD l i).hi a else (gD l i).hi⟩
def parL(l:List Span)(k a b:Int):List Span:=HQ l.length (parM l k a b)
def dDkQ:List AVal->Heap->Option (DkQ×List (Nat×Nat)×List Nat)
 |[.bptr id _,y,.d k,.d a,.d b],H=>match BFK H id,AQD y H with
  |some (w,q),some (l,f)=>some (⟨w,l,DG k,DG a,DG b⟩,[(100,id),(101,q)],f)
  |_,_=>none
 |_,_=>none
def C_partQ:Ctr:={ ro:=[100,101],α:=DkQ,xs:=λa=>[.bptr 100 0,.d (NX a.l),.int a.k,.int a.a,.int a.b],L:=λa=>dkL a.w,val:=λa=>.d (NX (parL a.l a.k a.a a.b)),keep:=λa=>dkK a.w,pre:=λa=>[(1<=a.l.length/\a.l.length<=40)/\0<=a.k/\a.k<=a.l.length] }
def BQH:Ann:={ ann 45 [(64,C_clo.spec dSs1)] with E:=[100,101] }
def BRQ(a:DkQ):Prop:=AS ZP BQH Tryz.f35 (AG Tryz.f35) (C_partQ.xs a) (AC (C_partQ.L a)) (C_partQ.val a) (C_partQ.keep a) [] [2016]
abbrev kV:=DkQ.l
abbrev Jb:=DkQ.k
abbrev Fy:=parL
abbrev vL:=DkQ.a
abbrev wT:=DkQ.b
abbrev Da:=DkQ.w
abbrev KY a:=BK (Da a)
abbrev AXW a:=MN (kV a)
abbrev gG a b:=FT (AXW a) b
abbrev iB a b:=FY (AXW a) b
abbrev PL a:=QF (kV a)
abbrev Zl a:=MQ (Jb a)
abbrev AHS a b c:=AO a b a c
abbrev pF a:=Mo (Jb a)
abbrev uM a:=MQ (pF a)
attribute [go_sem] kV Jb Fy vL wT Da KY AXW gG iB PL Zl AHS pF uM
theorem CFZ(a:DkQ):(BRQ a)=(Kw (eS (PL a) (kV a)) (AE (λi=>Iv i (PL a) (AXW a) (kV a) i i)) (Iq (PL a)) (WJ (PL a)) (FW (ABV (Jb a)) (AHS (FV (pF a) (PL a)) (OB (uM a) (PL a)) (FI (uM a) (PL a))) (FW (F6 (Jb a) (PL a)) (AHS (FV (Jb a) (PL a)) (OB (Zl a) (PL a)) (FI (Zl a) (PL a))) (Pm (TH (Fy (kV a) (Jb a) (vL a) (wT a)) (PL a)) (LU (PL a)) (λi=>Hr i (Fy (kV a) (Jb a) (vL a) (wT a)) (OQ (AJ i) (Jb a) (hd50 (OQ (Zl a) (pF a) (iB a (uM a)) (iB a (Zl a))) (wT a)) (OQ (AJ i) (pF a) (iB a (uM a)) (iB a (AJ i)))) (OQ (AJ i) (Jb a) (OQ (Zl a) (pF a) (hd51 (gG a (uM a)) (vL a)) (gG a (Zl a))) (OQ (AJ i) (pF a) (hd51 (gG a (uM a)) (vL a)) (gG a (AJ i))))) (KC (KY a)) (NL (KY a)) (GE (KY a)) (EN (KY a)) (FC (KY a)) (Un (Da a) (Da a) (KY a) (λi=>gB i (KY a) (Da a) i) (Da a) (Da a))) (Pm (TH (Fy (kV a) (Jb a) (vL a) (wT a)) (PL a)) (LU (PL a)) (λi=>Hr i (Fy (kV a) (Jb a) (vL a) (wT a)) (OQ (AJ i) (pF a) (iB a (uM a)) (iB a (AJ i))) (OQ (AJ i) (pF a) (hd51 (gG a (uM a)) (vL a)) (gG a (AJ i)))) (KC (KY a)) (NL (KY a)) (GE (KY a)) (EN (KY a)) (FC (KY a)) (Un (Da a) (Da a) (KY a) (λi=>gB i (KY a) (Da a) i) (Da a) (Da a)))) (FW (F6 (Jb a) (PL a)) (AHS (FV (Jb a) (PL a)) (OB (Zl a) (PL a)) (FI (Zl a) (PL a))) (Pm (TH (Fy (kV a) (Jb a) (vL a) (wT a)) (PL a)) (LU (PL a)) (λi=>Hr i (Fy (kV a) (Jb a) (vL a) (wT a)) (OQ (AJ i) (Jb a) (hd50 (iB a (Zl a)) (wT a)) (iB a (AJ i))) (OQ (AJ i) (Jb a) (gG a (Zl a)) (gG a (AJ i)))) (KC (KY a)) (NL (KY a)) (GE (KY a)) (EN (KY a)) (FC (KY a)) (Un (Da a) (Da a) (KY a) (λi=>gB i (KY a) (Da a) i) (Da a) (Da a))) (Pm (TH (Fy (kV a) (Jb a) (vL a) (wT a)) (PL a)) (LU (PL a)) (λi=>Hr i (Fy (kV a) (Jb a) (vL a) (wT a)) (iB a (AJ i)) (gG a (AJ i))) (KC (KY a)) (NL (KY a)) (GE (KY a)) (EN (KY a)) (FC (KY a)) (Un (Da a) (Da a) (KY a) (λi=>gB i (KY a) (Da a) i) (Da a) (Da a)))))):=by kernel_rfl
theorem BGY(l:List Span)(k a b:Int):(parL l k a b).length=l.length:=rng_length _ _
theorem CBY:AH ZP 35 (C_partQ.spec dDkQ):=MK C_partQ (λ_=>BQH) [] [2016] Tryz.func35 (λ_=>by kernel_rfl) (λ_=>AA BZF AD) (λ(a:DkQ) h=>by
 obtain⟨⟨h1,h2⟩,h3,h4⟩:(1<=a.l.length/\a.l.length<=40)/\0<=a.k/\a.k<=a.l.length:=h
 have e:IntKind.i64.wrap (a.k-1)=a.k-1:=ER (by omega) (by omega)
 have gj:∀{j:Nat},j<a.l.length->gD (parL a.l a.k a.a a.b) j=parM a.l a.k a.a a.b j:=λhj=>CS _ _ _ hj
 have t:(a.k-1).toNat=a.k.toNat-1:=by omega
 show BRQ a;rw[CFZ]<;> dsimp only[go_sem];simp only[P3,CU,e,BGY,t]
 refine⟨⟨by omega,by omega⟩,λhk=>⟨⟨⟨by omega,by omega⟩,by omega,⟨by omega,by omega⟩,by omega⟩,λhl=>⟨⟨⟨by omega,by omega⟩,by omega,⟨by omega,by omega⟩,by omega⟩,Nat.le_refl _,λj hj=>?_⟩,λhl=>⟨Nat.le_refl _,λj hj=>?_⟩⟩,λhk=>⟨λhl=>⟨⟨⟨by omega,by omega⟩,by omega,⟨by omega,by omega⟩,by omega⟩,Nat.le_refl _,λj hj=>?_⟩,λhl=>by omega⟩⟩
 ·rw[gj hj];unfold parM;rw[t]
  have q0:¬ a.k.toNat=a.k.toNat-1:=by omega
  by_cases q1:j=a.k.toNat
  ·subst q1
   simp[hk,hl,q0]
  ·by_cases q2:j=a.k.toNat-1
   ·simp only[decide_eq_false q1,decide_eq_true q2,decide_eq_true hk,Bool.false_and,Bool.and_self,cond_true,cond_false]
    rw[q2];exact⟨rfl,rfl⟩
   ·simp[hk,q1,q2]
 ·rw[gj hj];unfold parM;rw[t]
  by_cases q2:j=a.k.toNat-1
  ·simp only[decide_eq_true q2,decide_eq_true hk,decide_eq_false hl,Bool.and_false,Bool.and_self,cond_true,cond_false]
   rw[q2];exact⟨rfl,rfl⟩
  ·simp[hl,q2]
 ·rw[gj hj];unfold parM;rw[t]
  by_cases q1:j=a.k.toNat
  ·subst q1
   simp[hk,hl]
  ·simp[hk,q1]) (λ_=>OA rfl rfl) _
def zHul:Hul:=⟨⟨0,0⟩,false⟩
structure CZI where
 a:CZ
 t:Int
def dCZI:List AVal->Heap->Option (CZI×List (Nat×Nat)×List Nat)
 |[x,y,.d t],H=>match CAJ x H,S6 y H with
  |some (c,f),some (l,e)=>some (⟨⟨c,l⟩,DG t⟩,[],f ++ e)
  |_,_=>none
 |_,_=>none
def xCZI(x:CZI):List AVal:=[.d (eCht x.a.c),.d (BM x.a.z),.int x.t]
def Sq(a:CZ):List Span:=(PS (XK a)).1
theorem COR(h:Hul):Hul.mk h.s h.m=h:=rfl
theorem CYZ(a:CZ):(PS (XK a)).1=Sq a:=rfl
theorem BVV{a:CZ}(h:TA a=0):(Sq a).length=a.c.ms.length:=by
 have h3:=(AED h).2.2
 unfold Sq
 unfold PS at h3 ⊢
 rw[AIF] at h3 ⊢
 cases hs:N0 a.c with
 |false=>rw[hs] at h3;cases h3
 |true=>show (lC _ _).length=_;unfold lC;rw[rng_length,SX]
theorem BIO(c:Cht):(Eo c).length=c.ms.length:=rng_length _ _
def hul1(a:CZ)(t:Int):Nat->Hul
 |0=>zHul
 |k+1=>bif PX t (gD (Sq a) k).lo (gD (Sq a) k).hi then jL (hul1 a t k) (gD (Eo a.c) k) else hul1 a t k
def O8(a:CZ)(t:Int)(g:Nat):Bool:=(lC (XK a) (parL (Sq a) ((g:Int)+1) (GM (t-1)) (GM (t+1)))).all lZ
def hul2(a:CZ)(t:Int):Nat->Hul
 |0=>hul1 a t a.c.ms.length
 |g+1=>bif O8 a t g then jL (jL (hul2 a t g) (gD (Eo a.c) g)) (gD (Eo a.c) (g+1)) else hul2 a t g
def wO(x:CZI):Hul:=bif PX x.t (-100000000) 100000000 then hul2 x.a x.t (x.a.c.ms.length-1) else hul1 x.a x.t x.a.c.ms.length
def VJ(x:CZI):Span×Int:=bif TA x.a==0 then xS (wO x) else (⟨0,0⟩,TA x.a)
def C_Stage:Ctr:={ α:=CZI,xs:=xCZI,val:=λx=>.tup [.d (EQ (VJ x).1),.int (VJ x).2],keep:=λ_=>[],pre:=λx=>[x.a.c.ms.length<4611686018427387904/\x.a.c.ns.length<4611686018427387904/\x.a.z.length<4611686018427387904] }
def sgH(x:CZI)(h:Hul):List (Nat×HCell):=[(201,.live (.box [.int x.t])),(202,.live (.box [.int 0,.int 0])),(203,.live (.box [.bptr 208 0])),(204,.live (.box [.d (NX (Sq x.a))])),(205,.live (.box [.d (NX (Eo x.a.c))])),(206,.live (hlB h)),(207,.live (.box [.fn (.func 31) [.bptr 206 0] []])),(208,.live (dkB (XK x.a) 209)),(209,.live (dkM (XK x.a)))]
def sg7(x:CZI):Shape:={ α:=Nat,dflt:=0,T:=λk=>⟨[(5,.bptr 201 0),(6,.bptr 202 0),(8,.bptr 203 0),(9,.bptr 204 0),(10,.bptr 205 0),(12,.bptr 206 0),(13,.bptr 207 0),(32,.int x.a.c.ms.length),(33,.int k)],sgH x (hul1 x.a x.t k)⟩,inv:=λk=>k<=x.a.c.ms.length,meas:=λk=>x.a.c.ms.length-k,first:=[(201,1016),(202,1032),(203,2128),(204,2144),(205,2160),(206,5000),(207,6016),(208,2032),(209,2033)] }
def sg1(x:CZI)(l:Nat):Shape:={ α:=Nat,dflt:=0,T:=λg=>⟨[(0,.fn (.yield l) [] []),(1,.bptr 14016 0),(12,.int (GM ((x.a.c.ms.length:Int)-1))),(13,.int g)],sgH x (hul2 x.a x.t g) ++ [(14016,.live (.box [.bptr 208 0]))]⟩,inv:=λg=>g<=x.a.c.ms.length-1,meas:=λg=>50-g }
noncomputable def itSg(x:CZI):IterAnn:={ fn:=Tryz.f63,code:=AG Tryz.f63,live:=[5,6,8,9,10,12,13],ann:={ base:=λid=>100000+1000*(id+1),Γ:=Sym.look [],E:=[201,202,203,204,205,206,207,208,209,14016],n:=66,inner:=λgs id=>if id=1 then some [sg1 x (gs.getD 0 0)] else none } }
noncomputable def BUY(x:CZI):Ann:={ ann 92 [(30,C_rdO.spec dCZ),(32,ALH),(31,C_hadd.spec dHuS),(33,C_gaps.spec dDk1),(35,C_partQ.spec dDkQ),(34,C_nar.spec dDkS),(36,C_who.spec dHu1)] with iter:=λg=>if g=63 then some (itSg x) else none,loops:=λid=>if id=7 then some [sg7 x] else none }
def BGG:Ann:=ann 92 [(30,C_rdX.spec dCZ)]
def BVQ(x:CZI):Prop:=AS ZP (BUY x) Tryz.f9 (AG Tryz.f9) (xCZI x) (AC []) (.tup [.d (EQ (xS (wO x)).1),.int (xS (wO x)).2]) [] [] []
abbrev HI:=CZI.a
abbrev AKO:=CZI.t
abbrev YX a b c d e f:=Qu (AN a b) c d e f
abbrev J2 a:=Hul.mk (Hul.s a) (Tq a)
abbrev Hm a b:=hul1 (HI a) (AKO a) b
abbrev CBI a b c:=BFN a b c b
abbrev nO a b:=Kq (Hm a b)
abbrev zM a b:=Tq (Hm a b)
abbrev HX a b:=hul2 (HI a) (AKO a) b
abbrev Uv a b:=Kq (HX a b)
abbrev RB a:=AAZ (HI a)
abbrev AL a:=MF (HI a)
abbrev JW a:=wB (HI a)
abbrev GP a:=CO (AL a)
abbrev ZI a:=FC (AL a)
abbrev YU a:=EN (AL a)
abbrev eR a:=QM (HI a)
abbrev IB a:=dG (eR a)
abbrev IW a:=Sq (HI a)
abbrev qW a:=AI (AKO a)
abbrev xL a:=BOK a 1
abbrev Hh a b c:=jL (J2 a) (hd33 (IB b) c)
abbrev Gs a:=JF (AKO a)
abbrev Ik a:=Mo (AKO a)
abbrev Ii a:=MN (IW a)
abbrev Pq a:=Se (AL a)
abbrev Qf a:=Mf (AL a)
abbrev RQ a:=ZA (AL a)
abbrev Xa a b:=Dx (AL a) b
abbrev Vi a:=BD (HI a)
abbrev ADV a:=ZG (HI a)
abbrev ABR a:=XT (HI a)
attribute [go_sem] HI AKO YX J2 Hm CBI nO zM HX Uv RB AL JW GP ZI YU eR IB IW qW xL Hh Gs Ik Ii Pq Qf RQ Xa Vi ADV ABR
theorem CJN(x:CZI):(BVQ x)=(Mp (Ea (C3 (HI x)) (F8 (HI x)) (Xr (eR x)) (EN (eR x)) (BU (FC (eR x)) (E8 (HI x) (RB x)) (US (jS (HI x)) (gL (HI x)) (J4 (HI x))) (G4 (HI x) (eR x)) (AE (λi=>Rf i (Ye (HI x)) i (nY (HI x) i))) (BH (ABR x) (dL (HI x))) (λi=>Zs i (ABR x) (dL (HI x))) (NT (xZ (HI x)) (I5 (HI x)) (BQ (ABR x)) 4611686018427387904) (BZ (AEM (aN (HI x)))))) (EA (λi=>EM (AT (RB x) (PN (Lt (ADV x)))) (Iu (BC i) (qW x) AU (xM (IW x) (Lt (ADV x))) (AE (λj=>Hr j (IW x) (FY (Lt (ADV x)) j) (FT (Lt (ADV x)) j))) (xM (IB x) (dG (E4 (HI x)))) (AE (λj=>Hr j (IB x) (FY (dG (E4 (HI x))) j) (FT (dG (E4 (HI x))) j))) (AP (BZ (nO x i)) (BZ (TQ (Hm x i))) (Hd (zM x i)) (AN (GA (AL x)) (GA (Vi x))) (AN (IS (AL x)) (IS (Vi x))) (pE (AL x) (Vi x)) (rB (AL x) (Vi x)) (AN (Sk (AL x)) (Sk (Vi x))) (Zh (BB (GP x) (Hu (HI x))) (ZL (GP x) (Cs (AL x)) (Vi x)) (E6 (AL x) (Vi x)) (λj=>bA j (AL x) (RJ (Vi x) j) (LG (AL x) j) (LG (Vi x) j)) (AE (λj=>fJ j 40 (Jr (JW x) j) (Jr (ADV x) j))) (AM (λj=>Sr (Xa x j) (Dx (Vi x) j))) (AM (λj=>rC (JW x) j (I4 (ADV x) j))) (AM (λj=>Gq (AL x) j (AAE (Vi x) j)))))) (MH i (RB x)))) (λi=>Mm (MH i (RB x)) i (RB x) (WU (CL i (PN (IW x))) (AZ i) (Uz i (PN (IW x)))) (FW (hd1 (AKO x) (FY (IW x) i) (FT (IW x) i)) (rD i (PN (IB x)) (Ea (FY (IB x) i) (FT (IB x) i) (nO x i) (hX (Hm x i)) (WI (zM x i)))) (EA (λj=>Bg (And (BY (RB x)) (Iu (AR j i) (qW x) AU (OV (IW x)) (PG (IW x)) (OV (IB x)) (PG (IB x)) (PU (AN (nO x j) (Kq (Hh (Hm x i) x i))) (AN (TQ (Hm x j)) (TQ (Hh (Hm x i) x i))) (GT (zM x j)) (AL x) (YU x) (ZI x) (Lb (BI (GP x)) (Mg (GP x) (AL x)) (AL x) (λk=>ZH k (AL x)) (JW x) (bU (AL x)) (mQ (AL x)))))) j (RB x) j i)) (EA (λj=>Bg (And (BY (RB x)) (Iu (AR j i) (qW x) AU (OV (IW x)) (PG (IW x)) (OV (IB x)) (PG (IB x)) (PU (AN (nO x j) (nO x i)) (AN (TQ (Hm x j)) (TQ (Hm x i))) (Sr (zM x j) (zM x i)) (AL x) (YU x) (ZI x) (Lb (BI (GP x)) (Mg (GP x) (AL x)) (AL x) (λk=>ZH k (AL x)) (JW x) (bU (AL x)) (mQ (AL x)))))) j (RB x) j i))) (FW (hd1 (AKO x) (-100000000) 100000000) (And (KC (AL x)) (KD (IS (AL x)) (Xr (AL x)) (BU (YU x) (ZI x) (BB (RQ x) (GP x)) (ZL (RQ x) (Qf x) (AL x)) (WN (AL x)) (AE (λj=>XG j (AL x) j j)) (λj=>cH j (JW x)) FE (PU (AM (λj=>WK (Pq x) j (Xa x j))) (MA (JW x)) (AM (λj=>Yy (Kd (AL x) j) (AL x) j)) (AL x) (YU x) (ZI x) (jT (BB (GP x) (RQ x)) (Og (GP x) (AL x) (Qf x)) (Ez (AL x)) (λj=>Ex j (AL x) j j j) (JW x) (AM (λj=>Ch (Xa x j) (Pq x) j)) (AM (λj=>Gq (AL x) j (Kd (AL x) j)))))))) (AE (λj=>LR (λk=>Vs (LL (FX j) (GM (xL (RB x))) (Oo (GP x)) (Iu (BC k) (qW x) AU (OV (IW x)) (PG (IW x)) (OV (IB x)) (PG (IB x)) (PU (AN (Uv x k) (nO x i)) (AN (TQ (HX x k)) (TQ (Hm x i))) (Sr (Tq (HX x k)) (zM x i)) (AL x) (YU x) (ZI x) (Lb (BI (GP x)) (Mg (GP x) (AL x)) (AL x) (λl=>ZH l (AL x)) (JW x) (bU (AL x)) (mQ (AL x)))))) k (Dz (RB x))) (λk=>Is (MH k (Dz (RB x))) (RL k (GM (xL (RB x)))) (AO (WU (FV (HC k) (GP x)) (AZ k) (Uz k (GP x))) (CL k 40) (FI k 40) (YL (Jr (JW x) k) (Uq j (AQ (Uc (IW x)) (AE (λl=>Iv l (QF (IW x)) (Ii x) (IW x) l l)) (PU (AI (HC k)) (AI (Ik x)) (AI (Gs x)) (AL x) (YU x) (ZI x) (jT (BB (RQ x) (GP x)) (ZL (RQ x) (Qf x) (AL x)) (WN (AL x)) (λl=>XG l (AL x) l l) (JW x) (AM (λl=>WK (Pq x) l (Xa x l))) (AP (AM (λl=>Yy (Kd (AL x) l) (AL x) l)) (KC (AL x)) (NL (AL x)) (GE (AL x)) (YU x) (ZI x) (BB (GP x) (RQ x)) (Og (GP x) (AL x) (Qf x)) (XH (Ez (AL x)) (λl=>Ex l (AL x) l l l) (VN (JW x)) FE (AM (λl=>Ch (Xa x l) (Pq x) l)) (MA (JW x)) (AM (λl=>Gq (AL x) l (Kd (AL x) l))) (WU (JH (QF (IW x)) 40) (HC k) (KM (HC k) (AZ (QF (IW x))))) (XH (Uc (Fy (Ii x) (HC k) (Ik x) (Gs x))) (λl=>Iv l (QF (Fy (Ii x) (HC k) (Ik x) (Gs x))) (MN (Fy (Ii x) (HC k) (Ik x) (Gs x))) (Fy (Ii x) (HC k) (Ik x) (Gs x)) l l) (KC (AL x)) (NL (AL x)) (GE (AL x)) (YU x) (ZI x) (BB (RQ x) (GP x)) (DY (ZL (RQ x) (Qf x) (AL x)) (WN (AL x)) (AE (λl=>XG l (AL x) l l)) (λl=>cH l (JW x)) FE (AM (λl=>WK (Pq x) l (Xa x l))) (MA (JW x)) (AM (λl=>Yy (Kd (AL x) l) (AL x) l)) (BU (KC (AL x)) (NL (AL x)) (GE (AL x)) (YU x) (ZI x) (BB (GP x) (RQ x)) (λl=>Vw l (GP x) (Cs (AL x)) (Qf x)) (Ez (AL x)) (SE (λl=>Ex l (AL x) l l l) (VN (JW x)) FE (AM (λl=>Ch (Xa x l) (Pq x) l)) (MA (JW x)) (AM (λl=>Gq (AL x) l (Kd (AL x) l))) (BB (QF (Fy (Ii x) (HC k) (Ik x) (Gs x))) (RQ x)) (LS (RQ x)) (Zr (RQ x))))))))))) (YL (hd84 (S4 (qV (rX (AL x) (Qf x) (Pq x)) (JW x)) (MN (Fy (Ii x) (HC k) (Ik x) (Gs x)))) lZ) (CV (CL k (PN (IB x))) (Ea (FY (IB x) k) (FT (IB x) k) (Uv x k) (hX (HX x k)) (WI (Tq (HX x k)))) (And (FV (HC k) (PN (IB x))) (Ea (FY (IB x) (Dh k)) (FT (IB x) (Dh k)) (Kq (Hh (HX x k) x k)) (hX (Hh (HX x k) x k)) CY)) (EA (λl=>iH (LZ (FX j) (GM (xL (RB x))) (Iu (AR l k) (qW x) AU (OV (IW x)) (PG (IW x)) (OV (IB x)) (PG (IB x)) (PU (AN (Uv x l) (Kq (Hh (Hh (HX x k) x k) x (Dh k)))) (AN (TQ (HX x l)) (TQ (Hh (Hh (HX x k) x k) x (Dh k)))) (GT (Tq (HX x l))) (AL x) (YU x) (ZI x) (Lb (BI (GP x)) (Mg (GP x) (AL x)) (AL x) (λm=>ZH m (AL x)) (JW x) (bU (AL x)) (mQ (AL x)))))) l (Dz (RB x)) 50 l k))) (EA (λl=>iH (LZ (FX j) (GM (xL (RB x))) (Iu (AR l k) (qW x) AU (OV (IW x)) (PG (IW x)) (OV (IB x)) (PG (IB x)) (PU (AN (Uv x l) (Uv x k)) (AN (TQ (HX x l)) (TQ (HX x k))) (Sr (Tq (HX x l)) (Tq (HX x k))) (AL x) (YU x) (ZI x) (Lb (BI (GP x)) (Mg (GP x) (AL x)) (AL x) (λm=>ZH m (AL x)) (JW x) (bU (AL x)) (mQ (AL x)))))) l (Dz (RB x)) 50 l k)))) (Uq j (AQ (Uc (IW x)) (AE (λl=>Iv l (QF (IW x)) (Ii x) (IW x) l l)) (PU (AI (HC k)) (AI (Ik x)) (AI (Gs x)) (AL x) (YU x) (ZI x) (jT (BB (RQ x) (GP x)) (ZL (RQ x) (Qf x) (AL x)) (WN (AL x)) (λl=>XG l (AL x) l l) (JW x) (AM (λl=>WK (Pq x) l (Xa x l))) (AP (AM (λl=>Yy (Kd (AL x) l) (AL x) l)) (KC (AL x)) (NL (AL x)) (GE (AL x)) (YU x) (ZI x) (BB (GP x) (RQ x)) (Og (GP x) (AL x) (Qf x)) (XH (Ez (AL x)) (λl=>Ex l (AL x) l l l) (VN (JW x)) FE (AM (λl=>Ch (Xa x l) (Pq x) l)) (MA (JW x)) (AM (λl=>Gq (AL x) l (Kd (AL x) l))) (WU (JH (QF (IW x)) 40) (HC k) (KM (HC k) (AZ (QF (IW x))))) (XH (Uc (Fy (Ii x) (HC k) (Ik x) (Gs x))) (λl=>Iv l (QF (Fy (Ii x) (HC k) (Ik x) (Gs x))) (MN (Fy (Ii x) (HC k) (Ik x) (Gs x))) (Fy (Ii x) (HC k) (Ik x) (Gs x)) l l) (KC (AL x)) (NL (AL x)) (GE (AL x)) (YU x) (ZI x) (BB (RQ x) (GP x)) (DY (ZL (RQ x) (Qf x) (AL x)) (WN (AL x)) (AE (λl=>XG l (AL x) l l)) (λl=>cH l (JW x)) FE (AM (λl=>WK (Pq x) l (Xa x l))) (MA (JW x)) (AM (λl=>Yy (Kd (AL x) l) (AL x) l)) (BU (KC (AL x)) (NL (AL x)) (GE (AL x)) (YU x) (ZI x) (BB (GP x) (RQ x)) (λl=>Vw l (GP x) (Cs (AL x)) (Qf x)) (Ez (AL x)) (SE (λl=>Ex l (AL x) l l l) (VN (JW x)) FE (AM (λl=>Ch (Xa x l) (Pq x) l)) (MA (JW x)) (AM (λl=>Gq (AL x) l (Kd (AL x) l))) (BB (QF (Fy (Ii x) (HC k) (Ik x) (Gs x))) (RQ x)) (LS (RQ x)) (Zr (RQ x))))))))))) (YL (hd84 (S4 (qV (rX (AL x) (Qf x) (Pq x)) (JW x)) (MN (Fy (Ii x) (HC k) (Ik x) (Gs x)))) lZ) (CV (CL k (PN (IB x))) (Ea (FY (IB x) k) (FT (IB x) k) (Uv x k) (hX (HX x k)) (WI (Tq (HX x k)))) (And (FV (HC k) (PN (IB x))) (Ea (FY (IB x) (Dh k)) (FT (IB x) (Dh k)) (Kq (Hh (HX x k) x k)) (hX (Hh (HX x k) x k)) CY)) (EA (λl=>iH (LZ (FX j) (GM (xL (RB x))) (Iu (AR l k) (qW x) AU (OV (IW x)) (PG (IW x)) (OV (IB x)) (PG (IB x)) (PU (AN (Uv x l) (Kq (Hh (Hh (HX x k) x k) x (Dh k)))) (AN (TQ (HX x l)) (TQ (Hh (Hh (HX x k) x k) x (Dh k)))) (GT (Tq (HX x l))) (AL x) (YU x) (ZI x) (Lb (BI (GP x)) (Mg (GP x) (AL x)) (AL x) (λm=>ZH m (AL x)) (JW x) (bU (AL x)) (mQ (AL x)))))) l (Dz (RB x)) 50 l k))) (EA (λl=>iH (LZ (FX j) (GM (xL (RB x))) (Iu (AR l k) (qW x) AU (OV (IW x)) (PG (IW x)) (OV (IB x)) (PG (IB x)) (PU (AN (Uv x l) (Uv x k)) (AN (TQ (HX x l)) (TQ (HX x k))) (Sr (Tq (HX x l)) (Tq (HX x k))) (AL x) (YU x) (ZI x) (Lb (BI (GP x)) (Mg (GP x) (AL x)) (AL x) (λm=>ZH m (AL x)) (JW x) (bU (AL x)) (mQ (AL x)))))) l (Dz (RB x)) 50 l k)))))) (EM (AI (Uv x k)) (CBI (hX (HX x k)) (WI (Tq (HX x k))) (AI (Uv x k))) (YX (IP (xQ (wO x))) (IP (xQ (J2 (HX x k)))) (ADT (wO x)) (ADT (J2 (HX x k))) (Z1 (wO x)) (Z1 (J2 (HX x k)))))))) (EM (AI (nO x i)) (CBI (hX (Hm x i)) (WI (zM x i)) (AI (nO x i))) (YX (IP (xQ (wO x))) (IP (xQ (J2 (Hm x i)))) (ADT (wO x)) (ADT (J2 (Hm x i))) (Z1 (wO x)) (Z1 (J2 (Hm x i)))))))):=by kernel_rfl
def BFW(x:CZI):Prop:=AS ZP BGG Tryz.f9 (AG Tryz.f9) (xCZI x) (AC []) (.tup [.d (EQ zSp),.int (TA x.a)]) [] [] []
theorem BWE(x:CZI):(BFW x)=(And (Ea (C3 (HI x)) (F8 (HI x)) (Xr (eR x)) (EN (eR x)) (BU (FC (eR x)) (E8 (HI x) (RB x)) (US (jS (HI x)) (gL (HI x)) (J4 (HI x))) (G4 (HI x) (eR x)) (AE (λi=>Rf i (Ye (HI x)) i (nY (HI x) i))) (BH (ABR x) (dL (HI x))) (λi=>Zs i (ABR x) (dL (HI x))) (NT (xZ (HI x)) (I5 (HI x)) (BQ (ABR x)) 4611686018427387904) (Ha (AEM (aN (HI x)))))) (nJ (AEM (aN (HI x))) (lA AU (AN (AEM (HI x)) (AEM (aN (HI x))))) Tt)):=by kernel_rfl
theorem COT(x:CZI)(h1:x.a.c.ms.length<4611686018427387904/\x.a.c.ns.length<4611686018427387904/\x.a.z.length<4611686018427387904)(c0:TA x.a=0):BVQ x:=by
 have tl:=BVV c0
 have sl:=BIO x.a.c
 have hl:=Yb (AED c0).1
 obtain⟨_,⟨n1,n2⟩,_⟩:=hl
 have w1:GM ((x.a.c.ms.length:Int)-1)=((x.a.c.ms.length-1:Nat):Int):=by unfold GM;rw[ER (by omega) (by omega)];omega
 have w2:IntKind.i64.wrap ((x.a.c.ms.length:Int)-1)=((x.a.c.ms.length-1:Nat):Int):=w1
 have po:∀g:Nat,(lC (XK x.a) (parL (Sq x.a) ((g:Int)+1) (IntKind.i64.wrap (x.t-1)) (IntKind.i64.wrap (x.t+1)))).all lZ=O8 x.a x.t g:=λ_=>rfl
 rw[CJN]<;> dsimp only[go_sem];simp only[P3,CU,Kg,ARB,AIF,ASX,AOD,COR,CYZ];simp only[tl,sl,w1,w2,BGY]
 have e1:∀k,PX x.t (gD (Sq x.a) k).lo (gD (Sq x.a) k).hi=true->hul1 x.a x.t (k+1)=jL (hul1 x.a x.t k) (gD (Eo x.a.c) k):=λk h=>by
  show (bif PX x.t (gD (Sq x.a) k).lo (gD (Sq x.a) k).hi then _ else _)=_;rw[h];rfl
 have e0:∀k,PX x.t (gD (Sq x.a) k).lo (gD (Sq x.a) k).hi=false->hul1 x.a x.t (k+1)=hul1 x.a x.t k:=λk h=>by
  show (bif PX x.t (gD (Sq x.a) k).lo (gD (Sq x.a) k).hi then _ else _)=_;rw[h];rfl
 have f1:∀g,O8 x.a x.t g=true->hul2 x.a x.t (g+1)=jL (jL (hul2 x.a x.t g) (gD (Eo x.a.c) g)) (gD (Eo x.a.c) (g+1)):=λg h=>by
  show (bif O8 x.a x.t g then _ else _)=_;rw[h];rfl
 have f0:∀g,O8 x.a x.t g=false->hul2 x.a x.t (g+1)=hul2 x.a x.t g:=λg h=>by
  show (bif O8 x.a x.t g then _ else _)=_;rw[h];rfl
 refine⟨⟨h1,c0⟩,⟨0,⟨trivial,rfl,rfl,rfl,rfl⟩,Nat.zero_le _⟩,λk hk=>⟨λhlt=>⟨by omega,λhin=>⟨by omega,k+1,⟨(BJ (by omega)).symm,?_,?_,?_⟩,by omega,by omega⟩,λhin=>⟨k+1,⟨(BJ (by omega)).symm,?_,?_,?_⟩,by omega,by omega⟩⟩,λhge=>⟨λht=>⟨⟨0,⟨trivial,rfl,?_,?_,?_⟩,Nat.zero_le _⟩,λg hg=>⟨λhlt=>?_,λhgg=>?_⟩⟩,λht=>?_⟩⟩⟩
 ·rw[e1 k hin]
 ·rw[e1 k hin]
 ·rw[e1 k hin];rfl
 ·rw[e0 k hin]
 ·rw[e0 k hin]
 ·rw[e0 k hin]
 ·obtain rfl:k=x.a.c.ms.length:=by omega
  rfl
 ·obtain rfl:k=x.a.c.ms.length:=by omega
  rfl
 ·obtain rfl:k=x.a.c.ms.length:=by omega
  rfl
 ·have hlt:g<x.a.c.ms.length-1:=by omega
  have ew:IntKind.i64.wrap ((g:Int)+1)=(g:Int)+1:=by rw[BJ (by omega)];rfl
  have tn:((g:Int)+1).toNat=g+1:=by omega
  have ec:((g+1:Nat):Int)=(g:Int)+1:=rfl
  simp only[ew,tn,po]
  have body:((((0:Nat)<x.a.c.ms.length/\x.a.c.ms.length<=40)/\0<=(g:Int)+1/\(g:Int)+1<=x.a.c.ms.length)):=⟨⟨by omega,by omega⟩,by omega,by omega⟩
  refine⟨⟨⟨by omega,by omega⟩,by omega,by omega⟩,⟨by omega,by omega⟩,by omega,λ_=>?_,λ_=>?_⟩ <;>
  ·refine⟨⟨body,trivial,by omega,n2⟩,λh=>⟨⟨by omega,by omega⟩,⟨by omega,by omega⟩,g+1,⟨ec,?_,?_,?_⟩,by omega,by omega⟩,λh=>⟨g+1,⟨ec,?_,?_,?_⟩,by omega,by omega⟩⟩
   ·rw[f1 g h]
   ·rw[f1 g h]
   ·rw[f1 g h];rfl
   ·rw[f0 g h]
   ·rw[f0 g h]
   ·rw[f0 g h]
 ·obtain rfl:g=x.a.c.ms.length-1:=by omega
  have:wO x=hul2 x.a x.t (x.a.c.ms.length-1):=by unfold wO;rw[ht];rfl
  rw[this];exact⟨rfl,rfl,rfl⟩
 ·obtain rfl:k=x.a.c.ms.length:=by omega
  have:wO x=hul1 x.a x.t x.a.c.ms.length:=by unfold wO;rw[ht];rfl
  rw[this];exact⟨rfl,rfl,rfl⟩
theorem CEE:AH ZP 9 (C_Stage.spec dCZI):=okT C_Stage (λ(x:CZI) h=>by
 have h1:x.a.c.ms.length<4611686018427387904/\x.a.c.ns.length<4611686018427387904/\x.a.z.length<4611686018427387904:=h
 by_cases c0:TA x.a=0
 ·have e:C_Stage.val x=.tup [.d (EQ (xS (wO x)).1),.int (xS (wO x)).2]:=by
   show AVal.tup [.d (EQ (VJ x).1),.int (VJ x).2]=_
   unfold VJ;rw[c0];rfl
  rw[e]
  exact TF (A:=BUY x) (L:=[]) (keep:=[]) (ren:=[]) (fz:=[]) Tryz.func9 (by kernel_rfl) (AA CWK (AA ATA (AA CLA (AA BRB (AA CBY (AA CFE (AA CXL AD))))))) (COT x h1 c0) (ASE 63 (itSg x) rfl rfl AD Tryz.func63 (by kernel_rfl) (by kernel_rfl))
 ·have c0':(TA x.a==0)=false:=by simpa using c0
  have e:C_Stage.val x=.tup [.d (EQ zSp),.int (TA x.a)]:=by
   show AVal.tup [.d (EQ (VJ x).1),.int (VJ x).2]=_
   unfold VJ;rw[c0'];rfl
  rw[e]
  refine TF (A:=BGG) (L:=[]) (keep:=[]) (ren:=[]) (fz:=[]) Tryz.func9 (by kernel_rfl) (AA CWJ AD) ?_
  show BFW x;rw[BWE]<;> dsimp only[go_sem];simp only[P3,CU,Kg,ASX]
  exact⟨⟨h1,c0⟩,λh=>by simp[c0] at h⟩) _
end Go.Bal
