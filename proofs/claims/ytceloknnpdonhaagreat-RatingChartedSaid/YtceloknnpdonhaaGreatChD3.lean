/- Package chart: times. -/
import Derived.Test.YtceloknnpdonhaaGreatChD2
set_option linter.unusedVariables false
set_option linter.unusedSimpArgs false
namespace Go.Bal
open Go Go.Sym Go.Proofs
def VH(w:Dk):List Span×Bool:=bif AEQ w.c then (dF w (notL w.c),(dF w (notL w.c)).all qF) else ([],false)
def C_times:Ctr:={ ro:=[100,101],α:=Dk,xs:=λ_=>[.bptr 100 0],L:=λw=>dkL w,val:=λw=>.tup [.d (SR (VH w).1),.bool (VH w).2],keep:=λw=>dkK w,pre:=λw=>[1<=w.c.ms.length/\w.c.ms.length<=40/\nsIn w.c] }
def COK:Ann:={ ann 19 [(CPE,C_all.spec dDk1),(BZX,C_not.spec dDk1),(K6,C_nar.spec dDkS)] with E:=[100,101] }
def CMW(w:Dk):Prop:=BG Try.prog COK BYO (AL BYO) (C_times.xs w) (AF (C_times.L w)) (C_times.val w) (C_times.keep w) [] []
abbrev APB:=VH
abbrev BMB:=@Prod.snd (List Span) Bool
abbrev aP a:=notL (V3 a)
abbrev Xv a:=(@Prod.fst (List Span) Bool) (APB a)
attribute [go_sem] APB BMB aP Xv
theorem CVJ(w:Dk):(CMW w)=(KM (BB (IH w) (SO w) (SU w) (SY w) (SV w) (UY (Ze (JQ w) w) (λi=>DO i (JQ w) (Ho w i) (OO w i) (Hk w i) (MZ w i)) (OC (Bb w) (BV w)) (AK (λi=>YW i (Bb w) (BV w) i i i (TA (BV w) i (LN w i)) (SZ (BV w) i (LN w i)))) (λi=>Dn i w) CS (AN (λi=>VP (Vv w) i (BV w) i)) (KH w) (AP (AN (λi=>Ik (RJ w i) (UU w i) (LF w i) (hP (RJ w i) w i) (MH w i))) (IH w) (SO w) (SU w) (SY w) (SV w) (AR (LV w) (JQ w)) (AK (λi=>DO i (LV w) (OO w i) (Ho w i) (MZ w i) (Hk w i))) (LP (Hj (BV w) (Bb w)) (λi=>NR i (BV w) i i i i (LN w i) i) (PU w) CS (AN (λi=>VT (BV w) i (Vv w) i)) (KH w) (AN (λi=>Cl (UU w i) (RJ w i) (LF w i) (NU (RJ w i)) (Sa w i (bM w i)) (Sk w i (bM w i)))) (FW (JQ w)) (Fv (JQ w)))))) (AEQ (V3 w)) (Z4 (RB (Xv w) 0) (HM (BMB (APB w))) (IH w) (AJ (SO w) (SU w) (SY w) (SV w) (Cx w (Nl w) (λi=>Mv i w w i) (He w) (λi=>RZ w i i i i i)))) (And (BB (IH w) (SO w) (SU w) (SY w) (SV w) (UY (Ze (JQ w) w) (λi=>DO i (JQ w) (Ho w i) (OO w i) (Hk w i) (MZ w i)) (OC (Bb w) (BV w)) (AK (λi=>YW i (Bb w) (BV w) i i i (TA (BV w) i (LN w i)) (SZ (BV w) i (LN w i)))) (λi=>Dn i w) CS (AN (λi=>VP (Vv w) i (BV w) i)) (KH w) (AP (AN (λi=>Ik (RJ w i) (UU w i) (LF w i) (hP (RJ w i) w i) (MH w i))) (IH w) (SO w) (SU w) (SY w) (SV w) (AR (LV w) (JQ w)) (AK (λi=>DO i (LV w) (OO w i) (Ho w i) (MZ w i) (Hk w i))) (LP (Hj (BV w) (Bb w)) (λi=>NR i (BV w) i i i i (LN w i) i) (PU w) CS (AN (λi=>VT (BV w) i (Vv w) i)) (KH w) (AN (λi=>Cl (UU w i) (RJ w i) (LF w i) (NU (RJ w i)) (Sa w i (bM w i)) (Sk w i (bM w i)))) (QB (FW (JQ w)) (JQ w) 40 (AN (λi=>GC (Af (Vv w) i) (Ih i (JQ w))))) (LP (Bq (aP w) (RP (aP w))) (λi=>VV i (QA (aP w)) (WB (LB (aP w) i) (aP w) i) (LB (aP w) i) (aP w) i) (IH w) (SO w) (SU w) (SY w) (SV w) (Ze (JQ w) w) (LQ (AK (λi=>DO i (JQ w) (Ho w i) (OO w i) (Hk w i) (MZ w i))) (OC (Bb w) (BV w)) (λi=>YW i (Bb w) (BV w) i i i (TA (BV w) i (LN w i)) (SZ (BV w) i (LN w i))) (PU w) CS (AN (λi=>VP (Vv w) i (BV w) i)) (KH w) (AN (λi=>Ik (RJ w i) (UU w i) (LF w i) (hP (RJ w i) w i) (MH w i))) (AP (IH w) (SO w) (SU w) (SY w) (SV w) (AR (LV w) (JQ w)) (AK (λi=>DO i (LV w) (OO w i) (Ho w i) (MZ w i) (Hk w i))) (Hj (BV w) (Bb w)) (AP (AK (λi=>NR i (BV w) i i i i (LN w i) i)) (PU w) CS (AN (λi=>VT (BV w) i (Vv w) i)) (KH w) (AN (λi=>Cl (UU w i) (RJ w i) (LF w i) (NU (RJ w i)) (Sa w i (bM w i)) (Sk w i (bM w i)))) (Bq (aP w) (JQ w)) (FW (JQ w)) (Fv (JQ w)))))))))) (LP (Eg (Xv w) (dF (AFG w (BV w) w w) (Kj (aP w)))) (λi=>PV i (Xv w) i (SH (dF (AFG w (BV w) w w) (Kj (aP w))) i)) (JB (BMB (APB w)) (hd84 (dF (AFG w (BV w) w w) (Kj (aP w))) qF)) (IH w) (SO w) (SU w) (SY w) (SV w) (Cx w (Nl w) (λi=>Mv i w w i) (He w) (λi=>RZ w i i i i i))))):=by kernel_rfl
theorem BQB(a:CZ):CZ.mk a.c a.z=a:=rfl
theorem Ae(c:Cht):(notL c).length=c.ms.length:=rng_length _ _
theorem CFY:AM Try.prog BXM (C_times.spec dDk1):=WY C_times (λ_=>COK) [] [] DAB (λ_=>by kernel_rfl) (λ_=>AB CLJ (AB DRG (AB CWF AG))) (λ(w:Dk) h=>by
 obtain⟨h1,h2,h3⟩:1<=w.c.ms.length/\w.c.ms.length<=40/\nsIn w.c:=h
 show CMW w;rw[CVJ]<;> delta JB Oz EM FL ZF NU XB AR RP AK BO CI AO SH AU EA DV DJ DX Iz Bh YN Kz Rn Pz Vq Hc Av Gh jM qH hd84 QJ QP AN Af BV Ia WJ APB BMB AH YJ AJ JJ Bs AZ Pq AI BI FJ RH Z4 Ui AP jF Pb mY Lg HA BZ BC IZ Cf W7 JE FQ FP HT EJ EW EU UU Xp WK LV Dh NG ADX GT WF Vv SE BDS IE Bt Dy BB JZ VB LF OX Gz LN DR YO Kj CE KJ MH Ec SB YZ EE OO CS QA KH CQ CO CP DO BF MZ GC Cc NB RJ FW Dn ZK LB BHO Az GP ADH JI Kd QD OC RS AFG PZ RO JQ PU bL UY PY RB IH Jc Am oJ QZ Cl Jh SU TA SY SZ HM Ik SV Km TS SO XV Bb Lf Ks Hj KM UP V3 bO LQ Eg He LP QB PV Hk Ho VT VP RZ Nl aP Xv YW WB Bq bM Mv Fv Ih Sa lU Sk Ze VV hP NR Cx;simp only[CCQ,eq_self,implies_true,forall_const,Ur,BQO]
 refine⟨⟨h1,h2⟩,λh=>?_,λh=>⟨⟨⟨h1,h2,h3⟩,Ae _,h1,h2⟩,?_⟩⟩
 ·unfold VH;rw[h];exact⟨rfl,rfl,rfl⟩
 ·unfold VH;rw[h];exact⟨rfl,λ_ _=>⟨rfl,rfl⟩,rfl⟩) (λ_=>YE rfl rfl) _
def Ac(a:CZ):Int:=bif IQ a.c==0 then bif okZ a then bif (VH (Fh a)).2 then 0 else 6 else 2 else IQ a.c
def C_rdO:Ctr:={ α:=CZ,xs:=xCZ,val:=λa=>.tup [.bptr 0 0,.d (SR (VH (Fh a)).1),.d (SR (Ol a.c)),.int 0],keep:=λa=>dkN (Fh a),pre:=λa=>[(a.c.ms.length<4611686018427387904/\a.c.ns.length<4611686018427387904/\a.z.length<4611686018427387904)/\Ac a=0] }
def C_rdX:Ctr:={ α:=CZ,xs:=xCZ,val:=λa=>.tup [.d (.v (.pointer none)),.d TE,.d TE,.int (Ac a)],keep:=λ_=>[],pre:=λa=>[(a.c.ms.length<4611686018427387904/\a.c.ns.length<4611686018427387904/\a.z.length<4611686018427387904)/\Ac a≠0] }
def A_rd:Ann:=ann 38 [(BDY,C_beg.spec dCZ),(BXM,C_times.spec dDk1),(CPE,C_all.spec dDk1)]
def DNG:Ann:=ann 38 [(BDY,C_begX.spec dCZ)]
def DNB(a:CZ):Prop:=BG Try.prog A_rd ATN (AL ATN) (xCZ a) (AF []) (C_rdO.val a) (C_rdO.keep a) [(0,2032),(1,2033)] []
abbrev BH a:=KY (CZ.mk (rY a) (Gf a))
abbrev Vf a b:=Lg (BH a) b
abbrev AKR a b:=CZ.mk (rY a) (Gf b)
abbrev Eb a:=jI (AKR a a)
abbrev Gv a b:=FP (BH a) b
abbrev Em a:=Cf (BH a)
abbrev uE a b:=ADH a b b
abbrev TY a:=QX (BH a)
abbrev nT a b:=S4 (BH a) b
abbrev pZ a:=KH (Eb a)
abbrev R1 a:=PU (Eb a)
abbrev lM a:=CQ (BH a)
abbrev mZ a:=CO (BH a)
abbrev mF a:=CP (BH a)
abbrev pM a:=IE (BH a)
abbrev qD a:=LC (BH a)
abbrev Qv a:=AKR a a
abbrev Ns a b c d:=CK a b (BN c) d
attribute [go_sem] BH Vf AKR Eb Gv Em uE TY nT pZ R1 lM mZ mF pM qD Qv Ns
theorem DSY(a:CZ):(DNB a)=(RA (AJ (Ta a) (Rf a) (CP (HZ a)) (CO (HZ a)) (FM (CQ (HZ a)) (Px a (Xe a)) (λi=>DO i (Jn a) (So a i) (Py a i) (Td a i) (Qz a i)) (Qi a (HZ a)) (λi=>QZ i (Im a) (PY (PF a i) (HZ a) i) (JI (YY a i) (HZ a) i) (YY a i) (HZ a) (RO (PF a i) (Mq a i)) (QD (PF a i) (Mq a i))) (AW (Gf a) (Ts a)) (AS (Gf a) (Ts a)) (Ns (Qn a) (Sr a) (Gf a) 4611686018427387904) (BE (No a)))) (oP (Qv a)) PS (KM (FT (qD a) (pM a) (mF a) (mZ a) (lM a) (MY (TY a) (BH a)) (LQ (AK (λi=>SC i (TY a) (BH a) i i i i)) (PL (BH a)) (λi=>OZ i (BH a) i i i (TA (BH a) i (Gv a i)) (SZ (BH a) i (Gv a i))) (R1 a) CS (AN (λi=>VP (Em a) i (BH a) i)) (pZ a) (AN (λi=>RU (nT a i) (Vf a i))) (AP (qD a) (pM a) (mF a) (mZ a) (lM a) (TD (BH a) (TY a)) (AK (λi=>YC i (BH a) i i i i)) (UM (BH a)) (AP (AK (λi=>NR i (BH a) i i i i (Gv a i) i)) (R1 a) CS (AN (λi=>VT (BH a) i (Em a) i)) (pZ a) (AN (λi=>RU (Vf a i) (nT a i))) (FW (TY a)) (Fv (TY a)) (AN (λi=>GC (Af (Em a) i) (Ih i (TY a)))))))) (BMB (APB (uE (Kw (BH a) (Em a)) (Eb a)))) PS (AY (BB (qD a) (pM a) (mF a) (mZ a) (lM a) (UY (MY (TY a) (BH a)) (λi=>SC i (TY a) (BH a) i i i i) (PL (BH a)) (AK (λi=>OZ i (BH a) i i i (TA (BH a) i (Gv a i)) (SZ (BH a) i (Gv a i)))) (λi=>Dn i (Eb a)) CS (AN (λi=>VP (Em a) i (BH a) i)) (pZ a) (AP (AN (λi=>RU (nT a i) (Vf a i))) (qD a) (pM a) (mF a) (mZ a) (lM a) (TD (BH a) (TY a)) (AK (λi=>YC i (BH a) i i i i)) (LP (UM (BH a)) (λi=>NR i (BH a) i i i i (Gv a i) i) (R1 a) CS (AN (λi=>VT (BH a) i (Em a) i)) (pZ a) (AN (λi=>RU (Vf a i) (nT a i))) (FW (TY a)) (Fv (TY a)))))) (Eg (Xv (jI a)) (Xv (uE (Kw (BH a) (Em a)) (Eb a)))) (AK (λi=>PV i (Xv (jI a)) i (SH (Xv (uE (Kw (BH a) (Em a)) (Eb a))) i))) (LP (Eg (sC (HZ a)) (sC (Kw (BH a) (Em a)))) (λi=>PV i (sC (HZ a)) i (SH (sC (Kw (BH a) (Em a))) i)) CL (EW (V6 a) (YN (BH a))) (EJ (V6 a) (YN (BH a))) (Rm (KY a) (BH a)) (Qg (KY a) (BH a)) (Sc (KY a) (BH a)) (XV (MY (XN (KY a)) (BH a)) (λi=>Hl i (XN (KY a)) (XR (KY a) i) (BH a) i (As (KY a) i) i) (dQ (KY a) (BH a)) (λi=>UP i (KY a) i (NG (BH a) i) (JI (JE (KY a) i) (BH a) i) (PZ (JE (KY a) i) (BH a) i) (FP (KY a) i) (Gv a i)) (λi=>Od i 40 (WJ (jI a) i) (WJ (Eb a) i)) (AN (λi=>Km (OX (KY a) i) (BH a) i)) (AN (λi=>Vx (jI a) i (Ia (Eb a) i))) (λi=>RU (Lg (KY a) i) (Vf a i))))))):=by kernel_rfl
def DEK(a:CZ):Prop:=BG Try.prog A_rd ATN (AL ATN) (xCZ a) (AF []) (C_rdX.val a) [] [] []
abbrev zB:=Ac
abbrev nI a b c:=pE a b b c
attribute [go_sem] zB nI
theorem DHW(a:CZ):(DEK a)=(RA (AJ (Ta a) (Rf a) (CP (HZ a)) (CO (HZ a)) (FM (CQ (HZ a)) (Px a (Xe a)) (λi=>DO i (Jn a) (So a i) (Py a i) (Td a i) (Qz a i)) (Qi a (HZ a)) (λi=>QZ i (Im a) (PY (PF a i) (HZ a) i) (JI (YY a i) (HZ a) i) (YY a i) (HZ a) (RO (PF a i) (Mq a i)) (QD (PF a i) (Mq a i))) (AW (Gf a) (Ts a)) (AS (Gf a) (Ts a)) (Ns (Qn a) (Sr a) (Gf a) 4611686018427387904) (BE (No a)))) (oP (Qv a)) (Ql (nI AQ BK (AO (zB a) (oP (Qv a))))) (KM (FT (qD a) (pM a) (mF a) (mZ a) (lM a) (MY (TY a) (BH a)) (LQ (AK (λi=>SC i (TY a) (BH a) i i i i)) (PL (BH a)) (λi=>OZ i (BH a) i i i (TA (BH a) i (Gv a i)) (SZ (BH a) i (Gv a i))) (R1 a) CS (AN (λi=>VP (Em a) i (BH a) i)) (pZ a) (AN (λi=>RU (nT a i) (Vf a i))) (AP (qD a) (pM a) (mF a) (mZ a) (lM a) (TD (BH a) (TY a)) (AK (λi=>YC i (BH a) i i i i)) (UM (BH a)) (AP (AK (λi=>NR i (BH a) i i i i (Gv a i) i)) (R1 a) CS (AN (λi=>VT (BH a) i (Em a) i)) (pZ a) (AN (λi=>RU (Vf a i) (nT a i))) (FW (TY a)) (Fv (TY a)) (AN (λi=>GC (Af (Em a) i) (Ih i (TY a)))))))) (BMB (APB (uE (Kw (BH a) (Em a)) (Eb a)))) (Ql (nI AQ BK (AO (zB a) 6))) (And (BB (qD a) (pM a) (mF a) (mZ a) (lM a) (UY (MY (TY a) (BH a)) (λi=>SC i (TY a) (BH a) i i i i) (PL (BH a)) (AK (λi=>OZ i (BH a) i i i (TA (BH a) i (Gv a i)) (SZ (BH a) i (Gv a i)))) (λi=>Dn i (Eb a)) CS (AN (λi=>VP (Em a) i (BH a) i)) (pZ a) (AP (AN (λi=>RU (nT a i) (Vf a i))) (qD a) (pM a) (mF a) (mZ a) (lM a) (TD (BH a) (TY a)) (AK (λi=>YC i (BH a) i i i i)) (LP (UM (BH a)) (λi=>NR i (BH a) i i i i (Gv a i) i) (R1 a) CS (AN (λi=>VT (BH a) i (Em a) i)) (pZ a) (AN (λi=>RU (Vf a i) (nT a i))) (FW (TY a)) (Fv (TY a)))))) PS))):=by kernel_rfl
def DDH(a:CZ):Prop:=BG Try.prog DNG ATN (AL ATN) (xCZ a) (AF []) (C_rdX.val a) [] [] []
theorem DJV(a:CZ):(DDH a)=(RA (AJ (Ta a) (Rf a) (CP (HZ a)) (CO (HZ a)) (FM (CQ (HZ a)) (Px a (Xe a)) (λi=>DO i (Jn a) (So a i) (Py a i) (Td a i) (Qz a i)) (Qi a (HZ a)) (λi=>QZ i (Im a) (PY (PF a i) (HZ a) i) (JI (YY a i) (HZ a) i) (YY a i) (HZ a) (RO (PF a i) (Mq a i)) (QD (PF a i) (Mq a i))) (AW (Gf a) (Ts a)) (AS (Gf a) (Ts a)) (Ns (Qn a) (Sr a) (Gf a) 4611686018427387904) (VD (No a)))) (oP (Qv a)) (Ql (nI AQ BK (AO (zB a) (oP (Qv a))))) PS):=by kernel_rfl
theorem BOL(a:CZ):Dk.mk a.c (Fh a).st (Fh a).sp=Fh a:=rfl
theorem BXZ{c:Cht}(h:IQ c=0):nsIn c/\∀n∈c.ns,Ak n c.ms.length=true:=by
 obtain⟨h1,⟨h2,h3⟩,h4⟩:=kH h
 have hr:c.ns.all (λn=>Ak n c.ms.length)=true:=by
  cases hq:c.ns.all (λn=>Ak n c.ms.length) with
  |true=>rfl
  |false=>
   unfold IQ at h
   rw[h1,hq] at h
   cases hm:(mkC (-1) c.ms != 0) with
   |true=>
    rw[hm] at h
    have h:mkC (-1) c.ms=0:=h
    rw[h] at hm;cases hm
   |false=>rw[hm] at h;cases h
 refine⟨λj hj=>?_,λn hn=>List.all_eq_true.1 hr n hn⟩
 unfold hasN at hj
 obtain⟨x,hx,e⟩:=List.any_eq_true.1 hj
 have e:x.mi=j:=by simpa using e
 have:=List.all_eq_true.1 hr x hx
 unfold Ak XA MQ at this
 rw[JC (by omega) (by omega)] at this
 simp only[Bool.and_eq_true,decide_eq_true_eq] at this
 omega
theorem BBT{a:CZ}(h:Ac a=0):IQ a.c=0/\okZ a=true/\(VH (Fh a)).2=true:=by
 unfold Ac at h
 cases h1:(IQ a.c==0) with
 |false=>rw[h1] at h;have h:IQ a.c=0:=h;rw[h] at h1;cases h1
 |true=>
  rw[h1] at h
  cases h2:okZ a with
  |false=>rw[h2] at h;cases h
  |true=>
   rw[h2] at h
   cases h3:(VH (Fh a)).2 with
   |false=>rw[h3] at h;cases h
   |true=>exact⟨by simpa using h1,rfl,rfl⟩
theorem DRH:AM Try.prog BSH (C_rdO.spec dCZ):=WY C_rdO (λ_=>A_rd) [(0,2032),(1,2033)] [] CBZ (λ_=>by kernel_rfl) (λ_=>AB CWE (AB CFY (AB CLJ AG))) (λ(a:CZ) h=>by
 obtain⟨h1,h2⟩:(a.c.ms.length<4611686018427387904/\a.c.ns.length<4611686018427387904/\a.z.length<4611686018427387904)/\Ac a=0:=h
 obtain⟨c0,c1,c2⟩:=BBT h2
 have e:begE a=0:=by unfold begE;rw[c0,c1];rfl
 have hl:=kH c0
 have hn:=(BXZ c0).1
 show DNB a;rw[DSY]<;> delta JB EM FL ZF NU XB AR RP AK BO CI AO SH AU UH EA DV DJ DX Iz Bh YN Kz Rn Pz Vq Hc Av Gh jM QJ hd95 Gi PS QP AN Af BV Ia BN BJ WJ HZ JN Ts oP jI sC APB BMB AH LY YJ LX AJ zJ JJ Bs AZ KY Pq AI DG FJ RH Ui AAC AP Pb mY Gf Lg HA BZ BC IZ EZ Cf AGP W5 W7 JE JA FQ FP HT EJ EW rY EU AW Xp WK Dh NG GT oI HL WF AY XN SE IE IA BB CK JZ KC VB OX S4 Gz LC BD DR XR CE BH FG EN Ec SB As CS QX AS KH CQ CO CP DO BF FU FM GC Cc Vf BE FW Hi Dn ADH AKR nT JI Kd QD OC PZ RO PF CL Eb uE Qv PU UY PY RB Jc Yn Xe Am QZ Cl bB TY Im Jn FT TA SZ iA PK Gv Ik Km TS MY Em XV O9 Ks Hj KM UP PL LQ Eg LP PV Hl UM RU TD YY VT VP RA Xv No YW OZ Mq Fv mF pZ Ih mZ Kw Zh lM Od qD Qn Rf pM Sr Ta NR SC Ns Qi Td Py R1 Sc dQ Qz So Px YC Qg V6 Rm Vx;simp only[CCQ,eq_self,implies_true,forall_const,Ur,BQO,BGQ,BQB,BOL,e,c2]
 exact⟨⟨h1,c0⟩,(λh=>by simp at h),λ_=>⟨⟨by omega,by omega,hn⟩,(λh=>by cases h),by omega,by omega⟩⟩) (λ_=>YE rfl rfl) _
theorem DSX:AM Try.prog BSH (C_rdX.spec dCZ):=okT C_rdX (λ(a:CZ) h=>by
 obtain⟨h1,h2⟩:(a.c.ms.length<4611686018427387904/\a.c.ns.length<4611686018427387904/\a.z.length<4611686018427387904)/\Ac a≠0:=h
 by_cases c0:IQ a.c=0
 ·have e:begE a=bif okZ a then 0 else 2:=by unfold begE;rw[c0];rfl
  have e2:Ac a=bif okZ a then bif (VH (Fh a)).2 then 0 else 6 else 2:=by unfold Ac;rw[c0];rfl
  have hl:=kH c0
  have hn:=(BXZ c0).1
  refine Mj (A:=A_rd) (L:=[]) (keep:=[]) (ren:=[]) (fz:=[]) CBZ (by kernel_rfl) (AB CWE (AB CFY (AB CLJ AG))) ?_
  show DEK a;rw[DHW]<;> delta JB Oz EM FL ZF NU XB AR AK BO CI AO AU EA DV DJ DX Iz Bh YN Kz Rn Pz Vq Hc Av Gh jM QJ hd95 Gi PS QP AN Af BV Ia BN BJ WJ HZ JN Ts oP jI APB BMB zB AH LY YJ LX AJ zJ JJ Bs AZ KY Pq AI DG BI FJ RH pE nI Ui AAC AP Pb mY Gf Lg HA BZ BC IZ EZ Cf AGP W5 W7 JE JA FQ FP HT EJ EW rY EU AW Xp WK Dh AQ NG GT oI HL WF XN SE IE IA BB CK JZ KC VB OX VQ S4 Gz LC BD DR XR CE BH FG EN Ce Ec SB As CS QX AS KH CQ BK CO CP DO BF FM GC Vf BE FW Hi Dn ADH AKR nT JI Kd QD OC PZ RO PF Eb uE Qv PU UY PY Yn Xe Am QZ Cl bB TY Im Jn FT TA SZ iA PK Gv Ik Km MY Em O9 Hj KM UP PL LQ LP Hl UM RU TD YY VT VP RA No YW wT OZ Mq Fv mF pZ Ih mZ Kw Zh lM qD Qn Rf Ql pM Sr Ta NR SC Ns Qi Td Py R1 Qz So Px YC;simp only[CCQ,eq_self,implies_true,forall_const,Ur,BQO,BGQ,BQB,BOL,e]
  rw[e2] at h2 ⊢
  refine⟨⟨h1,c0⟩,?_⟩
  cases ho:okZ a with
  |false=>exact⟨λ_=>rfl,λh=>by simp at h⟩
  |true=>
   rw[ho] at h2
   cases hq:(VH (Fh a)).2 with
   |false=>exact⟨λh=>by simp at h,λ_=>⟨⟨by omega,by omega,hn⟩,λ_=>rfl,λh=>by cases h⟩⟩
   |true=>rw[hq] at h2;exact absurd rfl h2
 ·have c0':(IQ a.c==0)=false:=by simpa using c0
  have e:begE a=IQ a.c:=by unfold begE;rw[c0'];rfl
  have e2:Ac a=IQ a.c:=by unfold Ac;rw[c0'];rfl
  refine Mj (A:=DNG) (L:=[]) (keep:=[]) (ren:=[]) (fz:=[]) CBZ (by kernel_rfl) (AB DIO AG) ?_
  show DDH a;rw[DJV]<;> delta JB Oz EM FL ZF NU XB AR AK BO CI AO DV Iz Bh YN Kz Rn Pz Vq Hc Av Gh jM hd95 Gi PS QP BN BJ HZ JN Ts oP zB AH LY YJ LX AJ zJ JJ Bs AZ Pq AI DG BI FJ RH pE nI Ui AAC AP Pb mY Gf HA BZ IZ EZ AGP W5 JE JA FQ FP HT EJ EW rY AW WK Dh AQ NG GT HL WF SE IA CK JZ KC VQ BD FG EN Ce SB AS CQ BK CO CP DO BF FM AKR JI QD OC PZ RO PF Qv PY Xe Am QZ Im Jn PK YY RA No VD wT Mq Qn Rf Ql Sr Ta Ns Qi Td Py Qz So Px;simp only[CCQ,eq_self,implies_true,forall_const,Ur,BQB,e,e2]
  simp[h1,c0]) _
end Go.Bal

namespace Go.Bal
open Go Go.Sym Go.Proofs
def CZQ(l:List Int):AObj:=.row 1 l.length λi=>JS (gD l i)
end Go.Bal



namespace Go.Bal
open Go Go.Sym Go.Proofs
structure Hul where
 s:Span
 m:Bool
 deriving Inhabited
def hlB(h:Hul):AObj:=.box [.int h.s.lo,.int h.s.hi,.bool h.m]
def vT(h:Hul)(s:Span):Hul:=⟨⟨bif h.m then Ie s.lo h.s.lo else s.lo,bif h.m then OL s.hi h.s.hi else s.hi⟩,true⟩
structure HuS where
 h:Hul
 s:Span
def DLW(H:Heap)(id:Nat):Option Hul:=match H id with
 | .live (.box [.d a,.d b,.d c])=>some ⟨⟨EO a,EO b⟩,DTO c⟩
 |_=>none
def dHuS:List AVal->Heap->Option (HuS×List (Nat×Nat)×List Nat)
 |[.bptr id _,.d s],H=>match DLW H id with
  |some h=>some (⟨h,Ty s⟩,[(100,id)],[])
  |none=>none
 |_,_=>none
def C_hadd:Ctr:={ α:=HuS,xs:=λa=>[.bptr 100 0,.d (TF a.s)],L:=λa=>[(100,hlB a.h)],val:=λ_=>.d (.tup []),keep:=λa=>[(100,.live (hlB (vT a.h a.s)))] }
def CYV:Ann:={ ann 32 [] with E:=[100] }
def DCG(a:HuS):Prop:=BG Try.prog CYV CLT (AL CLT) (C_hadd.xs a) (AF (C_hadd.L a)) (C_hadd.val a) (C_hadd.keep a) [] []
abbrev Tk:=Hul.m
abbrev BCP:=HuS.h
abbrev lC:=Hul.s
abbrev APH:=HuS.s
abbrev AFB a b:=lC (vT a b)
attribute [go_sem] Tk BCP lC APH AFB
theorem DHK(a:HuS):(DCG a)=(DV (Tk (BCP a)) (DN (EM (AFB (BCP a) (APH a))) (Ie (EM (APH a)) (EM (lC (BCP a)))) (FQ (AFB (BCP a) (APH a)) (zZ (FL (APH a)) (FL (lC (BCP a))))) MK) (DN (EM (AFB (BCP a) (APH a))) (EM (APH a)) (EJ (AFB (BCP a) (APH a)) (APH a)) MK)):=by kernel_rfl
theorem DGT:AM Try.prog CCT (C_hadd.spec dHuS):=WY C_hadd (λ_=>CYV) [] [] DIG (λ_=>by kernel_rfl) (λ_=>AG) (λ(a:HuS) _=>by
 show DCG a;rw[DHK]<;> delta JB EM FL AO DV zZ QJ Tk BCP lC APH AH FJ DN FQ EJ MK AFB;simp only[CCQ,eq_self,implies_true,forall_const]
 refine⟨λh=>?_,λh=>?_⟩<;>· unfold vT;rw[h];exact⟨rfl,rfl⟩) (λ_=>YE rfl rfl) _
def whoM(h:Hul):Span×Int:=bif h.m then (h.s,0) else (⟨0,0⟩,5)
def dHu1:List AVal->Heap->Option (Hul×List (Nat×Nat)×List Nat)
 |[.bptr id _],H=>match DLW H id with
  |some h=>some (h,[(100,id)],[])
  |none=>none
 |_,_=>none
def C_who:Ctr:={ ro:=[100],α:=Hul,xs:=λ_=>[.bptr 100 0],L:=λh=>[(100,hlB h)],val:=λh=>.tup [.d (TF (whoM h).1),.int (whoM h).2],keep:=λh=>[(100,.live (hlB h))] }
def DKX:Ann:={ ann 14 [] with E:=[100] }
def DNX(h:Hul):Prop:=BG Try.prog DKX CAY (AL CAY) (C_who.xs h) (AF (C_who.L h)) (C_who.val h) (C_who.keep h) [] []
abbrev oX:=@Prod.fst Span Int
abbrev yN:=whoM
abbrev jH:=@Prod.snd Span Int
abbrev uP a:=oX (yN a)
abbrev Wg a:=My (oX a)
attribute [go_sem] oX yN jH uP Wg
theorem DPI(h:Hul):(DNX h)=(DV (not (Tk h)) (BB (Np (uP h)) (Wg (yN h)) (AO (jH (yN h)) 5) (HA (lC h)) (IZ (lC h)) (FJ (Tk h))) (BB (EW (uP h) (lC h)) (EJ (uP h) (lC h)) (BE (jH (yN h))) (HA (lC h)) (IZ (lC h)) (FJ (Tk h)))):=by kernel_rfl
theorem DRX:AM Try.prog BZG (C_who.spec dHu1):=WY C_who (λ_=>DKX) [] [] CVA (λ_=>by kernel_rfl) (λ_=>AG) (λ(h:Hul) _=>by
 show DNX h;rw[DPI]<;> delta JB EM FL AO DV Tk lC oX yN jH AH AJ AI FJ HA IZ FQ HT EJ EW BB BE My Wg Np uP;simp only[CCQ,eq_self,implies_true,forall_const]
 refine⟨λq=>?_,λq=>?_⟩<;>· unfold whoM;rw[q];exact⟨rfl,rfl,rfl⟩) (λ_=>YE rfl rfl) _
structure DkQ where
 w:Dk
 l:List Span
 k:Int
 a:Int
 b:Int
def parM(l:List Span)(k a b:Int)(i:Nat):Span:=⟨bif decide (i=k.toNat)&&decide (k<l.length) then OL (gD l i).lo b else (gD l i).lo,bif decide (k>0)&&decide (i=(k-1).toNat) then Ie (gD l i).hi a else (gD l i).hi⟩
def parL(l:List Span)(k a b:Int):List Span:=KA l.length (parM l k a b)
def dDkQ:List AVal->Heap->Option (DkQ×List (Nat×Nat)×List Nat)
 |[.bptr id _,y,.d k,.d a,.d b],H=>match CFW H id,BOO y H with
  |some (w,q),some (l,f)=>some (⟨w,l,EO k,EO a,EO b⟩,[(100,id),(101,q)],f)
  |_,_=>none
 |_,_=>none
def C_partQ:Ctr:={ ro:=[100,101],α:=DkQ,xs:=λa=>[.bptr 100 0,.d (SR a.l),.int a.k,.int a.a,.int a.b],L:=λa=>dkL a.w,val:=λa=>.d (SR (parL a.l a.k a.a a.b)),keep:=λa=>dkK a.w,pre:=λa=>[(1<=a.l.length/\a.l.length<=40)/\0<=a.k/\a.k<=a.l.length] }
def CRK:Ann:={ ann 45 [(BDT,C_clo.spec dSs1)] with E:=[100,101] }
def COU(a:DkQ):Prop:=BG Try.prog CRK BRG (AL BRG) (C_partQ.xs a) (AF (C_partQ.L a)) (C_partQ.val a) (C_partQ.keep a) [] [2016]
abbrev BKT:=DkQ.l
abbrev ALC:=DkQ.k
abbrev Uz:=DkQ.w
abbrev PE a:=BV (Uz a)
abbrev AWU a b:=LB (BKT a) b
abbrev Nr a b c d:=parL (BKT a) (ALC b) (DkQ.a c) (DkQ.b d)
abbrev UB a:=QA (BKT a)
abbrev wR a b:=FL (AWU a b)
abbrev Nu a:=Ej (ALC a)
abbrev uW a b:=EM (AWU a b)
abbrev BSX a b c:=AY a b a c
abbrev Ni a:=Ej (FA (ALC a))
abbrev Gb a:=Pp a 0
attribute [go_sem] BKT ALC Uz PE AWU Nr UB wR Nu uW BSX Ni Gb
theorem DEQ(a:DkQ):(COU a)=(BF (AY (AR (UB a) (RP (BKT a))) (AK (λi=>VV i (UB a) (WB (AWU a i) (BKT a) i) (AWU a i) (BKT a) i)) (ZI (UB a)) (Cs (UB a))) (Gb (ALC a)) (BF (BSX (Ih (FA (ALC a)) (UB a)) (CI (Ni a) (UB a)) (KO (Ni a) (UB a))) (JD (ALC a) (AU (UB a))) (And (BSX (Ih (ALC a) (UB a)) (CI (Nu a) (UB a)) (KO (Nu a) (UB a))) (LQ (RB (Nr a a a a) (UB a)) (Hr (UB a)) (λi=>Cc i (Nr a a a a) (HT (SH (Nr a a a a) i) (RX (BP i) (Nu a) (zZ (RX (Nu a) (Ni a) (uW a (Ni a)) (uW a (Nu a))) (DkQ.b a)) (RX (BP i) (Ni a) (uW a (Ni a)) (uW a (BP i))))) (FQ (SH (Nr a a a a) i) (RX (BP i) (Nu a) (RX (Nu a) (Ni a) (Ie (wR a (Ni a)) (DkQ.a a)) (wR a (Nu a))) (RX (BP i) (Ni a) (Ie (wR a (Ni a)) (DkQ.a a)) (wR a (BP i)))))) (IH (Uz a)) (IE (PE a)) (CP (PE a)) (CO (PE a)) (CQ (PE a)) (Cx (Uz a) (EE (PE a)) (λi=>Lf i (PE a) (Uz a) i) (RS (PE a)) (λi=>RZ (Uz a) i i i i i)))) (LQ (RB (Nr a a a a) (UB a)) (Hr (UB a)) (λi=>Cc i (Nr a a a a) (HT (SH (Nr a a a a) i) (RX (BP i) (Ni a) (uW a (Ni a)) (uW a (BP i)))) (FQ (SH (Nr a a a a) i) (RX (BP i) (Ni a) (Ie (wR a (Ni a)) (DkQ.a a)) (wR a (BP i))))) (IH (Uz a)) (IE (PE a)) (CP (PE a)) (CO (PE a)) (CQ (PE a)) (Cx (Uz a) (EE (PE a)) (λi=>Lf i (PE a) (Uz a) i) (RS (PE a)) (λi=>RZ (Uz a) i i i i i)))) (Fw (JD (ALC a) (AU (UB a))) (BSX (Ih (ALC a) (UB a)) (CI (Nu a) (UB a)) (KO (Nu a) (UB a))) (LQ (RB (Nr a a a a) (UB a)) (Hr (UB a)) (λi=>Cc i (Nr a a a a) (HT (SH (Nr a a a a) i) (RX (BP i) (Nu a) (zZ (uW a (Nu a)) (DkQ.b a)) (uW a (BP i)))) (FQ (SH (Nr a a a a) i) (RX (BP i) (Nu a) (wR a (Nu a)) (wR a (BP i))))) (IH (Uz a)) (IE (PE a)) (CP (PE a)) (CO (PE a)) (CQ (PE a)) (Cx (Uz a) (EE (PE a)) (λi=>Lf i (PE a) (Uz a) i) (RS (PE a)) (λi=>RZ (Uz a) i i i i i))) (LQ (RB (Nr a a a a) (UB a)) (Hr (UB a)) (λi=>PV i (Nr a a a a) i (AWU a (BP i))) (IH (Uz a)) (IE (PE a)) (CP (PE a)) (CO (PE a)) (CQ (PE a)) (Cx (Uz a) (EE (PE a)) (λi=>Lf i (PE a) (Uz a) i) (RS (PE a)) (λi=>RZ (Uz a) i i i i i))))):=by kernel_rfl
theorem CEX(l:List Span)(k a b:Int):(parL l k a b).length=l.length:=rng_length _ _
theorem DEL:AM Try.prog BSG (C_partQ.spec dDkQ):=WY C_partQ (λ_=>CRK) [] [2016] CRV (λ_=>by kernel_rfl) (λ_=>AB CUE AG) (λ(a:DkQ) h=>by
 obtain⟨⟨h1,h2⟩,h3,h4⟩:(1<=a.l.length/\a.l.length<=40)/\0<=a.k/\a.k<=a.l.length:=h
 have e:IntKind.i64.wrap (a.k-1)=a.k-1:=JC (by omega) (by omega)
 have gj:∀{j:Nat},j<a.l.length->gD (parL a.l a.k a.a a.b) j=parM a.l a.k a.a a.b j:=λhj=>OW _ _ _ hj
 have t:(a.k-1).toNat=a.k.toNat-1:=by omega
 show COU a;rw[DEQ]<;> delta JB EM FL ZF NE Kq NU XB AR RP AK BO CI AO SH AU EA DV JD DJ DX zZ Iz Bh YN Kz Rn Pz Vq Hc Av Gh qH Pp FZ SG QP AN Af QT Pg BV Ia WJ jJ BKT ALC Uz AH YJ AJ JJ AZ EV AI BI FJ RH AP jF LI Lg HA BZ BC IZ JE FQ FP HT EJ EW EU UU WK LV Dh NG ADX BP GT WF AY SE IE Bt Dy VB LF OX LN YO Kj CE BSX KJ MH YZ EE OO CS QA KH CQ CO CP BF MZ FA Ej Cc NB Dn ZK LB PE Az GP RS ZI bL UY RB IH UB Jc Cs oJ Jh KO AWU TS XV RX Lf Ks bO LQ Ni Nu Gb PV RZ Nr Hr WB Fw Ih lU wR uW VV Cx;simp only[CCQ,eq_self,implies_true,forall_const,e,CEX,t]
 refine⟨⟨by omega,by omega⟩,λhk=>⟨⟨⟨by omega,by omega⟩,by omega,⟨by omega,by omega⟩,by omega⟩,λhl=>⟨⟨⟨by omega,by omega⟩,by omega,⟨by omega,by omega⟩,by omega⟩,Nat.le_refl _,λj hj=>?_⟩,λhl=>⟨Nat.le_refl _,λj hj=>?_⟩⟩,λhk=>⟨λhl=>⟨⟨⟨by omega,by omega⟩,by omega,⟨by omega,by omega⟩,by omega⟩,Nat.le_refl _,λj hj=>?_⟩,λhl=>by omega⟩⟩
 ·rw[gj hj];unfold parM;rw[t]
  have q0:¬ a.k.toNat=a.k.toNat-1:=by omega
  by_cases q1:j=a.k.toNat
  ·subst q1
   simp[hk,hl,q0]
  ·by_cases q2:j=a.k.toNat-1
   ·simp only[decide_eq_false q1,decide_eq_true q2,decide_eq_true hk,Bool.false_and,Bool.and_self,cond_true,cond_false]
    rw[q2];exact⟨rfl,rfl⟩
   ·simp[hk,q1,q2]
 ·rw[gj hj];unfold parM;rw[t]
  by_cases q2:j=a.k.toNat-1
  ·simp only[decide_eq_true q2,decide_eq_true hk,decide_eq_false hl,Bool.and_false,Bool.and_self,cond_true,cond_false]
   rw[q2];exact⟨rfl,rfl⟩
  ·simp[hl,q2]
 ·rw[gj hj];unfold parM;rw[t]
  by_cases q1:j=a.k.toNat
  ·subst q1
   simp[hk,hl]
  ·simp[hk,q1]) (λ_=>YE rfl rfl) _
end Go.Bal
