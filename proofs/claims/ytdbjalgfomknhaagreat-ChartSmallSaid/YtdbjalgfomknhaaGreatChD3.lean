/- Package chart: times. -/
import Derived.Test.YtdbjalgfomknhaaGreatChD2
set_option linter.unusedVariables false
set_option linter.unusedSimpArgs false
namespace Go.Bal
open Go Go.Sym Go.Proofs
def JD(w:Dk):List Span×Bool:=bif Mg w.c then (XS w (Ov w.c),(XS w (Ov w.c)).all Od) else ([],false)
def C_times:Ctr:={ ro:=[100,101],α:=Dk,xs:=λ_=>[.bptr 100 0],L:=λw=>dkL w,val:=λw=>.tup [.d (HA (JD w).1),.bool (JD w).2],keep:=λw=>dkK w,pre:=λw=>[1<=w.c.ms.length/\w.c.ms.length<=40/\nsIn w.c] }
def BTM:Ann:={ ann 19 [(BFU,C_all.spec sX),(AIF,C_not.spec sX),(No,C_nar.spec dDkS)] with E:=[100,101] }
def BUH(w:Dk):Prop:=ES Try.prog BTM AIC (AJ AIC) (C_times.xs w) (AD (C_times.L w)) (C_times.val w) (C_times.keep w) [] []
abbrev Y3:=@Prod.fst (List Span) Bool
abbrev qE:=JD
abbrev qQ:=@Prod.snd (List Span) Bool
abbrev Zq a b:=yV a b b
abbrev aP a b c:=XS (Zq a b) c
abbrev Lt a b c:=aP a b (Av c)
abbrev Uy a:=cD (Pk a)
abbrev cU a:=Y3 (qE a)
abbrev Lx a b(c:Nat->Prop) d e f g h p:=CR a (BO b) c d e f g h p
abbrev Jt a(b:Nat->Prop) c d e f g h:=Lx (DK a) a b c d e f g h
abbrev Xd a(b:Nat->Prop) c d e f g h:=Jt a b c d e f g (Gd a h)
abbrev Vw a(b:Nat->Prop) c d e f:=Xd a b c LR (TE a) d e f
abbrev Xb(a:Nat->Prop)(b:Nat->Prop) c d e f g h p:=IA (AB a) b c d e f g h p
abbrev Bh(a:Nat->Prop)(b:Nat->Prop) c d e f g:=Xb a b LR (WJ c) d (VZ c) e f g
abbrev F5 a:=ZB (BN a)
abbrev K1 a:=Ci (BN a)
abbrev Te a b:=CH a (HK b)
abbrev UV a b c:=IT a (HZ b c)
abbrev Ro a b c:=UV a b (HK c)
attribute [go_sem] Y3 qE qQ Zq aP Lt Uy cU Lx Jt Xd Vw Xb Bh F5 K1 Te UV Ro
theorem BXP(w:Dk):(BUH w)=(LQ (WC w) (WR w) (YO w) (YI w) (YE w) (UZ (BN w) (λi=>AT i (BN w) (jC w i) (lM w i) (Lw w i) (Kq w i) (lA w i) (Ls w i) (Lv w i)) (λi=>JG i w) w (DI (kS w) (WC w) (WR w) (YO w) (YI w) (YE w) (uT w) (λi=>JL i (BN w)) (VP (BN w) (λi=>AU i (BN w) (jJ w i) (lO w i) (Kq w i) (Lw w i) (kX w i) (Lv w i) (Ls w i)) (λi=>JG i w) (HQ w) (K1 w) (F5 w)))) (FV (not (Ze (Pk w))) (Qo (Ed (cU w)) (DZ (qQ (qE w))) (WC w) (AI (WR w) (YO w) (YI w) (YE w) (jH w w))) (LQ (WC w) (WR w) (YO w) (YI w) (YE w) (UZ (BN w) (λi=>AT i (BN w) (jC w i) (lM w i) (Lw w i) (Kq w i) (lA w i) (Ls w i) (Lv w i)) (λi=>JG i w) w (DI (kS w) (WC w) (WR w) (YO w) (YI w) (YE w) (uT w) (λi=>JL i (BN w)) (VP (BN w) (λi=>AU i (BN w) (jJ w i) (lO w i) (Kq w i) (Lw w i) (kX w i) (Lv w i) (Ls w i)) (λi=>JG i w) (HQ w) (AH (K1 w) (F5 w) (KM (λi=>Ro (WK (BN w) i) i (BN w)))) (IA (RJ (Uy w)) (λi=>Kt i (Uy w)) (WC w) (WR w) (YO w) (YI w) (YE w) (BW (BN w)) (Vw (BN w) (λi=>AT i (BN w) (jC w i) (lM w i) (Lw w i) (Kq w i) (lA w i) (Ls w i) (Lv w i)) (Ui w) (HQ w) (kS w) (Bh (λi=>AU i (BN w) (jJ w i) (lO w i) (Kq w i) (Lw w i) (kX w i) (Lv w i) (Ls w i)) (λi=>JG i w) (BN w) (HQ w) (Te (OM (Uy w)) (BN w)) (K1 w) (F5 w))))))) (IA (ML (cU w) (Lt (Pk w) w (Uy w))) (λi=>Io i (cU w) (Lt (Pk w) w (Uy w))) (Ya (qQ (qE w)) (Lt (Pk w) w (Uy w))) (WC w) (WR w) (YO w) (YI w) (YE w) (jH w w))))):=by kernel_rfl
theorem Ee(a:CZ):CZ.mk a.c a.z=a:=rfl
theorem QM(c:Cht):(Ov c).length=c.ms.length:=rng_length _ _
theorem R5:AW Try.prog mQ (C_times.spec sX):=Je C_times (λ_=>BTM) [] [] BMI (λ_=>by kernel_rfl) (λ_=>AA BAV (AA BPE (AA BCE AK))) (λ(w:Dk) h=>by
 obtain⟨h1,h2,h3⟩:1<=w.c.ms.length/\w.c.ms.length<=40/\nsIn w.c:=h
 show BUH w;rw[BXP]<;> delta MD Iv BH BK DY EM EO CH IH AB CJ CE AY OV CG CW FV HD KA EB FX EC GY GX GR GG DV FO FU Me hd84 LW YU KM WU BN YV WT Ze cD Y3 qE qQ AH CK IW AX JE AI BC AV AF IK IN BI GJ Qo AQ JB BB AC BZ CN Eh BF MC AE AO BD HK DD LZ AZ DC BR BE BS BJ Ch AR BQ LY SZ BV HF ZK CI OC Yv BL AS BM CY Oc BY CF IE BX TV KL CU YS DN GD CX OT OR Cx OE Av FQ DF DU HY DR OU HG OD QQ EA Ql LR Gi KQ FW Qe AT yV ZS IT HE OF CR WK OM NF RG Fs AU DO DI DZ WO BO BW Zq JG AL AN AM GP ID HQ XK VX Ct NP MQ KX JC MN DK VI LS SC FT QD VW Eb TF TO HZ KS HS Gr XP EH EJ EI RL ML Fo Eo Do JL IA Ha TE Pk Fh Ff Dv MF WJ Gw Te WR Cp VZ WC YO YI Pe Kd cU YE LQ UV RJ XA Ci VQ aP Uy ZB Sy Ls Lw Ia Io Kt Gd Lv Lx Kq Ed Lt Jt Pq VP UZ kS Xd jJ lO Ui Xb kX jC Vw lM lA Ro Ya jH F5 K1 uT Bh;simp only[CC,eq_self,implies_true,forall_const,FR,fK]
 refine⟨⟨h1,h2⟩,λh=>?_,λh=>⟨⟨⟨h1,h2,h3⟩,QM _,h1,h2⟩,?_⟩⟩
 ·unfold JD;rw[h];exact⟨rfl,rfl,rfl⟩
 ·unfold JD;rw[h];exact⟨rfl,λ_ _=>⟨rfl,rfl⟩,rfl⟩) (λ_=>Kp rfl rfl) _
def DJ(a:CZ):Int:=bif AP a.c==0 then bif N7 a then bif (JD (FZ a)).2 then 0 else 6 else 2 else AP a.c
def C_rdO:Ctr:={ α:=CZ,xs:=xCZ,val:=λa=>.tup [.bptr 0 0,.d (HA (JD (FZ a)).1),.d (HA (Jp a.c)),.int 0],keep:=λa=>dkN (FZ a),pre:=λa=>[(a.c.ms.length<4611686018427387904/\a.c.ns.length<4611686018427387904/\a.z.length<4611686018427387904)/\DJ a=0] }
def C_rdX:Ctr:={ α:=CZ,xs:=xCZ,val:=λa=>.tup [.d (.v (.pointer none)),.d Ej,.d Ej,.int (DJ a)],keep:=λ_=>[],pre:=λa=>[(a.c.ms.length<4611686018427387904/\a.c.ns.length<4611686018427387904/\a.z.length<4611686018427387904)/\DJ a≠0] }
def A_rd:Ann:=ann 38 [(Zw,C_beg.spec B6),(mQ,C_times.spec sX),(BFU,C_all.spec sX)]
def CPZ:Ann:=ann 38 [(Zw,C_begX.spec B6)]
def CSP(a:CZ):Prop:=ES Try.prog A_rd AFD (AJ AFD) (xCZ a) (AD []) (C_rdO.val a) (C_rdO.keep a) [(0,2032),(1,2033)] []
abbrev XT:=CZ.mk
abbrev ADZ a b:=LX (XT a b)
abbrev AUT a b:=ADZ a (Au b)
abbrev EU a:=AUT (tY a a a) a
abbrev Qp a b:=XT a (Au b)
abbrev VC a:=Qp (Gf a) a
abbrev jF a b:=AE (EU a) b
abbrev jQ a b:=AC (EU a) b
abbrev G7 a:=FQ (EU a)
abbrev I8 a:=Ko (VC a)
abbrev Kx a:=cU (Ko a)
abbrev Hk a:=HQ (Ko a)
abbrev J6 a:=Hk (VC a)
abbrev XD a b:=JG a (Ko b)
abbrev rW a b:=XD a (VC b)
abbrev pZ a b:=AR (EU a) b
abbrev oE a b:=AS (EU a) b
abbrev Fp a b c d e:=CS a b (BM c) (BV c) (BQ c) d e
abbrev Gt a b c:=Fp (BY a) (DF a) a b c
abbrev Ga a b:=Gt a (BW a) b
abbrev Hp a(b:Nat->Prop) c d e:=Vw a b c d (MF a) e
abbrev Sg a:=MG (Yq a)
abbrev MO a b c d:=UC a b (BM c) c d
abbrev YJ a b c(d:Nat->Prop) e(f:Nat->Prop) g h:=JA (BQ a) b c (BO a) d e f g h
abbrev YZ a b c(d:Nat->Prop) e f g:=YJ a b c d (WA e) (λi=>WL i e) f g
abbrev Dl a b c:=AH a (IL b) c
abbrev Jx a b:=Dl (Aj a) b (Ad a)
abbrev Yh a b:=Jx a (FN b)
abbrev Dj a b:=AB (λi=>YC i a b)
abbrev Mq a b:=Dj a (FN b)
attribute [go_sem] XT ADZ AUT EU Qp VC jF jQ G7 I8 Kx Hk J6 XD rW pZ oE Fp Gt Ga Hp Sg MO YJ YZ Dl Jx Yh Dj Mq
theorem CXZ(a:CZ):(CSP a)=(And (MO (NX a) (NZ a) (FN a) (YZ (FN a) (Dn a a) (Mq a a) (λi=>Dz i a (Dd a i) (Dr a i) (Dh a i) (Da a i) (Ef a i) (Cz a i) (Ea a i)) a (Yh a a) (Yi a))) (FV (Sg (VC a)) VS (And (Ga (EU a) (Hp (EU a) (λi=>AT i (EU a) (AM (EU a) i) (AN (EU a) i) (oE a i) (jQ a i) (AL (EU a) i) (pZ a i) (jF a i)) (AB (λi=>rW i a)) (J6 a) (Bh (λi=>AU i (EU a) (EI (EU a) i) (EJ (EU a) i) (jQ a i) (oE a i) (EH (EU a) i) (jF a i) (pZ a i)) (λi=>rW i a) (EU a) (J6 a) (Ci (EU a)) (ZB (EU a)) (KM (λi=>Ro (WK (EU a) i) i (EU a)))))) (FV (not (qQ (qE (Zq (G7 a) (I8 a))))) VS (LQ (BY (EU a)) (DF (EU a)) (BM (EU a)) (BV (EU a)) (BQ (EU a)) (UZ (EU a) (λi=>AT i (EU a) (AM (EU a) i) (AN (EU a) i) (oE a i) (jQ a i) (AL (EU a) i) (pZ a i) (jF a i)) (λi=>rW i a) (I8 a) (QG (MF (EU a)) (BY (EU a)) (EU a) (BM (EU a)) (BV (EU a)) (BQ (EU a)) (HS (EU a)) (λi=>JL i (EU a)) (VP (EU a) (λi=>AU i (EU a) (EI (EU a) i) (EJ (EU a) i) (jQ a i) (oE a i) (EH (EU a) i) (jF a i) (pZ a i)) (λi=>rW i a) (J6 a) (Ci (EU a)) (ZB (EU a))))) (AH (ML (Kx a) (cU (Zq (G7 a) (I8 a)))) (XQ (Kx a) (cU (Zq (G7 a) (I8 a)))) (IA (ML (Lh (FN a)) (Lh (G7 a))) (λi=>Io i (Lh (FN a)) (Lh (G7 a))) BP (GM (LX a) (EU a)) (CY (LX a) (EU a)) (GO (LX a) (EU a)) (GH (LX a) (EU a)) (GK (LX a) (EU a)) (Fw (VK (LX a) (EU a)) (VH (LX a) (EU a)) (XF (LX a) (EU a)) (λi=>AU i (LX a) (PT (LX a) i (EU a)) (Gu (LX a) i (EU a) i) (AC (LX a) i) (jQ a i) (Er (LX a) i (EU a) i) (AE (LX a) i) (jF a i)) (λi=>Jw i (Dc a i) (Dc (VC a) i)) LR (λi=>Hv (LX a) i (EU a) i) (λi=>Ul a i (Yk (VC a) i)) (λi=>Gs (LX a) i (EU a) i i i))))))))):=by kernel_rfl
def CCJ(a:CZ):Prop:=ES Try.prog A_rd AFD (AJ AFD) (xCZ a) (AD []) (C_rdX.val a) [] [] []
abbrev Ek:=DJ
abbrev Wb a b c:=Jc a b b c
abbrev V2 a b:=Wb AG a b
abbrev iW a:=V2 EY a
abbrev Xa a b:=AY a (Yq b)
attribute [go_sem] Ek Wb V2 iW Xa
theorem CKE(a:CZ):(CCJ a)=(Ic (MO (NX a) (NZ a) (FN a) (YZ (FN a) (Dn a a) (Mq a a) (λi=>Dz i a (Dd a i) (Dr a i) (Dh a i) (Da a i) (Ef a i) (Cz a i) (Ea a i)) a (Yh a a) (Yi a))) (Sg (VC a)) oP (iW (Xa (Ek a) (VC a))) (Ic (Ga (EU a) (Hp (EU a) (λi=>AT i (EU a) (AM (EU a) i) (AN (EU a) i) (oE a i) (jQ a i) (AL (EU a) i) (pZ a i) (jF a i)) (AB (λi=>rW i a)) (J6 a) (Bh (λi=>AU i (EU a) (EI (EU a) i) (EJ (EU a) i) (jQ a i) (oE a i) (EH (EU a) i) (jF a i) (pZ a i)) (λi=>rW i a) (EU a) (J6 a) (Ci (EU a)) (ZB (EU a)) (KM (λi=>Ro (WK (EU a) i) i (EU a)))))) (not (qQ (qE (Zq (G7 a) (I8 a))))) oP (iW (AY (Ek a) 6)) (LQ (BY (EU a)) (DF (EU a)) (BM (EU a)) (BV (EU a)) (BQ (EU a)) (UZ (EU a) (λi=>AT i (EU a) (AM (EU a) i) (AN (EU a) i) (oE a i) (jQ a i) (AL (EU a) i) (pZ a i) (jF a i)) (λi=>rW i a) (I8 a) (QG (MF (EU a)) (BY (EU a)) (EU a) (BM (EU a)) (BV (EU a)) (BQ (EU a)) (HS (EU a)) (λi=>JL i (EU a)) (VP (EU a) (λi=>AU i (EU a) (EI (EU a) i) (EJ (EU a) i) (jQ a i) (oE a i) (EH (EU a) i) (jF a i) (pZ a i)) (λi=>rW i a) (J6 a) (Ci (EU a)) (ZB (EU a))))) VS))):=by kernel_rfl
def CGS(a:CZ):Prop:=ES Try.prog CPZ AFD (AJ AFD) (xCZ a) (AD []) (C_rdX.val a) [] [] []
theorem CNI(a:CZ):(CGS a)=(Ic (MO (NX a) (NZ a) (FN a) (YZ (FN a) (Dn a a) (Mq a a) (λi=>Dz i a (Dd a i) (Dr a i) (Dh a i) (Da a i) (Ef a i) (Cz a i) (Ea a i)) a (Yh a a) (NQ (dP a)))) (Sg (VC a)) oP (iW (Xa (Ek a) (VC a))) VS):=by kernel_rfl
theorem bD(a:CZ):Dk.mk a.c (FZ a).st (FZ a).sp=FZ a:=rfl
theorem Zu{c:Cht}(h:AP c=0):nsIn c/\∀n∈c.ns,Du n c.ms.length=true:=by
 obtain⟨h1,⟨h2,h3⟩,h4⟩:=PR h
 have hr:c.ns.all (λn=>Du n c.ms.length)=true:=by
  cases hq:c.ns.all (λn=>Du n c.ms.length) with
  |true=>rfl
  |false=>
   unfold AP at h
   rw[h1,hq] at h
   cases hm:(A6 (-1) c.ms != 0) with
   |true=>
    rw[hm] at h
    have h:A6 (-1) c.ms=0:=h
    rw[h] at hm;cases hm
   |false=>rw[hm] at h;cases h
 refine⟨λj hj=>?_,λn hn=>List.all_eq_true.1 hr n hn⟩
 unfold hasN at hj
 obtain⟨x,hx,e⟩:=List.any_eq_true.1 hj
 have e:x.mi=j:=by simpa using e
 have:=List.all_eq_true.1 hr x hx
 unfold Du PN wr at this
 rw[Ap (by omega) (by omega)] at this
 simp only[Bool.and_eq_true,decide_eq_true_eq] at this
 omega
theorem As{a:CZ}(h:DJ a=0):AP a.c=0/\N7 a=true/\(JD (FZ a)).2=true:=by
 unfold DJ at h
 cases h1:(AP a.c==0) with
 |false=>rw[h1] at h;have h:AP a.c=0:=h;rw[h] at h1;cases h1
 |true=>
  rw[h1] at h
  cases h2:N7 a with
  |false=>rw[h2] at h;cases h
  |true=>
   rw[h2] at h
   cases h3:(JD (FZ a)).2 with
   |false=>rw[h3] at h;cases h
   |true=>exact⟨by simpa using h1,rfl,rfl⟩
theorem BAR:AW Try.prog dU (C_rdO.spec B6):=Je C_rdO (λ_=>A_rd) [(0,2032),(1,2033)] [] BIE (λ_=>by kernel_rfl) (λ_=>AA ASO (AA R5 (AA BAV AK))) (λ(a:CZ) h=>by
 obtain⟨h1,h2⟩:(a.c.ms.length<4611686018427387904/\a.c.ns.length<4611686018427387904/\a.z.length<4611686018427387904)/\DJ a=0:=h
 obtain⟨c0,c1,c2⟩:=As h2
 have e:XV a=0:=by unfold XV;rw[c0,c1];rfl
 have hl:=PR c0
 have hn:=(Zu c0).1
 show CSP a;rw[CXZ]<;> delta MD BH BK DY EM EO CH IH AB CJ CE AY OV CG MY CW FV HD KA EB FX EC GY GX GR GG DV FO FU FP FS El LW US QR VS YU KM WU BN YV WT FN TW Yq Ko Lh Y3 qE qQ XT AH CK IW AX JE AI LX WE BC AV AF IK IN GJ AQ WV JB BB AC Kv BZ CN Eh BF ADZ MC AE Ei AO BD HK DD LZ AZ DC BR BE BS BJ Ch AR BQ Au IS SZ BV HF ZK CI OC AUT GQ BL Qh AS BM CY Oc tY BY ER EV CF IE BX TV CU GW YS Cy HO DN CX Cx OE FQ DF DU Gf EU HY IC DR OD QQ EA Ql LR Gi KQ HH FG FW Qe AT yV IZ Qp VV JA ZS IT HE OF OS CR BP WK NF RG Fs AU DO DI CS NZ GZ BO BW Zq JG AL AN AM LJ KO ID HQ Ct NP MQ KX MN NX DK VI JU LS SC QD JW GK MH VW XD Eb NV JZ GM GH TF TO GO HZ KS HS Gr XP PT EH EJ EI IL ML Fo Eo Al VC VB Do JL IA Ha TE Hk XE VK UC XF Fh YC Ff MF WJ Gw XR MG VZ Dj MO Mw Pe cU LQ UV Ad Aj WA WL Fp Hf Ci VH VQ Gt ZB Dl Dc Kx Io Gd QG Lx Dn Yk XQ Dd Dr Ef Dh YJ Jt Ga Cz Pq Ea Hv Da Er Jx Gu Mq Yi Wy jQ VP UZ jF Sg Jw Xd rW pZ Xb oE Gs Vw Fw Dz Ro Hp Ul Yh J6 G7 YZ I8 Bh;simp only[CC,eq_self,implies_true,forall_const,FR,fK,Uk,Ee,bD,e,c2]
 exact⟨⟨h1,c0⟩,(λh=>by simp at h),λ_=>⟨⟨by omega,by omega,hn⟩,(λh=>by cases h),by omega,by omega⟩⟩) (λ_=>Kp rfl rfl) _
theorem AZP:AW Try.prog dU (C_rdX.spec B6):=okT C_rdX (λ(a:CZ) h=>by
 obtain⟨h1,h2⟩:(a.c.ms.length<4611686018427387904/\a.c.ns.length<4611686018427387904/\a.z.length<4611686018427387904)/\DJ a≠0:=h
 by_cases c0:AP a.c=0
 ·have e:XV a=bif N7 a then 0 else 2:=by unfold XV;rw[c0];rfl
  have e2:DJ a=bif N7 a then bif (JD (FZ a)).2 then 0 else 6 else 2:=by unfold DJ;rw[c0];rfl
  have hl:=PR c0
  have hn:=(Zu c0).1
  refine Wk (A:=A_rd) (L:=[]) (keep:=[]) (ren:=[]) (fz:=[]) BIE (by kernel_rfl) (AA ASO (AA R5 (AA BAV AK))) ?_
  show CCJ a;rw[CKE]<;> delta MD Iv BH BK DY EM EO CH AB CJ CE AY CG CW FV HD KA EB FX EC GY GX GR GG DV FO FU FP FS El LW US QR VS YU KM WU BN YV WT FN TW Yq Ko qE qQ XT Ek AH CK IW AX JE AI LX WE BC AV AF IK IN BI GJ Jc Wb AQ WV JB BB AC Kv BZ CN Eh BF ADZ MC AE Ei AO BD HK DD LZ AZ DC BR BE BS BJ Ch AR BQ Au IS SZ BV HF ZK CI OC AUT GQ BL Qh AS BM CY Oc tY BY EV CF AG IE BX TV CU GW YS Cy HO DN CX Cx OE FQ DF DU Gf EU HY IC DR OD EA Ql LR Gi KQ HH FG FW Qe AT yV IZ Qp VV JA ZS IT HE OF OS CR EZ WK NF RG Fs AU DO DI CS NZ GZ BO BW Zq JG AL AN AM LJ KO ID HQ Ct NP MQ MN NX DK VI SC QD Gb VW XD Eb NV TF HZ KS HS Gr EH EJ EI EY IL Fo Eo Al VC VB Do JL IA Ha TE Hk XE UC Fh YC Ff MF WJ Gw XR MG VZ Dj MO Pe LQ UV Ad Aj WA WL Fp Ci VQ Gt ZB Dl Gd QG Lx Dn Dd Dr Ef Dh YJ Jt Ga Cz Pq Ea Da Jx Mq Yi jQ VP UZ jF Sg Xd Ic rW pZ Xb oE Vw Dz Ro Hp Yh J6 G7 YZ Xa I8 oP V2 iW Bh;simp only[CC,eq_self,implies_true,forall_const,FR,fK,Uk,Ee,bD,e]
  rw[e2] at h2 ⊢
  refine⟨⟨h1,c0⟩,?_⟩
  cases ho:N7 a with
  |false=>exact⟨λ_=>rfl,λh=>by simp at h⟩
  |true=>
   rw[ho] at h2
   cases hq:(JD (FZ a)).2 with
   |false=>exact⟨λh=>by simp at h,λ_=>⟨⟨by omega,by omega,hn⟩,λ_=>rfl,λh=>by cases h⟩⟩
   |true=>rw[hq] at h2;exact absurd rfl h2
 ·have c0':(AP a.c==0)=false:=by simpa using c0
  have e:XV a=AP a.c:=by unfold XV;rw[c0'];rfl
  have e2:DJ a=AP a.c:=by unfold DJ;rw[c0'];rfl
  refine Wk (A:=CPZ) (L:=[]) (keep:=[]) (ren:=[]) (fz:=[]) BIE (by kernel_rfl) (AA BGC AK) ?_
  show CGS a;rw[CNI]<;> delta MD Iv BH BK DY EM EO CH AB CJ CE AY FV EB FX EC GY GX GR GG DV FO FU FP FS El US QR VS YU FN TW Yq Rn XT Ek AH CK IW AX JE AI WE BC AV AF IK IN BI GJ Jc Wb AQ WV JB BB AC Kv BZ CN BF MC AE Ei AO BD DD LZ AZ DC BR BE BS BJ AR BQ Au IS BV HF CI GQ Qh AS BM tY EV CF AG IE TV CU GW Cy HO CX DU Gf HY IC DR HH FW AT IZ Qp VV JA OS EZ NZ BO AL AN AM LJ KO NX Gb NV EY IL Al VC VB XE UC NQ YC XR MG Dj MO Ad Aj WA WL Dl Dn Dd Dr Ef Dh YJ Cz Ea Da Jx Mq dP Sg Ic Dz Yh YZ Xa oP V2 iW;simp only[CC,eq_self,implies_true,forall_const,FR,Ee,e,e2]
  simp[h1,c0]) _
def bT(a:CZ):List Span×Int:=bif DJ a==0 then ((JD (FZ a)).1,0) else ([],DJ a)
def C_Times:Ctr:={ α:=CZ,xs:=xCZ,val:=λa=>.tup [.d (HA (bT a).1),.int (bT a).2],keep:=λ_=>[],pre:=λa=>[a.c.ms.length<4611686018427387904/\a.c.ns.length<4611686018427387904/\a.z.length<4611686018427387904] }
def CPY:Ann:=ann 20 [(dU,C_rdO.spec B6)]
def CPL:Ann:=ann 20 [(dU,C_rdX.spec B6)]
def CQM(a:CZ):Prop:=ES Try.prog CPY AKL (AJ AKL) (xCZ a) (AD []) (.tup [.d (HA (JD (FZ a)).1),.int 0]) [] [] []
abbrev Pf a:=FG (Ek a)
attribute [go_sem] Pf
theorem CWB(a:CZ):(CQM a)=(FY (MO (NX a) (NZ a) (FN a) (YZ (FN a) (Dn a a) (Mq a a) (λi=>Dz i a (Dd a i) (Dr a i) (Dh a i) (Da a i) (Ef a i) (Cz a i) (Ea a i)) a (Yh a a) (Pf (VC a)))) (ML (Kx a) (Kx (VC a))) (XQ (Kx a) (Kx (VC a))) BP):=by kernel_rfl
def CRQ(a:CZ):Prop:=ES Try.prog CPL AKL (AJ AKL) (xCZ a) (AD []) (.tup [.d (HA nilS),.int (DJ a)]) [] [] []
abbrev L8 a:=Ek (VC a)
attribute [go_sem] L8
theorem CTK(a:CZ):(CRQ a)=(And (MO (NX a) (NZ a) (FN a) (YZ (FN a) (Dn a a) (Mq a a) (λi=>Dz i a (Dd a i) (Dr a i) (Dh a i) (Da a i) (Ef a i) (Cz a i) (Ea a i)) a (Yh a a) (NQ (L8 a)))) (YX AG (AY (Ek a) (L8 a)))):=by kernel_rfl
theorem BNF:AW Try.prog AXK (C_Times.spec B6):=okT C_Times (λ(a:CZ) h=>by
 have h1:a.c.ms.length<4611686018427387904/\a.c.ns.length<4611686018427387904/\a.z.length<4611686018427387904:=h
 by_cases c0:DJ a=0
 ·have e:C_Times.val a=.tup [.d (HA (JD (FZ a)).1),.int 0]:=by
   show AVal.tup [.d (HA (bT a).1),.int (bT a).2]=_
   unfold bT;rw[c0];rfl
  rw[e]
  refine Wk (A:=CPY) (L:=[]) (keep:=[]) (ren:=[]) (fz:=[]) BMY (by kernel_rfl) (AA BAR AK) ?_
  show CQM a;rw[CWB]<;> delta BH BK DY EM EO CH IH AB CJ CE AY OV MY EB FX EC GY GX GR GG DV FO FU FP FS El FN TW Ko Y3 qE XT Ek AH CK IW AX JE AI WE BC AV AF IK IN AQ WV JB BB AC Kv BZ CN BF MC AE Ei AO BD DD LZ AZ DC BR BE BS BJ AR BQ Au IS BV HF CI GQ Qh AS BM tY ER EV CF IE CU GW Cy HO CX DU Gf HY IC DR QQ HH FG FW AT IZ Qp VV JA OS BP NZ BO AL AN AM LJ KO KX NX LS NV TO XP IL FY ML Pf Al VC VB XE UC YC XR Dj MO cU Ad Aj WA WL Dl Kx Io Dn XQ Dd Dr Ef Dh YJ Cz Ea Da Jx Mq Dz Yh YZ;simp only[CC,eq_self,implies_true,forall_const,FR,Ee]
  simp[h1,c0]
 ·have c0':(DJ a==0)=false:=by simpa using c0
  have e:C_Times.val a=.tup [.d (HA nilS),.int (DJ a)]:=by
   show AVal.tup [.d (HA (bT a).1),.int (bT a).2]=_
   unfold bT;rw[c0'];rfl
  rw[e]
  refine Wk (A:=CPL) (L:=[]) (keep:=[]) (ren:=[]) (fz:=[]) BMY (by kernel_rfl) (AA AZP AK) ?_
  show CRQ a;rw[CTK]<;> delta BH BK DY EM EO CH AB CJ CE AY EB FX EC GY GX GR GG DV FO FU FP FS El FN TW Rn XT Ek AH CK IW AX JE AI WE BC AV AF IK IN BI YX AQ WV JB BB AC Kv BZ CN BF MC AE Ei AO BD DD LZ AZ DC BR BE BS BJ AR BQ Au IS BV HF CI GQ Qh AS BM tY EV CF AG IE CU GW Cy HO CX DU Gf HY IC DR HH FW AT IZ Qp VV JA OS NZ BO AL AN AM LJ KO NX NV IL Al VC VB XE UC NQ YC XR Dj MO Ad Aj WA WL Dl Dn Dd Dr Ef Dh YJ Cz Ea Da Jx Mq Dz Yh YZ L8;simp only[CC,eq_self,implies_true,forall_const,FR,Ee]
  simp[h1,c0,nilS]) _
def agrE(e:Int):Bool×Int:=bif e==6 then (false,0) else (e==0,e)
def C_Agr:Ctr:={ α:=CZ,xs:=xCZ,val:=λa=>.tup [.bool (agrE (DJ a)).1,.int (agrE (DJ a)).2],keep:=λ_=>[],pre:=λa=>[a.c.ms.length<4611686018427387904/\a.c.ns.length<4611686018427387904/\a.z.length<4611686018427387904] }
def CQG:Ann:=ann 23 [(dU,C_rdO.spec B6)]
def CRE:Ann:=ann 23 [(dU,C_rdX.spec B6)]
def COV(a:CZ):Prop:=ES Try.prog CQG O2 (AJ O2) (xCZ a) (AD []) (.tup [.bool true,.int 0]) [] [] []
theorem CVV(a:CZ):(COV a)=(AH (MO (NX a) (NZ a) (FN a) (YZ (FN a) (Dn a a) (Mq a a) (λi=>Dz i a (Dd a i) (Dr a i) (Dh a i) (Da a i) (Ef a i) (Cz a i) (Ea a i)) a (Yh a a) (Pf (VC a)))) IU BP):=by kernel_rfl
def COS(a:CZ):Prop:=ES Try.prog CRE O2 (AJ O2) (xCZ a) (AD []) (C_Agr.val a) [] [] []
abbrev Wg:=@Prod.fst Bool Int
abbrev Ua:=@Prod.snd Bool Int
abbrev pR a b c d:=EZ a (DZ b) c d
abbrev oJ a:=agrE (Ek a)
attribute [go_sem] Wg Ua pR oJ
theorem CZT(a:CZ):(COS a)=(And (MO (NX a) (NZ a) (FN a) (YZ (FN a) (Dn a a) (Mq a a) (λi=>Dz i a (Dd a i) (Dr a i) (Dh a i) (Da a i) (Ef a i) (Cz a i) (Ea a i)) a (Yh a a) (NQ (L8 a)))) (pR (Og (L8 a) 6) (Wg (oJ a)) (FG (Ua (oJ a))) (And (MD (Wg (oJ a)) (Ob (L8 a))) (AY (Ua (oJ a)) (L8 a))))):=by kernel_rfl
theorem CVM:AW Try.prog BAM (C_Agr.spec B6):=okT C_Agr (λ(a:CZ) h=>by
 have h1:a.c.ms.length<4611686018427387904/\a.c.ns.length<4611686018427387904/\a.z.length<4611686018427387904:=h
 by_cases c0:DJ a=0
 ·have e:C_Agr.val a=.tup [.bool true,.int 0]:=by
   show AVal.tup [.bool (agrE (DJ a)).1,.int (agrE (DJ a)).2]=_
   rw[c0];rfl
  rw[e]
  refine Wk (A:=CQG) (L:=[]) (keep:=[]) (ren:=[]) (fz:=[]) BEH (by kernel_rfl) (AA BAR AK) ?_
  show COV a;rw[CVV]<;> delta MD BH BK DY EM EO CH AB CJ CE AY MY EB FX EC GY GX GR GG DV FO FU FP FS El LW FN TW XT Ek AH CK IW AX JE AI WE BC AV AF IK IN GJ AQ WV JB BB AC Kv BZ CN BF MC AE Ei AO BD DD LZ AZ DC BR BE BS BJ AR BQ Au IS BV HF CI GQ Qh AS BM tY ER EV CF IE CU GW Cy HO CX DU Gf HY IC DR HH FG FW AT IZ Qp VV JA OS BP NZ BO AL AN AM LJ KO NX IU NV IL Pf Al VC VB XE UC YC XR Dj MO Ad Aj WA WL Dl Dn Dd Dr Ef Dh YJ Cz Ea Da Jx Mq Dz Yh YZ;simp only[CC,eq_self,implies_true,forall_const,FR,Ee]
  simp[h1,c0]
 ·refine Wk (A:=CRE) (L:=[]) (keep:=[]) (ren:=[]) (fz:=[]) BEH (by kernel_rfl) (AA AZP AK) ?_
  show COS a;rw[CZT]<;> delta MD Iv BH BK DY EM EO CH AB CJ CE AY FV EB FX EC GY GX GR GG DV FO FU FP FS El Og FN TW Rn XT Ek Wg Ua AH CK IW AX JE AI WE BC AV AF IK IN AQ WV JB BB AC Kv BZ CN BF MC AE Ei AO BD DD LZ AZ DC BR BE BS BJ AR BQ Au IS BV HF CI GQ Qh AS BM tY EV CF IE CU GW Cy HO CX DU Gf HY IC DR HH FG FW AT IZ Qp VV JA OS EZ NZ DZ BO AL AN AM LJ KO NX NV IL Al VC VB XE UC NQ YC XR Dj MO Ad Aj WA WL Dl pR Dn Dd Dr Ef Dh YJ Cz Ea Da Jx Ob Mq oJ Dz Yh YZ L8;simp only[CC,eq_self,implies_true,forall_const,FR,Ee]
  refine⟨⟨h1,c0⟩,λh=>?_,λh=>?_⟩
  ·unfold agrE;rw[h];exact⟨rfl,rfl⟩
  ·unfold agrE;rw[h];exact⟨rfl,rfl⟩) _
end Go.Bal
