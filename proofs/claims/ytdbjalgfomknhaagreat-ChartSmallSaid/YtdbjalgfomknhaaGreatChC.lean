/- Package chart: stages. -/
import Derived.Test.YtdbjalgfomknhaaGreatChB
import Derived.Test.YtdbjalgfomknhaaGreatSym12
set_option linter.unusedVariables false
set_option linter.unusedSimpArgs false
namespace Go.Bal
open Go Go.Sym Go.Proofs
def atM(c:Cht)(k:Int):Int:=wr (c.base+wr (c.scale*(gD c.ms k.toNat).ht))
def st0(c:Cht)(k:Int):Span:=⟨wr (atM c k-c.off),wr (atM c k+c.off)⟩
def YW(c:Cht)(k:Int):Span:=bif hasN c.ns k then uN (st0 c k) (ntOf c.ns k).s else st0 c k
structure DkI where
 w:Dk
 k:Int
def dDkI:List AVal->Heap->Option (DkI×List (Nat×Nat)×List Nat)
 |[.bptr id _,.d k],H=>match ADS H id with
  |some (w,q)=>some (⟨w,KN k⟩,[(100,id),(101,q)],[])
  |none=>none
 |_,_=>none
def C_stg:Ctr:={ ro:=[100,101],α:=DkI,xs:=λa=>[.bptr 100 0,.int a.k],L:=λa=>dkL a.w,val:=λa=>.d (MV (YW a.w.c a.k)),keep:=λa=>dkK a.w,pre:=λa=>[0<=a.k/\a.k<a.w.c.ms.length] }
def COY:Ann:={ ann 61 [(zQ,C_com.spec BKP)] with E:=[100,101] }
def COP(a:DkI):Prop:=ES Try.prog COY AZO (AJ AZO) (C_stg.xs a) (AD (C_stg.L a)) (C_stg.val a) (C_stg.keep a) [] []
abbrev tB:=DkI.k
abbrev Qu:=@HMul.hMul Int Int Int (@instHMul Int Int.instMul)
abbrev Ty:=YW
abbrev Rc:=Span.mk
abbrev YG a b c d:=TQ (BX a) a b c d
abbrev Gv a b c d:=YG a (AX b) c d
abbrev Jv a b c d e f g:=CS a b (DF c) d e f g
abbrev JG a b:=Gi a (WT b a)
abbrev XA a b:=Cp a (λi=>JG i b) b
abbrev Gz a:=BN (DkI.w a)
abbrev wO a:=GR (Gz a)
abbrev Hd a b:=JQ (Qu a b)
abbrev ANN a b:=EQ (GY a) (Hd (GX a) (BS a (HM b)))
abbrev vJ a b:=ANN (Gz a) (tB b)
abbrev cX a b:=comM (SL.mk a b)
abbrev Ps a:=Me 1 (λi=>a)
abbrev UG a b c:=LS a b (OV b a) c
abbrev MK a:=CW a a
abbrev HN:=MK 1
abbrev KX a b:=CH (IH a) b
attribute [go_sem] tB Qu Ty Rc YG Gv Jv JG XA Gz wO Hd ANN vJ cX Ps UG MK HN KX
theorem CTV(a:DkI):(COP a)=(Gv (tB a) (Gz a) (YU (AEI (ADV (vB (fO (fO ADT))))) E6) (FV (YS (Gz a) (tB a)) (Aq (Bq (AF (LH (vJ a a) (wO a))) (AF (EQ (vJ a a) (wO a))) (KX (Ps (ZK (Gz a) (tB a))) 1) HN (AB (λi=>UG i (Ps (ZK (Gz a) (tB a))) (ZK (Gz a) (tB a)))) IU) (AZ (Ty (Gz a) (tB a)) (cX (Rc (LH (vJ a a) (wO a)) (EQ (vJ a a) (wO a))) (Ps (ZK (Gz a) (tB a))))) (AQ (Ty (Gz a) (tB a)) (cX (Rc (LH (vJ a a) (wO a)) (EQ (vJ a a) (wO a))) (Ps (ZK (Gz a) (tB a))))) (Gz a) (XA (Gz a) (DkI.w a))) (And (BD (Ty (Gz a) (tB a)) (LH (vJ a a) (wO a))) (Jv (BC (Ty (Gz a) (tB a)) (EQ (vJ a a) (wO a))) (BY (Gz a)) (Gz a) (BM (Gz a)) (BV (Gz a)) (BQ (Gz a)) (XA (Gz a) (DkI.w a)))))):=by kernel_rfl
theorem DAC(a:DkI)(h:0<=a.k/\a.k<a.w.c.ms.length):COP a:=by
 rw[CTV]<;> delta MD BH BK DY RD RU Mr EM EO CH IH AB CJ CE AY OV CG CW FV HD KA UI EB FX EC GY GX GR GG DV FO FU Me LW HM YU AEI ADV ADT KM WU BN YV WT tB Qu Ty Rc AH CK AX AI BC AV AF BI GJ MK AQ BB AC BZ CN Eh BF AE AO BD DD AZ DC BR BE BS BJ JQ Ch BQ LY BV ZK EQ BM CY BY CF BX TV KL YS DN GD OT OR Cx LH DF OU HG QQ DT LR Gi HN CS Xg JG GP HQ XK VX KX Gz JC VI IU LS FT TF TQ RL Hd Dv Cp vS Va Ps YG XA Aq vB fO UG Bq Gv wO ANN vJ cX Jv;simp only[CC,eq_self,implies_true,forall_const]
 cases hq:hasN a.w.c.ns a.k with
 |true=>
  have e:YW a.w.c a.k=uN (st0 a.w.c a.k) (ntOf a.w.c.ns a.k).s:=by unfold YW;rw[hq];rfl
  refine⟨h,rfl,λ_=>⟨⟨by omega,λj hj=>?_⟩,?_,?_⟩,λh=>by cases h⟩
  ·rw[FF _ _ _ hj];exact⟨rfl,rfl⟩
  ·rw[e];rfl
  ·rw[e];rfl
 |false=>
  have e:YW a.w.c a.k=st0 a.w.c a.k:=by unfold YW;rw[hq];rfl
  refine⟨h,rfl,(λh=>by cases h),λ_=>⟨?_,?_⟩⟩
  ·rw[e];rfl
  ·rw[e];rfl
theorem BOZ:AW Try.prog S4 (C_stg.spec dDkI):=Je C_stg (λ_=>COY) [] [] BXD (λ_=>by kernel_rfl) (λ_=>AA BGA AK) (λa h=>DAC a h) (λ_=>Kp rfl rfl) _
def rowS(l:List Span):AObj:=.row 2 l.length λi=>MV (gD l i)
def C4SaO:Ctr:={ ro:=[100],α:=MSa,xs:=λa=>[.own 100 2 0 a.l.length,fvSa a.q],L:=λa=>[(100,rowS a.l)],val:=λa=>.bool (a.l.all Od),keep:=λa=>[(100,.live (rowS a.l))],pre:=PSa }
def COU:List AVal->Heap->Option (MSa×List (Nat×Nat)×List Nat)
 |[.own id _ _ _,.fn _ _ _],H=>match H id with
  | .live (.row _ n g)=>some (⟨default,NK n λi=>bV (g i)⟩,[(100,id)],[])
  |_=>none
 |_,_=>none
def C4SnO:Ctr:={ ro:=[100],α:=MSn,xs:=λa=>[.own 100 2 0 a.l.length,fvSn a.q],L:=λa=>[(100,rowS a.l)],val:=λa=>.bool (a.l.all Od),keep:=λa=>[(100,.live (rowS a.l))],pre:=PSn }
def CSV:List AVal->Heap->Option (MSn×List (Nat×Nat)×List Nat)
 |[.own id _ _ _,.fn _ _ _],H=>match H id with
  | .live (.row _ n g)=>some (⟨default,NK n λi=>bV (g i)⟩,[(100,id)],[])
  |_=>none
 |_,_=>none
theorem CXI:AW Try.prog n_eS (C4SaO.spec COU):=okT C4SaO (λ(a:MSa) h=>by
 have hf:=CQU a h
 refine FnT.lend (fz:=[100]) (xs:=[.own 100 2 0 a.l.length,fvSa a.q]) (L:=[(100,rowS a.l)]) hf rfl ?_ rfl ?_ _ ?_
 ·show [AVal.d (.list 2 a.l.length (λj=>MV (gD a.l (0+j))) false),_]=_
  simp only[Nat.zero_add];rfl
 ·show 0+a.l.length<=a.l.length;omega
 ·exact⟨rfl,trivial⟩) _
theorem CHN:AW Try.prog n_eS (C4SnO.spec CSV):=okT C4SnO (λ(a:MSn) h=>by
 have hf:=DBF a h
 refine FnT.lend (fz:=[100]) (xs:=[.own 100 2 0 a.l.length,fvSn a.q]) (L:=[(100,rowS a.l)]) hf rfl ?_ rfl ?_ _ ?_
 ·show [AVal.d (.list 2 a.l.length (λj=>MV (gD a.l (0+j))) false),_]=_
  simp only[Nat.zero_add];rfl
 ·show 0+a.l.length<=a.l.length;omega
 ·exact⟨rfl,trivial⟩) _
def Jp(c:Cht):List Span:=NK c.ms.length λi=>YW c (i:Int)
def Mg(c:Cht):Bool:=(Jp c).all Od
def sX:List AVal->Heap->Option (Dk×List (Nat×Nat)×List Nat)
 |[.bptr id _],H=>match ADS H id with
  |some (w,q)=>some (w,[(100,id),(101,q)],[])
  |none=>none
 |_,_=>none
def C_all:Ctr:={ ro:=[100,101],α:=Dk,xs:=λ_=>[.bptr 100 0],L:=λw=>dkL w,val:=λw=>.tup [.d (HA (Jp w.c)),.bool (Mg w.c)],keep:=λw=>dkK w,pre:=λw=>[1<=w.c.ms.length/\w.c.ms.length<=40] }
def al3n(w:Dk):Shape:={ α:=One,dflt:=default,T:=λ_=>⟨[(0,.bptr 100 0),(4,.d Ej),(11,.int w.c.ms.length),(12,.int 0)],dkK w⟩,inv:=λ_=>True,meas:=λ_=>50 }
def al3o(w:Dk):Shape:={ α:=Nat,dflt:=0,T:=λk=>⟨[(0,.bptr 100 0),(4,.own 202 2 0 k),(11,.int w.c.ms.length),(12,.int k)],dkK w ++ [(202,.live (.row 2 k λi=>MV (YW w.c (i:Int))))]⟩,inv:=λk=>1<=k/\k<=w.c.ms.length,meas:=λk=>40-k,again:=[(202,6080)] }
def CSC(w:Dk):Ann:={ ann 25 [(S4,C_stg.spec dDkI),(n_eS,orS (C4SaO.spec COU) (C4Sa.spec d4Sa))] with E:=[100,101],mt:=λid=>id==5,loops:=λid=>if id=3 then some [al3n w,al3o w] else none }
def CQS(w:Dk):Prop:=ES Try.prog (CSC w) CAW (AJ CAW) (C_all.xs w) (AD (C_all.L w)) (C_all.val w) (C_all.keep w) [] [202]
abbrev Qr:=@Exists One
abbrev Qj:=λ(f:One->Prop)=>∀(x:One),f x
abbrev Lh:=Jp
abbrev Ze:=Mg
abbrev Lg:=@HMul.hMul Nat Nat Nat (@instHMul Nat instMulNat)
abbrev bX:=λ(x0 x1:Nat)=>decide (x0<x1)
abbrev Lf a b(c:Nat->Prop):=LF a (Qj (λi=>b)) c
abbrev Un a b c(d:Nat->Prop) e:=ON a b c (KI d) e
abbrev jH a b:=XA (BN a) b
abbrev YE a:=BQ (BN a)
abbrev YI a:=BV (BN a)
abbrev YO a:=BM (BN a)
abbrev WR a:=DF (BN a)
abbrev WC a:=BY (BN a)
abbrev Ia a:=hd84 a Od
abbrev Ya a b:=MD a (Ia b)
abbrev Ig a b:=Ty a (CG b)
abbrev Oj a b:=Ig (BN a) b
abbrev VU a b:=CW (BG a) b
abbrev KC a:=VU a a
abbrev YX a b:=AH a a b
abbrev Nq a b(c:Nat->Prop) d e:=AI a b (AB c) d e
abbrev AG:=BI 0
abbrev Jj a b c d e:=FH AG a b c d e
abbrev NF a:=CW 1 a
abbrev YP a b:=And (NF a) (CW a b)
abbrev gA a:=AX (BN a)
abbrev CR a b(c:Nat->Prop) d e f g h p:=BB a b (AB c) d e f g h p
abbrev VQ a b(c:Nat->Prop) d e f g h:=CR a b c LR d e f g h
abbrev It a b c d e:=BF a b (BD c d) (BC c e)
abbrev OZ a b c d:=NR (bX a b) c d
abbrev Rq a b c d:=OZ a b (BK c) d
abbrev Hg a b:=BK (Ig a b)
abbrev Pk a:=FQ (BN a)
abbrev Sf a b c d:=OZ a b (BH c) d
abbrev Eu a b:=BH (Ig a b)
abbrev KJ a:=IV a 1
abbrev PI a b:=CH a (KJ b)
abbrev nY a:=XK (BN a)
abbrev oM a:=GD (BN a)
abbrev Es a b:=Lg (KJ a) b
abbrev Ep a:=CW (KJ a) 9223372036854775807
abbrev SN a:=CE 0 a
abbrev Cd:=IT Iv (SN 1)
abbrev XI a b c:=And a (AV 0 b (BI c))
abbrev Bb a b:=XI a b 2
abbrev ZS a b c:=And a (DN b c)
abbrev Dt a b c:=ZS (DX a) b c
abbrev NJ a b:=Dt a (CG a) b
abbrev Gw a b c d e f g h:=Ff a b (Fs c d) (Qe e f) (Ql g h)
abbrev VZ a:=KM (λi=>Gw a i a i a i a i)
abbrev Ha a b c d:=Eo a b (WK c d)
abbrev WJ a:=KM (λi=>Ha a i a i)
abbrev Ls a b:=AR (BN a) b
abbrev Lv a b:=AE (BN a) b
abbrev kX a b:=EH (BN a) b
abbrev Lw a b:=AS (BN a) b
abbrev Kq a b:=AC (BN a) b
abbrev lO a b:=EJ (BN a) b
abbrev jJ a b:=EI (BN a) b
abbrev Gc a:=AB (λi=>JL i a)
abbrev uT a:=HS (BN a)
abbrev kS a:=MF (BN a)
abbrev Ui a:=AB (λi=>JG i a)
abbrev lA a b:=AL (BN a) b
abbrev lM a b:=AN (BN a) b
abbrev jC a b:=AM (BN a) b
abbrev Qo a b c d:=AI a a b c d
abbrev Ed a:=KX a 0
abbrev jG:=GW 0
abbrev qR a:=Ty a 0
abbrev LP a:=CH a 1
abbrev Zy a b:=FL a (HR b)
abbrev Fz a:=Zy a 0
abbrev He:=NF 9223372036854775807
abbrev PO a:=CJ IU a
abbrev Hh:=PO (SN 1)
abbrev YM a b:=And a (AV 0 0 b)
abbrev Ik a:=YM IP a
abbrev Ll a:=Ik (CH 0 a)
abbrev Ln:=Ll 2
abbrev eM a:=ZS WZ 0 a
abbrev ZZ a b:=AY a (MY b)
abbrev Si a:=ZZ a 0
abbrev Sx:=Si 0
abbrev Pw a:=NL 0 a
abbrev jV a b:=BL a b IP
abbrev Pj a b:=Qr (λi=>jV a b)
abbrev Gb a b:=TV a b Iv
abbrev EY:=AB (λi=>Gb i 0)
attribute [go_sem] Qr Qj Lh Ze Lg bX Lf Un jH YE YI YO WR WC Ia Ya Ig Oj VU KC YX Nq AG Jj NF YP gA CR VQ It OZ Rq Hg Pk Sf Eu KJ PI nY oM Es Ep SN Cd XI Bb ZS Dt NJ Gw VZ Ha WJ Ls Lv kX Lw Kq lO jJ Gc uT kS Ui lA lM jC Qo Ed jG qR LP Zy Fz He PO Hh YM Ik Ll Ln eM ZZ Si Sx Pw jV Pj Gb EY
theorem CZJ(w:Dk):(CQS w)=(Lf (Pj AG (BB EY (Kn (BN w)) BP (WC w) (WR w) (YO w) (YI w) (YE w) (jH w w))) (Un IP (Pw (MZ (BN w))) (AH Sx (WC w) (DI (WR w) (YO w) (YI w) (YE w) (BW (BN w)) (DK (BN w)) (BO (BN w)) (λi=>AT i (BN w) (jC w i) (lM w i) (Lw w i) (Kq w i) (lA w i) (Ls w i) (Lv w i)) (BB (Ui w) LR (TE (BN w)) (HQ w) (kS w) (WC w) (WR w) (YO w) (ZE (YI w) (YE w) (uT w) (Gc (BN w)) (KS (BN w)) (AB (λi=>AU i (BN w) (jJ w i) (lO w i) (Kq w i) (Lw w i) (kX w i) (Lv w i) (Ls w i))) (λi=>JG i w) (BB (WJ (BN w)) (HQ w) (VZ (BN w)) (eM (HK (BN w))) Ln (Bb HN 1) Hh He (CW 16 140737488355328)))))) (λi=>Be AG (LP i) (Kn (BN w)) (DI (Fz i) (WC w) (WR w) (YO w) (YI w) (YE w) (oM w) (λj=>GP j (BN w)) (VQ (HG (BN w)) (HI (BN w)) (λj=>JG j w) (nY w) (HQ w) (RL (BN w)) (LP i) (AB (λj=>BF j i (AZ (Oj w j) (qR (Pk w))) (AQ (Oj w j) (qR (Pk w))))))) (YP i (gA w)) (MJ 40 i 50)) (HV AG AG jG IP (Qo (Ed (Lh (BN w))) (EA (Ze (BN w))) (WC w) (AI (WR w) (YO w) (YI w) (YE w) (jH w w))))) (λi=>Un (YP i (gA w)) (Sp i (BN w)) (AH (EF i) (WC w) (DI (WR w) (YO w) (YI w) (YE w) (BW (BN w)) (DK (BN w)) (BO (BN w)) (λj=>AT j (BN w) (jC w j) (lM w j) (Lw w j) (Kq w j) (lA w j) (Ls w j) (Lv w j)) (BB (Ui w) LR (TE (BN w)) (HQ w) (kS w) (WC w) (WR w) (YO w) (ZE (YI w) (YE w) (uT w) (Gc (BN w)) (KS (BN w)) (AB (λj=>AU j (BN w) (jJ w j) (lO w j) (Kq w j) (Lw w j) (kX w j) (Lv w j) (Ls w j))) (λj=>JG j w) (BB (WJ (BN w)) (HQ w) (VZ (BN w)) (NJ i (HK (BN w))) (Bb (BI i) i) (Bb HN 1) Cd (Ep i) (CW (Es i 16) 140737488355328)))))) (λj=>Jj (AH (PI j i) (Kn (BN w)) (DI (BA j i) (WC w) (WR w) (YO w) (YI w) (YE w) (oM w) (λk=>GP k (BN w)) (VQ (HG (BN w)) (HI (BN w)) (λk=>JG k w) (nY w) (HQ w) (RL (BN w)) (PI j i) (AB (λk=>It k j (Oj w k) (Sf k i (Oj w k) (Eu (Pk w) i)) (Rq k i (Oj w k) (Hg (Pk w) i))))))) (YP j (gA w)) 40 j i) (DT AG (YX (KX (Me i (λj=>Oj w j)) i) (Nq (AB (λj=>UG j (Me i (λk=>Oj w k)) (Oj w j))) (Kd i (Me i (λj=>Oj w j))) (λj=>BF j i (AZ (Oj w j) (OV (Me i (λk=>Oj w k)) j)) (AQ (Oj w j) (OV (Me i (λk=>Oj w k)) j))) (GW (IH (Me i (λj=>Oj w j)))) IP)) (KX (Lh (BN w)) i) (IA (KC i) (λj=>UG j (Lh (BN w)) (Oj w (BG j))) (Ya (Ze (BN w)) (Me i (λj=>Oj w j))) (WC w) (WR w) (YO w) (YI w) (YE w) (jH w w))))):=by kernel_rfl
theorem DAO(w:Dk)(h:1<=w.c.ms.length/\w.c.ms.length<=40):CQS w:=by
 obtain⟨h1,h2⟩:=h
 rw[CZJ]<;> delta MD Iv BH BK DY RD RU EM EO CH IH AB CJ CE AY OV CG MY CW FV NL HD KA UI IG EB FX EC GY GX GR GG DV FO FU KI IP Me hd84 LW IV YU KM WU NR BN YV WT Ty Qr Qj Lh Ze Lg bX AH CK IW AX JE AI BC AV AF IK IN BI GJ MK YX Qo AQ JB BB AC BZ CN Eh BF MC AE AO BD HK DD LZ AZ DC BG BR BE BS BJ JQ Ch AR BQ LY SZ BV HF ZK CI OC EQ BL AS BM CY Oc BY ER FL CF AG IE HR BX TV KL CU GW YS KJ DN GD CX OT OR Cx OE FQ DF DU HY MZ DR OU HG OD QQ EA Ql DT LR Gi KQ FE FW Qe AT HN MJ ZS IT DX HE OF CR EZ JJ BA BP WK NF RG Fs AU DO DI BO BW JH JG AL AN AM GP ID HQ XK VX Ct FK MQ KX JC MN DK VI IU LS SC FT EF Gb XI Eb HI TF SN KS HS EH EJ EI Ig EY RL PO FH OZ Fo Eo VU Bb Dt KC Do JL ZZ IA ON Ha TE HV Pk LF NJ Fh Ff Dv MF WJ Gw WR Cp LP VZ WC PI YP YO YM Si YI Kd YE Ik Es XA WZ Cd VQ Hh He Oj Ep Ll Ls Eu Lw Ia Hg UG Lv Kn Ln Kq Ed Zy Gc gA Fz ZE Sx Be Lf It jG kS Pw Nq jV jJ Pj Rq lO Sp Ui Sf kX jC lM lA nY Un oM Ya jH Jj qR uT eM;simp only[CC,eq_self,implies_true,forall_const,FR]
 refine⟨⟨default,trivial⟩,⟨λh0=>⟨⟨rfl,by omega,by omega,by omega,by omega,by omega,by omega⟩,1,⟨rfl,rfl,rfl,λi hi=>?_⟩,by omega,by omega⟩,λh0=>absurd h0 (by omega)⟩,λk hk=>⟨λhlt=>⟨⟨by omega,by omega,(λh=>by cases h),by omega,by omega⟩,k+1,⟨rfl,(II (by omega)).symm,rfl,λi hi=>?_⟩,by omega,by omega⟩,λhge=>?_⟩⟩
 ·obtain rfl:i=0:=by omega
  exact⟨rfl,rfl⟩
 ·by_cases h:i<k
  ·simp[h]
  ·obtain rfl:i=k:=by omega
   simp
 ·obtain rfl:k=w.c.ms.length:=by omega
  refine⟨⟨λi hi=>?_,λi hi=>?_,by omega⟩,rng_length _ _,by omega,λj hj=>?_,rfl⟩
  ·rw[FF _ _ _ hi];exact⟨rfl,rfl⟩
  ·rw[FF _ _ _ hi];exact⟨rfl,rfl⟩
  ·have hj:j<w.c.ms.length:=by simpa[Jp] using hj
   unfold Jp;rw[FF _ _ _ hj];exact⟨rfl,rfl⟩
theorem BAV:AW Try.prog BFU (C_all.spec sX):=Je C_all CSC [] [202] CWT (λ_=>by kernel_rfl) (λ_=>AA BOZ (AA (CBE CXI DEL) AK)) (λw h=>DAO w h) (λ_=>Kp rfl rfl) _
def nilS:List Span:=[]
def Ey(c:Cht):List Span×Int:=bif AP c==0 then bif Mg c then (Jp c,0) else ([],6) else ([],AP c)
def C_Stages:Ctr:={ α:=Cht,xs:=λc=>[.d (Nj c)],val:=λc=>.tup [.d (HA (Ey c).1),.int (Ey c).2],keep:=λ_=>[],pre:=λc=>[c.ms.length<4611686018427387904/\c.ns.length<4611686018427387904] }
def BMP:Ann:=ann 24 [(Iz,C_open.spec iT),(BFU,C_all.spec sX)]
def BED:Ann:=ann 24 [(Iz,C_openX.spec iT)]
def BMT(c:Cht):Prop:=ES Try.prog BMP P3 (AJ P3) (C_Stages.xs c) (AD []) (.tup [.d (HA (bif Mg c then Jp c else [])),.int (bif Mg c then 0 else 6)]) [] [] []
abbrev BLU:=@cond (List Span)
abbrev BJZ:=@List.nil Span
abbrev Ht a b c d:=FV a (YX b c) d
abbrev Sl a b c d e:=Ht a b (AY c d) e
abbrev Qx a b c:=AH a b (FG c)
abbrev Io a b c:=XP a b (OV b a) c
abbrev XQ a b:=AB (λi=>Io i a b)
abbrev OQ a:=CO (SZ a a)
abbrev ML a b:=KX a (IH b)
abbrev UZ a(b:Nat->Prop)(c:Nat->Prop) d e:=TF (BW a) (DK a) (BO a) b c (TE a) d e
abbrev QG a b c d e f g(h:Nat->Prop) p:=DI a b (DF c) d e f g h p
abbrev Pq a(b:Nat->Prop)(c:Nat->Prop) d e f g h:=VQ a (AB b) c d e f g h
abbrev VP a(b:Nat->Prop)(c:Nat->Prop) d e f:=Pq (KS a) b c (WJ a) d (VZ a) e f
abbrev Ci a:=NF (HK a)
abbrev Ki a(b:Nat->Prop) c:=TY a b (Vj (RQ a) a) c
abbrev SA a:=GZ (FQ a)
attribute [go_sem] BLU BJZ Ht Sl Qx Io XQ OQ ML UZ QG Pq VP Ci Ki SA
theorem BWM(c:Cht):(BMT c)=(AH (Ki c (λi=>AT i c (AM c i) (AN c i) (AS c i) (AC c i) (AL c i) (AR c i) (AE c i)) (SA c)) (Bq (BY (OQ c)) (DF (OQ c)) (BM (OQ c)) (BV (OQ c)) (BQ (OQ c)) (UZ (OQ c) (λi=>AT i (OQ c) (AM (OQ c) i) (AN (OQ c) i) (AS (OQ c) i) (AC (OQ c) i) (AL (OQ c) i) (AR (OQ c) i) (AE (OQ c) i)) Bm (CM (FQ c)) (QG (MF (OQ c)) (BY (OQ c)) (OQ c) (BM (OQ c)) (BV (OQ c)) (BQ (OQ c)) (HS (OQ c)) (λi=>JL i (OQ c)) (VP (OQ c) (λi=>AU i (OQ c) (EI (OQ c) i) (EJ (OQ c) i) (AC (OQ c) i) (AS (OQ c) i) (EH (OQ c) i) (AE (OQ c) i) (AR (OQ c) i)) Bm (Bi (FQ c)) (Ci (OQ c)) (ZB (OQ c)))))) (Sl (not (Ze (FQ (OQ c)))) (Ed (BLU (Ze c) (Lh c) BJZ)) (NR (Ze c) 0 6) 6 (Qx (ML (BLU (Ze c) (Lh c) BJZ) (Lh (FQ (OQ c)))) (XQ (BLU (Ze c) (Lh c) BJZ) (Lh (FQ (OQ c)))) (NR (Ze c) 0 6)))):=by kernel_rfl
def BFH(c:Cht):Prop:=ES Try.prog BED P3 (AJ P3) (C_Stages.xs c) (AD []) (.tup [.d (HA nilS),.int (AP c)]) [] [] []
abbrev fT a:=NQ (Ao a)
attribute [go_sem] fT
theorem BPB(c:Cht):(BFH c)=(And (Ki c (λi=>AT i c (AM c i) (AN c i) (AS c i) (AC c i) (AL c i) (AR c i) (AE c i)) (fT c)) (Ht (Kl c) AG (Cm c (Ao c)) VS)):=by kernel_rfl
theorem BMV:AW Try.prog AIE (C_Stages.spec iT):=okT C_Stages (λ(c:Cht) h=>by
 obtain⟨hm,hn⟩:c.ms.length<4611686018427387904/\c.ns.length<4611686018427387904:=h
 by_cases h0:AP c=0
 ·have e:C_Stages.val c=.tup [.d (HA (bif Mg c then Jp c else [])),.int (bif Mg c then 0 else 6)]:=by
   show AVal.tup [.d (HA (Ey c).1),.int (Ey c).2]=_
   unfold Ey;rw[h0];cases Mg c<;>rfl
  have hl:=PR h0
  rw[e]
  refine Wk (A:=BMP) (L:=[]) (keep:=[]) (ren:=[]) (fz:=[]) BEA (by kernel_rfl) (AA ABR (AA BAV AK)) ?_
  show BMT c;rw[BWM]<;> delta MD Iv BH BK DY EM EO CH IH AB CJ CE AY OV CW FV EB FX EC GY GX GR GG DV FO FU US YU KM WU NR BN YV Lh Ze BLU BJZ AH CK IW AX JE AI CO BC AV AF IK IN GJ YX AQ JB BB AC BZ CN Eh BF MC AE AO BD HK DD LZ AZ DC BR BE BS BJ Ch AR BQ SZ BV HF ZK CI OC AS BM CY Oc BY CF IE TV CU GW YS CX Cx OE FQ DF DU OQ HY DR OD QQ Ql LR Gi FG FW Qe AT JA HE OF CR WK NF RG Fs AU DO DI GZ BO BW AL AN AM ID HQ Ct MQ KX MN DK VI LS SC Eb TF TO KS HS XP MR EH EJ EI IL ML Fo Eo Do JL Ha TE Bm Fh Ff MF WJ Gw VZ SA RQ Pe Bi Bf YH Ci Ht VQ ZB TY Io QG XQ Ed Pq Vj Bq VP UZ Sl Ki Qx;simp only[CC,eq_self,implies_true,forall_const,FR,AGZ]
  refine⟨⟨⟨hm,hn⟩,h0⟩,by omega,λh=>?_,λh=>?_⟩
  ·rw[h];exact⟨rfl,rfl,rfl⟩
  ·rw[h];exact⟨rfl,λ_ _=>⟨rfl,rfl⟩,rfl⟩
 ·have h0':(AP c==0)=false:=by simpa using h0
  have e:C_Stages.val c=.tup [.d (HA []),.int (AP c)]:=by
   show AVal.tup [.d (HA (Ey c).1),.int (Ey c).2]=_
   unfold Ey;rw[h0'];rfl
  rw[e]
  refine Wk (A:=BED) (L:=[]) (keep:=[]) (ren:=[]) (fz:=[]) BEA (by kernel_rfl) (AA O1 AK) ?_
  show BFH c;rw[BPB]<;> delta BH BK DY EM EO CH AB CJ CE AY FV EB FX EC GY GX GR GG DV FO FU US QR VS Rn AH CK IW AX JE AI BC AV AF IK IN BI YX AQ JB BB AC BZ CN BF MC AE AO BD HK DD LZ AZ DC BR BE BS BJ AR BQ SZ BV HF CI OC AS BM CY BY CF AG IE CU GW CX OE FQ DF DU HY DR OD FW AT JA OF BO BW AL AN AM ID MR IL NQ Ao MG RQ Bf YH Ht Cm TY Vj Kl Ki fT;simp only[CC,eq_self,implies_true,forall_const,FR]
  simp[hm,hn,h0,nilS]) _
end Go.Bal

namespace Go.Bal
open Go Go.Sym Go.Proofs
def dU2:List AVal->Option I2
 |[.d (.v (.int .u64 a)),.d (.v (.int .u64 b))]=>some ⟨a,b⟩
 |_=>none
def xU2(x:I2):List AVal:=[.d (.v (.int .u64 x.a)),.d (.v (.int .u64 x.b))]
def BTE(x:I2):Prop:=ES Try.prog (ann 51 []) BBG (AJ BBG) (xU2 x) (AD []) (.tup [.d (.v (.int .u64 0)),.d (.v (.int .u64 x.b))]) [] [] []
abbrev Wh:=I2.a
abbrev BEM:=@HPow.hPow Int Nat Int (@instHPow Int Nat (@instPowNat Int Int.instNatPow))
abbrev Qk:=I2.b
abbrev Zh a:=RD IntKind.u64 a
abbrev G3 a b:=Zh (Qu a b)
abbrev uV a b:=(@HDiv.hDiv Int Int Int (@instHDiv Int Int.instDiv)) a (BEM 2 b)
abbrev ARV a b:=uV a (HM b)
abbrev Xc a:=ARV a 32
abbrev xC a:=andI IntKind.u64 a 4294967295
abbrev kH a:=Hr a 64
attribute [go_sem] Wh BEM Qk Zh G3 uV ARV Xc xC kH
theorem CDG(x:I2):(BTE x)=(YX (And (BX 32) (kH 32)) (Yw (And (BX 32) (kH 32)) (AY 0 (Zh (UI (Zh (UI (G3 (Xc (Wh x)) (Xc (Qk x))) (Xc (Zh (UI (G3 (Xc (Wh x)) (xC (Qk x))) (Xc (G3 (xC (Wh x)) (xC (Qk x))))))))) (Xc (Zh (UI (xC (Zh (UI (G3 (Xc (Wh x)) (xC (Qk x))) (Xc (G3 (xC (Wh x)) (xC (Qk x))))))) (G3 (xC (Wh x)) (Xc (Qk x))))))))) (AY (Qk x) (G3 (Wh x) (Qk x))))):=by kernel_rfl
def AJD:=pD dU2 (λx=>.tup [.d (.v (.int .u64 0)),.d (.v (.int .u64 x.b))]) (λx=>[x.a=1/\0<=x.b/\x.b<=40])
def CRI(x:I2):Prop:=ES Try.prog (ann 30 [(AJH,AJD)]) BPI (AJ BPI) (xU2 x) (AD []) (.tup [.d (.v (.int .u64 0)),.d (.v (.int .u64 x.b))]) [] [] []
abbrev OB a:=AY a 1
attribute [go_sem] OB
theorem CUC(x:I2):(CRI x)=(Ng (OB (Wh x)) (BX (Qk x)) (qX (Qk x)) BP (AF (Qk x))):=by kernel_rfl
theorem hU2(xs:List AVal)(a:I2)(h:dU2 xs=some a):xs=xU2 a:=by
 unfold dU2 at h;split at h<;>cases h;rfl
theorem u64w{n:Int}(h0:0<=n)(h1:n<18446744073709551616):IntKind.u64.wrap n=n:=by
 simp only[IntKind.wrap,IntKind.bits,IntKind.signed]
 have:n % (2 ^ 64:Int)=n:=Int.emod_eq_of_lt h0 (by omega)
 simp only[this]
 simp
theorem BZC:AW Try.prog AJH AJD:=cC xU2 hU2 λx h=>Wk (A:=ann 51 []) (ren:=[]) (fz:=[]) BVQ (by kernel_rfl) AK (by
 show BTE x;rw[CDG]<;> delta RD AY CG HD UI HM Qu Wh BEM Qk AH AI Jc YX Yw BX uV Hr ARV Zh Xc kH G3 xC
 obtain⟨a,b⟩:=x
 obtain⟨h1,h2,h3⟩:a=1/\0<=b/\b<=40:=h
 subst h1
 obtain⟨n,rfl⟩:=Int.eq_ofNat_of_zero_le h2
 have hn:n<41:=by omega
 clear h2 h3
 revert hn;revert n;decide +kernel)
theorem CWK:AW Try.prog BQG AJD:=cC xU2 hU2 λx h=>Wk (A:=ann 30 [(AJH,AJD)]) (ren:=[]) (fz:=[]) CKT (by kernel_rfl) (AA BZC AK) (by
 show CRI x;rw[CUC]<;> delta AY MY HD Wh Qk AH AF ER BX BP OB Ng qX;exact⟨h,rfl,rfl⟩)
def sng(s:Span):List Span:=[s]
def zSp:Span:=⟨0,0⟩
structure SpN where
 s:Span
 n:Nat
def C_rep:Ctr:={ α:=SpN,xs:=λa=>[.d (HA (sng a.s)),.int a.n],val:=λa=>.own 0 2 0 a.n,keep:=λa=>[(0,.live (.row 2 a.n λ_=>MV a.s))],pre:=λa=>[1<=a.n/\a.n<=40] }
def CRD:List AVal->Heap->Option (SpN×List (Nat×Nat)×List Nat)
 |[y,.d n],H=>match rJ y H with
  |some (l,f)=>some (⟨gD l 0,(KN n).toNat⟩,[],f)
  |none=>none
 |_,_=>none
def rp8(a:SpN):Shape:={ α:=Nat,dflt:=0,T:=λk=>⟨[(7,.own 201 2 0 a.n),(8,.int k)],[(201,.live (.row 2 a.n λi=>MV (bif decide (i<k) then a.s else zSp)))]⟩,inv:=λk=>1<=k/\k<=a.n,meas:=λk=>a.n-k,first:=[(201,7032)] }
def CRC(a:SpN):Ann:={ ann 48 [(BQG,AJD)] with loops:=λid=>if id=8 then some [rp8 a] else none }
def COZ(a:SpN):Prop:=ES Try.prog (CRC a) BPX (AJ BPX) (C_rep.xs a) (AD []) (C_rep.val a) (C_rep.keep a) [(0,201)] []
abbrev BHU:Prop:=(2:Nat)=(2:Nat)
abbrev AJW(a:SpN):Nat:=(IntKind.i64.wrap (IntKind.u64.wrap (↑a.n:Int))).toNat
abbrev AXG:Prop:=(0:Nat)=(0:Nat)
abbrev BJW(a:SpN):Prop:=a.n=AJW a
abbrev BGK(a:SpN):Nat:=min (sng a.s).length (AJW a)
abbrev BFW(i:Nat)(a:Nat)(a1:SpN):Span:=bif decide (i<a) then a1.s else zSp
abbrev AKR(i:Nat)(a:Nat)(a1:SpN):Int:=(BFW i a a1).lo
abbrev BGR(i:Nat)(a:SpN):Bool:=decide (i<BGK a)
abbrev AJJ(i:Nat)(a:Nat)(a1:SpN):Int:=(BFW i a a1).hi
abbrev AXA(a:Nat)(a1:SpN):Prop:=(1:Nat)<=a/\a<=a1.n
abbrev BBF(a:Nat)(a1:SpN):Prop:=(↑a:Int)<(↑a1.n:Int)
abbrev AYS(a:Nat):Prop:=(0:Int)<=(↑a:Int)
abbrev BCB(a:Nat)(a1:SpN):Prop:=(↑a:Int)<=(↑a1.n:Int)
abbrev BBO(a:Nat):Nat:=a-(0:Nat)
abbrev X0(a:Nat):Nat:=(0:Nat)+a
abbrev U6(a:SpN)(a1:Nat):Nat:=a.n-a1
abbrev BBL(a:Nat)(a1:SpN):Nat:=min (a-Int.toNat (0:Int)) (U6 a1 a)
abbrev BCJ(a:Nat)(i:Nat)(a1:SpN):Bool:=decide (X0 a<=i)&&decide (i<X0 a+BBL a a1)
abbrev BBE(i:Nat)(a:Nat)(a1:SpN):Span:=bif decide ((0:Nat)+Int.toNat (0:Int)+(i-X0 a)<a) then a1.s else zSp
theorem CUX(a:SpN):(COZ a)=((IntKind.u64.wrap (↑(sng a.s).length:Int)=(1:Int)/\(0:Int)<=IntKind.u64.wrap (↑a.n:Int)/\IntKind.u64.wrap (↑a.n:Int)<=(40:Int))/\bif bif decide ((0:Int)>(0 :
 Int)) then true else decide (IntKind.u64.wrap (↑a.n:Int)>(9223372036854775807:Int)) then False else ((0:Int)<=IntKind.i64.wrap (IntKind.u64.wrap (↑a.n:Int))/\IntKind.i64.wrap (IntKind.u64.wrap (↑a.n:Int)) =
 IntKind.i64.wrap (IntKind.u64.wrap (↑a.n:Int))/\IntKind.i64.wrap (IntKind.u64.wrap (↑a.n:Int))<=(9223372036854775807:Int)/\(↑(16:Nat):Int)*IntKind.i64.wrap (IntKind.u64.wrap (↑a.n:Int)) <=
 (281474976710656:Int))/\((True/\((0:Nat)<(sng a.s).length->BHU))/\(AJW a).le (AJW a))/\(∃(a_1:Nat),(AXG/\BJW a/\(↑a_1:Int)=(↑(BGK a):Int)/\BJW a/\∀(i:Nat),i<a.n
 -> (AKR i a_1 a=bif BGR i a then (gD (sng a.s) i).lo else (0:Int))/\AJJ i a_1 a=bif BGR i a then (gD (sng a.s) i).hi else (0:Int))/\AXA a_1 a)/\∀(a_1:Nat),AXA a_1 a->bif decide
 (BBF a_1 a) then ((AYS a_1/\BCB a_1 a/\(↑a.n:Int)<=(↑a.n:Int)/\((↑a_1:Int)=(0:Int)∨BBF a_1 a))/\((0:Int)<=(0:Int)/\AYS a_1/\BCB a_1 a/\((0:Int)=(0:Int)∨(0 :
 Int)<(↑a_1:Int)))/\((0:Nat)+BBO a_1<=a.n/\((0:Nat)<BBO a_1->BHU))/\(X0 a_1+U6 a a_1).le a.n)/\∃(a_3:Nat),(AXG/\a.n=a.n/\(↑a_3:Int)=IntKind.i64.wrap ((↑a_1 :
 Int)+(↑(BBL a_1 a):Int))/\a.n=a.n/\∀(i:Nat),i<a.n->(AKR i a_3 a=bif BCJ a_1 i a then (BBE i a_1 a).lo else AKR i a_1 a)/\AJJ i a_3 a=bif BCJ a_1 i a then (BBE i
 a_1 a).hi else AJJ i a_1 a)/\AXA a_3 a/\U6 a a_3<U6 a a_1 else AXG/\a.n=a.n/\a.n=a.n/\∀(i:Nat),i<a.n->a.s.lo=AKR i a_1 a/\a.s.hi=AJJ i a_1 a):=by kernel_rfl
theorem DDF(a:SpN)(h:1<=a.n/\a.n<=40):COZ a:=by
 obtain⟨h1,h2⟩:=h
 have e1:IntKind.u64.wrap (a.n:Int)=a.n:=u64w (by omega) (by omega)
 have e2:IntKind.i64.wrap (a.n:Int)=a.n:=Ap (by omega) (by omega)
 have e3:(sng a.s).length=1:=rfl
 rw[CUX];delta BHU AJW AXG BJW BGK BFW AKR BGR AJJ AXA BBF AYS BCB BBO X0 U6 BBL BCJ BBE;simp only[CC,eq_self,implies_true,forall_const,e1,e2,e3,Nat.sub_zero,Int.toNat_zero]
 refine⟨⟨rfl,by omega,by omega⟩,λh=>?_,λ_=>⟨⟨by omega,by omega,by omega⟩,by omega,⟨1,⟨by omega,λi hi=>?_⟩,by omega,by omega⟩,λk hk=>⟨λhlt=>⟨⟨by omega,by omega,by omega⟩,min (2*k) a.n,⟨?_,λi hi=>?_⟩,by omega,by omega⟩,λhge i hi=>?_⟩⟩⟩
 ·simp at h;omega
 ·by_cases h:i<1
  ·obtain rfl:i=0:=by omega
   have:0<min 1 a.n:=by omega
   simp[this];exact⟨rfl,rfl⟩
  ·have:¬ i<min 1 a.n:=by omega
   simp[h,this,zSp]
 ·rw[Ap (by omega) (by omega)];omega
 ·have e:(decide (k<=i)&&decide (i<k+min k (a.n-k)))=(decide (k<=i)&&decide (i<min (2*k) a.n)):=by
   congr 1;rw[decide_eq_decide];omega
  rw[e]
  by_cases q1:k<=i
  ·by_cases q2:i<min (2*k) a.n
   ·have q3:i-k<k:=by omega
    simp[q1,q2,q3]
   ·have q4:¬ i<k:=by omega
    simp[q1,q2,q4]
  ·have q2:i<min (2*k) a.n:=by omega
   have q3:i<k:=by omega
   simp[q1,q2,q3]
 ·have:i<k:=by omega
  simp[this]
theorem CUH:AW Try.prog BPS (C_rep.spec CRD):=Je C_rep CRC [(0,201)] [] CKF (λ_=>by kernel_rfl) (λ_=>AA CWK AK) (λa h=>DDF a h) (λ_=>Kp rfl rfl) _
def dSs1:List AVal->Heap->Option (List Span×List (Nat×Nat)×List Nat)
 |[y],H=>match rJ y H with
  |some (l,f)=>some (l,[],f)
  |none=>none
 |_,_=>none
def C_clo:Ctr:={ α:=List Span,xs:=λl=>[.d (HA l)],val:=λl=>.own 0 2 0 l.length,keep:=λl=>[(0,.live (rowS l))],pre:=λl=>[0<l.length/\l.length<1073741824] }
def CQK:Ann:={ ann 8 [] with mt:=λid=>id==3 }
def CRJ(l:List Span):Prop:=ES Try.prog CQK AZA (AJ AZA) (C_clo.xs l) (AD []) (C_clo.val l) (C_clo.keep l) [(0,4032)] []
abbrev Sz a b c d:=AI a b c c d
abbrev pP a b c:=Sz a AG b c
abbrev pY a b(c:Nat->Prop):=pP a b (AB c)
abbrev VD a b c d e f:=AI a b c d (CW e f)
abbrev PF a b c d e:=VD a b c d e 140737488355328
abbrev Fx a b c d e f:=PF a (Bb b c) d e f
abbrev Nv a b:=Lg (BG a) b
abbrev Mn a:=VU a 9223372036854775807
abbrev Jk a:=IT Iv (SN a)
abbrev YF:=BI 2
attribute [go_sem] Sz pP pY VD PF Fx Nv Mn Jk YF
theorem CVS(l:List Span):(CRJ l)=(And (HU 0 (IH l)) (pY (Fx (YM AG YF) IP (IH l) (Jk (IH l)) (Mn (IH l)) (Nv (IH l) 16)) (KX l (BG (IH l))) (λi=>TO i l (OV l i) l (QI i)))):=by kernel_rfl
theorem BOO:AW Try.prog AII (C_clo.spec dSs1):=Je C_clo (λ_=>CQK) [(0,4032)] [] BWT (λ_=>by kernel_rfl) (λ_=>AK) (λ(l:List Span) h=>by
 show CRJ l;rw[CVS]<;> delta MD Iv BH BK CH IH AB CJ CE AY OV CW IG IP LW IV ED Lg AH AI BC AV BI Sz AQ BF BD AZ BG AG QQ EA IT HU KX LS XI VD TO SN VU Bb PF Fx YM QI YF pP pY Jk Nv Mn;simp only[CC,eq_self,implies_true,forall_const]
 obtain⟨h1,h2⟩:0<l.length/\l.length<1073741824:=h
 exact⟨h1,⟨λ_=>h1,by omega,by omega⟩,λ_ _=>⟨rfl,rfl⟩⟩) (λ_=>Kp rfl rfl) _
def farS:Span:=⟨-100000000,100000000⟩
def iK(c:Cht)(j:Int):Span:=bif hasN c.ns j then (ntOf c.ns j).t else farS
def Ov(c:Cht):List Span:=NK c.ms.length λi=>iK c (i:Int)
structure Sn where
 seen:Int->Bool
 deriving Inhabited
def left(c:Cht)(seen:Int->Bool):Nat->Nat
 |0=>0
 |k+1=>left c seen k+bif (hasN c.ns (k:Int)&&!seen (k:Int)) then 1 else 0
def nt3(w:Dk):Shape:={ α:=Sn,dflt:=default,T:=λs=>⟨[(3,.own 202 2 0 w.c.ms.length),(19,.bptr 203 0)],dkK w ++ [(202,.live (.row 2 w.c.ms.length λi=>MV (bif s.seen (i:Int) then (ntOf w.c.ns (i:Int)).t else farS))),(203,.live (.miter 101 (hasN w.c.ns) w.st s.seen none))]⟩,inv:=λs=>∀j,s.seen j=true->hasN w.c.ns j=true,meas:=λs=>left w.c s.seen w.c.ms.length,first:=[(202,2128),(203,3064)] }
def nsIn(c:Cht):Prop:=∀j,hasN c.ns j=true->0<=j/\j<c.ms.length
def C_not:Ctr:={ ro:=[100,101],α:=Dk,xs:=λ_=>[.bptr 100 0],L:=λw=>dkL w,val:=λw=>.d (HA (Ov w.c)),keep:=λw=>dkK w,pre:=λw=>[1<=w.c.ms.length/\w.c.ms.length<=40/\nsIn w.c] }
def CSX(w:Dk):Ann:={ ann 31 [(BPS,C_rep.spec CRD)] with E:=[100,101],md:=λid=>if id=2 then some (λk=>if k=4 then 5 else 0) else if id=3 then some (λk=>if k=0 then 6 else 0) else if id=4 then some (λk=>if k=0 then 7 else 0) else none,loops:=λid=>if id=3 then some [nt3 w] else none }
def CSY(w:Dk):Prop:=ES Try.prog (CSX w) BHO (AJ BHO) (C_not.xs w) (AD (C_not.L w)) (C_not.val w) (C_not.keep w) [] [202]
abbrev AJR:=@cond Span
abbrev yA:=Sn.seen
abbrev sT:=farS
abbrev cD:=Ov
abbrev Ev a b c:=MR a (GD a) (λi=>GP i a) (HG a) (λi=>FT i a) b c
abbrev NU a b c d:=NR (WW a b) c d
abbrev ZX a:=BG (HM a)
abbrev YD a b c d:=NU a (ZX b) c d
abbrev BDQ a b:=Ch (BN a) b
abbrev D1 a b:=BDQ a (CG b)
abbrev E3 a b:=yA a (CG b)
abbrev WY a b c:=EX (BX a) a b c
abbrev XZ a b:=HU (ZX a) b
abbrev H4 a:=cD (BN a)
abbrev Af:=BI 1
attribute [go_sem] AJR yA sT cD Ev NU ZX YD BDQ D1 E3 WY XZ H4 Af
theorem CUF(w:Dk):(CSY w)=(DT Af (VD HN (AB (λi=>It i 1 (OV (sng (OV (Ps (Rc (-100000000) 100000000)) 0)) i) (-100000000) 100000000)) (Kn (BN w)) (NF (gA w)) (gA w) 40) ((@Exists Sn) (λi=>And (AI AG (oM w) (WC w) (WR w) (Ev (BN w) (Ui w) (yN LR (nY w) (HQ w) (RL (BN w)) (oM w) (AB (λj=>KL j (BN w) (AZ (AJR (E3 i j) (D1 w j) sT) (OV (Ps (Rc (-100000000) 100000000)) 0)) (AQ (AJR (E3 i j) (D1 w j) sT) (OV (Ps (Rc (-100000000) 100000000)) 0)))) (HQ w) (KM (λj=>DZ (yA i j)))))) (KM (λj=>IT (yA i j) (EA (YS (BN w) j)))))) ((λ(f:Sn->Prop)=>∀(x:Sn),f x) (λi=>CJ (KM (λj=>IT (yA i j) (EA (YS (BN w) j)))) (FY (nY w) (HQ w) (CJ (KM (λj=>IT (YS (BN w) j) (EA (yA i j)))) (CR (FW (IH (H4 w)) (BN w)) (KC (gA w)) (λj=>UG j (H4 w) (AJR (E3 i (BG j)) (D1 w (BG j)) sT)) (WC w) (WR w) (YO w) (YI w) (YE w) (jH w w))) (KM (λj=>IT (YS (BN w) j) (CJ (DZ (yA i j)) (FY (nY w) (HQ w) (WY j (gA w) (XZ j (gA w))) ((@Exists Sn) (λk=>AH (AI AG (oM w) (WC w) (WR w) (Ev (BN w) (Ui w) (yN LR (nY w) (HQ w) (RL (BN w)) (oM w) (AB (λl=>KL l (BN w) (BD (AJR (E3 k l) (D1 w l) sT) (YD l j (BH (BDQ w j)) (BH (AJR (E3 i l) (D1 w l) sT)))) (BC (AJR (E3 k l) (D1 w l) sT) (YD l j (BK (BDQ w j)) (BK (AJR (E3 i l) (D1 w l) sT)))))) (HQ w) (KM (λl=>MD (yA k l) (or (BES l j) (yA i l))))))) (KM (λl=>IT (yA k l) (EA (YS (BN w) l)))) (CE (left (BN w) (yA k) (gA w)) (left (BN w) (yA i) (gA w))))))))))))):=by kernel_rfl
theorem BRI(c:Cht)(s t:Int->Bool)(h:∀j,s j=true->t j=true):∀k,left c t k<=left c s k
 |0=>Nat.le_refl _
 |k+1=>by
  have ih:=BRI c s t h k
  have hk:=h (k:Int)
  simp only[left]
  cases hN:hasN c.ns (k:Int)<;>cases h1:s (k:Int)<;>cases h2:t (k:Int)<;>simp_all<;>omega
theorem BUI(c:Cht)(s t:Int->Bool)(h:∀j,s j=true->t j=true){j:Nat}(h0:hasN c.ns (j:Int)=true)(h1:s (j:Int)=false)(h2:t (j:Int)=true):∀k,j<k->left c t k<left c s k
 |0,hj=>by omega
 |k+1,hj=>by
  by_cases e:j=k
  ·subst e
   have:=BRI c s t h j
   simp only[left,h0,h1,h2]
   simp;omega
  ·have ih:=BUI c s t h h0 h1 h2 k (by omega)
   have hk:=h (k:Int)
   simp only[left]
   cases hN:hasN c.ns (k:Int)<;>cases h3:s (k:Int)<;>cases h4:t (k:Int)<;>simp_all<;>omega
theorem DAU(w:Dk)(h:1<=w.c.ms.length/\w.c.ms.length<=40/\nsIn w.c):CSY w:=by
 obtain⟨h1,h2,h3⟩:=h
 rw[CUF]<;> delta MD Iv BH BK DY EM EO CH IH AB CJ CE AY OV CG CW HD KA EB FX EC GY GX GR GG DV FO FU Me LW HM IV YU KM WU ED NR BES BN YV WT WW Rc AJR yA sT cD AH CK AX AI BC AV AF BI GJ MK AQ BB AC BZ CN Eh BF AE AO BD DD AZ DC BG BR BE BS BJ Ch BQ LY yN BV ZK BL BM CY BY CF AG BX TV KL NU YS DN GD OT OR Cx DF MZ OU HG QQ EA DT LR Gi FW HN ZX JA IT CR EX NF DZ HU JG GP HQ XK VX JC VI LS FT VD TF MR RL FY VU KC Dv WR Cp WC Ev YO YI YE Ps XA XZ Af YD WY UG Kn gA BDQ It Ui nY D1 oM E3 jH H4;simp only[CC,eq_self,implies_true,forall_const]
 refine⟨⟨by omega,λj hj=>?_,by omega,h2⟩,⟨⟨λ_=>false⟩,⟨λi hi=>⟨rfl,rfl⟩,λ_=>rfl⟩,λj hj=>by cases hj⟩,λs hs=>⟨λhall=>⟨rng_length _ _,Nat.le_refl _,λj hj=>?_⟩,λk hk hsk=>⟨⟨h3 k hk,by have:=h3 k hk;omega⟩,⟨λn=>decide (n=k)||s.seen n⟩,⟨λi hi=>?_,λ_=>rfl⟩,λj hj=>?_,?_⟩⟩⟩
 ·obtain rfl:j=0:=by omega
  exact⟨rfl,rfl⟩
 ·have hj:j<w.c.ms.length:=by simpa[Ov] using hj
  have e:s.seen (j:Int)=hasN w.c.ns (j:Int):=by
   cases hq:hasN w.c.ns (j:Int) with
   |true=>exact hall _ hq
   |false=>
    cases hq2:s.seen (j:Int) with
    |false=>rfl
    |true=>rw[hs _ hq2] at hq;cases hq
  unfold Ov;rw[FF _ _ _ hj,e];exact⟨rfl,rfl⟩
 ·have hk0:=h3 k hk
  have e:decide ((i:Int)=k)=decide (i=k.toNat):=by
   rw[Bool.eq_iff_iff,decide_eq_true_eq,decide_eq_true_eq];omega
  simp only[e]
  by_cases hi2:i=k.toNat
  ·have:(i:Int)=k:=by omega
   rw[this];simp[hi2]
  ·simp[hi2]
 ·simp only[Bool.or_eq_true,decide_eq_true_eq] at hj
  rcases hj with rfl | hj
  ·exact hk
  ·exact hs j hj
 ·have hk0:=h3 k hk
  have e:((k.toNat:Nat):Int)=k:=by omega
  exact BUI w.c _ _ (λj hj=>by simp[hj]) (j:=k.toNat) (by rw[e];exact hk) (by rw[e];exact hsk) (by rw[e];simp) _ (by omega)
theorem BPE:AW Try.prog AIF (C_not.spec sX):=Je C_not CSX [] [202] CBD (λ_=>by kernel_rfl) (λ_=>AA CUH AK) (λw h=>DAU w h) (λ_=>Kp rfl rfl) _
end Go.Bal
