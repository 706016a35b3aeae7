/- ChartStages: the law's walk. -/
import Derived.Test.YtdbjalgfomknhaaGreatChZg
import Derived.Test.YtdbjalgfomknhaaGreatChZp0
import Derived.Test.YtdbjalgfomknhaaGreatChM
import Derived.Test.YtdbjalgfomknhaaGreatChK
import Derived.Test.YtdbjalgfomknhaaGreatChZa
set_option linter.unusedVariables false
set_option linter.unusedSimpArgs false
namespace Go.Bal
open Go Go.Sym Go.Proofs
structure StI where
 a:CZ
 t:Int
 f:Int
 o:Int
 s:Int
def xSt(x:StI):List AVal:=[.d (Nj x.a.c),.d (GB x.a.z),.int x.t,.int x.f,.int x.o,.int x.s]
def A_St:Ann:=ann 124 [(X4,C_big.spec AVQ),(ABX,AIK),(BAB,C_cpC.spec iT),(AWM,C_cpI.spec AMD),(oG,C_law.spec iT),(AXQ,C_Stage.spec dCZI),(AZW,C_Stage.spec dCZI),(BIS,C_Peak.spec dCZ2),(BIX,C_Peak.spec dCZ2),(AXH,C_First.spec dCZI),(AYQ,C_First.spec dCZI),(AXM,C_smI.spec AMD),(zR,C_smC.spec AVQ)]
def V_St(x:StI):Prop:=ES Try.prog A_St AOI (AJ AOI) (xSt x) (AD []) (.bool true) [] [] []
abbrev Tx:=StI.a
abbrev AIL:=StI.t
abbrev AVZ:=CZI.mk
abbrev AHW:=StI.f
abbrev AJY:=StI.o
abbrev BAK:=CZ2.mk
abbrev BIR a b:=yJ (AVZ a (StI.s b))
abbrev HP a:=FN (Tx a)
abbrev qS a:=BBJ (HP a) (HP a)
abbrev Vi a:=Kv (Tx a)
abbrev lB a:=Cy (Tx a)
abbrev aG a:=JE (lB a) (Vi a)
abbrev C1 a:=Qp (AYN (Ei (Tx a)) (HP a) (aG a) (qS a)) (Tx a)
abbrev bS a b:=BIR (C1 a) b
abbrev Db a:=Au (Tx a)
abbrev AFP a:=oR (AYN (Ei (Tx a)) (HP a) (aG a) (qS a)) (Db a)
abbrev pL a b:=BIR (AFP a) b
abbrev vM a b:=KE (IB a b) Iv
abbrev aK a:=DV (qS a)
abbrev aN a:=EB (aG a)
abbrev Pv a b:=Ax (qS a) b
abbrev Ph a b:=Ay (qS a) b
abbrev uE a b:=OS (aG a) b
abbrev cY a:=NZ (Tx a)
abbrev dK a:=NX (Tx a)
abbrev lQ a b:=AR (HP a) b
abbrev lS a b:=AS (HP a) b
abbrev J5 a b:=AHH (aK a) (HP b)
abbrev D2 a b:=CH (aN a) (lB b)
abbrev X8 a:=GW (aK a)
abbrev Y1 a:=GW (aN a)
attribute [go_sem] Tx AIL AVZ AHW AJY BAK BIR HP qS Vi lB aG C1 bS Db AFP pL vM aK aN Pv Ph uE cY dK lQ lS J5 D2 X8 Y1
theorem DAM(x:StI):(V_St x)=(And (vK (dK x) (cY x) (HP x) (FW (lB x) (HP x)) (λi=>VB i (lB x) (OS (Vi x) i) (HP x) (Vi x)) (BO (HP x)) (AB (λi=>AT i (HP x) (AM (HP x) i) (AN (HP x) i) (lS x i) (AC (HP x) i) (AL (HP x) i) (lQ x i) (AE (HP x) i)))) (Cg (bigV (tP (Tx x) (HP x))) (UP (bF (Tx x)) 45) IU (AI (MO (dK x) (cY x) (HP x) (IY (BQ (HP x)) (FW (lB x) (HP x)) (λi=>VB i (lB x) (OS (Vi x) i) (HP x) (Vi x)) (BO (HP x)) (λi=>AT i (HP x) (AM (HP x) i) (AN (HP x) i) (lS x i) (AC (HP x) i) (AL (HP x) i) (lQ x i) (AE (HP x) i)) (And (MI (lB x)) (Ss (HP x))) (XE (Db x) (Tx x)) (AB (λi=>XR i (Db x) (Tx x))) (uS (FP (Db x))))) (AH (dK x) (cY x) (YH (HP x) (FW (lB x) (HP x)) (λi=>VB i (lB x) (OS (Vi x) i) (HP x) (Vi x)) (λi=>AT i (HP x) (AM (HP x) i) (AN (HP x) i) (lS x i) (AC (HP x) i) (AL (HP x) i) (lQ x i) (AE (HP x) i)) (CW (lB x) 42) (Om (HP x) 42))) (Fp (dK x) (cY x) (HP x) (D2 x x) (IY (AB (λi=>Nx i (aN x) (uE x i) (Vi x) i (aG x) i i)) (J5 x x) (λi=>BJ i (aK x) (dV (qS x) i (HP x)) (MQ (Ph x i) (HP x) i) (Ph x i) (lS x i) (MN (Pv x i) (HP x) i) (Pv x i) (lQ x i)) (HL (Db x)) (λi=>QE i (Db x)) (AF (AIL x)) (Y1 x) (X8 x) (PG (Db x)))) (Fp (dK x) (cY x) (HP x) (D2 x x) (IY (AB (λi=>Nx i (aN x) (uE x i) (Vi x) i (aG x) i i)) (J5 x x) (λi=>BJ i (aK x) (dV (qS x) i (HP x)) (MQ (Ph x i) (HP x) i) (Ph x i) (lS x i) (MN (Pv x i) (HP x) i) (Pv x i) (lQ x i)) (XE (Db x) (Tx x)) (λi=>XR i (Db x) (Tx x)) (AF (AIL x)) (Y1 x) (X8 x) (NV (Db x)))) (bE (QR (L2 (AVZ (AFP x) (AIL x))) (L2 (AVZ (C1 x) (AIL x)))) (kQ (bN (AVZ (AFP x) (AIL x))) (BH (bN (AVZ (C1 x) (AIL x)))) (BK (bN (AVZ (C1 x) (AIL x))))) (DT (dK x) (CS (cY x) (BM (HP x)) (BV (HP x)) (BQ (HP x)) (D2 x x) (AB (λi=>Nx i (aN x) (uE x i) (Vi x) i (aG x) i i)) (IA (J5 x x) (λi=>BJ i (aK x) (dV (qS x) i (HP x)) (MQ (Ph x i) (HP x) i) (Ph x i) (lS x i) (MN (Pv x i) (HP x) i) (Pv x i) (lQ x i)) (HL (Db x)) (QW (Db x)) (AF (AHW x)) (AF (AJY x)) (Y1 x) (X8 x) (PG (Db x)))) (And (dK x) (CS (cY x) (BM (HP x)) (BV (HP x)) (BQ (HP x)) (D2 x x) (AB (λi=>Nx i (aN x) (uE x i) (Vi x) i (aG x) i i)) (IA (J5 x x) (λi=>BJ i (aK x) (dV (qS x) i (HP x)) (MQ (Ph x i) (HP x) i) (Ph x i) (lS x i) (MN (Pv x i) (HP x) i) (Pv x i) (lQ x i)) (XE (Db x) (Tx x)) (AB (λi=>XR i (Db x) (Tx x))) (AF (AHW x)) (AF (AJY x)) (Y1 x) (X8 x) (NV (Db x))))) (bE (QR (wL (BAK (AFP x) (AHW x) (AJY x))) (wL (BAK (C1 x) (AHW x) (AJY x)))) (kQ (Vm (BAK (AFP x) (AHW x) (AJY x))) (BH (Vm (BAK (C1 x) (AHW x) (AJY x)))) (BK (Vm (BAK (C1 x) (AHW x) (AJY x))))) (FY (Fp (dK x) (cY x) (HP x) (D2 x x) (IY (AB (λi=>Nx i (aN x) (uE x i) (Vi x) i (aG x) i i)) (J5 x x) (λi=>BJ i (aK x) (dV (qS x) i (HP x)) (MQ (Ph x i) (HP x) i) (Ph x i) (lS x i) (MN (Pv x i) (HP x) i) (Pv x i) (lQ x i)) (HL (Db x)) (λi=>QE i (Db x)) (AF (StI.s x)) (Y1 x) (X8 x) (PG (Db x)))) (Fp (dK x) (cY x) (HP x) (D2 x x) (IY (AB (λi=>Nx i (aN x) (uE x i) (Vi x) i (aG x) i i)) (J5 x x) (λi=>BJ i (aK x) (dV (qS x) i (HP x)) (MQ (Ph x i) (HP x) i) (Ph x i) (lS x i) (MN (Pv x i) (HP x) i) (Pv x i) (lQ x i)) (XE (Db x) (Tx x)) (λi=>XR i (Db x) (Tx x)) (AF (StI.s x)) (Y1 x) (X8 x) (NV (Db x)))) (And (IT (IB (IB (Og (pT (pL x x)) (pT (bS x x))) (kQ (mE (pL x x)) (BH (mE (bS x x))) (BK (mE (bS x x))))) (tM (rX (pL x x)) (rX (bS x x)))) (FY (dK x) (cY x) (BM (HP x)) (Dp (HP x) (D2 x x) (AB (λi=>Nx i (aN x) (uE x i) (Vi x) i (aG x) i i)) (J5 x x) (λi=>BJ i (aK x) (dV (qS x) i (HP x)) (MQ (Ph x i) (HP x) i) (Ph x i) (lS x i) (MN (Pv x i) (HP x) i) (Pv x i) (lQ x i)) (dK x) (cY x) (MR (HP x) (FW (aN x) (HP x)) (λi=>VB i (aN x) (uE x i) (HP x) (aG x)) (CH (aK x) (AO (HP x))) (λi=>BJ i (aK x) (DR (PH (qS x) i) (HP x) i) (CX (Ph x i) (HP x) i) (Ph x i) (AC (HP x) i) (CU (Pv x i) (HP x) i) (Pv x i) (AE (HP x) i)) (MI (aN x)) (MI (aK x)))))) (IT (vM (IB (Og (pT (pL x x)) (pT (bS x x))) (kQ (mE (pL x x)) (BH (mE (bS x x))) (BK (mE (bS x x))))) (tM (rX (pL x x)) (rX (bS x x)))) (ARC (Db x) (TW (Tx x))))) (MD LW (KE (Nw (IB (IB (Og (pT (pL x x)) (pT (bS x x))) (kQ (mE (pL x x)) (BH (mE (bS x x))) (BK (mE (bS x x))))) (tM (rX (pL x x)) (rX (bS x x)))) Iv Iv) Iv))))))))):=by kernel_rfl
theorem CNN{c:Cht}(h:bigV c=false):c.ms.length<=42/\c.ns.length<=22:=by
 unfold bigV at h
 simp only[Bool.or_eq_false_iff,decide_eq_false_iff_not] at h
 omega
theorem p_St(x:StI):V_St x:=by
 rw[DAM]<;> delta MD N6 Iv BH BK DY EM EO CH AB CJ CE AY CG CW FV EB FX EC GY GX GR GG DV FO FU FP FS El Og LW WB QR ED FN TW XT sN zY mE rX pT tM yJ Tx AIL AVZ AHW AJY BAK AH CK IW AX JE AI WE BC AV AF IK IN GJ AQ WV JB BB AC Kv BZ CN BF MC AE Ei AO BD DD LZ AZ DC BR BE BS BJ AR BQ WQ Au IS AYN BV HF CI HP GQ BBJ Qh AS BM EV CF IE CU GW Cy HO CX DU tP HY IC DR EA DT KQ oR HH FW AT IZ Ax Qp VV JA qS IT Ay OS Vi RG CS lB NZ DZ HU PH BO AL AN AM LJ KO NP MQ MN NX IU KE Kr HL aG vK Mc NV Db IB QE MR FY VB IA UP IY XE AHH UC MI XR PG O6 dV QW QP MO Cg Vf aK aN BIR YH Fp Pn Ph Pv Dp C1 AFP Vm Om bN uS Nw pL bS dK lI cY bF jI G0 lS qP lQ Ss bE uE wL Nx vM J5 D2 X8 kQ Y1 L2 ARC;simp only[CC,eq_self,implies_true,forall_const,FR,Ee]
 simp only[bne_self_eq_false,beq_self_eq_true,Bool.and_self,Bool.not_true,cond_false,cond_true,Bool.false_eq_true,false_implies,true_and,forall_const]
 intro h0
 simp only[Bool.cond_true_left,Bool.or_eq_false_iff,decide_eq_false_iff_not] at h0
 obtain⟨hB,hz⟩:=h0
 obtain⟨b1,b2⟩:=CNN hB
 exact⟨by omega,by omega,by omega,by omega,by omega,by omega,by omega,by omega,by omega,trivial⟩
end Go.Bal

namespace Go.Bal
open Go Go.Sym Go.Proofs
def BSY:List AVal->Heap->Option (List Pr×List (Nat×Nat)×List Nat)
 |y :: _,H=>match dPrs y H with
  |some (l,f)=>some (l,[],f)
  |none=>none
 |_,_=>none
def C_cpP:Ctr:={ α:=List Pr,xs:=λl=>[.d (aZ l)],L:=λ_=>[],val:=λl=>.d (aZ l),keep:=λ_=>[],pre:=λl=>[l.length<1073741824] }
def CPK(l:List Pr):Prop:=ES Try.prog (ann 7 []) BHG (AJ BHG) (C_cpP.xs l) (AD []) (C_cpP.val l) [] [] []
theorem CYA(l:List Pr):(CPK l)=(LF (Fx Ln IP (GA l) (Jk (GA l)) (Mn (GA l)) (Nv (GA l) 16)) (JI l (BG (GA l))) (λi=>NY i l l (QI i) l (QI i))):=by kernel_rfl
def lp3n(l:List Pr):Shape:={ α:=One,dflt:=default,T:=λ_=>⟨[(0,.d (aZ l)),(3,.d Ej),(4,.int 0)],[]⟩,inv:=λ_=>True,meas:=λ_=>1073741825 }
def lp3o(l:List Pr):Shape:={ α:=Nat,dflt:=0,T:=λk=>⟨[(0,.d (aZ l)),(3,.own 202 2 0 k),(4,.int k)],[(202,.live (.row 2 k λi=>ePr (gD l i)))]⟩,inv:=λk=>1<=k/\k<=l.length,meas:=λk=>1073741824-k,again:=[(202,6096)] }
def lp6(l:List Pr)(z:List Nat):Shape:={ α:=One,dflt:=default,T:=λ_=>⟨[(3,.d (aZ l))],[]⟩,inv:=λ_=>True,meas:=λ_=>0,ffz:=z }
def CSD(l:List Pr):Ann:={ ann 19 [] with mt:=λid=>id==5,loops:=λid=>if id=3 then some [lp3n l,lp3o l] else none,cut:=λid=>if id=6 then some [lp6 l [],lp6 l [202]] else none }
def CST(l:List Pr):Prop:=ES Try.prog (CSD l) AFS (AJ AFS) (C_cpP.xs l) (AD []) (C_cpP.val l) [] [] []
abbrev aO a b c d e f:=LM a b c d e c f
attribute [go_sem] aO
theorem CXH(l:List Pr):(CST l)=(M7 (Lf (Dg (AI (BI (GA l)) (AB (λi=>aR i (GA l) (Wt l i) l i)) AG EY BP)) (Un IP (Pw (CG (GA l))) (EX WZ 0 (GA l) Hq) (λi=>AH (jD (GA l) (AB (λj=>aR j (GA l) (Wt l j) l j)) (Mi AG (LP i) (Fz i) (AB (λj=>aO j i l j (LV l Cn) (LU l Cn))))) (YP i (GA l)) (MJ 1073741824 i 1073741825)) (Dg (oW (JI l 0)))) (λi=>OO (YP i (GA l)) i (GA l) (CL i (GA l) (Hi i)) (KI (λj=>IF (jD (GA l) (AB (λk=>aR k (GA l) (Wt l k) l k)) (Mi AG (PI j i) (BA j i) (AB (λk=>aO k j l k (OZ k i (LV l k) (LV l i)) (OZ k i (LU l k) (LU l i)))))) (YP j (GA l)) 1073741824 j i)) (Dg (LF (JI l i) (KC i) (λj=>NY j l l (BG j) l (BG j)))))) (Dw (JK (BI (GA l)) (λi=>aR i (GA l) (Wt l i) l i)))):=by kernel_rfl
theorem CTZ:AW Try.prog BGZ (C_cpP.spec BSY):=Je C_cpP (λ_=>ann 7 []) [] [] CCX (λ_=>by kernel_rfl) (λ_=>AK) (λ(l:List Pr) h=>by
 show CPK l;rw[CYA]<;> delta MD Iv CH AB CJ CE AY CW IG IP LW IV Lg JM JF GA QB AH AI AV BI BF BG CI EA LU LV IT JI LM XI VD MP SN LL NY VU Bb PF LF Fx YM Ik QI Ll Ln Jk Nv Mn;simp only[CC,eq_self,implies_true,forall_const]
 have h:l.length<1073741824:=h
 exact⟨⟨λh=>absurd h (Nat.lt_irrefl 0),(λh=>by cases h),by omega,by omega⟩,λi hi=>by rw[Nat.sub_zero];exact⟨rfl,rfl⟩⟩) (λ_=>Kp rfl rfl) _
theorem DCC(l:List Pr)(h:l.length<1073741824):CST l:=by
 have w01:IntKind.i64.wrap ((0:Int)+1)=1:=rfl
 rw[CXH]<;> delta MD Iv RD RU CH AB CJ CE AY CG MY CW FV NL HD KA UI IG KI IP LW HM IV NR Qr Qj Lg bX JM JF GA QB AH AI AV AF M7 oW BI GJ MK Mi BF BG JQ CI EQ BL ER FL AG HR BX TV KJ DN EA LU FE LV HN MJ IT DX EZ EX JJ BA BP NF HW JH FK JI IU LM Gb XI VD MP SN CL aO LL EY NY JY PO OZ VU Bb JK KC Cn IF ON PF LF LP Fx PI YP YM Ik Es WZ Cd OO Hh He Qv Ep Ll Xn eO Ln Dw Zy Dg jD Wt AMN Fz Lf Hi Pw Hq Un aR;simp only[CC,eq_self,implies_true,forall_const,w01]
 refine⟨⟨default,trivial⟩,⟨λhl=>⟨⟨⟨by omega,by omega⟩,by omega,by omega,by omega,by omega,by omega⟩,1,⟨rfl,rfl,rfl,λi hi=>?_⟩,⟨by omega,by omega⟩,by omega⟩,λhl=>⟨default,by omega⟩⟩,λk ⟨k1,k2⟩=>⟨λhl=>⟨⟨⟨by omega,by omega⟩,by omega,(λh=>by cases h),by omega,by omega⟩,k+1,⟨rfl,(II (by omega)).symm,rfl,λi hi=>?_⟩,⟨by omega,by omega⟩,by omega⟩,λhl=>⟨default,by omega,Nat.le_refl _⟩⟩⟩
 ·obtain rfl:i=0:=by omega
  exact⟨rfl,rfl⟩
 ·by_cases e:i<k
  ·rw[decide_eq_true e];exact⟨rfl,rfl⟩
  ·rw[decide_eq_false e]
   obtain rfl:i=k:=by omega
   exact⟨rfl,rfl⟩
theorem CXR:AW Try.prog AHJ (C_cpP.spec BSY):=Je C_cpP CSD [] [] BMS (λ_=>by kernel_rfl) (λ_=>AK) (λ(l:List Pr) h=>DCC l h) (λ_=>Kp rfl rfl) _
theorem BVY(l:List Pr):samP ⟨l,l⟩=true:=by
 have:∀k,eqN (eqP ⟨l,l⟩) k=true:=λk=>by
  induction k with
  |zero=>rfl
  |succ k ih=>
   show (eqN (eqP ⟨l,l⟩) k&&((gD l k).a==(gD l k).a&&(gD l k).b==(gD l k).b))=true
   rw[ih,beq_self_eq_true,beq_self_eq_true];rfl
 show (l.length==l.length&&eqN (eqP ⟨l,l⟩) l.length)=true
 rw[this,beq_self_eq_true];rfl
end Go.Bal

namespace Go.Bal
open Go Go.Sym Go.Proofs
theorem CRS{l s:Nat->Span}(hs:∀g,(s g).lo<=(s g).hi):∀(n:Nat),(∀i,i<=n->(fw l s i).lo<=(fw l s i).hi)->∀y,(fw l s n).has y->∃t,Tr l s n t/\t n=y
 |0,_,y,hy=>⟨λ_=>y,⟨λi hi=>(Nat.le_zero.1 hi) ▸ hy,λg hg=>absurd hg (Nat.not_lt_zero _)⟩,rfl⟩
 |n+1,hne,y,hy=>by
  have h1:=hs n
  have h2:=hne n (by omega)
  have h5:=(hZ.1 hy).2
  obtain⟨t,ht,e⟩:=CRS hs n (λi hi=>hne i (by omega)) (HJ (fw l s n).lo (y-(s n).hi)) (by
   generalize fw l s n=F at *
   unfold Span.has HJ at *;simp only at h5 ⊢;split<;>omega)
  refine⟨_,ht.ext (hZ.1 hy).1 ?_,by simp⟩
  rw[e]
  generalize fw l s n=F at *
  unfold Span.has HJ at *;simp only at h5 ⊢;split<;>omega
def sumL(s:Nat->Span):Nat->Int
 |0=>0
 |g+1=>sumL s g+(s g).lo
def iH(s:Nat->Span):Nat->Int
 |0=>0
 |g+1=>iH s g+(s g).hi
theorem CML(a b:Int):HJ a b=a∨HJ a b=b:=by unfold HJ;split<;>simp
theorem CIW(a b:Int):QC a b=a∨QC a b=b:=by unfold QC;split<;>simp
theorem CQE(l s:Nat->Span):∀i,∃k,k<=i/\(fw l s i).lo=(l k).lo-sumL s k+sumL s i
 |0=>⟨0,Nat.le_refl _,by show (l 0).lo=_;omega⟩
 |i+1=>by
  obtain⟨k,hk,e⟩:=CQE l s i
  rcases CML (l (i+1)).lo ((fw l s i).lo+(s i).lo) with h | h
  ·exact⟨i+1,Nat.le_refl _,by show HJ _ _=_;rw[h];omega⟩
  ·refine⟨k,by omega,?_⟩
   have e2:sumL s (i+1)=sumL s i+(s i).lo:=rfl
   show HJ (l (i+1)).lo ((fw l s i).lo+(s i).lo)=_
   rw[h,e2,e];omega
theorem CQP(l s:Nat->Span):∀i,∃k,k<=i/\(fw l s i).hi=(l k).hi-iH s k+iH s i
 |0=>⟨0,Nat.le_refl _,by show (l 0).hi=_;omega⟩
 |i+1=>by
  obtain⟨k,hk,e⟩:=CQP l s i
  rcases CIW (l (i+1)).hi ((fw l s i).hi+(s i).hi) with h | h
  ·exact⟨i+1,Nat.le_refl _,by show QC _ _=_;rw[h];omega⟩
  ·refine⟨k,by omega,?_⟩
   have e2:iH s (i+1)=iH s i+(s i).hi:=rfl
   show QC (l (i+1)).hi ((fw l s i).hi+(s i).hi)=_
   rw[h,e2,e];omega
theorem DCD{l s:Nat->Span}{n:Nat}(hs:∀g,(s g).lo<=(s g).hi)(h:∀i k j,i<=n->k<=i->j<=i->(l k).lo-sumL s k+sumL s i<=(l j).hi-iH s j+iH s i):∃t,Tr l s n t:=by
 have hne:∀i,i<=n->(fw l s i).lo<=(fw l s i).hi:=λi hi=>by
  obtain⟨k,k1,k2⟩:=CQE l s i
  obtain⟨j,j1,j2⟩:=CQP l s i
  rw[k2,j2];exact h i k j hi k1 j1
 obtain⟨t,ht,_⟩:=CRS hs n hne (fw l s n).lo ⟨Int.le_refl _,hne n (Nat.le_refl n)⟩
 exact⟨t,ht⟩
def iS(c:Cht)(i:Nat):Int:=(gD c.ms i).pl
theorem ChOk.pl_le{c:Cht}(h:ChOk c){j k:Nat}(hjk:j<=k)(hk:k<c.ms.length):iS c j<=iS c k:=by
 induction k with
 |zero=>
  obtain rfl:j=0:=by omega
  exact Int.le_refl _
 |succ k ih=>
  rcases Nat.lt_or_ge j (k+1) with q | q
  ·have:=ih (by omega) (by omega)
   have u:=h.up k hk
   unfold iS at *;omega
  ·obtain rfl:j=k+1:=by omega
   exact Int.le_refl _
theorem ChOk.pl_in{c:Cht}(h:ChOk c){j k:Nat}(hj:j<c.ms.length)(hk:k<c.ms.length):iS c k-iS c j<=10000 /\ -10000<=iS c k-iS c j:=by
 have a:=(h.mks j hj).1
 have b:=(h.mks k hk).1
 unfold iS;omega
theorem TrC.upto{c:Cht}{sp:Nat->Bool}{t:Nat->Int}(h:TrC c sp t){j:Nat}:∀{k:Nat},j<=k->k<c.ms.length->(∀g,j<=g->g<k->sp g=false)->t k-t j<=c.p.hi*iS c k-c.p.hi*iS c j
 |0,hj,_,_=>by
  obtain rfl:j=0:=by omega
  omega
 |k+1,hj,hk,hn=>by
  rcases Nat.lt_or_ge j (k+1) with q | q
  ·have ih:=h.upto (j:=j) (k:=k) (by omega) (by omega) (λg a b=>hn g a (by omega))
   have g:=(h.gap k (by omega)).2
   have g:t (k+1)-t k<=bif sp k then 200000000 else c.p.hi*(iS c (k+1)-iS c k):=g
   rw[hn k (by omega) (by omega)] at g
   have g:t (k+1)-t k<=c.p.hi*(iS c (k+1)-iS c k):=g
   rw[Int.mul_sub] at g
   omega
  ·obtain rfl:j=k+1:=by omega
   omega
theorem TrC.least{c:Cht}{sp:Nat->Bool}{t:Nat->Int}(h:TrC c sp t){j:Nat}:∀{k:Nat},j<=k->k<c.ms.length->c.p.lo*iS c k-c.p.lo*iS c j<=t k-t j
 |0,hj,_=>by
  obtain rfl:j=0:=by omega
  omega
 |k+1,hj,hk=>by
  rcases Nat.lt_or_ge j (k+1) with q | q
  ·have ih:=h.least (j:=j) (k:=k) (by omega) (by omega)
   have g:=(h.gap k (by omega)).1
   have g:c.p.lo*(iS c (k+1)-iS c k)<=t (k+1)-t k:=g
   rw[Int.mul_sub] at g
   omega
  ·obtain rfl:j=k+1:=by omega
   omega
def ltM(c:Cht)(j k:Nat):Prop:=c.p.hi*iS c k-c.p.hi*iS c j<(iK c k).lo-(iK c j).hi
theorem BWA{c:Cht}{sp:Nat->Bool}{t:Nat->Int}(h:TrC c sp t){j k:Nat}(hjk:j<=k)(hk:k<c.ms.length)(hl:ltM c j k):∃g,j<=g/\g<k/\sp g=true:=by
 refine Classical.byContradiction λhn=>?_
 have:=h.upto hjk hk λg a b=>by
  cases hs:sp g with
  |false=>rfl
  |true=>exact absurd ⟨g,a,b,hs⟩ hn
 have n1:=h.note (i:=j) (by omega)
 have n2:=h.note (i:=k) hk
 unfold ltM at hl
 unfold Span.has at n1 n2
 omega
def Xi(c:Cht)(sp:Nat->Bool)(g:Nat):Span:=bif decide (g+1<c.ms.length) then gapP c sp g else⟨0,0⟩
theorem E9{c:Cht}{sp:Nat->Bool}{g:Nat}(h:g+1<c.ms.length):Xi c sp g=gapP c sp g:=by unfold Xi;rw[decide_eq_true h];rfl
theorem BRC{c:Cht}(h:ChOk c)(sp:Nat->Bool)(g:Nat):(Xi c sp g).lo<=(Xi c sp g).hi:=by
 by_cases q:g+1<c.ms.length
 ·rw[E9 q];exact (h.gap sp q).2.2
 ·unfold Xi;rw[decide_eq_false q];exact Int.le_refl _
theorem BHH{c:Cht}{sp:Nat->Bool}:∀{i:Nat},i<c.ms.length->sumL (Xi c sp) i=c.p.lo*iS c i-c.p.lo*iS c 0
 |0,_=>by show (0:Int)=_;omega
 |i+1,h=>by
  have ih:=BHH (c:=c) (sp:=sp) (i:=i) (by omega)
  show sumL (Xi c sp) i+(Xi c sp i).lo=_
  rw[ih,E9 h]
  show _+c.p.lo*(iS c (i+1)-iS c i)=_
  rw[Int.mul_sub];omega
theorem AWO{c:Cht}(h:ChOk c)(sp:Nat->Bool){j:Nat}:∀{i:Nat},j<=i->i<c.ms.length->c.p.lo*iS c i-c.p.lo*iS c j<=iH (Xi c sp) i-iH (Xi c sp) j
 |0,hj,_=>by
  obtain rfl:j=0:=by omega
  omega
 |i+1,hj,hi=>by
  rcases Nat.lt_or_ge j (i+1) with q | q
  ·have ih:=AWO h sp (j:=j) (i:=i) (by omega) (by omega)
   have g:=BRC h sp i
   rw[E9 hi] at g
   have g:c.p.lo*(iS c (i+1)-iS c i)<=(gapP c sp i).hi:=g
   rw[Int.mul_sub] at g
   have e:iH (Xi c sp) (i+1)=iH (Xi c sp) i+(gapP c sp i).hi:=by show iH (Xi c sp) i+(Xi c sp i).hi=_;rw[E9 hi]
   rw[e];omega
  ·obtain rfl:j=i+1:=by omega
   omega
theorem BUO{c:Cht}(sp:Nat->Bool){j:Nat}:∀{k:Nat},j<=k->k<c.ms.length->(∀g,j<=g->g<k->sp g=false)->iH (Xi c sp) k-iH (Xi c sp) j=c.p.hi*iS c k-c.p.hi*iS c j
 |0,hj,_,_=>by
  obtain rfl:j=0:=by omega
  omega
 |k+1,hj,hk,hn=>by
  rcases Nat.lt_or_ge j (k+1) with q | q
  ·have ih:=BUO (c:=c) sp (j:=j) (k:=k) (by omega) (by omega) (λg a b=>hn g a (by omega))
   have e:iH (Xi c sp) (k+1)=iH (Xi c sp) k+(gapP c sp k).hi:=by show iH (Xi c sp) k+(Xi c sp k).hi=_;rw[E9 hk]
   have e2:(gapP c sp k).hi=c.p.hi*(iS c (k+1)-iS c k):=by
    show (bif sp k then (200000000:Int) else c.p.hi*Cw c k)=_
    rw[hn k (by omega) (by omega)];rfl
   rw[e,e2,Int.mul_sub];omega
  ·obtain rfl:j=k+1:=by omega
   omega
theorem BGP{c:Cht}(h:ChOk c)(sp:Nat->Bool){j k:Nat}(hjk:j<=k)(hk:k<c.ms.length):iH (Xi c sp) j<=iH (Xi c sp) k:=by
 have:=AWO h sp hjk hk
 have p:=h.pl_le hjk hk
 have q:c.p.lo*iS c j<=c.p.lo*iS c k:=Int.mul_le_mul_of_nonneg_left p (by have:=h.p;omega)
 omega
theorem BWQ{c:Cht}(h:ChOk c)(sp:Nat->Bool){j k g:Nat}(h1:j<=g)(h2:g<k)(hk:k<c.ms.length)(hs:sp g=true):200000000<=iH (Xi c sp) k-iH (Xi c sp) j:=by
 have a:=BGP h sp h1 (show g<_ by omega)
 have b:=BGP h sp (show g+1<=k by omega) hk
 have e:iH (Xi c sp) (g+1)=iH (Xi c sp) g+(gapP c sp g).hi:=by show iH (Xi c sp) g+(Xi c sp g).hi=_;rw[E9 (by omega)]
 have e2:(gapP c sp g).hi=200000000:=by
  show (bif sp g then (200000000:Int) else c.p.hi*Cw c g)=_
  rw[hs];rfl
 omega
theorem BVH{c:Cht}(h:ChOk c)(j:Int):(hasN c.ns j=true->0<=(iK c j).lo/\(iK c j).hi<=10000000)/\(hasN c.ns j=false->iK c j=⟨-100000000,100000000⟩):=by
 unfold iK
 constructor
 ·intro hj
  rw[hj]
  have:=(h.nt _ (rY hj).1).t
  show 0<=(ntOf c.ns j).t.lo/\(ntOf c.ns j).t.hi<=10000000
  omega
 ·intro hj;rw[hj];rfl
theorem CZP{c:Cht}(h:ChOk c){sp0:Nat->Bool}{t0:Nat->Int}(ht:TrC c sp0 t0){sp:Nat->Bool}(hl:∀j k,j<k->k<c.ms.length->hasN c.ns j=true->hasN c.ns k=true->ltM c j k->∃g,j<=g/\g<k/\sp g=true):∃t,TrC c sp t:=by
 have hm:=h.m
 have main:∃t,Tr (λi=>iK c i) (Xi c sp) (c.ms.length-1) t:=DCD (BRC h sp) λi k j hi hk hj=>by
  have hi:i<c.ms.length:=by omega
  rw[BHH hi,BHH (show k<_ by omega)]
  have nk:=BVH h (k:Int)
  have nj:=BVH h (j:Int)
  have bk:=ADD h (k:Int)
  have bj:=ADD h (j:Int)
  unfold nL at bk bj
  rcases Nat.lt_or_ge j k with q | q
  ·have s1:=AWO h sp (show k<=i by omega) hi
   have main:(iK c (k:Int)).lo<=(iK c (j:Int)).hi+(iH (Xi c sp) k-iH (Xi c sp) j):=by
    have up:=BGP h sp (Nat.le_of_lt q) (show k<_ by omega)
    cases ek:hasN c.ns (k:Int) with
    |false=>rw[nk.2 ek];show (-100000000:Int)<=_;omega
    |true=>
     cases ej:hasN c.ns (j:Int) with
     |false=>rw[nj.2 ej];show _<=(100000000:Int)+_;have:=nk.1 ek;omega
     |true=>
      have a:=nk.1 ek
      have b:=nj.1 ej
      by_cases hs:∃g,j<=g/\g<k/\sp g=true
      ·obtain⟨g,g1,g2,g3⟩:=hs
       have:=BWQ h sp g1 g2 (show k<_ by omega) g3
       omega
      ·have e:=BUO (c:=c) sp (Nat.le_of_lt q) (show k<_ by omega) λg a b=>by
        cases hg:sp g with
        |false=>rfl
        |true=>exact absurd ⟨g,a,b,hg⟩ hs
       have:¬ ltM c j k:=λhq=>hs (hl j k q (by omega) ej ek hq)
       unfold ltM at this
       omega
   omega
  ·have s1:=AWO h sp hj hi
   have l1:=ht.least (j:=k) (k:=j) q (by omega)
   have n1:=ht.note (i:=k) (by omega)
   have n2:=ht.note (i:=j) (by omega)
   unfold Span.has at n1 n2
   omega
 obtain⟨t,ht⟩:=main
 exact⟨t,ht.ext2 (λ_ _=>rfl) (λg hg=>E9 (by omega))⟩
theorem iB(c:Cht):(IM c).length=c.ns.length:=by
 have:=(V6 (aE c) (idL c.ns.length)).length_eq
 unfold IM idL at *
 rw[this,rng_length]
theorem H6(c:Cht){i:Nat}(hi:i<c.ns.length):∃j:Nat,j<c.ns.length/\gD (IM c) i=(j:Int):=by
 have h:gD (IM c) i∈IM c:=OH (by rw[iB];exact hi)
 have h:=((V6 (aE c) (idL c.ns.length)).mem_iff).1 h
 obtain⟨j,hj,e⟩:=Df h
 unfold idL at hj e
 rw[rng_length] at hj
 rw[FF _ _ _ hj] at e
 exact⟨j,hj,e.symm⟩
theorem BNT(c:Cht):(IM c).Nodup:=by
 have h:(idL c.ns.length).Nodup:=by
  unfold idL NK
  rw[List.nodup_iff_pairwise_ne,List.pairwise_map]
  exact List.Pairwise.imp (λh=>by omega) (List.pairwise_lt_range)
 exact ((V6 (aE c) (idL c.ns.length)).nodup_iff).2 h
theorem ADA(c:Cht){j:Nat}(hj:j<c.ns.length):∃i,i<c.ns.length/\gD (IM c) i=(j:Int):=by
 have h:(j:Int)∈idL c.ns.length:=by
  have:gD (idL c.ns.length) j∈idL c.ns.length:=OH (by unfold idL;rw[rng_length];exact hj)
  unfold idL at this ⊢
  rwa [FF _ _ _ hj] at this
 have h:=((V6 (aE c) (idL c.ns.length)).mem_iff).2 h
 obtain⟨i,hi,e⟩:=Df (show (j:Int)∈IM c from h)
 exact⟨i,by rwa [iB] at hi,e⟩
def mO(c:Cht)(k:Nat):Int:=miA c (gD (IM c) k)
theorem BFF{c:Cht}(h:ChOk c){i k:Nat}(hik:i<k)(hk:k<c.ns.length):mO c i<mO c k:=by
 have s:mO c i<=mO c k:=BQI (aE c) (idL c.ns.length) i k hik (by unfold idL;rw[rng_length];omega)
 obtain⟨a,ha,ea⟩:=H6 c (show i<_ by omega)
 obtain⟨b,hb,eb⟩:=H6 c hk
 have ne:a≠b:=λe=>by
  subst e
  have hn:=BNT c
  rw[List.nodup_iff_pairwise_ne,List.pairwise_iff_getElem] at hn
  have:=hn i k (by rw[iB];omega) (by rw[iB];omega) hik
  rw[<-eb] at ea
  unfold gD at ea
  rw[List.getD_eq_getElem?_getD,List.getD_eq_getElem?_getD,List.getElem?_eq_getElem (by rw[iB];omega),List.getElem?_eq_getElem (by rw[iB];omega)] at ea
  exact this ea
 have d:mO c i≠mO c k:=by
  unfold mO miA
  rw[ea,eb]
  show (gD c.ns a).mi≠(gD c.ns b).mi
  rcases Nat.lt_or_gt_of_ne ne with q | q
  ·exact h.one a b q hb
  ·exact (h.one b a q ha).symm
 omega
theorem BEW{c:Cht}(h:ChOk c){k:Nat}(hk:k<c.ns.length):0<=mO c k/\mO c k<c.ms.length:=by
 obtain⟨b,hb,eb⟩:=H6 c hk
 unfold mO miA
 rw[eb]
 exact (h.nt _ (OH hb)).mi
theorem ASD{c:Cht}(h:ChOk c){a b:Nat}(ha:a<c.ns.length)(hb:b<c.ns.length):Eg c ⟨a,b⟩=true↔ltM c (gD c.ns a).mi.toNat (gD c.ns b).mi.toNat:=by
 have oa:=h.nt _ (OH ha)
 have ob:=h.nt _ (OH hb)
 have ma:=oa.mi
 have mb:=ob.mi
 have ea:iK c ((gD c.ns a).mi.toNat:Int)=(gD c.ns a).t:=by
  rw[Int.toNat_of_nonneg ma.1]
  unfold iK
  rw[iR.2 ⟨_,OH ha,rfl⟩,h.ntOf (OH ha)];rfl
 have eb:iK c ((gD c.ns b).mi.toNat:Int)=(gD c.ns b).t:=by
  rw[Int.toNat_of_nonneg mb.1]
  unfold iK
  rw[iR.2 ⟨_,OH hb,rfl⟩,h.ntOf (OH hb)];rfl
 have pl:=h.pl_in (j:=(gD c.ns a).mi.toNat) (k:=(gD c.ns b).mi.toNat) (by omega) (by omega)
 have ta:=oa.t
 have tb:=ob.t
 have hp:=h.p
 have e1:wr (iS c (gD c.ns b).mi.toNat-iS c (gD c.ns a).mi.toNat)=iS c (gD c.ns b).mi.toNat-iS c (gD c.ns a).mi.toNat:=Ap (by omega) (by omega)
 have e2:wr ((gD c.ns b).t.lo-(gD c.ns a).t.hi)=(gD c.ns b).t.lo-(gD c.ns a).t.hi:=Ap (by omega) (by omega)
 have u1:c.p.hi*(iS c (gD c.ns b).mi.toNat-iS c (gD c.ns a).mi.toNat)<=c.p.hi*10000:=Int.mul_le_mul_of_nonneg_left pl.1 (by omega)
 have u2:c.p.hi*(-10000)<=c.p.hi*(iS c (gD c.ns b).mi.toNat-iS c (gD c.ns a).mi.toNat):=Int.mul_le_mul_of_nonneg_left pl.2 (by omega)
 have e3:wr (c.p.hi*(iS c (gD c.ns b).mi.toNat-iS c (gD c.ns a).mi.toNat))=c.p.hi*(iS c (gD c.ns b).mi.toNat-iS c (gD c.ns a).mi.toNat):=Ap (by omega) (by omega)
 have e4:c.p.hi*(iS c (gD c.ns b).mi.toNat-iS c (gD c.ns a).mi.toNat)=c.p.hi*iS c (gD c.ns b).mi.toNat-c.p.hi*iS c (gD c.ns a).mi.toNat:=Int.mul_sub _ _ _
 show decide (wr ((gD c.ns b).t.lo-(gD c.ns a).t.hi)>wr (c.p.hi*wr (iS c (gD c.ns b).mi.toNat-iS c (gD c.ns a).mi.toNat)))=true↔_
 rw[e1,e2,e3,e4,decide_eq_true_eq]
 unfold ltM
 rw[ea,eb]
def ltO(c:Cht)(i k:Nat):Prop:=ltM c (mO c i).toNat (mO c k).toNat
theorem BJQ{c:Cht}(h:ChOk c){la:Int}{i k:Nat}(hi:i<c.ns.length)(hk:k<c.ns.length):fwP c la (gD (IM c) k) (gD (IM c) i)=true↔la<mO c i/\ltO c i k:=by
 obtain⟨a,ha,ea⟩:=H6 c hi
 obtain⟨b,hb,eb⟩:=H6 c hk
 unfold fwP ltO mO
 rw[ea,eb]
 by_cases q:miA c (a:Int)>la
 ·rw[decide_eq_true q]
  show Eg c ⟨a,b⟩=true↔_
  rw[ASD h ha hb]
  exact⟨λx=>⟨q,x⟩,λx=>x.2⟩
 ·rw[decide_eq_false q]
  exact⟨λx=>(by cases x),λx=>absurd x.1 q⟩
structure FwI(c:Cht)(k:Nat)(s:FwS):Prop where
 la:-1<=s.la/\s.la+1<c.ms.length+1
 mem:s.la=-1∨s.la∈s.q
 q:∀g∈s.q,(0<=g/\g+1<c.ms.length)/\g<=s.la
 up:s.q.Pairwise (· < ·)
 nx:∀i,i<c.ns.length->k<=i->s.la<mO c i
 met:∀i j,i<j->j<k->ltO c i j->∃g∈s.q,mO c i<=g/\g<mO c j
 min:∀(sp:Nat->Bool) (t:Nat->Int) (z:List Int),TrC c sp t->(∀g:Nat,sp g=true->(g:Int)∈z)->s.q.length<=(z.filter (λx=>decide (x<=s.la))).length
theorem BKV{z:List Int}{a b x:Int}(hx:x∈z)(h1:a<x)(h2:x<=b):(z.filter (λy=>decide (y<=a))).length+1<=(z.filter (λy=>decide (y<=b))).length:=by
 have mono:∀l:List Int,(l.filter (λy=>decide (y<=a))).length<=(l.filter (λy=>decide (y<=b))).length:=λl=>by
  induction l with
  |nil=>exact Nat.le_refl _
  |cons y l ih=>
   rw[List.filter_cons,List.filter_cons]
   by_cases q:y<=a
   ·have:y<=b:=by omega
    simp[q,this];exact ih
   ·by_cases r:y<=b
    ·simp[q,r];omega
    ·simp[q,r];exact ih
 induction z with
 |nil=>cases hx
 |cons y l ih=>
  rw[List.filter_cons,List.filter_cons]
  rcases List.mem_cons.1 hx with e | hx
  ·subst e
   have q:¬ x<=a:=by omega
   simp[q,h2];exact mono l
  ·have ih:=ih hx
   by_cases q:y<=a
   ·have:y<=b:=by omega
    simp[q,this];exact ih
   ·by_cases r:y<=b
    ·simp[q,r];omega
    ·simp[q,r];exact ih
theorem ADN{c:Cht}(h:ChOk c):∀k,k<=c.ns.length->FwI c k (Mf c k)
 |0,_=>⟨⟨Int.le_refl _,by have:=h.m;show (-1:Int)+1<_;omega⟩,.inl rfl,λg hg=>(by cases hg),.nil,λi hi _=>by have:=BEW h hi;show (-1:Int)<_;omega,λi j _ hj=>absurd hj (Nat.not_lt_zero _),λ_ _ _ _ _=>Nat.zero_le _⟩
 |k+1,hk=>by
  have ih:=ADN h k (by omega)
  have hk':k<c.ns.length:=by omega
  have bk:=BEW h hk'
  show FwI c (k+1) (fwN c (Mf c k) (gD (IM c) k) (((IM c).take k).find? (fwP c (Mf c k).la (gD (IM c) k))))
  have lt:((IM c).take k).length=k:=by rw[List.length_take,iB];omega
  by_cases hex:∃j,j<k/\fwP c (Mf c k).la (gD (IM c) k) (gD (IM c) j)=true
  ·have hm:((IM c).take k).find? (fwP c (Mf c k).la (gD (IM c) k))≠none:=λe=>by
    obtain⟨j,hj,hp⟩:=hex
    have:=List.find?_eq_none.1 e (gD (IM c) j) (by
     rw[<-mP (l:=IM c) hj];exact OH (by rw[lt];exact hj))
    exact this hp
   obtain⟨a,ea⟩:=Option.ne_none_iff_exists'.1 hm
   have am:=List.mem_of_find?_eq_some ea
   have ap:=List.find?_some ea
   obtain⟨j,hj,ej⟩:=Df am
   rw[lt] at hj
   rw[mP hj] at ej
   subst ej
   rw[ea]
   obtain⟨p1,p2⟩:=(BJQ h (show j<_ by omega) hk').1 ap
   have jk:=BFF h hj hk'
   have bj:=BEW h (show j<_ by omega)
   have hm40:=h.m
   have e:wr (miA c (gD (IM c) k)-1)=mO c k-1:=Ap (by show -9223372036854775808<=mO c k-1;omega) (by show mO c k-1<=9223372036854775807;omega)
   show FwI c (k+1) ⟨wr (miA c (gD (IM c) k)-1),(Mf c k).q ++ [wr (miA c (gD (IM c) k)-1)],_⟩
   rw[e]
   refine⟨⟨by show -1<=mO c k-1;omega,by show mO c k-1+1<_;omega⟩,.inr (List.mem_append_right _ (List.mem_singleton.2 rfl)),λg hg=>?_,?_,λi hi hki=>?_,λi j2 hij hj2 hl=>?_,λsp t z ht hz=>?_⟩
   ·show (0<=g/\g+1<_)/\g<=mO c k-1
    rcases List.mem_append.1 hg with hg | hg
    ·have:=ih.q g hg;omega
    ·have:=List.mem_singleton.1 hg;omega
   ·show ((Mf c k).q ++ [_]).Pairwise (· < ·)
    rw[List.pairwise_append]
    refine⟨ih.up,List.pairwise_singleton _ _,λg hg x hx=>?_⟩
    have:=ih.q g hg
    have:=List.mem_singleton.1 hx
    omega
   ·have:=BFF h (show k<i by omega) hi
    show mO c k-1<_;omega
   ·rcases Nat.lt_or_ge j2 k with q | q
    ·obtain⟨g,g1,g2⟩:=ih.met i j2 hij q hl
     exact⟨g,List.mem_append_left _ g1,g2⟩
    ·obtain rfl:j2=k:=by omega
     have:=BFF h hij hk'
     exact⟨mO c j2-1,List.mem_append_right _ (List.mem_singleton.2 rfl),by omega⟩
   ·show ((Mf c k).q ++ [_]).length<=(z.filter (λx=>decide (x<=mO c k-1))).length
    have i1:=ih.min sp t z ht hz
    obtain⟨g,g1,g2,g3⟩:=BWA ht (j:=(mO c j).toNat) (k:=(mO c k).toNat) (by omega) (by omega) p2
    have:=BKV (hz g g3) (a:=(Mf c k).la) (b:=mO c k-1) (by omega) (by omega)
    rw[List.length_append]
    show _+1<=_
    omega
  ·have en:((IM c).take k).find? (fwP c (Mf c k).la (gD (IM c) k))=none:=BHE λt ht=>by
    rw[lt] at ht
    rw[mP ht]
    cases hp:fwP c (Mf c k).la (gD (IM c) k) (gD (IM c) t) with
    |false=>rfl
    |true=>exact absurd ⟨t,ht,hp⟩ hex
   rw[en]
   refine⟨ih.la,ih.mem,ih.q,ih.up,λi hi hki=>ih.nx i hi (by omega),λi j hij hj hl=>?_,ih.min⟩
   rcases Nat.lt_or_ge j k with q | q
   ·exact ih.met i j hij q hl
   ·obtain rfl:j=k:=by omega
    have no:¬ ((Mf c j).la<mO c i/\ltO c i j):=λx=>hex ⟨i,hij,(BJQ h (by omega) hk').2 x⟩
    have b:=BEW h (show i<_ by omega)
    have nx:=ih.nx j hk' (Nat.le_refl _)
    have:¬ (Mf c j).la<mO c i:=λx=>no ⟨x,hl⟩
    rcases ih.mem with m | m
    ·omega
    ·exact⟨_,m,by omega,nx⟩
theorem BYC{c:Cht}(h:ChOk c):N7 ⟨c,(Hm c).q⟩=true:=by
 have I:=ADN h c.ns.length (Nat.le_refl _)
 exact (BJF (a:=⟨c,(Hm c).q⟩) h.m).2 ⟨λg hg=>(I.q g hg).1,I.up⟩
theorem BNW{c:Cht}(h:ChOk c){sp0:Nat->Bool}{t0:Nat->Int}(ht:TrC c sp0 t0):∃t,TrC c (FZ ⟨c,(Hm c).q⟩).sp t:=by
 have I:=ADN h c.ns.length (Nat.le_refl _)
 refine CZP h ht λj k hjk hk hj hk2 hl=>?_
 obtain⟨n1,m1,e1⟩:=iR.1 hj
 obtain⟨n2,m2,e2⟩:=iR.1 hk2
 obtain⟨a,ha,ea⟩:=Df m1
 obtain⟨b,hb,eb⟩:=Df m2
 obtain⟨i,hi,ei⟩:=ADA c ha
 obtain⟨i2,hi2,ei2⟩:=ADA c hb
 have o1:mO c i=j:=by
  unfold mO miA;rw[ei];show (gD c.ns a).mi=j;rw[ea];exact e1
 have o2:mO c i2=k:=by
  unfold mO miA;rw[ei2];show (gD c.ns b).mi=k;rw[eb];exact e2
 have lt:i<i2:=by
  rcases Nat.lt_trichotomy i i2 with q | q | q
  ·exact q
  ·subst q;omega
  ·have:=BFF h q hi;omega
 obtain⟨g,g1,g2,g3⟩:=I.met i i2 lt hi2 (by
  unfold ltO;rw[o1,o2];exact hl)
 have gb:=(I.q g g1).1
 refine⟨g.toNat,by omega,by omega,?_⟩
 rw[AXL (a:=⟨c,(Hm c).q⟩) h.m (BYC h)]
 rw[Int.toNat_of_nonneg gb.1];exact g1
end Go.Bal
