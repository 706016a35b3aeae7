/- Package chart: pairs of notes. -/
import Derived.Test.YtdbjalgfomknhaaGreatChG1
set_option linter.unusedVariables false
set_option linter.unusedSimpArgs false
namespace Go.Bal
open Go Go.Sym Go.Proofs
def nA(c:Cht)(p:Pr):Nt:=gD c.ns p.a.toNat
def nB(c:Cht)(p:Pr):Nt:=gD c.ns p.b.toNat
def tW(n:Int)(p:Pr):Bool:=PN p.a 0 (wr (n-1))&&PN p.b 0 (wr (n-1))
def Ca(c:Cht)(p:Pr):Bool:=bif tW c.ns.length p then bif (!(p.a==p.b&&p.b==p.a)) then decide ((nA c p).mi<(nB c p).mi) else false else false
def Eg(c:Cht)(p:Pr):Bool:=decide (wr ((nB c p).t.lo-(nA c p).t.hi)>wr (c.p.hi*wr ((gD c.ms (nB c p).mi.toNat).pl-(gD c.ms (nA c p).mi.toNat).pl)))
structure DkP where
 w:Dk
 p:Pr
def dDkP:List AVal->Heap->Option (DkP×List (Nat×Nat)×List Nat)
 |[.bptr id _,.d p],H=>match ADS H id with
  |some (w,q)=>some (⟨w,dPr p⟩,[(100,id),(101,q)],[])
  |none=>none
 |_,_=>none
def C_pair:Ctr:={ ro:=[100,101],α:=DkP,xs:=λa=>[.bptr 100 0,.d (ePr a.p)],L:=λa=>dkL a.w,val:=λa=>.bool (Ca a.w.c a.p),keep:=λa=>dkK a.w,pre:=λa=>[a.w.c.ns.length<1073741824/\True] }
def CCF:Ann:={ ann 59 [(n_in,s_in)] with E:=[100,101] }
def CGI(a:DkP):Prop:=ES Try.prog CCF BOE (AJ BOE) (C_pair.xs a) (AD (C_pair.L a)) (C_pair.val a) (C_pair.keep a) [] []
abbrev JM:=Pr.a
abbrev JF:=Pr.b
abbrev Yr:=Ca
abbrev Cj a:=BN (DkP.w a)
abbrev vX a b:=Ni (Cj a) b
abbrev Ns a:=JF (DkP.p a)
abbrev Nz a:=JM (DkP.p a)
abbrev O6 a b c:=and (Og a b) c
abbrev lI a b c d:=O6 a b (O6 c d LW)
abbrev S2 a:=VJ (AO (Cj a))
attribute [go_sem] JM JF Yr Cj vX Ns Nz O6 lI S2
theorem CKU(a:DkP):(CGI a)=(BL (UV (Ug (IB (PN (Nz a) 0 (S2 a)) (PN (Ns a) 0 (S2 a))) (lI (Nz a) (Ns a) (Ns a) (Nz a))) (Nz a) (AO (Cj a))) (UV (Ug (IB (PN (Nz a) 0 (S2 a)) (PN (Ns a) 0 (S2 a))) (lI (Nz a) (Ns a) (Ns a) (Nz a))) (Ns a) (AO (Cj a))) (Jv (MD (Yr (Cj a) (DkP.p a)) (Xw (Ug (IB (PN (Nz a) 0 (S2 a)) (PN (Ns a) 0 (S2 a))) (lI (Nz a) (Ns a) (Ns a) (Nz a))) (vX a (Nz a)) (vX a (Ns a)))) (BY (Cj a)) (Cj a) (BM (Cj a)) (BV (Cj a)) (BQ (Cj a)) (XA (Cj a) (DkP.w a)))):=by kernel_rfl
theorem BSZ:AW Try.prog BDC (C_pair.spec dDkP):=Je C_pair (λ_=>CCF) [] [] CLI (λ_=>by kernel_rfl) (λ_=>AA R9 AK) (λ(a:DkP) h=>by
 have hn:a.w.c.ns.length<1073741824:=(show a.w.c.ns.length<1073741824/\True from h).1
 have w1:IntKind.i64.wrap ((a.w.c.ns.length:Int)-1)=(a.w.c.ns.length:Int)-1:=Ap (by omega) (by omega)
 show CGI a;rw[CKU]<;> delta MD N6 Iv BH BK DY RD RU Mr EM EO CH AB CJ CE AY CG NL HD KA EB FX EC GY GX GR GG DV FO FU Og LW HM YU KM WU BN YV WT JM JF Yr AH CK AX AI BC AV AF BI GJ AQ BB AC BZ CN Eh BF AE AO DD DC BR BE BS BJ JQ Ch BQ LY BV ZK BL BM CY BY CF BX TV KL YS DN GD OT OR Cx LH DF OU HG EA LR Gi ZN ZS IT CS JG GP HQ XK VX JC VI FT VW Cj TF IB VJ HZ RL Dv O6 Cp UV XA Ni Ns Nz lI Ug Xw Jv vX S2;simp only[CC,eq_self,implies_true,forall_const]
 have e:(bif PN a.p.a 0 (IntKind.i64.wrap ((a.w.c.ns.length:Int)-1)) then PN a.p.b 0 (IntKind.i64.wrap ((a.w.c.ns.length:Int)-1)) else false)=tW a.w.c.ns.length a.p:=by
  unfold tW wr;cases PN a.p.a 0 (IntKind.i64.wrap ((a.w.c.ns.length:Int)-1))<;>rfl
 rw[e]
 have hb:tW a.w.c.ns.length a.p=true->(0<=a.p.a/\a.p.a<a.w.c.ns.length)/\0<=a.p.b/\a.p.b<a.w.c.ns.length:=λh=>by
  unfold tW wr PN at h;rw[w1] at h
  simp only[Bool.and_eq_true,decide_eq_true_eq] at h;omega
 cases hq:tW a.w.c.ns.length a.p with
 |false=>
  refine⟨⟨(λh=>by cases h),(λh=>by cases h)⟩,?_⟩
  unfold Ca;rw[hq];rfl
 |true=>
  refine⟨⟨λ_=>(hb hq).1,λ_=>(hb hq).2⟩,?_⟩
  unfold Ca;rw[hq]
  simp only[cond_true,Bool.and_true]
  rfl) (λ_=>Kp rfl rfl) _
def C_late:Ctr:={ ro:=[100,101],α:=DkP,xs:=λa=>[.bptr 100 0,.d (ePr a.p)],L:=λa=>dkL a.w,val:=λa=>.bool (Eg a.w.c a.p),keep:=λa=>dkK a.w,pre:=λa=>[((0<=a.p.a/\a.p.a<a.w.c.ns.length)/\0<=a.p.b/\a.p.b<a.w.c.ns.length)/\(a.w.c.ms.length<=40/\a.w.c.ns.length<=20)/\∀i,i<a.w.c.ns.length->0<=(gD a.w.c.ns i).mi/\(gD a.w.c.ns i).mi<a.w.c.ms.length] }
def BZA:Ann:={ ann 61 [] with E:=[100,101] }
def CEH(a:DkP):Prop:=ES Try.prog BZA BOP (AJ BOP) (C_late.xs a) (AD (C_late.L a)) (C_late.val a) (C_late.keep a) [] []
abbrev tF:=Eg
attribute [go_sem] tF
theorem CMC(a:DkP):(CEH a)=(Aq (YG (Nz a) (AO (Cj a)) (BX (Ns a)) (Us (Ns a) (Cj a))) (Gv (vX a (Ns a)) (Cj a) (BX (vX a (Nz a))) (DN (vX a (Nz a)) (AX (Cj a)))) (MD (tF (Cj a) (DkP.p a)) (WB (LH (BH (AC (Cj a) (HM (Ns a)))) (BK (AC (Cj a) (HM (Nz a))))) (Vn (BK (EC (Cj a))) (BE (Cj a) (HM (vX a (Ns a)))) (BE (Cj a) (HM (vX a (Nz a))))))) (Cj a) (XA (Cj a) (DkP.w a))):=by kernel_rfl
theorem BGW:AW Try.prog BDF (C_late.spec dDkP):=Je C_late (λ_=>BZA) [] [] CKD (λ_=>by kernel_rfl) (λ_=>AK) (λ(a:DkP) h=>by
 obtain⟨⟨h1,h2⟩,_,h3⟩:((0<=a.p.a/\a.p.a<a.w.c.ns.length)/\0<=a.p.b/\a.p.b<a.w.c.ns.length)/\(a.w.c.ms.length<=40/\a.w.c.ns.length<=20)/\∀i,i<a.w.c.ns.length->0<=(gD a.w.c.ns i).mi/\(gD a.w.c.ns i).mi<a.w.c.ms.length:=h
 show CEH a;rw[CMC]<;> delta MD BH BK DY RD RU Mr EM EO CH AB CJ CE AY CG HD KA EB FX EC GY GX GR GG DV FO FU WB HM YU KM WU BN YV WT Qu JM JF tF AH CK AX AI BC AV AF BI GJ AQ BB AC BZ CN Eh BF AE AO DD DC BR BE BS BJ JQ Ch BQ LY BV ZK BM CY BY CF BX TV KL YS DN GD OT OR Cx LH DF OU HG DT LR Gi JG GP HQ XK VX JC VI FT Cj TF TQ RL Hd Dv Cp Va YG XA Ni Vn Aq Ns Nz Gv Us vX;simp only[CC,eq_self,implies_true,forall_const]
 exact⟨⟨h1,h2⟩,⟨h3 _ (by omega),h3 _ (by omega)⟩,rfl⟩) (λ_=>Kp rfl rfl) _
end Go.Bal

namespace Go.Bal
open Go Go.Sym Go.Proofs
def LXPp(q:Dk):List (Nat×AObj):=[(101,dkB q 102),(102,dkM q)]
def KXPp(q:Dk):List (Nat×HCell):=[(101,.live (dkB q 102)),(102,.live (dkM q))]
def fvPp(q:Dk):AVal:=.fn (.func BDC) [.bptr 101 0] []
def BPp(q:Dk):AObj:=.box [fvPp q]
structure EPp where
 q:Dk
 e:Pr
structure MPp where
 q:Dk
 l:List Pr
def C1Pp:Ctr:={ ro:=[100,101,102],α:=EPp,xs:=λa=>[.d (ePr a.e),.bptr 100 0],L:=λa=>(100,BPp a.q) :: LXPp a.q,val:=λa=>.bool (!Ca a.q.c a.e),keep:=λa=>(100,.live (BPp a.q)) :: KXPp a.q,pre:=λa=>[a.q.c.ns.length<1073741824/\True] }
def d1Pp:List AVal->Heap->Option (EPp×List (Nat×Nat)×List Nat)
 |[.d d,.bptr id _],H=>match H id with
  | .live (.box [.fn _ [.bptr j _] _])=>match ADS H j with
   |some (q,m)=>some (⟨q,dPr d⟩,[(100,id),(101,j),(102,m)],[])
   |none=>none
  |_=>none
 |_,_=>none
def A1Pp:Ann:={ ann 8 [(BDC,C_pair.spec dDkP)] with E:=[100,101,102] }
def V1Pp(a:EPp):Prop:=ES Try.prog A1Pp CDN (AJ CDN) (C1Pp.xs a) (AD (C1Pp.L a)) (C1Pp.val a) (C1Pp.keep a) [] []
abbrev AVG:=EPp.q
abbrev OK a:=BN (AVG a)
abbrev Ss a:=MI (HF a)
attribute [go_sem] AVG OK Ss
theorem DDR(a:EPp):(V1Pp a)=(BL (AF (JM (EPp.e a))) (Jv (AF (JF (EPp.e a))) (BY (OK a)) (OK a) (BM (OK a)) (BV (OK a)) (BQ (OK a)) (UZ (OK a) (λi=>AT i (OK a) (AM (OK a) i) (AN (OK a) i) (AS (OK a) i) (AC (OK a) i) (AL (OK a) i) (AR (OK a) i) (AE (OK a) i)) (λi=>JG i (AVG a)) (AVG a) (QG (MF (OK a)) (BY (OK a)) (OK a) (BM (OK a)) (BV (OK a)) (BQ (OK a)) (HS (OK a)) (λi=>JL i (OK a)) (VP (OK a) (λi=>AU i (OK a) (EI (OK a) i) (EJ (OK a) i) (AC (OK a) i) (AS (OK a) i) (EH (OK a) i) (AE (OK a) i) (AR (OK a) i)) (λi=>JG i (AVG a)) (HQ (AVG a)) (Ss (OK a)) IP)))) (Jv (Xh (not (Yr (OK a) (EPp.e a))) (Yr (FQ (OK a)) (EPp.e a))) (BY (OK a)) (OK a) (BM (OK a)) (BV (OK a)) (BQ (OK a)) (XA (OK a) (AVG a)))):=by kernel_rfl
theorem DEA:AW Try.prog BLX (C1Pp.spec d1Pp):=Je C1Pp (λ_=>A1Pp) [] [] CTR (λ_=>by kernel_rfl) (λ_=>AA BSZ AK) (λ(a:EPp) h=>by
 have h:a.q.c.ns.length<1073741824:=(show a.q.c.ns.length<1073741824/\True from h).1
 show V1Pp a;rw[DDR]<;> delta MD BH BK DY EM EO CH AB CJ CE AY EB FX EC GY GX GR GG DV FO FU IP YU KM WU BN YV WT JM JF Yr AVG AH CK IW AX JE AI BC AV AF IK IN BI GJ AQ JB BB AC BZ CN Eh BF MC AE AO BD HK DD LZ AZ DC BR BE BS BJ Ch AR BQ LY SZ BV HF ZK CI OC BL AS BM CY Oc BY CF IE TV KL CU YS GD CX OT OR Cx OE FQ DF DU HY DR OU HG OD Ql LR Gi FW Qe AT HE OF CR OK WK RG Fs AU DO DI CS BO BW JG AL AN AM GP ID HQ XK VX Ct MQ JC MN DK VI SC FT Eb TF KS HS EH EJ EI RL Fo Eo Do JL Ha TE MI Fh Ff Dv MF WJ Gw Cp VZ XA VQ QG Pq VP UZ Ss Jv Xh;simp[wr,Li,h,FR]) (λ_=>Kp rfl rfl) _
def d2Pp:List AVal->Heap->Option (MPp×List (Nat×Nat)×List Nat)
 |[y,.fn _ _ [.bptr id _]],H=>match dRow y H with
  |some (n,g,f)=>match H id with
   | .live (.box [.fn _ [.bptr j _] _])=>match ADS H j with
    |some (q,m)=>some (⟨q,NK n λi=>dPr (g i)⟩,[(100,id),(101,j),(102,m)],f)
    |none=>none
   |_=>none
  |none=>none
 |_,_=>none
def A2Pp(a:MPp):Ann:={ ann 19 [(BLX,C1Pp.spec d1Pp)] with E:=[100,101,102],loops:=λid=>if id=2 then some [{ α:=Nat,dflt:=0,T:=λk=>⟨[(0,.d (aZ a.l)),(1,.fn (.func BLX) [] [.bptr 100 0]),(7,.int a.l.length),(8,.int k)],(100,.live (BPp a.q)) :: KXPp a.q⟩,inv:=λk=>k<=a.l.length/\sV (λi=>!Ca a.q.c (gD a.l i)) a.l.length 0=sV (λi=>!Ca a.q.c (gD a.l i)) (a.l.length-k) k,meas:=λk=>a.l.length-k }] else none }
def PPp(a:MPp):List Prop:=[a.l.length<4611686018427387904/\a.q.c.ns.length<1073741824]
def C2Pp:Ctr:={ ro:=[100,101,102],α:=MPp,xs:=λa=>[.d (aZ a.l),.fn (.func BLX) [] [.bptr 100 0]],L:=λa=>(100,BPp a.q) :: LXPp a.q,val:=λa=>.int (sV (λi=>!Ca a.q.c (gD a.l i)) a.l.length 0),keep:=λa=>(100,.live (BPp a.q)) :: KXPp a.q,pre:=PPp }
def V2Pp(a:MPp):Prop:=ES Try.prog (A2Pp a) BYK (AJ BYK) (C2Pp.xs a) (AD (C2Pp.L a)) (C2Pp.val a) (C2Pp.keep a) [] []
abbrev GA:=@List.length Pr
abbrev bY:=MPp.l
abbrev QB:=@gD Pr instInhabitedPr
abbrev Su:=MPp.q
abbrev FM a:=BN (Su a)
abbrev gM a:=BQ (FM a)
abbrev gC a:=BV (FM a)
abbrev dA a:=BM (FM a)
abbrev cR a:=BY (FM a)
abbrev Jy a:=GA (bY a)
abbrev AGT a b c:=Yr a (QB b c)
abbrev BCD a b c:=AGT a (bY b) c
abbrev kR a b c:=BCD (FM a) b c
abbrev LU a b:=JF (QB a b)
abbrev AMN a b:=AF (LU a b)
abbrev aR a b c d e:=BF a b c (AMN d e)
abbrev LV a b:=JM (QB a b)
abbrev Wt a b:=AF (LV a b)
attribute [go_sem] GA bY QB Su FM gM gC dA cR Jy AGT BCD kR LU AMN aR LV Wt
theorem DBU(a:MPp):(V2Pp a)=(HX (λi=>DT (BI (Jy a)) (Aq (AB (λj=>aR j (Jy a) (Wt (bY a) j) (bY a) j)) (EF (Jy a)) (CQ i) (FM a) (XA (FM a) (Su a))) (CW i (Jy a)) (Ji (λj=>kR a a j) (Jy a) (λj=>kR a a j) i i)) (λi=>OO (KH i (Jy a) (Ji (λj=>kR a a j) (Jy a) (λj=>kR a a j) i i)) i (Jy a) (Aq (NJ i (Jy a)) (Wt (bY a) i) (AMN (bY a) i) (FM a) (UZ (FM a) (λj=>AT j (FM a) (AM (FM a) j) (AN (FM a) j) (AS (FM a) j) (AC (FM a) j) (AL (FM a) j) (AR (FM a) j) (AE (FM a) j)) (λj=>JG j (Su a)) (Su a) (QG (MF (FM a)) (cR a) (FM a) (dA a) (gC a) (gM a) (HS (FM a)) (λj=>JL j (FM a)) (VP (FM a) (λj=>AU j (FM a) (EI (FM a) j) (EJ (FM a) j) (AC (FM a) j) (AS (FM a) j) (EH (FM a) j) (AE (FM a) j) (AR (FM a) j)) (λj=>JG j (Su a)) (HQ (Su a)) (Ss (FM a)) IP)))) (WF (not (BCD (FQ (FM a)) a i)) (Jv (Rj (λj=>kR a a j) (Jy a) (CG i)) (cR a) (FM a) (dA a) (gC a) (gM a) (XA (FM a) (Su a))) (λj=>FH (BI (Jy a)) (Aq (AB (λk=>aR k (Jy a) (Wt (bY a) k) (bY a) k)) (EF (Jy a)) (BA j i) (FM a) (XA (FM a) (Su a))) (KH j (Jy a) (Ji (λk=>kR a a k) (Jy a) (λk=>kR a a k) j j)) (Jy a) j i)) (Jv (Rj (λj=>kR a a j) (Jy a) (-1)) (cR a) (FM a) (dA a) (gC a) (gM a) (XA (FM a) (Su a))))):=by kernel_rfl
theorem p2Pp(a:MPp)(h:JS (PPp a)):V2Pp a:=by
 obtain⟨h,hp⟩:a.l.length<4611686018427387904/\a.q.c.ns.length<1073741824:=h
 rw[DBU]<;> delta MD BH BK DY RD RU EM EO CH AB CJ CE AY CG CW FV NL HD KA UI IG EB FX EC GY GX GR GG DV FO FU KI IP YU KM WU BN YV WT JM JF Yr GA bY QB Su AH CK IW AX JE AI BC AV AF IK IN BI GJ AQ JB BB AC BZ CN Eh BF MC AE AO BD HK DD LZ AZ DC BR BE BS BJ JQ Ch AR BQ FM LY SZ BV HF ZK CI OC EQ AS BM CY Oc BY FL CF IE HR BX TV KL CU YS DN GD CX OT OR Cx OE FQ DF DU HY DR OU HG OD Ql DT LR LU Gi FE FW Qe LV AT MJ ZS DX HE OF CR EZ JJ BA WK RG Fs AU DO DI CS BO BW JH JG AL AN AM GP ID HQ XK VX Ct FK MQ JC MN DK VI SC FT EF Eb Ox TF KH CQ KS HS EH EJ EI RL JY FH Fo Eo Dt JK Do JL ON Ha HX TE Oy MI NJ Fh Ff Dv MF WJ Gw Cp VZ Va Rj Jy XA VQ OO Aq WF QG Pq AGT Wt AMN Ji dA cR BCD VP UZ gC Ss gM kR Jv aR
 simp only[CC,eq_self,implies_true,forall_const]
 refine⟨⟨0,rfl,Nat.zero_le _,rfl⟩,λk ⟨h1,h2⟩=>⟨λhlt=>?_,λhge=>?_⟩⟩
 ·have hlt:k<a.l.length:=by omega
  refine⟨⟨⟨by omega,by omega⟩,hp⟩,λhp=>?_,λhp=>⟨k+1,(II (by omega)).symm,⟨by omega,?_⟩,by omega⟩⟩
  ·rw[h2];exact xZ hlt (by simpa using hp)
  ·rw[h2];exact APH hlt (by simpa using hp)
 ·rw[h2];exact AAN (by omega)
theorem CZZ:AW Try.prog CAA (C2Pp.spec d2Pp):=Je C2Pp A2Pp [] [] CXF (λ_=>by kernel_rfl) (λ_=>AA DEA AK) p2Pp (λ_=>Kp rfl rfl) _
def C3Pp:Ctr:={ C2Pp with val:=λ(a:MPp)=>.bool (decide (sV (λi=>!Ca a.q.c (gD a.l i)) a.l.length 0>=0)) }
def d3Pp:List AVal->Heap->Option (C3Pp.α×List (Nat×Nat)×List Nat):=d2Pp
def A3Pp:Ann:={ ann 9 [(CAA,C2Pp.spec d2Pp)] with E:=[100,101,102] }
def V3Pp(a:MPp):Prop:=ES Try.prog A3Pp BYA (AJ BYA) (C3Pp.xs a) (AD (C3Pp.L a)) (C3Pp.val a) (C3Pp.keep a) [] []
abbrev Wj a:=(@NK Pr) (GA a) (λi=>QB a i)
abbrev gQ a:=Wj (bY a)
abbrev vI a:=GW (GA a)
abbrev LM a b c d e f g:=CI a b (LV c d) e (LU f a) g
abbrev MP a b c d e f g:=LM a (GA b) c d e f g
abbrev LL a b c d:=MP a b b a c b d
abbrev NY a b c d e f:=LL a b (LV c d) (LU e f)
abbrev PM a b c d e:=NY a b c d c e
abbrev uI a b c:=PM a b c a a
abbrev XM a b:=AB (λi=>uI i a b)
abbrev JI a b:=CH (GA a) b
abbrev RZ a b:=JI a (GA b)
attribute [go_sem] Wj gQ vI LM MP LL NY PM uI XM JI RZ
theorem DAK(a:MPp):(V3Pp a)=(BL (RZ (gQ a) (bY a)) (Jv (XM (gQ a) (bY a)) (cR a) (FM a) (dA a) (gC a) (gM a) (UZ (FM a) (λi=>AT i (FM a) (AM (FM a) i) (AN (FM a) i) (AS (FM a) i) (AC (FM a) i) (AL (FM a) i) (AR (FM a) i) (AE (FM a) i)) (λi=>JG i (Su a)) (Su a) (QG (MF (FM a)) (cR a) (FM a) (dA a) (gC a) (gM a) (HS (FM a)) (λi=>JL i (FM a)) (VP (FM a) (λi=>AU i (FM a) (EI (FM a) i) (EJ (FM a) i) (AC (FM a) i) (AS (FM a) i) (EH (FM a) i) (AE (FM a) i) (AR (FM a) i)) (λi=>JG i (Su a)) (HQ (Su a)) (vI (gQ a)) (Ss (FM a)))))) (Jv (MD (Cu (λi=>kR a a i) (Jy a)) (Cu (λi=>AGT (FQ (FM a)) (gQ a) i) (GA (gQ a)))) (cR a) (FM a) (dA a) (gC a) (gM a) (XA (FM a) (Su a)))):=by kernel_rfl
theorem DEG:AW Try.prog CDP (C3Pp.spec d3Pp):=Ctr.spec_ok (C:=C3Pp) (λ(a:MPp) h=>Wk (A:=A3Pp) (ren:=[]) (fz:=[]) CTY (by kernel_rfl) (AA CZZ AK) (by
 obtain⟨h,hp⟩:a.l.length<4611686018427387904/\a.q.c.ns.length<1073741824:=h
 show V3Pp a;rw[DAK]<;> delta MD tJ BH BK DY EM EO CH AB CJ CE AY EB FX EC GY GX GR GG DV FO FU YU KM WU BN YV WT JM JF Yr GA bY QB Su AH CK IW AX JE AI BC AV AF IK IN BI GJ AQ JB BB AC BZ CN Eh BF MC AE AO BD HK DD LZ AZ DC BR BE BS BJ Ch AR BQ FM LY SZ BV HF ZK CI OC BL AS BM CY Oc BY CF IE TV KL CU GW YS GD CX OT OR Cx OE FQ DF DU HY Wj DR OU HG OD Ql LR LU Gi FW Qe LV AT HE OF CR WK RG Fs AU DO DI CS BO BW JG AL AN AM GP ID HQ XK VX Ct MQ JC MN DK VI JI SC FT LM Eb Ox MP TF KS HS EH EJ EI LL RL NY Fo Eo PM Do JL uI Ha TE Oy MI Fh Ff Dv MF WJ Gw RZ Cp VZ Jy XM XA VQ Lj Cu QG Pq AGT vI gQ dA cR BCD VP UZ gC Ss gM kR Jv;simp[h,hp,Li,FR])) _
def d4Pp:List AVal->Heap->Option (MPp×List (Nat×Nat)×List Nat)
 |[y,.fn _ [.bptr j _] _],H=>match dRow y H with
  |some (n,g,f)=>match ADS H j with
   |some (q,m)=>some (⟨q,NK n λi=>dPr (g i)⟩,[(101,j),(102,m)],f)
   |none=>none
  |none=>none
 |_,_=>none
def A4Pp:Ann:={ ann 9 [(CDP,C3Pp.spec d3Pp)] with E:=[101,102] }
def C4Pp:Ctr:={ ro:=[101,102],α:=MPp,xs:=λa=>[.d (aZ a.l),fvPp a.q],L:=λa=>LXPp a.q,val:=λa=>.bool (a.l.all λx=>Ca a.q.c x),keep:=λa=>KXPp a.q,pre:=PPp }
def V4Pp(a:MPp):Prop:=ES Try.prog A4Pp F_eP (AJ F_eP) (C4Pp.xs a) (AD (C4Pp.L a)) (C4Pp.val a) (C4Pp.keep a) [] []
theorem DDY(a:MPp):(V4Pp a)=(BL (RZ (gQ a) (bY a)) (Jv (XM (gQ a) (bY a)) (cR a) (FM a) (dA a) (gC a) (gM a) (UZ (FM a) (λi=>AT i (FM a) (AM (FM a) i) (AN (FM a) i) (AS (FM a) i) (AC (FM a) i) (AL (FM a) i) (AR (FM a) i) (AE (FM a) i)) (λi=>JG i (Su a)) (Su a) (QG (MF (FM a)) (cR a) (FM a) (dA a) (gC a) (gM a) (HS (FM a)) (λi=>JL i (FM a)) (VP (FM a) (λi=>AU i (FM a) (EI (FM a) i) (EJ (FM a) i) (AC (FM a) i) (AS (FM a) i) (EH (FM a) i) (AE (FM a) i) (AR (FM a) i)) (λi=>JG i (Su a)) (HQ (Su a)) (vI (gQ a)) (Ss (FM a)))))) (Jv (Xh ((@List.all Pr) (bY a) (λi=>Yr (FM a) i)) (Cu (λi=>AGT (FQ (FM a)) (gQ a) i) (GA (gQ a)))) (cR a) (FM a) (dA a) (gC a) (gM a) (XA (FM a) (Su a)))):=by kernel_rfl
theorem DBX(a:MPp)(h:JS (PPp a)):FnT Try.prog n_eP (C4Pp.xs a) (AD (C4Pp.L a)) (C4Pp.val a) (C4Pp.keep a):=Wk (A:=A4Pp) (ren:=[]) (fz:=[]) DCO (by kernel_rfl) (AA DEG AK) (by
 have h':a.l.length<4611686018427387904/\a.q.c.ns.length<1073741824:=h
 show V4Pp a;rw[DDY]<;> delta MD tJ BH BK DY EM EO CH AB CJ CE AY EB FX EC GY GX GR GG DV FO FU YU KM WU BN YV WT JM JF Yr GA bY QB Su AH CK IW AX JE AI BC AV AF IK IN BI GJ AQ JB BB AC BZ CN Eh BF MC AE AO BD HK DD LZ AZ DC BR BE BS BJ Ch AR BQ FM LY SZ BV HF ZK CI OC BL AS BM CY Oc BY CF IE TV KL CU GW YS GD CX OT OR Cx OE FQ DF DU HY Wj DR OU HG OD Ql LR LU Gi FW Qe LV AT HE OF CR WK RG Fs AU DO DI CS BO BW JG AL AN AM GP ID HQ XK VX Ct MQ JC MN DK VI JI SC FT LM Eb Ox MP TF KS HS EH EJ EI LL RL NY Fo Eo PM Do JL uI Ha TE Oy MI Fh Ff Dv MF WJ Gw RZ Cp VZ XM XA VQ Lj Cu QG Pq AGT vI gQ dA cR VP UZ gC Ss gM Jv Xh;simp only[CC,eq_self,implies_true,forall_const,ge_iff_le]
 rw[<-yD]
 exact⟨h',rfl⟩)
theorem DCX:AW Try.prog n_eP (C4Pp.spec d4Pp):=Ctr.spec_ok (C:=C4Pp) DBX _
end Go.Bal
