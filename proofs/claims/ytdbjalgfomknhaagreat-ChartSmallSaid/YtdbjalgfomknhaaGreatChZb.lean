/- Package chart, with the reference: Stages, lists of stops, gaps, notes. -/
import Derived.Test.YtdbjalgfomknhaaGreatChZa
set_option linter.unusedVariables false
set_option linter.unusedSimpArgs false
namespace Go.Bal
open Go Go.Sym Go.Proofs
def zg6n(c:Cht):Shape:={ α:=One,dflt:=default,T:=λ_=>⟨[(1,.bptr 201 0),(5,.d Ej),(6,.int 0)],[(201,.live (xO c))]⟩,inv:=λ_=>AP c=0,meas:=λ_=>50,first:=[(201,1000)] }
def zg6o(c:Cht):Shape:={ α:=Nat,dflt:=0,T:=λk=>⟨[(1,.bptr 201 0),(5,.own 202 2 0 k),(6,.int k)],[(201,.live (xO c)),(202,.live (.row 2 k λi=>MV (YW c (i:Int))))]⟩,inv:=λk=>(AP c=0/\1<=k/\k<=c.ms.length)/\∀i:Nat,i<k->Od (YW c i)=true,meas:=λk=>40-k,again:=[(202,12048)] }
def BFA(c:Cht):Ann:={ ann 33 [(Wd,C_Check.spec iT),(fE,C_zst.spec dCtI)] with mt:=λid=>id==11,loops:=λid=>if id=6 then some [zg6n c,zg6o c] else none }
def BFQ(c:Cht):Prop:=ES Try.prog (BFA c) ASW (AJ ASW) (C_Stages.xs c) (AD []) (.tup [.d (HA (Ey c).1),.int (Ey c).2]) [] [] [202]
abbrev AEK:=@Prod.fst (List Span) Int
abbrev T7:=@Prod.snd (List Span) Int
abbrev lF a:=T7 (Ey a)
abbrev Ke a:=AEK (Ey a)
abbrev On a b c:=AV a b (EA c)
abbrev eI a b c:=AH a (NF b) (CW b c)
abbrev Ex a b c d e:=AI a b (BY c) (DF d) e
abbrev Co a b(c:Nat->Prop):=Ev a b (AB c)
attribute [go_sem] AEK T7 lF Ke On eI Ex Co
theorem BPO(c:Cht):(BFQ c)=(And (TY c (λi=>AT i c (AM c i) (AN c i) (AS c i) (AC c i) (AL c i) (AR c i) (AE c i)) (RQ c) (IL c)) (Sl (Kl c) (Ed (Ke c)) (lF c) (Ao c) (Lf (Mv AG EY BP (KP c) (GZ c)) (PY (GZ c) (Pw (MZ c)) (HV (BY c) (DF c) (BM c) (Ar c (BW c) (DK c) (λi=>AT i c (AM c i) (AN c i) (AS c i) (AC c i) (AL c i) (AR c i) (AE c i)) Sx (eM (HK c)) (SA c)) (Sl (jK (BH (qR (FQ c))) (qR (FQ c))) (Ed (Ke c)) (lF c) 6 (And Hq (KI (λi=>DT AG (Ex (LP i) (Fz i) c c (Co c (LP i) (λj=>BF j i (AZ (Ig c j) (qR (FQ c))) (AQ (Ig c j) (qR (FQ c)))))) (JK (eI (GZ c) i (AX c)) (λj=>On j i (Od (Ig c j)))) (MJ 40 i 50)))))) (YX (Ed (Ke c)) (FG (lF c)))) (λi=>PY (JK (eI (GZ c) i (AX c)) (λj=>On j i (Od (Ig c j)))) (Sp i c) (HV (BY c) (DF c) (BM c) (Ar c (BW c) (DK c) (λj=>AT j c (AM c j) (AN c j) (AS c j) (AC c j) (AL c j) (AR c j) (AE c j)) (EF i) (NJ i (HK c)) (SA c)) (Sl (WB (Eu (FQ c) i) (Hg (FQ c) i)) (Ed (Ke c)) (lF c) 6 (And (Hi i) (KI (λj=>Jj (Ex (PI j i) (BA j i) c c (Co c (PI j i) (λk=>It k j (Ig c k) (OZ k i (Eu c k) (Eu (FQ c) i)) (OZ k i (Hg c k) (Hg (FQ c) i))))) (JK (eI (GZ c) j (AX c)) (λk=>On k j (Od (Ig c k)))) 40 j i))))) (FY (KX (Ke c) i) (KC i) (AB (λj=>UG j (Ke c) (Ig c (BG j)))) (FG (lF c))))))):=by kernel_rfl
theorem BOJ{c:Cht}(h:AP c≠0):Ey c=([],AP c):=by
 unfold Ey;rw[show (AP c==0)=false by simpa using h];rfl
theorem J4{c:Cht}(h:AP c=0):Ey c=bif Mg c then (Jp c,0) else ([],6):=by
 unfold Ey;rw[h];rfl
theorem BLS{c:Cht}(h:AP c=0){i:Nat}(hi:i<c.ms.length)(hl:(YW c i).lo>(YW c i).hi):Ey c=([],6):=by
 rw[J4 h]
 cases hq:Mg c with
 |false=>rfl
 |true=>
  have:=tS.1 hq i (by rw[show (Jp c).length=c.ms.length from rng_length _ _];exact hi)
  rw[Tp hi] at this;omega
theorem BXJ(c:Cht)(h:c.ms.length<4611686018427387904/\c.ns.length<4611686018427387904):BFQ c:=by
 rw[BPO]<;> delta MD Iv BH BK DY RD RU EM EO CH IH AB CJ CE AY OV CG MY CW FV NL HD KA UI IG EB FX EC GY GX GR GG DV FO FU KI IP LW WB US IV QR NR Ty Qr Qj Lg bX AEK T7 AH CK IW AX JE AI BC AV AF IK IN BI GJ MK YX AQ JB BB AC BZ CN BF MC AE AO BD HK DD LZ AZ DC BG BR BE BS BJ JQ AR BQ LY SZ BV HF CI OC EQ BL AS BM CY BY ER FL CF AG IE HR BX TV KL CU GW KJ DN GD CX OT OR OE FQ DF DU HY MZ DR OU HG OD QQ EA DT KQ FE FG FW AT HN MJ JA ZS IT DX OF JJ BA BP NF GZ BO BW JH AL AN AM GP ID NP FK KX DK IU LS FT EF QD Gb XI VD HI SN MR Ig EY PO FH IL FY OZ VU Bb Dt JK KC Fq Ew ZZ PF HV LF PY NJ KP Ao MG LP QP Fx PI Ev SA YM Si RQ Ik Es Ke Bf YH WZ Cd Ht Co Hh He Ep Ll Eu eO Hg Dp TY UG Ex Ln On Ed Zy eI Kl Fz Ar Sx Lf It Hi lF Pw Sl Sp Hq Mv jK Jj qR eM;simp only[CC,eq_self,implies_true,forall_const,FR]
 refine⟨h,λh1=>?_,λh1=>?_⟩
 ·rw[BOJ (by simpa using h1)];exact⟨rfl,rfl,rfl⟩
 have h0:AP c=0:=by simpa using h1
 obtain⟨_,⟨n1,n2⟩,n3⟩:=PR h0
 refine⟨⟨default,h0⟩,λ_=>⟨λhlt=>⟨⟨rfl,by omega,h0⟩,λhg=>?_,λhg=>⟨⟨by omega,by omega,by omega,by omega,by omega⟩,1,⟨rfl,rfl,rfl,λi hi=>?_⟩,⟨⟨h0,by omega,by omega⟩,λi hi=>?_⟩,by omega⟩⟩,λhge=>absurd hge (by omega)⟩,λk ⟨⟨_,k1,k2⟩,k3⟩=>⟨λhlt=>⟨⟨by omega,h0⟩,λhg=>?_,λhg=>⟨⟨by omega,by omega,by omega,by omega⟩,k+1,⟨rfl,(II (by omega)).symm,rfl,λi hi=>?_⟩,⟨⟨h0,by omega,by omega⟩,λi hi=>?_⟩,by omega⟩⟩,λhge=>?_⟩⟩
 ·rw[BLS (i:=0) h0 (by omega) hg];exact⟨rfl,rfl,rfl⟩
 ·obtain rfl:i=0:=by omega
  exact⟨rfl,rfl⟩
 ·obtain rfl:i=0:=by omega
  unfold Od;exact decide_eq_true (by show (YW c 0).lo<=(YW c 0).hi;omega)
 ·rw[BLS h0 (by omega) hg];exact⟨rfl,rfl,rfl⟩
 ·by_cases h:i<k
  ·simp[h]
  ·obtain rfl:i=k:=by omega
   simp
 ·by_cases h:i<k
  ·exact k3 i h
  ·obtain rfl:i=k:=by omega
   unfold Od;exact decide_eq_true (by omega)
 ·obtain rfl:k=c.ms.length:=by omega
  have hq:Mg c=true:=tS.2 λi hi=>by
   have hi:i<c.ms.length:=by rw[show (Jp c).length=c.ms.length from rng_length _ _] at hi;exact hi
   rw[Tp hi]
   have:=k3 i hi
   unfold Od at this;exact of_decide_eq_true this
  rw[J4 h0,hq]
  refine⟨rng_length _ _,by omega,λj hj=>?_,rfl⟩
  have hj:j<c.ms.length:=by simpa[Jp] using hj
  show (gD (Jp c) j).lo=_/\(gD (Jp c) j).hi=_
  rw[Tp hj];exact⟨rfl,rfl⟩
theorem BBT:AW Try.prog AAO (C_Stages.spec iT):=Je C_Stages BFA [] [202] BPG (λ_=>by kernel_rfl) (λ_=>AA dW (AA AYE AK)) BXJ (λ_=>Kp rfl rfl) _
def prvZ(z:List Int):Nat->Int
 |0=>-1
 |k+1=>gD z k
def zu2(a:CZ):Shape:={ α:=Nat,dflt:=0,T:=λk=>⟨[(1,.d (GB a.z)),(2,.bptr 201 0),(5,.int k)],[(201,.live (xO a.c))]⟩,inv:=λk=>k<=a.z.length/\(-1<=prvZ a.z k/\prvZ a.z k<=40)/\Wc a.c.ms.length (prvZ a.z k) (a.z.drop k)=N7 a,meas:=λk=>a.z.length-k,first:=[(201,1000)] }
def C_zUnl:Ctr:={ α:=CZ,xs:=xCZ,val:=λa=>.bool (!N7 a),keep:=λ_=>[],pre:=λa=>[a.z.length<4611686018427387904/\AP a.c=0] }
def CBT(a:CZ):Ann:={ ann 37 [(vT,A8)] with loops:=λid=>if id=2 then some [zu2 a] else none }
def CBZ(a:CZ):Prop:=ES Try.prog (CBT a) BOA (AJ BOA) (xCZ a) (AD []) (C_zUnl.val a) [] [] []
abbrev bF a:=FP (TW a)
abbrev sC a b:=prvZ (TW a) b
abbrev Q2 a:=MZ (FN a)
abbrev vK a b c d(e:Nat->Prop) f g:=NP a b c c d e f g
abbrev pI a b c d e:=vK a b c d (λi=>GP i c) (HG c) e
abbrev wW a:=Ak (TW a)
abbrev vG a:=Ge (TW a)
attribute [go_sem] bF sC Q2 vK pI wW vG
theorem CJD(a:CZ):(CBZ a)=(HX (λi=>HV (vG a) (wW a) (CQ i) (pI (NX a) (NZ a) (FN a) (GD (FN a)) (HI (FN a))) (AH (CW i (bF a)) (And (HD (-1) (sC a i)) (qX (sC a i))) (MD (Wc (Q2 a) (sC a i) (M9 i (TW a))) (N7 a)))) (λi=>OO (AH (CW i (bF a)) (And (HD (-1) (sC a i)) (qX (sC a i))) (MD (Wc (Q2 a) (sC a i) (M9 i (TW a))) (N7 a))) i (bF a) (QN i (bF a) (IT (and (not (An (FS (TW a) i) (LH (Q2 a) 2))) (Ie i)) (NJ i (bF a))) (UV (and (not (An (FS (TW a) i) (LH (Q2 a) 2))) (Ie i)) (VJ i) (bF a))) (Cg (An (FS (TW a) i) (LH (Q2 a) 2)) (IB (Ie i) (hd7 (FS (TW a) i) (FS (TW a) (Yl i)))) (EA (not (N7 a))) (KI (λj=>FH (vG a) (AH (wW a) (BA j i) (pI (NX a) (NZ a) (FN a) (GD (FN a)) (HI (FN a)))) (AH (CW j (bF a)) (And (HD (-1) (sC a j)) (qX (sC a j))) (MD (Wc (Q2 a) (sC a j) (M9 j (TW a))) (N7 a))) (bF a) j i))) (DZ (not (N7 a))))):=by kernel_rfl
theorem AYI{z:List Int}{m:Int}{k:Nat}(hk:k<4611686018427387904)(hp:-1<=prvZ z k/\prvZ z k<=40){v:Bool}(h:(bif !PN (gD z k) 0 (IntKind.i64.wrap (m-2)) then true else bif decide ((k:Int)>0) then decide (gD z k<=gD z (IntKind.i64.wrap ((k:Int)-1)).toNat) else false)=v):PN (gD z k) (wr (prvZ z k+1)) (wr (m-2))=!v:=by
 have e1:wr (prvZ z k+1)=prvZ z k+1:=Ap (by omega) (by omega)
 have e2:(bif decide ((k:Int)>0) then decide (gD z k<=gD z (IntKind.i64.wrap ((k:Int)-1)).toNat) else false)=(decide ((k:Int)>0)&&decide (gD z k<=prvZ z k)):=by
  rcases k with _ | k
  ·rfl
  ·rw[show IntKind.i64.wrap (((k+1:Nat):Int)-1)=(k:Int) from by rw[Ap (by omega) (by omega)];omega]
   rw[decide_eq_true (show ((k+1:Nat):Int)>0 by omega)];rfl
 have e3:(k:Int)>0∨prvZ z k=-1:=by
  rcases k with _ | k
  ·exact .inr rfl
  ·exact .inl (by omega)
 rw[e1,<-h,e2]
 show PN (gD z k) (prvZ z k+1) (IntKind.i64.wrap (m-2))=_
 generalize IntKind.i64.wrap (m-2)=w
 unfold PN
 generalize prvZ z k=p at hp e3
 generalize gD z k=g
 by_cases h1:p+1<=g<;>by_cases h2:g<=w<;>by_cases h3:0<=g<;>by_cases h4:(k:Int)>0<;>by_cases h5:g<=p<;>simp[h1,h2,h3,h4,h5]<;>omega
theorem CZO(a:CZ)(h:a.z.length<4611686018427387904/\AP a.c=0):CBZ a:=by
 obtain⟨hz,h0⟩:=h
 obtain⟨_,⟨n1,n2⟩,n3⟩:=PR h0
 rw[CJD]<;> delta MD N6 hd7 Iv BH BK DY RD RU Mr EM EO CH AB CJ CE AY CG CW FV NL HD KA UI IG EB FX EC GY GX GR GG DV FO FU KI FP FS LW WB HM M9 FN TW AH CK AX AI BC AV AF BI AQ BB AC BZ CN BF AE Ei AO DD DC BR BE BS BJ JQ BQ IS LY BV EQ GQ BL BM FL HR BX KL DN GD OT OR LH MZ OU HG EA DT KQ FE MJ ZN ZS IT DX Ge EZ JJ BA HT NZ DZ JH GP NP FK NX KE vK Py FT VW HI TQ IB CQ VJ HZ Ak JY FH Dt JK ON UP HX ZO HV NJ wW vG Cg Cl UV Ie OO QN An pI Yl bF sC Q2 qX;simp only[CC,eq_self,implies_true,forall_const]
 refine⟨⟨0,rfl,Nat.zero_le _,⟨by show (-1:Int) <= -1;omega,by show (-1:Int)<=40;omega⟩,rfl⟩,λk ⟨k1,k2,k3⟩=>⟨λhlt=>?_,λhge=>?_⟩⟩
 ·have hlt:k<a.z.length:=by omega
  rw[AXJ hlt] at k3
  refine⟨⟨by omega,λ_=>by omega,λh=>?_⟩,λh4=>?_,λh4=>⟨k+1,(II (by omega)).symm,⟨by omega,?_,?_⟩,by omega⟩⟩
  ·have:=(Bool.and_eq_true .. ▸ h).2
   have:=of_decide_eq_true this
   rw[Ap (by omega) (by omega)];omega
  ·rw[<-k3];unfold Wc;rw[AYI (by omega) k2 h4];rfl
  ·have:=AYI (by omega) k2 h4
   have:=IX.1 this
   have e1:wr (prvZ a.z k+1)=prvZ a.z k+1:=Ap (by omega) (by omega)
   have e2:wr ((a.c.ms.length:Int)-2)=(a.c.ms.length:Int)-2:=Ap (by omega) (by omega)
   show -1<=gD a.z k/\gD a.z k<=40
   omega
  ·rw[<-k3];conv=>rhs;unfold Wc
   rw[AYI (by omega) k2 h4];rfl
 ·rw[<-k3,List.drop_of_length_le (by omega)];rfl
theorem BRV:AW Try.prog BGE (C_zUnl.spec B6):=Je C_zUnl CBT [] [] COG (λ_=>by kernel_rfl) (λ_=>AA AAC AK) (λa h=>CZO a h) (λ_=>Kp rfl rfl) _
structure ZG where
 z:List Int
 g:Int
def dZG:List AVal->Heap->Option (ZG×List (Nat×Nat)×List Nat)
 |[y,.d k],H=>match tL y H with
  |some (l,e)=>some (⟨l,KN k⟩,[],e)
  |none=>none
 |_,_=>none
def xZG(a:ZG):List AVal:=[.d (GB a.z),.int a.g]
def stnd(z:List Int)(g:Int):Bool:=z.any λx=>x==g
def zd2(a:ZG):Shape:={ α:=Nat,dflt:=0,T:=λk=>⟨[(0,.d (GB a.z)),(1,.int a.g),(5,.int k)],[]⟩,inv:=λk=>k<=a.z.length/\∀i,i<k->gD a.z i≠a.g,meas:=λk=>a.z.length-k }
def C_zSta:Ctr:={ α:=ZG,xs:=xZG,val:=λa=>.bool (stnd a.z a.g),keep:=λ_=>[],pre:=λa=>[a.z.length<4611686018427387904] }
def BYJ(a:ZG):Ann:={ ann 18 [] with loops:=λid=>if id=2 then some [zd2 a] else none }
def BZD(a:ZG):Prop:=ES Try.prog (BYJ a) AND (AJ AND) (xZG a) (AD []) (C_zSta.val a) [] [] []
abbrev yY:=ZG.z
abbrev S6 a:=FP (yY a)
attribute [go_sem] yY S6
theorem CJM(a:ZG):(BZD a)=(HX (λi=>Be (Ge (yY a)) (Ak (yY a)) (AF (ZG.g a)) (CQ i) (CW i (S6 a)) (AB (λj=>AV j i (Rn (FS (yY a) j) (ZG.g a))))) (λi=>XL (KH i (S6 a) (AB (λj=>AV j i (Rn (FS (yY a) j) (ZG.g a))))) i (S6 a) (CL i (S6 a) (WF (Og (FS (yY a) i) (ZG.g a)) (EA (stnd (yY a) (ZG.g a))) (λj=>FH (Ge (yY a)) (AH (Ak (yY a)) (AF (ZG.g a)) (BA j i)) (KH j (S6 a) (AB (λk=>AV k j (Rn (FS (yY a) k) (ZG.g a))))) (S6 a) j i))) (DZ (stnd (yY a) (ZG.g a))))):=by kernel_rfl
theorem ALF{z:List Int}{g:Int}:stnd z g=true↔g∈z:=by
 unfold stnd;rw[List.any_eq_true]
 exact⟨λ⟨x,hx,e⟩=>(by simpa using e:x=g) ▸ hx,λh=>⟨g,h,by simp⟩⟩
theorem CTX(a:ZG)(h:a.z.length<4611686018427387904):BZD a:=by
 rw[CJM]<;> delta MD Iv RD RU CH AB CJ CE AY CG CW FV NL HD KA UI IG KI FP FS Og LW Rn yY AH AV AF BI JQ EQ GQ BL FL HR BX DN EA DT FE MJ DX Ge EX JJ BA HT DZ HW JH FK Py KH CQ CL Ak JY FH JK HX PY XL WF Be S6;simp only[CC,eq_self,implies_true,forall_const]
 refine⟨⟨0,rfl,Nat.zero_le _,λi hi=>absurd hi (Nat.not_lt_zero _)⟩,λk ⟨k1,k2⟩=>⟨λhlt=>⟨by omega,λh4=>?_,λh4=>⟨k+1,(II (by omega)).symm,⟨by omega,λi hi=>?_⟩,by omega⟩⟩,λhge=>?_⟩⟩
 ·exact ALF.2 ((by simpa using h4:gD a.z k=a.g) ▸ OH (by omega))
 ·by_cases e:i=k
  ·subst e;simpa using h4
  ·exact k2 i (by omega)
 ·cases hq:stnd a.z a.g with
  |false=>rfl
  |true=>
   obtain⟨i,hi,e⟩:=Df (ALF.1 hq)
   exact absurd e (k2 i (by omega))
theorem CMQ:AW Try.prog Z7 (C_zSta.spec dZG):=Je C_zSta BYJ [] [] BON (λ_=>by kernel_rfl) (λ_=>AK) (λa h=>CTX a h) (λ_=>Kp rfl rfl) _
def C_zLea:Ctr:={ α:=CtI,xs:=λa=>[.d (Nj a.c),.int a.k],val:=λa=>.int (a.c.p.lo*Cw a.c a.k.toNat),keep:=λ_=>[],pre:=λa=>[(0<=a.k/\a.k+1<a.c.ms.length)/\AP a.c=0] }
def CHF(a:CtI):Prop:=ES Try.prog (ann 23 []) AYW (AJ AYW) (C_zLea.xs a) (AD []) (C_zLea.val a) [] [] []
abbrev jX a b c:=Qu (BH a) (Cw b c)
attribute [go_sem] jX
theorem CJW(a:CtI):(CHF a)=(And (Gv (HR (Uc a)) (ZH a) (BX (Uc a)) (DN (Uc a) (AX (ZH a)))) (AY (jX (EC (ZH a)) (ZH a) (HM (Uc a))) (rB (EC (ZH a)) (BE (ZH a) (HM (HR (Uc a)))) (BE (ZH a) (HM (Uc a)))))):=by kernel_rfl
theorem CCZ{c:Cht}(h0:AP c=0){k:Int}(hk:0<=k/\k+1<c.ms.length):IntKind.i64.wrap (k+1)=k+1/\IntKind.i64.wrap (c.p.lo*IntKind.i64.wrap ((gD c.ms (k+1).toNat).pl-(gD c.ms k.toNat).pl))=c.p.lo*Cw c k.toNat/\IntKind.i64.wrap (c.p.hi*IntKind.i64.wrap ((gD c.ms (k+1).toNat).pl-(gD c.ms k.toNat).pl))=c.p.hi*Cw c k.toNat:=by
 have h:=KB.1 h0
 obtain⟨m1,m2⟩:=h.m
 have hf:=h.far (g:=k.toNat) (by omega)
 have hg:=h.gap (λ_=>false) (g:=k.toNat) (by omega)
 have e:(k+1).toNat=k.toNat+1:=by omega
 rw[e]
 have e2:IntKind.i64.wrap ((gD c.ms (k.toNat+1)).pl-(gD c.ms k.toNat).pl)=Cw c k.toNat:=Ap (by unfold Cw at hf;omega) (by unfold Cw at hf;omega)
 rw[e2]
 exact⟨Ap (by omega) (by omega),Ap (by omega) (by omega),Ap (by omega) (by omega)⟩
theorem BTO:AW Try.prog AJT (C_zLea.spec dCtI):=Je C_zLea (λ_=>ann 23 []) [] [] BWF (λ_=>by kernel_rfl) (λ_=>AK) (λ(a:CtI) h=>by
 obtain⟨hk,h0⟩:(0<=a.k/\a.k+1<a.c.ms.length)/\AP a.c=0:=h
 obtain⟨e1,e2,_⟩:=CCZ h0 hk
 show CHF a;rw[CJW]<;> delta BH RD RU Mr AY CG HD KA UI EB FX EC GG HM Qu Uc ZH AH AX CN BE JQ EQ HR BX DN LH DT TQ Hd YG Vn rB Gv jX;rw[e1,e2]
 exact⟨⟨⟨by omega,by omega⟩,by omega,by omega⟩,rfl⟩) (λ_=>Kp rfl rfl) _
structure CZG where
 a:CZ
 g:Int
def dCZG:List AVal->Heap->Option (CZG×List (Nat×Nat)×List Nat)
 |[x,y,.d k],H=>match tN x H,tL y H with
  |some (c,f),some (l,e)=>some (⟨⟨c,l⟩,KN k⟩,[],f ++ e)
  |_,_=>none
 |_,_=>none
def Zb(a:CZ)(g:Int):Int:=bif stnd a.z g then 300000000 else a.c.p.hi*Cw a.c g.toNat
def C_zMos:Ctr:={ α:=CZG,xs:=λx=>[.d (Nj x.a.c),.d (GB x.a.z),.int x.g],val:=λx=>.int (Zb x.a x.g),keep:=λ_=>[],pre:=λx=>[(0<=x.g/\x.g+1<x.a.c.ms.length)/\x.a.z.length<4611686018427387904/\AP x.a.c=0] }
def CIF(x:CZG):Prop:=ES Try.prog (ann 28 [(Z7,C_zSta.spec dZG)]) BGL (AJ BGL) (C_zMos.xs x) (AD []) (C_zMos.val x) [] [] []
abbrev zB:=CZG.a
abbrev W6:=CZG.g
abbrev M1:=Zb
attribute [go_sem] zB W6 M1
theorem CKH(x:CZG):(CIF x)=(HV (WA (zB x)) (AB (λi=>WL i (zB x))) (AF (W6 x)) (HU (FP (Au (zB x))) 4611686018427387904) (FV (stnd (Au (zB x)) (W6 x)) (AY (M1 (zB x) (W6 x)) 300000000) (And (Gv (HR (W6 x)) (FN (zB x)) (BX (W6 x)) (DN (W6 x) (AX (FN (zB x))))) (AY (M1 (zB x) (W6 x)) (Vn (BK (Ei (zB x))) (BE (FN (zB x)) (HM (HR (W6 x)))) (BE (FN (zB x)) (HM (W6 x)))))))):=by kernel_rfl
theorem BJV:AW Try.prog AKJ (C_zMos.spec dCZG):=Je C_zMos (λ_=>ann 28 [(Z7,C_zSta.spec dZG)]) [] [] BZN (λ_=>by kernel_rfl) (λ_=>AA CMQ AK) (λ(x:CZG) h=>by
 obtain⟨hk,hz,h0⟩:(0<=x.g/\x.g+1<x.a.c.ms.length)/\x.a.z.length<4611686018427387904/\AP x.a.c=0:=h
 obtain⟨e1,_,e2⟩:=CCZ h0 hk
 show CIF x;rw[CKH]<;> delta BK RD RU Mr CH AB CJ CE AY CG FV HD KA UI EB FX EC GG FP FS El HM ED FN TW Qu zB W6 M1 AH AX WE AV AF WV CN Ei BE JQ Au EQ GQ BL EV HR BX HO DN LH IC DT HH IZ HU LJ KO TQ Hd HV XE XR YG WA WL Vn Gv;simp only[CC,eq_self,implies_true,forall_const];rw[e1,e2]
 refine⟨hz,λh=>?_,λh=>⟨⟨⟨by omega,by omega⟩,by omega,by omega⟩,?_⟩⟩
 ·unfold Zb;rw[h];rfl
 ·unfold Zb;rw[h];rfl) (λ_=>Kp rfl rfl) _
def ntS(c:Cht):Nat->Nat->Span
 |0,_=>farS
 |k+1,i=>bif decide (i=(gD c.ns k).mi.toNat) then (gD c.ns k).t else ntS c k i
def zn3n(c:Cht):Shape:={ α:=One,dflt:=default,T:=λ_=>⟨[(1,.bptr 201 0),(3,.d Ej),(4,.int 0)],[(201,.live (xO c))]⟩,inv:=λ_=>True,meas:=λ_=>50,first:=[(201,1000)] }
def zn3o(c:Cht):Shape:={ α:=Nat,dflt:=0,T:=λk=>⟨[(1,.bptr 201 0),(3,.own 202 2 0 k),(4,.int k)],[(201,.live (xO c)),(202,.live (.row 2 k λi=>MV farS))]⟩,inv:=λk=>1<=k/\k<=c.ms.length,meas:=λk=>40-k,again:=[(202,6048)] }
def zn6c(c:Cht):Shape:={ α:=One,dflt:=default,T:=λk=>⟨[(1,.bptr 201 0),(3,.own 202 2 0 c.ms.length)],[(201,.live (xO c)),(202,.live (.row 2 c.ms.length λi=>MV farS))]⟩,inv:=λ_=>True,meas:=λ_=>0 }
def zn7(c:Cht):Shape:={ α:=Nat,dflt:=0,T:=λk=>⟨[(1,.bptr 201 0),(3,.own 202 2 0 c.ms.length),(5,.int k)],[(201,.live (xO c)),(202,.live (.row 2 c.ms.length λi=>MV (ntS c k i)))]⟩,inv:=λk=>k<=c.ns.length,meas:=λk=>c.ns.length-k }
def C_zNot:Ctr:={ α:=Cht,xs:=λc=>[.d (Nj c)],val:=λc=>.d (HA (Ov c)),keep:=λ_=>[],pre:=λc=>[AP c=0] }
def CHO(c:Cht):Ann:={ ann 39 [] with mt:=λid=>id==5,loops:=λid=>if id=3 then some [zn3n c,zn3o c] else if id=7 then some [zn7 c] else none,cut:=λid=>if id=6 then some [zn6c c] else none }
def BZX(c:Cht):Prop:=ES Try.prog (CHO c) AZV (AJ AZV) (C_zNot.xs c) (AD []) (C_zNot.val c) [] [] [202]
theorem CLL(c:Cht):(BZX c)=(Yc (Lf (Mv AG EY BP (KP c) IP) (Un IP (Pw (MZ c)) Hq (λi=>DT AG (Ex (LP i) (Fz i) c c (Co c (LP i) (λj=>BF j i (AF (Int.negSucc 99999999)) (ER 100000000)))) (YP i (AX c)) (MJ 40 i 50)) VS) (λi=>Un (YP i (AX c)) (Sp i c) (Hi i) (λj=>Jj (Ex (PI j i) (BA j i) c c (Co c (PI j i) (λk=>It k j sT (Sf k i sT (-100000000)) (Rq k i sT 100000000)))) (YP j (AX c)) 40 j i) (Dg (Ex AG (DO c i) c c (Co c (DO c i) (λj=>KL j c (AF (Int.negSucc 99999999)) (ER 100000000))))))) (HX (λi=>LQ AG (GD c) (CQ i) (BY c) (DF c) (Co c (GD c) (λj=>KL j c (AZ (ntS c i j) sT) (AQ (ntS c i j) sT))) (jN i c)) (λi=>Fe i (AO c) (JY i (AO c)) (CL i (AO c) (QN i (AO c) (HZ (BR c i) (AX c)) (XZ (BR c i) (AX c)))) (KI (λj=>Jj (Ex (GD c) (BA j i) c c (Co c (GD c) (λk=>KL k c (BD (ntS c j k) (YD k (BR c i) (BH (AC c i)) (BH (ntS c i k)))) (BC (ntS c j k) (YD k (BR c i) (BK (AC c i)) (BK (ntS c i k))))))) (jN j c) (AO c) j i)) (LF (FW (IH (cD c)) c) (KC (AX c)) (λj=>UG j (cD c) (ntS c i (BG j))))))):=by kernel_rfl
theorem BYP{c:Cht}{m:Nat}:∀k,(∀i,i<k->(gD c.ns i).mi.toNat≠m)->ntS c k m=farS
 |0,_=>rfl
 |k+1,h=>by
  show (bif decide (m=(gD c.ns k).mi.toNat) then _ else _)=_
  rw[decide_eq_false λe=>h k (Nat.lt_succ_self _) e.symm]
  exact BYP k λi hi=>h i (by omega)
theorem CBS{c:Cht}(h:ChOk c){m:Nat}{j:Nat}(hm:(gD c.ns j).mi=m):∀k,j<k->k<=c.ns.length->ntS c k m=(gD c.ns j).t
 |0,h1,_=>absurd h1 (Nat.not_lt_zero _)
 |k+1,h1,h2=>by
  show (bif decide (m=(gD c.ns k).mi.toNat) then _ else _)=_
  by_cases e:j=k
  ·subst e
   rw[decide_eq_true (by omega)];rfl
  ·rw[decide_eq_false λe2=>h.one j k (by omega) (by omega) (by have:=(h.nt _ (OH (show k<c.ns.length by omega))).1;omega)]
   exact CBS h hm k (by omega) (by omega)
theorem CLN{c:Cht}(h:ChOk c)(m:Nat):ntS c c.ns.length m=iK c m:=by
 unfold iK
 cases hq:hasN c.ns m with
 |false=>
  refine BYP _ λi hi e=>?_
  have hn:=(h.nt _ (OH hi)).1
  have:=iR.2 ⟨gD c.ns i,OH hi,show (gD c.ns i).mi=(m:Int) by omega⟩
  rw[hq] at this;cases this
 |true=>
  obtain⟨q1,q2⟩:=rY hq
  obtain⟨j,hj,e⟩:=Df q1
  show _=(ntOf c.ns m).t
  rw[CBS h (j:=j) (by rw[e];exact q2) _ hj (Nat.le_refl _),e]
theorem CTQ(c:Cht)(h0:AP c=0):BZX c:=by
 have hc:=KB.1 h0
 obtain⟨m1,m2⟩:=hc.m
 have hn:=hc.n
 rw[CLL]<;> delta MD Iv BH BK DY RD RU EM EO CH IH AB CJ CE AY OV CG MY CW FV NL HD KA UI IG EB FX EC GY GX GR GG DV FO FU KI IP LW HM IV VS ED NR WW Qr Qj Lg bX sT cD AH CK AX AI BC AV AF BI GJ MK AQ BB AC BZ CN BF AE AO BD DD AZ DC BG BR BE BS BJ JQ BQ LY BV EQ BL BM CY BY ER FL CF AG HR BX TV KL NU KJ DN GD OT OR DF MZ OU HG QQ EA DT KQ FE FW HN ZX MJ JA ZS IT DX EZ EX JJ BA BP NF DO HU HW JH GP NP FK IU LS FT QD Gb VW XI VD HI FA TQ SN CQ HZ CL MR EY JY PO FH OZ VU Bb JK KC Fq Ew ON HX PF HV LF KP LP Fx PI YP Ev YM Cl Ik LQ Es Cd XZ Co Hh He QN Qv Ep YD Ll Xn eO UG Ex Ln Dw Zy Dg Fz Lf It Hi Pw Fe Rq Sp Hq Sf Un Mv jN Yc Jj;simp only[CC,eq_self,implies_true,forall_const]
 refine⟨⟨⟨default,trivial⟩,⟨λh=>⟨⟨by omega,by omega,by omega,by omega,by omega⟩,1,⟨rfl,rfl,rfl⟩,⟨by omega,by omega⟩,by omega⟩,λh=>by omega⟩,λk ⟨k1,k2⟩=>⟨λhlt=>⟨⟨by omega,by omega,by omega,by omega⟩,k+1,⟨rfl,(II (by omega)).symm,rfl,λi hi=>?_⟩,⟨by omega,by omega⟩,by omega⟩,λhge=>⟨default,by omega⟩⟩⟩,⟨0,⟨rfl,λi hi=>⟨rfl,rfl⟩⟩,Nat.zero_le _⟩,λk hk=>⟨λhlt=>?_,λhge=>?_⟩⟩
 ·cases decide (i<k)<;>exact⟨rfl,rfl⟩
 ·have hlt:k<c.ns.length:=by omega
  have hi:=(hc.nt _ (OH hlt)).1
  refine⟨⟨by omega,by omega,by omega,by omega⟩,k+1,⟨(II (by omega)).symm,λi _=>?_⟩,by omega,by omega⟩
  show (bif decide (i=(gD c.ns k).mi.toNat) then _ else _:Span).lo=_/\(bif decide (i=(gD c.ns k).mi.toNat) then _ else _:Span).hi=_
  cases decide (i=(gD c.ns k).mi.toNat)<;>exact⟨rfl,rfl⟩
 ·obtain rfl:k=c.ns.length:=by omega
  refine⟨QM c,by omega,λj hj=>?_⟩
  rw[tG (by rw[QM] at hj;exact hj),CLN hc];exact⟨rfl,rfl⟩
theorem CNP:AW Try.prog BCH (C_zNot.spec iT):=Je C_zNot CHO [] [202] BWH (λ_=>by kernel_rfl) (λ_=>AK) (λc h=>CTQ c h) (λ_=>Kp rfl rfl) _
end Go.Bal
