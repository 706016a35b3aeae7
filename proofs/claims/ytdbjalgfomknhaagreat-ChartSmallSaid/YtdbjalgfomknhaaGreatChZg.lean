/- Package chart, with the reference: what the law itself calls (copies, same, big, a chart of the reference). -/
import Derived.Test.YtdbjalgfomknhaaGreatChZf
set_option linter.unusedVariables false
set_option linter.unusedSimpArgs false
namespace Go.Bal
open Go Go.Sym Go.Proofs
def BKO:List AVal->Heap->Option (List Mk×List (Nat×Nat)×List Nat)
 |y :: _,H=>match dMks y H with
  |some (l,f)=>some (l,[],f)
  |none=>none
 |_,_=>none
def BKQ:List AVal->Heap->Option (List Nt×List (Nat×Nat)×List Nat)
 |y :: _,H=>match dNts y H with
  |some (l,f)=>some (l,[],f)
  |none=>none
 |_,_=>none
def AMD:List AVal->Heap->Option (List Int×List (Nat×Nat)×List Nat)
 |y :: _,H=>match tL y H with
  |some (l,f)=>some (l,[],f)
  |none=>none
 |_,_=>none
def AVQ:List AVal->Heap->Option (Cht×List (Nat×Nat)×List Nat)
 |y :: _,H=>match tN y H with
  |some (l,f)=>some (l,[],f)
  |none=>none
 |_,_=>none
def C_cpM:Ctr:={ α:=List Mk,xs:=λl=>[.d (dE l)],L:=λ_=>[],val:=λl=>.d (dE l),keep:=λ_=>[],pre:=λl=>[l.length<1073741824] }
def CRM(l:List Mk):Prop:=ES Try.prog (ann 7 []) BHP (AJ BHP) (C_cpM.xs l) (AD []) (C_cpM.val l) [] [] []
abbrev jI a b c d e f g:=CI a b c (OS d e) f (VV d g)
abbrev Nx a b c d e f g h:=jI a b c d e (VV f g) h
attribute [go_sem] jI Nx
theorem CXO(l:List Mk):(CRM l)=(LF (Fx Ln IP (EB l) (Jk (EB l)) (Mn (EB l)) (Nv (EB l) 16)) (CH (EB l) (BG (EB l))) (λi=>Nx i (EB l) (OS l i) l (QI i) l i (QI i))):=by kernel_rfl
def C_cpN:Ctr:={ α:=List Nt,xs:=λl=>[.d (sL l)],L:=λ_=>[],val:=λl=>.d (sL l),keep:=λ_=>[],pre:=λl=>[l.length<1073741824] }
def CQF(l:List Nt):Prop:=ES Try.prog (ann 7 []) BJI (AJ BJI) (C_cpN.xs l) (AD []) (C_cpN.val l) [] [] []
theorem CYH(l:List Nt):(CQF l)=(LF (PF (Ll 5) (XI IP (DV l) 5) (Jk (DV l)) (Mn (DV l)) (Nv (DV l) 40)) (CH (DV l) (BG (DV l))) (λi=>BJ i (DV l) (AY (PH l i) (PH l (QI i))) (AZ (Ay l i) (Ay l (QI i))) (Ay l i) (Ay l (QI i)) (AZ (Ax l i) (Ax l (QI i))) (Ax l i) (Ax l (QI i)))):=by kernel_rfl
def C_cpI:Ctr:={ α:=List Int,xs:=λl=>[.d (GB l)],L:=λ_=>[],val:=λl=>.d (GB l),keep:=λ_=>[],pre:=λl=>[l.length<1073741824] }
def CPW(l:List Int):Prop:=ES Try.prog (ann 7 []) BJK (AJ BJK) (C_cpI.xs l) (AD []) (C_cpI.val l) [] [] []
theorem CUP(l:List Int):(CPW l)=(LF (PF kB (And IP (GQ 0 l Af)) (Jk (FP l)) (Mn (FP l)) (Nv (FP l) 8)) (EV l (BG (FP l))) (λi=>LJ i l l (QI i))):=by kernel_rfl
def C_cpC:Ctr:={ α:=Cht,xs:=λc=>[.d (Nj c)],L:=λ_=>[],val:=λc=>.d (Nj c),keep:=λ_=>[],pre:=λc=>[c.ms.length<1073741824/\c.ns.length<1073741824] }
def CQJ:Ann:=ann 12 [(BIQ,C_cpM.spec BKO),(BFV,C_cpN.spec BKQ)]
def CPF(c:Cht):Prop:=ES Try.prog CQJ BQE (AJ BQE) (C_cpC.xs c) (AD []) (C_cpC.val c) [] [] []
abbrev uS a:=HU a 1073741824
attribute [go_sem] uS
theorem CXP(c:Cht):(CPF c)=(LQ (BW c) (DK c) (MI (HK c)) (BO c) (AB (λi=>AT i c (AM c i) (AN c i) (AS c i) (AC c i) (AL c i) (AR c i) (AE c i))) (uS (HF c)) (Gd c (AB (λi=>AU i c (EI c i) (EJ c i) (AC c i) (AS c i) (EH c i) (AE c i) (AR c i))))):=by kernel_rfl
def smM4(l:List Mk):Shape:={ α:=Nat,dflt:=0,T:=λk=>⟨[(0,.d (dE l)),(1,.d (dE l)),(5,.int k)],[]⟩,inv:=λk=>k<=l.length,meas:=λk=>l.length-k }
def C_smM:Ctr:={ α:=List Mk,xs:=λl=>[.d (dE l),.d (dE l)],L:=λ_=>[],val:=λ_=>.bool true,keep:=λ_=>[],pre:=λl=>[l.length<1073741824] }
def CQY(l:List Mk):Prop:=ES Try.prog { ann 26 [] with loops:=λid=>if id=4 then some [smM4 l] else none } BHD (AJ BHD) (C_smM.xs l) (AD []) (.bool true) [] [] []
abbrev Pn:=DZ LW
abbrev wV a b:=and (Og a a) b
attribute [go_sem] Pn wV
theorem CWX(l:List Mk):(CQY l)=(Fb (lY (CG (EB l))) Pn (λi=>Kk (Wb (BI (EB l)) (AB (λj=>BF j (EB l) (AF (OS l j)) (AF (VV l j)))) (CQ i)) i (EB l)) (λi=>Fe i (EB l) (JY i (EB l)) (C3 (DX i) (Jz i (EB l)) (DX i)) (WF (not (wV (OS l i) (wV (VV l i) LW))) Pn (λj=>IF (Wb (BI (EB l)) (AB (λk=>BF k (EB l) (AF (OS l k)) (AF (VV l k)))) (BA j i)) (ED j (EB l)) (EB l) j i)) IU)):=by kernel_rfl
def smN4(l:List Nt):Shape:={ α:=Nat,dflt:=0,T:=λk=>⟨[(0,.d (sL l)),(1,.d (sL l)),(5,.int k)],[]⟩,inv:=λk=>k<=l.length,meas:=λk=>l.length-k }
def C_smN:Ctr:={ α:=List Nt,xs:=λl=>[.d (sL l),.d (sL l)],L:=λ_=>[],val:=λ_=>.bool true,keep:=λ_=>[],pre:=λl=>[l.length<1073741824] }
def CQN(l:List Nt):Prop:=ES Try.prog { ann 26 [] with loops:=λid=>if id=4 then some [smN4 l] else none } BHZ (AJ BHZ) (C_smN.xs l) (AD []) (.bool true) [] [] []
theorem CVQ(l:List Nt):(CQN l)=(Fb (lY (CG (DV l))) Pn (λi=>Kk (Wb (BI (DV l)) (AB (λj=>LY j (DV l) (AF (PH l j)) (BZ (Ay l j)) (Ay l j) (BZ (Ax l j)) (Ax l j))) (CQ i)) i (DV l)) (λi=>Fe i (DV l) (JY i (DV l)) (C3 (DX i) (Jz i (DV l)) (DX i)) (WF (not (wV (PH l i) (and (wV (BH (Ay l i)) (wV (BK (Ay l i)) LW)) (and (wV (BH (Ax l i)) (wV (BK (Ax l i)) LW)) LW)))) Pn (λj=>IF (Wb (BI (DV l)) (AB (λk=>LY k (DV l) (AF (PH l k)) (BZ (Ay l k)) (Ay l k) (BZ (Ax l k)) (Ax l k))) (BA j i)) (ED j (DV l)) (DV l) j i)) IU)):=by kernel_rfl
def smI4(l:List Int):Shape:={ α:=Nat,dflt:=0,T:=λk=>⟨[(0,.d (GB l)),(1,.d (GB l)),(5,.int k)],[]⟩,inv:=λk=>k<=l.length,meas:=λk=>l.length-k }
def C_smI:Ctr:={ α:=List Int,xs:=λl=>[.d (GB l),.d (GB l)],L:=λ_=>[],val:=λ_=>.bool true,keep:=λ_=>[],pre:=λl=>[l.length<1073741824] }
def CQL(l:List Int):Prop:=ES Try.prog { ann 26 [] with loops:=λid=>if id=4 then some [smI4 l] else none } BGU (AJ BGU) (C_smI.xs l) (AD []) (.bool true) [] [] []
theorem CTE(l:List Int):(CQL l)=(Fb (lY (CG (FP l))) Pn (λi=>Kk (Wb (Ge l) (Ak l) (CQ i)) i (FP l)) (λi=>Fe i (FP l) (JY i (FP l)) (C3 (DX i) (Jz i (FP l)) (DX i)) (WF (lY (FS l i)) Pn (λj=>IF (Wb (Ge l) (Ak l) (BA j i)) (ED j (FP l)) (FP l) j i)) IU)):=by kernel_rfl
def C_smC:Ctr:={ α:=Cht,xs:=λc=>[.d (Nj c),.d (Nj c)],L:=λ_=>[],val:=λ_=>.bool true,keep:=λ_=>[],pre:=λc=>[c.ms.length<1073741824/\c.ns.length<1073741824] }
def CRV(c:Cht):Prop:=ES Try.prog (ann 45 [(AXP,C_smM.spec BKO),(AWW,C_smN.spec BKQ)]) ALP (AJ ALP) (C_smC.xs c) (AD []) (.bool true) [] [] []
theorem CVX(c:Cht):(CRV c)=((((bif bif bif c.p.lo==c.p.lo&&(c.p.hi==c.p.hi&&true) then c.base==c.base else false then c.scale==c.scale else false then c.off==c.off else false)=true->(NK
 c.ms.length λ(i:Nat)=>gD c.ms i).length=c.ms.length/\(∀(i:Nat),i<(NK c.ms.length λ(i:Nat)=>gD c.ms i).length->(gD (NK c.ms.length λ(i:Nat)=>gD c.ms i) i).pl=(gD c.ms i).pl/\(gD (NK
 c.ms.length λ(i:Nat)=>gD c.ms i) i).ht=(gD c.ms i).ht)/\(NK c.ms.length λ(i:Nat)=>gD c.ms i).length=c.ms.length/\(∀(i:Nat),i<(NK c.ms.length λ(i:Nat)=>gD c.ms i).length->(gD (NK
 c.ms.length λ(i:Nat)=>gD c.ms i) i).pl=(gD c.ms i).pl/\(gD (NK c.ms.length λ(i:Nat)=>gD c.ms i) i).ht=(gD c.ms i).ht)/\(NK c.ms.length λ(i:Nat)=>gD c.ms i).length.succ.le 1073741824)/\((bif
 bif bif bif c.p.lo==c.p.lo&&(c.p.hi==c.p.hi&&true) then c.base==c.base else false then c.scale==c.scale else false then c.off==c.off else false then true else false)=true->(NK c.ns.length λ(i:Nat)
 => gD c.ns i).length=c.ns.length/\(∀(i:Nat),i<(NK c.ns.length λ(i:Nat)=>gD c.ns i).length->(gD (NK c.ns.length λ(i:Nat)=>gD c.ns i) i).mi=(gD c.ns i).mi/\(gD (NK c.ns.length λ(i:Nat)=>
 gD c.ns i) i).t.lo=(gD c.ns i).t.lo/\(gD (NK c.ns.length λ(i:Nat)=>gD c.ns i) i).t.hi=(gD c.ns i).t.hi/\(gD (NK c.ns.length λ(i:Nat)=>gD c.ns i) i).s.lo=(gD c.ns i).s.lo/\(gD (NK c.ns.length fun
 (i:Nat)=>gD c.ns i) i).s.hi=(gD c.ns i).s.hi)/\(NK c.ns.length λ(i:Nat)=>gD c.ns i).length=c.ns.length/\(∀(i:Nat),i<(NK c.ns.length λ(i:Nat)=>gD c.ns i).length->(gD (NK c.ns.length fun
 (i:Nat)=>gD c.ns i) i).mi=(gD c.ns i).mi/\(gD (NK c.ns.length λ(i:Nat)=>gD c.ns i) i).t.lo=(gD c.ns i).t.lo/\(gD (NK c.ns.length λ(i:Nat)=>gD c.ns i) i).t.hi=(gD c.ns i).t.hi/\(gD (NK
 c.ns.length λ(i:Nat)=>gD c.ns i) i).s.lo=(gD c.ns i).s.lo/\(gD (NK c.ns.length λ(i:Nat)=>gD c.ns i) i).s.hi=(gD c.ns i).s.hi)/\(NK c.ns.length λ(i:Nat)=>gD c.ns i).length.succ.le 1073741824))
 /\ true=bif bif bif bif bif c.p.lo==c.p.lo&&(c.p.hi==c.p.hi&&true) then c.base==c.base else false then c.scale==c.scale else false then c.off==c.off else false then true else false then true else false):=
 by kernel_rfl
def bigV(c:Cht):Bool:=(decide ((10:Int)<c.ms.length)&&decide ((c.ms.length:Int)<40))||decide ((42:Int)<c.ms.length)||(decide ((8:Int)<c.ns.length)&&decide ((c.ns.length:Int)<20))||decide ((22:Int)<c.ns.length)
def C_big:Ctr:={ α:=Cht,xs:=λc=>[.d (Nj c)],L:=λ_=>[],val:=λc=>.bool (bigV c),keep:=λ_=>[] }
def COT(c:Cht):Prop:=ES Try.prog (ann 37 []) BAO (AJ BAO) (C_big.xs c) (AD []) (.bool (bigV c)) [] [] []
theorem CVF(c:Cht):(COT c)=(MD (bigV c) (KE (Nw (Xw (WB (MZ c) 10) (MZ c) 40) (WB (MZ c) 42) (IB (UP (AO c) 8) (FK (AO c) 20))) (UP (AO c) 22))):=by kernel_rfl
def lcB(c:Cht)(x y:AVal):List (Nat×HCell):=[(201,.live (xO c)),(202,.live (.box [.int 0,.int 0,.int 0,.int 0,.int 0,.d Ej,.d Ej])),(203,.live (.box [.int c.p.lo,.int c.p.hi,.int c.base,.int c.scale,.int c.off,x,y]))]
def lcS:List (Nat×AVal):=[(1,.bptr 201 0),(2,.bptr 202 0),(3,.bptr 203 0)]
def lc3n(c:Cht):Shape:={ α:=One,dflt:=default,T:=λ_=>⟨lcS ++ [(4,.int 0)],lcB c (.d Ej) (.d Ej)⟩,inv:=λ_=>True,meas:=λ_=>60,first:=[(201,1000),(202,1016),(203,2144)] }
def lc3o(c:Cht):Shape:={ α:=Nat,dflt:=0,T:=λk=>⟨lcS ++ [(4,.int k)],lcB c (.own 204 2 0 k) (.d Ej) ++ [(204,.live (.row 2 k λi=>eMk (gD c.ms i)))]⟩,inv:=λk=>1<=k/\k<=c.ms.length,meas:=λk=>50-k,again:=[(204,6128)] }
def lc6(c:Cht):Shape:={ α:=One,dflt:=default,T:=λ_=>⟨lcS,lcB c (.d (dE c.ms)) (.d Ej)⟩,inv:=λ_=>True,meas:=λ_=>0,ffz:=[204] }
def lc7n(c:Cht):Shape:={ α:=One,dflt:=default,T:=λ_=>⟨lcS ++ [(5,.int 0)],lcB c (.d (dE c.ms)) (.d Ej)⟩,inv:=λ_=>True,meas:=λ_=>60 }
def lc7o(c:Cht):Shape:={ α:=Nat,dflt:=0,T:=λk=>⟨lcS ++ [(5,.int k)],lcB c (.d (dE c.ms)) (.own 205 5 0 k) ++ [(205,.live (.row 5 k λi=>eNt (gD c.ns i)))]⟩,inv:=λk=>1<=k/\k<=c.ns.length,meas:=λk=>50-k,again:=[(205,10128)] }
def C_law:Ctr:={ α:=Cht,xs:=λc=>[.d (Nj c)],L:=λ_=>[],val:=λc=>.d (Nj c),keep:=λ_=>[],pre:=λc=>[c.ms.length<=42/\c.ns.length<=42] }
def CRT(c:Cht):Ann:={ ann 50 [] with mt:=λid=>id==5||id==9,loops:=λid=>if id=3 then some [lc3n c,lc3o c] else if id=7 then some [lc7n c,lc7o c] else none,cut:=λid=>if id=6 then some [lc6 c] else none }
def CPQ(c:Cht):Prop:=ES Try.prog (CRT c) AES (AJ AES) (C_law.xs c) (AD []) (.d (Nj c)) [] [] [205]
abbrev YA a b c:=CX a b (BG c)
abbrev XY a b c d:=MH a b c (BG d)
abbrev S3 a b c:=Oh a b b c
abbrev TL a b c d e f:=DU a b (BE c a) d e f e
abbrev RN a b c d e:=TL a b c d (BG a) e
abbrev Lc a b c(d:Nat->Prop):=Qq a b c (AB d)
abbrev BAZ a b c:=Mi a b c c
attribute [go_sem] YA XY S3 TL RN Lc BAZ
theorem CUY(c:Cht):(CPQ c)=(Yc (Lf (Mv BP (BY c) (DF c) (Ev c BP (N4 BP (iW (Ag c (BAZ (BQ c) AG EY))))) IP) (Un IP (Pw (MZ c)) (EX WZ 0 (AX c) Hq) (λi=>DT (Fz i) (bA c (S3 (HI c) BP (Qo BP AG EY (Ir AG EY c AG (Lc (LP i) AG EY (λj=>TL j i c c Cn (BS c j))))))) (YP i (AX c)) (Oz i)) (Dg (Bf c (Ev c BP (N4 BP (iW (Ag c (Oh (BQ c) (DO c 0) AG EY)))))))) (λi=>Un (YP i (AX c)) (Sp i c) (CL i (AX c) (Hi i)) (λj=>FH (BA j i) (bA c (S3 (HI c) BP (Qo BP AG EY (Ir AG EY c AG (Lc (PI j i) AG EY (λk=>CI k j (BE c k) (OZ k i (BE c k) (BE c i)) (BS c k) (OZ k i (BS c k) (BS c i)))))))) (YP j (AX c)) 50 j i) (Pj (BY c) (CS (DF c) (BM c) (BV c) (BQ c) (GD c) (JC c) (Uh (HG c) (HI c) (Yw BP AG (Sa (BY c) (KQ (DF c) (BM c) (BV c) (BQ c) (DO c i) (KC i) (λj=>RN j (AX c) c c (BS c j)) AG EY)))))))) (Lf (Mv BP (BY c) (DF c) (Ev c BP (N4 BP (iW (Fq c AG EY)))) IP) (Un IP (Pw (CG (AO c))) (EX WZ 0 (AO c) (PF (Ll 5) (XI HN 1 5) Hh He 40)) (λi=>DT (Fz i) (bA c (S3 (HI c) BP (Qo BP AG EY (Ir AG EY c (GD c) (pY (JC c) (LP i) (λj=>BJ j i (MH c j c Cn) (Gu c j c Cn) (AC c j) (AC c Cn) (Er c j c Cn) (AE c j) (AE c Cn))))))) (YP i (AO c)) (Oz i)) (Ag c (lW (BQ c) (GD c) (JC c) (HE c 0)))) (λi=>OO (YP i (AO c)) i (AO c) (CL i (AO c) (PF (XI (BI i) i 5) (XI HN 1 5) Cd (Ep i) (Es i 40))) (KI (λj=>FH (BA j i) (bA c (S3 (HI c) BP (Qo BP AG EY (Ir AG EY c (GD c) (pY (JC c) (PI j i) (λk=>AV k j (XO (BR c k) (OZ k i (BR c k) (BR c i)) (BD (AC c k) (Sf k i (AC c k) (BH (AC c i)))) (AC c k) (Rq k i (AC c k) (BK (AC c i))) (BD (AE c k) (Sf k i (AE c k) (BH (AE c i)))) (AE c k) (Rq k i (AE c k) (BK (AE c i)))))))))) (YP j (AO c)) 50 j i)) (And (BY c) (BB (DF c) (BM c) (BV c) (BQ c) (GD c) (JC c) (HE c i) (KC i) (AB (λj=>AU j c (XY c j c j) (YA (AC c j) c j) (AC c j) (AC c (BG j)) (Er c j c (BG j)) (AE c j) (AE c (BG j))))))))):=by kernel_rfl
theorem CWN:AW Try.prog BIQ (C_cpM.spec BKO):=Je C_cpM (λ_=>ann 7 []) [] [] CIG (λ_=>by kernel_rfl) (λ_=>AK) (λ(l:List Mk) h=>by
 show CRM l;rw[CXO]<;> delta MD Iv CH AB CJ CE AY CW IG EB GG IP LW IV Lg AH AI AV BI BF BG CI EA VV IT OS XI VD SN VU Bb PF LF Fx YM Ik QI Ll Ln Jk jI Nv Mn Nx;simp only[CC,eq_self,implies_true,forall_const]
 have h:l.length<1073741824:=h
 exact⟨⟨λh=>absurd h (Nat.lt_irrefl 0),(λh=>by cases h),by omega,by omega⟩,λi hi=>by rw[Nat.sub_zero];exact⟨rfl,rfl⟩⟩) (λ_=>Kp rfl rfl) _
theorem CUA:AW Try.prog BFV (C_cpN.spec BKQ):=Je C_cpN (λ_=>ann 7 []) [] [] CAN (λ_=>by kernel_rfl) (λ_=>AK) (λ(l:List Nt) h=>by
 show CQF l;rw[CYH]<;> delta MD Iv BH BK DY EM EO CH AB CJ CE AY CW IG DV FU IP LW IV Lg AH AI BC AV BI AQ BD DD AZ DC BG BJ EA Ax IT Ay PH XI VD SN VU PF LF YM Ik QI Ll Jk Nv Mn;simp only[CC,eq_self,implies_true,forall_const]
 have h:l.length<1073741824:=h
 exact⟨⟨λh=>absurd h (Nat.lt_irrefl 0),(λh=>by cases h),by omega,by omega⟩,λi hi=>by rw[Nat.sub_zero];exact⟨rfl,rfl,rfl,rfl,rfl⟩⟩) (λ_=>Kp rfl rfl) _
theorem CGX:AW Try.prog AWM (C_cpI.spec AMD):=Je C_cpI (λ_=>ann 7 []) [] [] CII (λ_=>by kernel_rfl) (λ_=>AK) (λ(l:List Int) h=>by
 show CPW l;rw[CUP]<;> delta MD Iv CH AB CJ CE AY CW IG IP FP FS LW IV Lg AH AI AV BI BG GQ EV HO IC EA HH IT LJ VD SN VU PF LF LP YM Ik QI Af Jk Nv Mn kB;simp only[CC,eq_self,implies_true,forall_const]
 have h:l.length<1073741824:=h
 exact⟨⟨λh=>absurd h (Nat.lt_irrefl 0),(λh=>by cases h),by omega,by omega⟩,λi hi=>by rw[Nat.sub_zero]⟩) (λ_=>Kp rfl rfl) _
theorem BOW:AW Try.prog BAB (C_cpC.spec iT):=Je C_cpC (λ_=>CQJ) [] [] CNX (λ_=>by kernel_rfl) (λ_=>AA CWN (AA CUA AK)) (λ(c:Cht) h=>by
 show CPF c;rw[CXP]<;> delta BH BK DY EM EO CH AB CJ CE AY EB FX EC GY GX GR GG DV FO FU ED AH CK IW AX JE AI BC AV AF IK IN AQ JB BB AC BZ CN BF AE AO BD HK DD AZ DC BR BE BS BJ AR BQ BV HF CI OC BL AS BM CY BY IE CU CX OE DF DU HY DR OD KQ FW AT HE OF RG AU DO HU BO BW AL AN AM ID NP MQ MN DK SC QD KS HS Gr EH EJ EI JL MI LQ Gd uS;simp only[CC,eq_self,implies_true,forall_const]
 have h:c.ms.length<1073741824/\c.ns.length<1073741824:=h
 exact⟨h.1,h.2⟩) (λ_=>Kp rfl rfl) _
theorem CTM:AW Try.prog AXP (C_smM.spec BKO):=Je C_smM (λ(l:List Mk)=>{ ann 26 [] with loops:=λid=>if id=4 then some [smM4 l] else none }) [] [] CGH (λ_=>by kernel_rfl) (λ_=>AK) (λ(l:List Mk) h=>by
 have h:l.length<1073741824:=h
 show CQY l;rw[CWX]<;> delta MD Iv RD RU CH AB CJ CE AY CG FV NL HD KA UI IG EB GG KI Og LW QR ED AH AI AV AF BI GJ lY Jc Wb BF JQ EQ FL HR BX DN DT FE VV MJ DX OS EZ JJ BA DZ JH C3 FK IU FA CQ JY JK IF HX Pn Jz WF Fb Kk Fe wV;simp only[CC,eq_self,implies_true,forall_const]
 refine⟨λh=>by simp at h,λ_=>⟨⟨0,rfl,Nat.zero_le _⟩,λk hk hlt=>⟨by omega,λh=>by simp at h,λ_=>⟨k+1,(II (by omega)).symm,by omega,by omega⟩⟩⟩⟩) (λ_=>Kp rfl rfl) _
theorem CVP:AW Try.prog AWW (C_smN.spec BKQ):=Je C_smN (λ(l:List Nt)=>{ ann 26 [] with loops:=λid=>if id=4 then some [smN4 l] else none }) [] [] BZJ (λ_=>by kernel_rfl) (λ_=>AK) (λ(l:List Nt) h=>by
 have h:l.length<1073741824:=h
 show CQN l;rw[CVQ]<;> delta MD Iv BH BK DY RD RU EM EO CH AB CJ CE AY CG FV NL HD KA UI IG DV FU KI Og LW QR ED AH AI BC AV AF BI GJ lY Jc Wb AQ BZ DD DC BJ JQ LY EQ FL HR BX DN DT FE Ax MJ DX Ay EZ JJ BA DZ PH JH C3 FK IU FA CQ JY JK IF HX Pn Jz WF Fb Kk Fe wV;simp only[CC,eq_self,implies_true,forall_const]
 refine⟨λh=>by simp at h,λ_=>⟨⟨0,rfl,Nat.zero_le _⟩,λk hk hlt=>⟨by omega,λh=>by simp at h,λ_=>⟨k+1,(II (by omega)).symm,by omega,by omega⟩⟩⟩⟩) (λ_=>Kp rfl rfl) _
theorem CIC:AW Try.prog AXM (C_smI.spec AMD):=Je C_smI (λ(l:List Int)=>{ ann 26 [] with loops:=λid=>if id=4 then some [smI4 l] else none }) [] [] CGA (λ_=>by kernel_rfl) (λ_=>AK) (λ(l:List Int) h=>by
 have h:l.length<1073741824:=h
 show CQL l;rw[CTE]<;> delta MD Iv RD RU CH AB CJ CE AY CG FV NL HD KA UI IG KI FP FS LW QR ED AH AI AV AF BI GJ lY Jc Wb JQ EQ GQ FL HR BX DN DT FE MJ DX Ge EZ JJ BA HT DZ JH C3 FK IU Py FA CQ Ak JY JK IF HX Pn Jz WF Fb Kk Fe;simp only[CC,eq_self,implies_true,forall_const]
 refine⟨λh=>by simp at h,λ_=>⟨⟨0,rfl,Nat.zero_le _⟩,λk hk hlt=>⟨by omega,λh=>by simp at h,λ_=>⟨k+1,(II (by omega)).symm,by omega,by omega⟩⟩⟩⟩) (λ_=>Kp rfl rfl) _
theorem BQT:AW Try.prog zR (C_smC.spec AVQ):=Je C_smC (λ_=>ann 45 [(AXP,C_smM.spec BKO),(AWW,C_smN.spec BKQ)]) [] [] BPC (λ_=>by kernel_rfl) (λ_=>AA CTM (AA CVP AK)) (λ(c:Cht) h=>by
 have h:c.ms.length<1073741824/\c.ns.length<1073741824:=h
 show CRV c;rw[CVX];simp only[CC,eq_self,implies_true,forall_const]
 simp only[beq_self_eq_true,Bool.and_self,cond_true]
 exact⟨⟨λ_=>h.1,λ_=>h.2⟩,trivial⟩) (λ_=>Kp rfl rfl) _
theorem BQS:AW Try.prog X4 (C_big.spec AVQ):=Je C_big (λ_=>ann 37 []) [] [] BVK (λ_=>by kernel_rfl) (λ_=>AK) (λ(c:Cht) _=>by
 show COT c;rw[CVF]<;> delta MD N6 Iv CG NL EB FX DV FO LW WB AX AO MZ FK KE IB UP Nw Xw;unfold bigV
 have e1:decide ((c.ms.length:Int)>10)=decide ((10:Int)<c.ms.length):=rfl
 have e2:decide ((c.ms.length:Int)>42)=decide ((42:Int)<c.ms.length):=rfl
 have e3:decide ((c.ns.length:Int)>8)=decide ((8:Int)<c.ns.length):=rfl
 have e4:decide ((c.ns.length:Int)>22)=decide ((22:Int)<c.ns.length):=rfl
 rw[e1,e2,e3,e4]
 cases decide ((10:Int)<c.ms.length)<;>cases decide ((c.ms.length:Int)<40)<;>cases decide ((42:Int)<c.ms.length)<;>cases decide ((8:Int)<c.ns.length)<;>cases decide ((c.ns.length:Int)<20)<;>cases decide ((22:Int)<c.ns.length)<;>rfl) (λ_=>Kp rfl rfl) _
theorem DBV(c:Cht)(h:c.ms.length<=42/\c.ns.length<=42):CPQ c:=by
 obtain⟨m,n⟩:=h
 rw[CUY]<;> delta MD Iv BH BK DY RD RU EM EO CH AB CJ CE AY CG MY CW FV NL HD KA UI IG EB FX EC GY GX GR GG DV FO FU KI IP LW HM IV NR Qr Qj Lg bX AH CK AX AI BC AV AF BI GJ MK Jc Sz Wb Qq Yw Qo N4 Oh Mi S3 lW BAZ AQ BB AC BZ CN BF AE AO BD DD AZ DC BG BR BE BS BJ JQ BQ LY BV CI EQ BL BM CY BY ER FL CF AG HR BX TV KL CU KJ DN GD CX OT OR DF DU MZ DR OU HG EA DT KQ FE HN MJ JA IT DX HE EZ EX JJ BA BP NF AU DO CS HW JH GP NP FK JC IU FT QD Gb MH XI VD HI SN CL MR EY JY PO FH OZ VU Bb KC Fq Ew Cn ON PF HV LF UC bA TL LP Fx PI MO YP RN Ev YM YA XY Ik Es Bf WZ Cd OO Hh He Qv Ep Ll Dy Xn eO Ln Dw Vq Zy Dg Ag pP Er pY Fz U5 lJ Gu Sa XO Lc Lf Ir Hi Uh Pw jV Oz Pj Rq Sp Hq Sf Un Mv Yc V2 iW;simp only[CC,eq_self,implies_true,forall_const]
 refine⟨⟨⟨default,trivial⟩,⟨λh=>⟨⟨by omega,by omega,by omega,by omega,by omega,by omega⟩,1,⟨rfl,rfl,rfl,λi hi=>?_⟩,⟨by omega,by omega⟩,by omega⟩,λh=>⟨default,by omega⟩⟩,λk ⟨k1,k2⟩=>⟨λhlt=>⟨⟨by omega,by omega,by omega,by omega,by omega⟩,k+1,⟨(II (by omega)).symm,rfl,rfl,λi hi=>?_⟩,⟨by omega,by omega⟩,by omega⟩,λhge=>⟨default,by omega,by omega⟩⟩⟩,⟨default,trivial⟩,⟨λh=>⟨⟨by omega,by omega,by omega,by omega,by omega,by omega⟩,1,⟨rfl,rfl,rfl,λi hi=>?_⟩,⟨by omega,by omega⟩,by omega⟩,λh=>by omega⟩,λk ⟨k1,k2⟩=>⟨λhlt=>⟨⟨by omega,by omega,by omega,by omega,by omega⟩,k+1,⟨(II (by omega)).symm,rfl,rfl,λi hi=>?_⟩,⟨by omega,by omega⟩,by omega⟩,λhge=>⟨by omega,by omega⟩⟩⟩
 ·obtain rfl:i=0:=by omega
  exact⟨rfl,rfl⟩
 ·by_cases h:i<k
  ·simp[h]
  ·obtain rfl:i=k:=by omega
   simp
 ·obtain rfl:i=0:=by omega
  exact⟨rfl,rfl,rfl,rfl,rfl⟩
 ·by_cases h:i<k
  ·simp[h]
  ·obtain rfl:i=k:=by omega
   simp
theorem BNR:AW Try.prog oG (C_law.spec iT):=Je C_law CRT [] [205] BNH (λ_=>by kernel_rfl) (λ_=>AK) (λ(c:Cht) h=>DBV c h) (λ_=>Kp rfl rfl) _
end Go.Bal

namespace Go.Bal
open Go Go.Sym Go.Proofs
structure TiI where
 a:CZ
 m:Int
 t:Int
 u:Tru
def xTi(x:TiI):List AVal:=[.d (Nj x.a.c),.d (GB x.a.z),.int x.m,.int x.t,.d (eTru x.u)]
def A_Ti:Ann:=ann 256 [(X4,C_big.spec AVQ),(ABX,AIK),(BAB,C_cpC.spec iT),(AWM,C_cpI.spec AMD),(oG,C_law.spec iT),(AIY,C_Check.spec iT),(Wd,C_Check.spec iT),(AIE,C_Stages.spec iT),(AAO,C_Stages.spec iT),(AWX,C_samS.spec dSS2),(AXO,C_hold.spec dCT),(BDJ,C_hold.spec dCT),(AXK,C_Times.spec B6),(Wi,C_Times.spec B6),(BAM,C_Agr.spec B6),(W8,C_Tru.spec dTrI),(AZX,C_zTmd.spec dTrI),(AXM,C_smI.spec AMD),(zR,C_smC.spec AVQ)]
def V_Ti(x:TiI):Prop:=ES Try.prog A_Ti AXT (AJ AXT) (xTi x) (AD []) (.bool true) [] [] []
abbrev L9:=TiI.a
abbrev tM:=@BEq.beq Bool (@instBEqOfDecidableEq Bool instDecidableEqBool)
abbrev AVT:=TiI.m
abbrev BMZ:=@Prod.snd Tru Int
abbrev qP a b c:=Cg a b Pn c
abbrev bE a b c:=qP a (not b) c
abbrev ARC a b:=G0 (HL a) (QW a) (Kr a b) (λi=>Mc i a b) (uS (Vf a))
abbrev vO a b:=PO (ARC a b)
abbrev jU a:=Tru.z (TiI.u a)
abbrev qN a:=WQ (jU a)
abbrev lK a:=Tru.s (TiI.u a)
abbrev qF a:=WQ (lK a)
abbrev iU a:=Tru.t (TiI.u a)
abbrev qJ a:=WQ (iU a)
abbrev AZI a:=TW (L9 a)
abbrev Qf a:=Au (L9 a)
abbrev BBJ a b:=IW (IK a) (λi=>JB b i)
abbrev GC a:=FN (L9 a)
abbrev AKA a:=BBJ (GC a) (GC a)
abbrev E0 a:=DV (AKA a)
abbrev Tz a:=JE (HK (GC a)) (IN (GC a))
abbrev Fg a:=EB (Tz a)
abbrev Oo a b c d e f g h p:=BJ a (E0 b) c d e f g h p
abbrev Kg a b:=Ax (AKA a) b
abbrev Jo a b:=Ay (AKA a) b
abbrev aC a:=BQ (GC a)
abbrev fF a:=BV (GC a)
abbrev fI a:=BM (GC a)
abbrev oU a:=DF (GC a)
abbrev Xz a:=BY (GC a)
abbrev Nn a b:=AR (GC a) b
abbrev Uf a b c d:=MN (Kg a b) (GC c) d
abbrev Nh a b:=AS (GC a) b
abbrev Ut a b c d:=MQ (Jo a b) (GC c) d
abbrev dV a b c:=RG (PH a b) c b
abbrev Up a b c:=dV (AKA a) b (GC c)
abbrev AHH a b:=CH a (HF b)
abbrev Vk a b:=AHH (E0 a) (GC b)
abbrev Xx a b c d:=SC a b (OS c a) d (VV c a)
abbrev Rv a b c:=AB (λi=>Xx i a b c)
abbrev Vl a b:=Te (Fg a) (GC b)
abbrev BGO a b c:=TrI.mk a (AVT b) (TiI.t c)
abbrev AYN a b c d:=MC a b b b c d
abbrev BLK a b c:=AYN (EC a) a b c
abbrev Xf a:=BLK (GC a) (Tz a) (AKA a)
abbrev eC a:=oR (Xf a) (Qf a)
abbrev AUF a b c:=BGO (eC a) b c
abbrev BBI a:=(@Prod.fst Tru Int) (De (AUF a a a))
abbrev wA a:=Tru.t (BBI a)
abbrev lL a b c d:=CT.mk (Xf a) (Tru.mk b c d)
abbrev Z2 a:=Tru.z (BBI a)
abbrev S9 a:=WQ (Z2 a)
abbrev AHO a:=Tru.s (BBI a)
abbrev X5 a:=WQ (AHO a)
abbrev S8 a:=WQ (wA a)
abbrev Zn a:=GW (E0 a)
abbrev bL a:=GW (Fg a)
abbrev cJ a b:=XT (Xf a) (Qf b)
abbrev fG a:=bigV (FQ a)
attribute [go_sem] L9 tM AVT BMZ qP bE ARC vO jU qN lK qF iU qJ AZI Qf BBJ GC AKA E0 Tz Fg Oo Kg Jo aC fF fI oU Xz Nn Uf Nh Ut dV Up AHH Vk Xx Rv Vl BGO AYN BLK Xf eC AUF BBI wA lL Z2 S9 AHO X5 S8 Zn bL cJ fG
theorem DBE(x:TiI):(V_Ti x)=(And (Gr (GC x) (BW (GC x)) (λi=>ID i (GC x)) (BO (GC x)) (AB (λi=>AT i (GC x) (AM (GC x) i) (AN (GC x) i) (Nh x i) (AC (GC x) i) (AL (GC x) i) (Nn x i) (AE (GC x) i)))) (Cg (KE (Nw (fG (GC x)) (UP (bF (L9 x)) 45) (UP (FP (iU x)) 45)) (UP (FP (lK x)) 45)) (UP (FP (jU x)) 45) IU (LQ (Xz x) (oU x) (fI x) (fF x) (aC x) (KQ (BW (GC x)) (DK (GC x)) (BO (GC x)) (AB (λi=>AT i (GC x) (AM (GC x) i) (AN (GC x) i) (Nh x i) (AC (GC x) i) (AL (GC x) i) (Nn x i) (AE (GC x) i))) (And (MI (HK (GC x))) (Ss (GC x))) (XE (Qf x) (L9 x)) (λi=>XR i (Qf x) (L9 x)) (MI (FP (Qf x))) (CF (HL (iU x)) (QW (iU x)) (MI (Vf (iU x))) (HL (lK x)) (λi=>QE i (lK x)) (MI (Vf (lK x))) (HL (jU x)) (QW (jU x)) (uS (Vf (jU x))))) (AH (TY (GC x) (λi=>AT i (GC x) (AM (GC x) i) (AN (GC x) i) (Nh x i) (AC (GC x) i) (AL (GC x) i) (Nn x i) (AE (GC x) i)) (Pe (GC x) 42) (Om (GC x) 42)) (Vq (Xz x) (GC x) (GC x) (IY (aC x) (Vl x x) (λi=>Xx i (Fg x) (Tz x) (GC x)) (Vk x x) (λi=>Oo i x (Up x i x) (Ut x i x i) (Jo x i) (Nh x i) (Uf x i x i) (Kg x i) (Nn x i)) (And (bL x) (Zn x)) (Xz x) (oU x) (MR (GC x) (Vl x x) (λi=>Xx i (Fg x) (Tz x) (GC x)) (Vk x x) (λi=>Oo i x (Up x i x) (Ut x i x i) (Jo x i) (Nh x i) (Uf x i x i) (Kg x i) (Nn x i)) (bL x) (Zn x)))) (FV (lY (US (Xf x))) Pn (FY (Bf (GC x) (MR (GC x) (Vl x x) (λi=>Xx i (Fg x) (Tz x) (GC x)) (Vk x x) (λi=>Oo i x (Up x i x) (Ut x i x i) (Jo x i) (Nh x i) (Uf x i x i) (Kg x i) (Nn x i)) (bL x) (Zn x))) (Bf (GC x) (MR (GC x) (Vl x x) (λi=>Xx i (Fg x) (Tz x) (GC x)) (Vk x x) (λi=>Oo i x (Up x i x) (Ut x i x i) (Jo x i) (Nh x i) (Uf x i x i) (Kg x i) (Nn x i)) (bL x) (Zn x))) (Uw (lY (lF (Xf x))) (And (RJ (Ke (Xf x))) (Jc (Fa (Ke (Xf x))) (RJ (Ke (Xf x))) (aT (Ke (Xf x))) (aT (Ke (Xf x)))))) (bE (lY (lF (Xf x))) (samS (SS2.mk (Av (Ke (Xf x))) (Av (Ke (Xf x))))) (DT (Xz x) (RR (GC x) (fI x) (fF x) (aC x) (Vl x x) (Rv (Fg x) (Tz x) (GC x)) (Vk x x) (λi=>Oo i x (Up x i x) (Ut x i x i) (Jo x i) (Nh x i) (Uf x i x i) (Kg x i) (Nn x i)) (IA (HL (qJ x)) (λi=>QE i (qJ x)) (HL (qF x)) (QW (qF x)) (HL (qN x)) (QW (qN x)) (AH (bL x) (Zn x) (PG (qN x))) (PG (qJ x)) (PG (qF x)))) (And (Xz x) (RR (GC x) (fI x) (fF x) (aC x) (Vl x x) (Rv (Fg x) (Tz x) (GC x)) (Vk x x) (λi=>Oo i x (Up x i x) (Ut x i x i) (Jo x i) (Nh x i) (Uf x i x i) (Kg x i) (Nn x i)) (IA (HL (iU x)) (λi=>QE i (iU x)) (HL (lK x)) (QW (lK x)) (HL (jU x)) (QW (jU x)) (AH (bL x) (Zn x) (PG (jU x))) (PG (iU x)) (PG (lK x))))) (bE (QR (Vd (lL x (WQ (qJ x)) (WQ (qF x)) (WQ (qN x)))) (Vd (lL x (qJ x) (qF x) (qN x)))) (tM (kY (lL x (WQ (qJ x)) (WQ (qF x)) (WQ (qN x)))) (kY (lL x (qJ x) (qF x) (qN x)))) (LQ (Xz x) (oU x) (fI x) (fF x) (aC x) (IA (Vl x x) (λi=>Xx i (Fg x) (Tz x) (GC x)) (Vk x x) (AB (λi=>Oo i x (Up x i x) (Ut x i x i) (Jo x i) (Nh x i) (Uf x i x i) (Kg x i) (Nn x i))) (HL (Qf x)) (QW (Qf x)) (bL x) (Zn x) (PG (Qf x))) (DT (Xz x) (AI (oU x) (fI x) (fF x) (aC x) (IA (Vl x x) (λi=>Xx i (Fg x) (Tz x) (GC x)) (Vk x x) (AB (λi=>Oo i x (Up x i x) (Ut x i x i) (Jo x i) (Nh x i) (Uf x i x i) (Kg x i) (Nn x i))) (XE (Qf x) (L9 x)) (AB (λi=>XR i (Qf x) (L9 x))) (bL x) (Zn x) (NV (Qf x)))) (Uw (QR (ZD (eC x)) (ZD (cJ x x))) (Bq (RJ (XG (eC x))) (Fa (XG (eC x))) (RJ (XG (cJ x x))) (Fa (XG (cJ x x))) (aT (XG (eC x))) (aT (XG (cJ x x))))) (bE (QR (ZD (eC x)) (ZD (cJ x x))) (samS (SS2.mk (Av (XG (eC x))) (Av (XG (cJ x x))))) (LQ (Xz x) (oU x) (fI x) (fF x) (aC x) (IA (Vl x x) (λi=>Xx i (Fg x) (Tz x) (GC x)) (Vk x x) (AB (λi=>Oo i x (Up x i x) (Ut x i x i) (Jo x i) (Nh x i) (Uf x i x i) (Kg x i) (Nn x i))) (HL (Qf x)) (QW (Qf x)) (bL x) (Zn x) (PG (Qf x))) (qP (IB (Og (ZD (cJ x x)) 6) (KE (MG (Ua (oJ (eC x)))) (Wg (oJ (eC x))))) (IB (QR (ZD (cJ x x)) 6) (KE (QR (Ua (oJ (eC x))) (ZD (cJ x x))) (not (tM (Wg (oJ (eC x))) (Ob (ZD (cJ x x))))))) (DT (Xz x) (CS (oU x) (fI x) (fF x) (aC x) (Vl x x) (Rv (Fg x) (Tz x) (GC x)) (IA (Vk x x) (λi=>Oo i x (Up x i x) (Ut x i x i) (Jo x i) (Nh x i) (Uf x i x i) (Kg x i) (Nn x i)) (HL (Qf x)) (QW (Qf x)) (AF (AVT x)) (AF (TiI.t x)) (bL x) (Zn x) (PG (Qf x)))) (And (Xz x) (CS (oU x) (fI x) (fF x) (aC x) (Vl x x) (Rv (Fg x) (Tz x) (GC x)) (IA (Vk x x) (λi=>Oo i x (Up x i x) (Ut x i x i) (Jo x i) (Nh x i) (Uf x i x i) (Kg x i) (Nn x i)) (XE (Qf x) (L9 x)) (AB (λi=>XR i (Qf x) (L9 x))) (AF (AVT x)) (AF (TiI.t x)) (bL x) (Zn x) (NV (Qf x))))) (qP (QR (BMZ (De (AUF x x x))) (mH (BGO (cJ x x) x x))) (IB (MG (BMZ (De (AUF x x x)))) (WB (EQ (EQ (CG (FP (wA x))) (CG (FP (AHO x)))) (CG (FP (Z2 x)))) 0)) (FV (Ob (BMZ (De (AUF x x x)))) (DT (Xz x) (RR (GC x) (fI x) (fF x) (aC x) (Vl x x) (Rv (Fg x) (Tz x) (GC x)) (Vk x x) (λi=>Oo i x (Up x i x) (Ut x i x i) (Jo x i) (Nh x i) (Uf x i x i) (Kg x i) (Nn x i)) (IA (HL (wA x)) (λi=>QE i (wA x)) (HL (AHO x)) (QW (AHO x)) (HL (Z2 x)) (QW (Z2 x)) (AH (bL x) (Zn x) (PG (Z2 x))) (PG (wA x)) (PG (AHO x)))) (And (UV (not (KE (MG (Vd (lL x (S8 x) (X5 x) (S9 x)))) (not (kY (lL x (S8 x) (X5 x) (S9 x)))))) (AVT x) (FP (wA x))) (Uw (Nw (MG (Vd (lL x (S8 x) (X5 x) (S9 x)))) (not (kY (lL x (S8 x) (X5 x) (S9 x)))) (QR (FS (wA x) (HM (AVT x))) (TiI.t x))) (ARC (Z2 x) (AZI x)))) (bE (Nw (MG (Vd (lL x (S8 x) (X5 x) (S9 x)))) (not (kY (lL x (S8 x) (X5 x) (S9 x)))) (QR (FS (wA x) (HM (AVT x))) (TiI.t x))) LW (And (Gt (GC x) (Vl x x) (CR (Rv (Fg x) (Tz x) (GC x)) (Vk x x) (λi=>Oo i x (Up x i x) (Ut x i x i) (Jo x i) (Nh x i) (Uf x i x i) (Kg x i) (Nn x i)) (Xz x) (oU x) (fI x) (fF x) (aC x) (IA (FW (Fg x) (GC x)) (λi=>VB i (Fg x) (OS (Tz x) i) (GC x) (Tz x)) (CH (E0 x) (AO (GC x))) (AB (λi=>Oo i x (DR (PH (AKA x) i) (GC x) i) (CX (Jo x i) (GC x) i) (Jo x i) (AC (GC x) i) (CU (Kg x i) (GC x) i) (Kg x i) (AE (GC x) i))) (And (MI (Fg x)) (MI (E0 x))) (vO (Qf x) (AZI x)) (vO (qJ x) (iU x)) (vO (qF x) (lK x)) (vO (qN x) (jU x))))) IU))) (And (Gt (GC x) (Vl x x) (CR (Rv (Fg x) (Tz x) (GC x)) (Vk x x) (λi=>Oo i x (Up x i x) (Ut x i x i) (Jo x i) (Nh x i) (Uf x i x i) (Kg x i) (Nn x i)) (Xz x) (oU x) (fI x) (fF x) (aC x) (IA (FW (Fg x) (GC x)) (λi=>VB i (Fg x) (OS (Tz x) i) (GC x) (Tz x)) (CH (E0 x) (AO (GC x))) (AB (λi=>Oo i x (DR (PH (AKA x) i) (GC x) i) (CX (Jo x i) (GC x) i) (Jo x i) (AC (GC x) i) (CU (Kg x i) (GC x) i) (Kg x i) (AE (GC x) i))) (And (MI (Fg x)) (MI (E0 x))) (vO (Qf x) (AZI x)) (vO (qJ x) (iU x)) (vO (qF x) (lK x)) (vO (qN x) (jU x))))) IU)))))))))))))))))):=by kernel_rfl
theorem BWN(l:List Span):samS ⟨l,l⟩=true:=by
 unfold samS
 rw[show (l.length==l.length)=true from beq_self_eq_true _,Bool.true_and]
 show eqN (eqS ⟨l,l⟩) l.length=true
 generalize l.length=n
 induction n with
 |zero=>rfl
 |succ n ih=>
  show (eqN (eqS ⟨l,l⟩) n&&eqS ⟨l,l⟩ n)=true
  rw[ih];unfold eqS;simp
theorem DDJ(e:Int):(bif bif e==6 then bif (agrE e).2 != 0 then true else (agrE e).1 else false then true else bif e != 6 then bif (agrE e).2 != e then true else !(agrE e).1==(e==0) else false)=false:=by
 unfold agrE
 by_cases h:e=6
 ·subst h;rfl
 ·have h1:(e==6)=false:=by simpa using h
  have h2:(e != 6)=true:=by simpa using h
  rw[h1,h2];simp
theorem CGL{x:TrI}(h:(De x).2≠0):(De x).1=nilT:=by
 unfold De at h ⊢
 cases h1:(XV x.a != 0) with
 |true=>rfl
 |false=>
  rw[h1] at h
  cases h2:(!PN x.m 0 (wr ((x.a.c.ms.length:Int)-1))) with
  |true=>rfl
  |false=>
   rw[h2] at h
   cases h3:(!(JD (FZ x.a)).2) with
   |true=>rfl
   |false=>
    rw[h3] at h
    cases h4:(xN x).all Od with
    |true=>rw[h4] at h;exact absurd rfl h
    |false=>rfl
theorem DCH(x:TrI):(bif (De x).2 != mH x then true else bif (De x).2 != 0 then decide (IntKind.i64.wrap (IntKind.i64.wrap (((De x).1.t.length:Int)+((De x).1.s.length:Int))+((De x).1.z.length:Int))>0) else false)=false:=by
 rw[BRS,show (mH x != mH x)=false from bne_self_eq_false _]
 show (bif mH x != 0 then _ else false)=false
 cases h:(mH x != 0) with
 |false=>rfl
 |true=>
  have h:(De x).2≠0:=by rw[BRS];simpa using h
  rw[CGL h];rfl
theorem CKG(t:Tru):Tru.mk t.t t.s t.z=t:=rfl
theorem CTC{c:Cht}(h:bigV c=false):c.ms.length<=42/\c.ns.length<=22:=by
 unfold bigV at h
 simp only[Bool.or_eq_false_iff,decide_eq_false_iff_not] at h
 omega
theorem BNX(c:Cht)(h:c.ms.length<=42):(Ey c).1.length<=42:=by
 unfold Ey
 cases (AP c==0) with
 |false=>exact Nat.zero_le _
 |true=>
  cases Mg c with
  |false=>exact Nat.zero_le _
  |true=>show (Jp c).length<=42;rw[P9];exact h
theorem CIB(a:CZ)(h:a.c.ms.length<=42):(bT a).1.length<=42:=by
 by_cases h0:DJ a=0
 ·rw[AQQ h0];show (ZJ a).length<=42;rw[hX h0];exact h
 ·rw[BCC h0];exact Nat.zero_le _
theorem p_Ti(x:TiI):V_Ti x:=by
 rw[DBE]<;> delta MD N6 Iv BH BK DY RD RU EM EO CH IH AB CJ CE AY OV CG CW FV HD KA UI EB FX EC GY GX GR GG DV FO FU Me FP FS El Og LW WB US HM QR ED FN TW XT Ek Wg Ua AEK T7 L9 tM AVT BMZ AH CK IW AX JE AI GC WE BC AV AF IK IN GJ lY Jc AQ WV JB BB AC BZ CN BF MC AE AO BD HK DD LZ AZ DC BR BE BS BJ JQ AR BQ WQ Au AYN SZ BV HF CI OC EQ GQ Yv BL BBJ AS BM CY BY EV CF IE BX CU GW HO DN CX OE Av FQ DF DU BLK AKA HY IC DR OD Tz QQ EA DT KQ oR Qf HH FW AT IZ Ax VV JA ZS IT Ay OF OS CR OM RG DI CS DZ HU WO PH BO BW AL AN AM LJ Xf KO ID NP MQ MN DK IU KE Kr HL eC LS SC QD Mc VW NV IB TO E0 Fg HZ QE Gr XP MR PO FY VB IA BGO UP AUF IY XG XE AHH UC Jo MI BBI XR Kg Te lK MG PG dV QW iU jU MO Cg Vf Pe Kd ZD LQ UV Ke RJ Bf YH Fp Vd kY RR Pn Gt Xx qN Sy qJ Nh Z2 qF Nn TY Kt Vq Xz wA Fa Vk Om uS Nw Vl bL aC Zn Bq Rv Up cJ AHO bF fI Ob fF G0 qP Ut Uw Uf Ss oU lF oJ Oo lL bE aT fG X5 S8 AZI S9 ARC vO;simp only[CC,eq_self,implies_true,forall_const,FR,Ee,AGQ,CKG]
 simp only[bne_self_eq_false,BWN,beq_self_eq_true,Bool.not_true,cond_false,DDJ,DCH,Bool.false_eq_true,false_implies,true_and,forall_const]
 intro h0
 simp only[Bool.cond_true_left,Bool.or_eq_false_iff,decide_eq_false_iff_not] at h0
 obtain⟨⟨⟨⟨hB,hz⟩,h1⟩,h2⟩,h3⟩:=h0
 obtain⟨b1,b2⟩:=CTC hB
 have sl:=BNX x.a.c b1
 have tl:=CIB x.a b1
 have lens:(x.a.c.ms.length<1073741824/\x.a.c.ns.length<1073741824)/\x.a.z.length<1073741824/\x.u.t.length<1073741824/\x.u.s.length<1073741824/\x.u.z.length<1073741824:=by omega
 have lz:x.a.c.ms.length<4611686018427387904/\x.a.c.ns.length<4611686018427387904/\x.a.z.length<4611686018427387904:=by omega
 have lc:x.a.c.ms.length<4611686018427387904/\x.a.c.ns.length<4611686018427387904:=by omega
 refine⟨lens,by omega,lc,lc,lc,by omega,by omega,by omega,lz,lz,by omega,lz,lz,lz,λh=>?_,λ_=>lens⟩
 obtain⟨c0,hm,l1,t1,l2,z1,hd⟩:=CTB (x:=⟨x.a,x.m,x.t⟩) (by simpa using h)
 have hm:0<=x.m/\x.m<x.a.c.ms.length:=hm
 have l1:(De ⟨x.a,x.m,x.t⟩).1.t.length=x.a.c.ms.length:=l1
 have l2:(De ⟨x.a,x.m,x.t⟩).1.s.length=x.a.c.ms.length:=l2
 have t1:gD (De ⟨x.a,x.m,x.t⟩).1.t x.m.toNat=x.t:=t1
 have z1:(De ⟨x.a,x.m,x.t⟩).1.z=x.a.z:=z1
 have hd:Qs ⟨x.a.c,(De ⟨x.a,x.m,x.t⟩).1⟩=(true,0):=hd
 rw[hd,t1,z1,l1,l2]
 refine⟨by omega,⟨λ_=>hm,λ_=>⟨rfl,λ_ _=>rfl,by omega⟩⟩,λq=>?_,λ_=>lens⟩
 simp at q
end Go.Bal
