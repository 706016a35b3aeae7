/- Package chart: which charts are right; a chart at work. -/
import Derived.Test.YtceloknnpdonhaaGreatChE
set_option linter.unusedVariables false
set_option linter.unusedSimpArgs false
namespace Go.Bal
open Go Go.Sym Go.Proofs
def mkC:Int->List Mk->Int
 |_,[]=>0
 |a,m :: r=>bif (bif !XA m.pl 0 10000 then true else !XA m.ht 0 1000) then 30 else bif decide (m.pl<=a) then 9 else mkC m.pl r
def dupP(l:List Nt)(i:Nat):Bool:=!(l.take i).any λx=>x.mi==(gD l i).mi
def fX(c:Cht):Int:=bif (bif !XA c.ms.length 1 40 then true else decide ((c.ns.length:Int)>20)) then 3 else bif (bif (bif (bif !eC c.p 1 600 then true else !XA c.base (-1000000) 1000000) then true else !XA c.scale 0 1000) then true else !XA c.off 0 1000) then 30 else 0
def IQ(c:Cht):Int:=bif fX c != 0 then fX c else bif mkC (-1) c.ms != 0 then mkC (-1) c.ms else bif !c.ns.all (λn=>Ak n c.ms.length) then 30 else bif jD (dupP c.ns) c.ns.length then 0 else 10
def dC1:List AVal->Heap->Option (Cht×List (Nat×Nat)×List Nat)
 |[y],H=>match DBP y H with
  |some (l,f)=>some (l,[],f)
  |none=>none
 |_,_=>none
def C_CheckQ:Ctr:={ α:=Cht,xs:=λc=>[.d (eCht c)],L:=λ_=>[],val:=λc=>.int (IQ c),keep:=λ_=>[],pre:=λc=>[c.ms.length<4611686018427387904/\c.ns.length<4611686018427387904] }
def ck7(c:Cht):Shape:={ α:=NIQ,dflt:=default,T:=λs=>⟨[(1,.bptr 201 0),(3,.int s.m),(44,.d (eMks c.ms)),(45,.int c.ms.length),(46,.int s.k)],[(201,.live (chB c))]⟩,inv:=λs=>s.k<=c.ms.length/\fX c=0/\mkC s.m (c.ms.drop s.k)=mkC (-1) c.ms,meas:=λs=>c.ms.length-s.k,first:=[(201,1000)] }
def ck18(c:Cht):Shape:={ α:=Nat,dflt:=0,T:=λk=>⟨[(1,.bptr 201 0),(75,.d (eNts c.ns)),(76,.int c.ns.length),(77,.int k)],[(201,.live (chB c))]⟩,inv:=λk=>k<=c.ns.length/\fX c=0/\mkC (-1) c.ms=0/\c.ns.all (λn=>Ak n c.ms.length)=true/\jD (dupP c.ns) k=true,meas:=λk=>c.ns.length-k }
def CDL(c:Cht):Ann:={ ann 89 [(BCD,BLL),(A8,CRB),(n_eN,C4Nr.spec d4Nr),(CGW,C3Nc.spec d3Nc)] with loops:=λid=>if id=7 then some [ck7 c] else if id=18 then some [ck18 c] else none }
def CDV(c:Cht):Prop:=BG Try.prog (CDL c) BTT (AL BTT) (C_CheckQ.xs c) (AF []) (C_CheckQ.val c) [] [] []
abbrev QJ:=true
abbrev Pp:=λ(x0 x1:Int)=>decide (x0>x1)
abbrev hd95:=IQ
abbrev hd97:=NIQ.m
abbrev F9:=NIQ.k
abbrev CGH:=@List.drop Mk
abbrev FZ:=Int.toNat
abbrev SG:=@HAdd.hAdd Nat Nat Nat (@instHAdd Nat instAddNat)
abbrev BE a:=AO a 0
abbrev PC a b c d e:=AH a b (DV c d e)
abbrev DR a:=JB a QJ
abbrev AAQ a:=BE (fX a)
abbrev uI a:=TT (JJ a)
abbrev SJ a:=AK (λi=>OA i a)
abbrev uG a b:=AO (hd95 a) b
abbrev xA:=FZ 0
abbrev Mo a:=SG xA a
abbrev vO a:=IS a xA
abbrev BP a:=SG 0 a
abbrev Be a b c:=AH a (BC b) c
abbrev Rz a b:=DJ (AU a) b
abbrev OK a b:=hd5 a QJ b
attribute [go_sem] QJ Pp hd95 hd97 F9 CGH FZ SG BE PC DR AAQ uI SJ uG xA Mo vO BP Be Rz OK
theorem CSF(c:Cht):(CDV c)=(DV (OK (not (hd1 (Na c) 1 40)) (Pp (AU (JJ c)) 20)) (uG c 3) (DV (OK (OK (OK (not (hd9 (YN c) 1 600)) (not (hd1 (Kz c) (-1000000) 1000000))) (not (hd1 (Rn c) 0 1000))) (not (hd1 (Pz c) 0 1000))) (uG c 30) (And ((@Exists NIQ) (λi=>AY (BB (AO (hd97 i) (-1)) (NP c) (Ml c) (AI (Na c)) (BS (F9 i)) (DC (LC c) (IE c) (CP c) (CO c) (CQ c) (NP c) (Ml c) (EE c) (λj=>OA j c))) (EA (F9 i) (XN c)) (AAQ c) (AO (mkC (hd97 i) (CGH (F9 i) (Bh c))) (mkC (-1) (Bh c))))) ((λ(f:NIQ->Prop)=>∀(x:NIQ),f x) (λi=>CX (AH (EA (F9 i) (XN c)) (AAQ c) (AO (mkC (hd97 i) (CGH (F9 i) (Bh c))) (mkC (-1) (Bh c)))) (F9 i) (Na c) (BF (DU (F9 i) (XN c)) (OK (not (hd1 (XR c (F9 i)) 0 10000)) (not (hd1 (As c (F9 i)) 0 1000))) (uG c 30) (DV (hd7 (XR c (F9 i)) (hd97 i)) (uG c 9) ((@Exists NIQ) (λj=>HR (BB (AO (hd97 j) (XR c (F9 i))) (NP c) (Ml c) (AI (Na c)) (AV (F9 j) (F9 i)) (DC (LC c) (IE c) (CP c) (CO c) (CQ c) (NP c) (Ml c) (EE c) (λk=>OA k c))) (AH (EA (F9 j) (XN c)) (AAQ c) (AO (mkC (hd97 j) (CGH (F9 j) (Bh c))) (mkC (-1) (Bh c)))) (XN c) (F9 j) (F9 i))))) (KM (BB (PL c) (AK (λj=>OZ j c j j j (VY c j j) (VE c j j))) (LC c) (IE c) (CP c) (EB (CO c) (CQ c) (MY (QX c) c) (AK (λj=>SC j (QX c) c j j j j)) (PL c) (λj=>OZ j c j j j (VY c j j) (VE c j j)) (LC c) (IE c) (KE (CP c) (CO c) (CQ c) (TD c (QX c)) (λj=>YC j c j j j j) (UM c) (λj=>NR j c j j j j (FP c j) j) (BD (Hi c)) FI))) (hd80 (Cf c) (λj=>hd15 j (AU (QX c)))) (uG c 30) (KF (λj=>BB (AJ (EE c) (SJ c) (uI c) (BS j) (DC (LC c) (IE c) (CP c) (CO c) (CQ c) (NP c) (Ml c) (EE c) (λk=>OA k c))) (EA j (JJ c)) (AAQ c) (BE (mkC (-1) (Bh c))) (DR (hd80 (Av c) (λk=>Wp k c))) (DR (jD (dupP (Av c)) j))) (λj=>CX (AJ (EA j (JJ c)) (AAQ c) (BE (mkC (-1) (Bh c))) (DR (hd80 (Av c) (λk=>Wp k c))) (DR (jD (dupP (Av c)) j))) j (AU (JJ c)) (PC (DU j (JJ c)) (FT (Be (BC 0) (AU j) (Rz j (AU (JJ c)))) (AR (Hc (Bs (vO j) c Mo)) (vO j)) (AK (λk=>Am k (Hc (Bs (IS j 0) c BP)) (PY (Gh (Bs (vO j) c Mo) k) c (Mo k)) (JI (NU (Gh (Bs (vO j) c Mo) k)) c (Mo k)) (NU (Gh (Bs (vO j) c Mo) k)) c (Mo k) (RO (Gh (Bs (vO j) c Mo) k) (FP c (Mo k))) (QD (Gh (Bs (vO j) c Mo) k) (FP c (Mo k))))) (ZK c j) (YZ c j) (YO c j) (AOU (HA (FP c j)) (IZ (FP c j)) (ZK c j) (YZ c j) (YO c j) (HA (FP c j)) (BD (Hc (Bs (IS j 0) c BP))) FI)) ((@List.any Nt) (Bs (vO j) c Mo) (λk=>AAK k (NG c j))) (uG c 10) (LA (λk=>HR (AJ (EE c) (SJ c) (uI c) (AV k j) (DC (LC c) (IE c) (CP c) (CO c) (CQ c) (NP c) (Ml c) (EE c) (λl=>OA l c))) (AJ (EA k (JJ c)) (AAQ c) (BE (mkC (-1) (Bh c))) (DR (hd80 (Av c) (λl=>Wp l c))) (DR (jD (dupP (Av c)) k))) (JJ c) k j))) (BE (hd95 c)))))))))):=by kernel_rfl
theorem DAD{α:Type}[Inhabited α]{l:List α}{k:Nat}(h:k<=l.length):(KA k λi=>gD l i)=l.take k:=by
 refine DBA (by simp[h]) λi hi=>?_
 have hi:i<k:=by simpa using hi
 rw[OW _ _ _ hi]
 simp[gD,List.getD_eq_getElem?_getD,List.getElem?_take,hi]
theorem CTG{p:Nat->Bool}{n k:Nat}(hk:k<n)(h:p k=false):jD p n=false:=by
 cases hc:jD p n with
 |false=>rfl
 |true=>rw[kG.1 hc k hk] at h;cases h
theorem DFV(c:Cht)(h:c.ms.length<4611686018427387904/\c.ns.length<4611686018427387904):CDV c:=by
 obtain⟨hm,hn⟩:=h
 rw[CSF]<;> delta JB hd1 hd5 hd7 hd9 EM FL hd15 ZF NE NU XB AR AK BO CI AO AU EA DV JD DJ DX OP IS Iz Bh YN Kz Rn Pz Vq Hc Av Gh jM LA FI hd80 Cu QJ Pp hd95 hd97 F9 CGH FZ SG AH YJ AJ JJ Bs AZ EV Pq AI BI Ui DK AP Pb HA BZ ED BC IZ Cf AOU JE FQ FP HT EJ EW EU Xp WK NG BP GT GY oI WF AY XN SE IE GV BB CK JZ FK VB Gz LC BD DR XR YO CE KJ Ec SB YZ As EE EC AV QX CQ CO CP DO BF ES FF NB BE Hi JO ZK Az CX NT JI QD OC PZ RO DC NP BS HR OA DU PY Rz xA SJ EB Yn Am QZ VO bB Na FT TA SZ MY KF TT Hj KE OK KM Wp UP PL Hl UM TD AAK Ml PC Mo YW Be OZ VE VY Zh vO NR SC uI AAQ YC uG;simp only[CCQ,eq_self,implies_true,forall_const,Nat.sub_zero,Int.toNat_zero]
 refine⟨λh1=>?_,λh1=>⟨λh2=>?_,λh2=>?_⟩⟩
 ·have e:fX c=3:=by unfold fX;rw[h1];rfl
  unfold IQ;rw[e];rfl
 ·have e:fX c=30:=by unfold fX;rw[h1,h2];rfl
  unfold IQ;rw[e];rfl
 have e:fX c=0:=by unfold fX;rw[h1,h2];rfl
 have k0:∀v:Int,v≠0->mkC (-1) c.ms=v->IQ c=v:=λv hv hm=>by 
  have hv0:=hv
  have hv':(v != 0)=true:=by simpa using hv
  unfold IQ;rw[e,hm,hv'];rfl
 refine⟨⟨⟨0,-1⟩,⟨rfl,rfl⟩,Nat.zero_le _,e,rfl⟩,λs ⟨s1,_,s3⟩=>⟨λhlt=>?_,λhge=>?_⟩⟩
 ·have hlt:s.k<c.ms.length:=by omega
  have hd:=CCR hlt
  rw[hd] at s3
  refine⟨by omega,λh3=>?_,λh3=>⟨λh4=>?_,λh4=>⟨⟨s.k+1,(gD c.ms s.k).pl⟩,⟨rfl,(FN (by omega)).symm⟩,⟨by show s.k+1<=_;omega,e,?_⟩,by show c.ms.length-(s.k+1)<_;omega⟩⟩⟩
  ·exact k0 30 (by decide) (by rw[<-s3];unfold mkC;rw[h3];rfl)
  ·exact k0 9 (by decide) (by rw[<-s3];unfold mkC;rw[h3,decide_eq_true h4];rfl)
  ·rw[<-s3];conv=>rhs;unfold mkC
   rw[h3,decide_eq_false h4];rfl
 ·have hmk:mkC (-1) c.ms=0:=by rw[<-s3,List.drop_of_length_le (by omega)];rfl
  refine⟨by omega,λh3=>?_,λh3=>⟨⟨0,rfl,Nat.zero_le _,e,hmk,h3,rfl⟩,λk ⟨k1,_,_,_,k5⟩=>⟨λhlt=>?_,λhge=>?_⟩⟩⟩
  ·unfold IQ;rw[e,hmk,h3];rfl
  ·have hlt:k<c.ns.length:=by omega
   have et:(KA k λi=>gD c.ns i)=c.ns.take k:=DAD (by omega)
   rw[et]
   refine⟨by omega,⟨⟨by omega,by omega,by omega⟩,λi hi=>?_,by omega⟩,λh4=>?_,λh4=>⟨k+1,(FN (by omega)).symm,⟨by omega,e,hmk,h3,?_⟩,by omega⟩⟩
   ·rw[<-et,OW _ _ _ hi];exact⟨rfl,rfl,rfl,rfl,rfl⟩
   ·have hp:jD (dupP c.ns) c.ns.length=false:=CTG hlt (by unfold dupP;rw[h4];rfl)
    unfold IQ;rw[e,hmk,h3,hp];rfl
   ·show (jD (dupP c.ns) k&&dupP c.ns k)=true
    unfold dupP at k5 ⊢;rw[k5,h4];rfl
  ·obtain rfl:k=c.ns.length:=by omega
   unfold IQ;rw[e,hmk,h3,k5];rfl
theorem BWY:AM Try.prog BTM (C_CheckQ.spec dC1):=WY C_CheckQ CDL [] [] CSJ (λ_=>by kernel_rfl) (λ_=>AB BSB (AB CYH (AB DTU (AB DYF AG)))) DFV (λ_=>YE rfl rfl) _
def hasN(l:List Nt)(j:Int):Bool:=l.any λx=>x.mi==j
def ntOf:List Nt->Int->Nt
 |[],_=>default
 |n :: r,j=>bif hasN r j then ntOf r j else bif n.mi==j then n else default
structure Dk where
 c:Cht
 st:Int->Int
 sp:Nat->Bool
def zNt:Value:=.agg #[.int .i64 0,.int .i64 0,.int .i64 0,.int .i64 0,.int .i64 0]
def dkB(w:Dk)(m:Nat):AObj:=.abox [.int w.c.p.lo,.int w.c.p.hi,.int w.c.base,.int w.c.scale,.int w.c.off,.d (eMks w.c.ms),.d (eNts w.c.ns),.mref m] 40 w.sp
def dkM(w:Dk):AObj:=.imap .i64 zNt (hasN w.c.ns) (λj=>eNt (ntOf w.c.ns j)) w.st none
def dkL(w:Dk):List (Nat×AObj):=[(100,dkB w 101),(101,dkM w)]
def dkK(w:Dk):List (Nat×HCell):=[(100,.live (dkB w 101)),(101,.live (dkM w))]
def dkN(w:Dk):List (Nat×HCell):=[(0,.live (dkB w 1)),(1,.live (dkM w))]
def CFW(H:Heap)(id:Nat):Option (Dk×Nat):=match H id with
 | .live (.abox [.d a,.d b,.d c,.d d,.d e,.d (.list _ n f _),.d (.list _ m g _),.mref q] _ sp)=>match H q with
  | .live (.imap _ _ _ _ st _)=>some (⟨⟨⟨EO a,EO b⟩,EO c,EO d,EO e,KA n λi=>dMk (f i),KA m λi=>dNt (g i)⟩,st,sp⟩,q)
  |_=>none
 |_=>none
def stK(l:List Nt):Nat->Int->Int
 |0=>λ_=>0
 |k+1=>S3 (hasN (l.take k)) (stK l k) (gD l k).mi
def newD(c:Cht):Dk:=⟨c,stK c.ns c.ns.length,λ_=>false⟩
def C_openQ:Ctr:={ α:=Cht,xs:=λc=>[.d (eCht c)],val:=λ_=>.tup [.bptr 0 0,.int 0],keep:=λc=>dkN (newD c),pre:=λc=>[(c.ms.length<4611686018427387904/\c.ns.length<4611686018427387904)/\IQ c=0] }
def C_openXQ:Ctr:={ α:=Cht,xs:=λc=>[.d (eCht c)],val:=λc=>.tup [.d (.v (.pointer none)),.int (IQ c)],keep:=λ_=>[],pre:=λc=>[(c.ms.length<4611686018427387904/\c.ns.length<4611686018427387904)/\IQ c≠0] }
def op6(c:Cht):Shape:={ α:=Nat,dflt:=0,T:=λk=>⟨[(5,.bptr 201 0),(18,.d (eNts c.ns)),(19,.int c.ns.length),(20,.int k)],[(201,.live (.abox [.int c.p.lo,.int c.p.hi,.int c.base,.int c.scale,.int c.off,.d (eMks c.ms),.d (eNts c.ns),.mref 202] 40 λ_=>false)),(202,.live (.imap .i64 zNt (hasN (c.ns.take k)) (λj=>eNt (ntOf (c.ns.take k) j)) (stK c.ns k) none))]⟩,inv:=λk=>k<=c.ns.length,meas:=λk=>c.ns.length-k,first:=[(201,5048),(202,5016)] }
def BNB(c:Cht):Ann:={ ann 33 [(BTM,C_CheckQ.spec dC1)] with loops:=λid=>if id=6 then some [op6 c] else none }
def CMP(c:Cht):Prop:=BG Try.prog (BNB c) zU (AL zU) (C_openQ.xs c) (AF []) (C_openQ.val c) (C_openQ.keep c) [(0,201),(1,202)] []
abbrev Gi:=@bne Int (@instBEqOfDecidableEq Int Int.instDecidableEq)
abbrev PS:=False
abbrev QP:=@Eq Value
abbrev BDD:=Value.agg
abbrev BBR:=@List.toArray Value
abbrev APJ:=@List.cons Value
abbrev APC:=Value.int
abbrev BBO:=@List.nil Value
abbrev AN:=λ(f:Int->Prop)=>∀(x:Int),f x
abbrev Af:=hasN
abbrev QT:=Nat.le
abbrev Pg:=@cond Int
abbrev BVM:=λ(x0 x1:Int)=>decide (x0=x1)
abbrev BV:=Dk.c
abbrev gJ:=newD
abbrev Ia:=Dk.st
abbrev PK a:=Gi a 0
abbrev RA a b c d:=BF a (PK b) c d
abbrev UY a(b:Nat->Prop) c d(e:Nat->Prop) f g h p:=GT a (AK b) c d e f g h p
abbrev Jc a(b:Nat->Prop) c d(e:Nat->Prop) f g h(p:Int->Prop):=UY a b c d e f g h (AN p)
abbrev RH a:=QP a a
abbrev CS:=RH zNt
abbrev TS a(b:Nat->Prop) c d(e:Nat->Prop) f g(h:Int->Prop):=Jc a b c d e CS f g h
abbrev XV a(b:Nat->Prop) c(d:Nat->Prop)(e:Nat->Prop) f g(h:Int->Prop):=TS a b c (AK d) e f g h
abbrev Cl a b c d e f:=AJ (Kd a b) (EW c d) (EJ c d) e f
abbrev Lg a b:=ntOf (Av a) b
abbrev UU a b:=Lg (BV a) b
abbrev MH a b:=XB (UU a b)
abbrev Sk a b c:=EJ (MH a b) c
abbrev Yt a b:=(@List.take Nt) a (Av b)
abbrev gU a b c:=ntOf (Yt a b) c
abbrev Jd a b c:=XB (gU a b c)
abbrev Sa a b c:=EW (MH a b) c
abbrev Oe a b c:=NU (gU a b c)
abbrev LF a b:=NU (UU a b)
abbrev Vx a b c:=AO (Ia a b) c
abbrev OX a b:=Af (Av a) b
abbrev VT a b c d:=JB (OX a b) (Af c d)
abbrev xD a:=BV (gJ a)
abbrev Dh a b c:=AZ a b (FJ c)
abbrev VQ a b:=Dh a b Oz
abbrev LN a b:=FP (BV a) b
abbrev dQ a b:=OC (JJ a) b
abbrev jF a:=Bh (BV a)
abbrev MZ a b:=WF (jF a) b
abbrev OO a b:=WK (jF a) b
abbrev LV a:=Iz (jF a)
abbrev Sc a b:=AO (Pz a) (Pz b)
abbrev Qg a b:=AO (Rn a) (Rn b)
abbrev Rm a b:=AO (Kz a) (Kz b)
abbrev Dy a:=YN (BV a)
abbrev Vy a(b:Nat->Prop):=And a (LA b)
abbrev Wj a b c d e f:=HR a (QT b c) d e f
abbrev Ux a b c d e:=Wj a b c c d e
abbrev Zl a b c d e:=Pg (BVM a (NG b c)) d e
abbrev NO a b c:=And (And a b) c
abbrev My a:=FQ a 0
abbrev Np a:=HT a 0
abbrev HM a:=JB a Oz
abbrev AXO a b:=APJ a (APJ a b)
abbrev Vr a b:=AXO a (AXO a b)
abbrev mY a b c d e f:=Cht.mk a (Kz b) (Rn c) (Pz d) e f
abbrev W7 a b c d:=mY a b b b c d
abbrev O9 a b c:=W7 (YN a) a b c
abbrev Kw a b:=O9 a (oI a) b
attribute [go_sem] Gi PS QP BDD BBR APJ APC BBO AN Af QT Pg BVM BV gJ Ia PK RA UY Jc RH CS TS XV Cl Lg UU MH Sk Yt gU Jd Sa Oe LF Vx OX VT xD Dh VQ LN dQ jF MZ OO LV Sc Qg Rm Dy Vy Wj Ux Zl NO My Np HM AXO Vr mY W7 O9 Kw
theorem DDK(c:Cht):(CMP c)=(RA (AH (LC c) (IE c) (KE (CP c) (CO c) (CQ c) (MY (QX c) c) (λi=>SC i (QX c) c i i i i) (PL c) (λi=>OZ i c i i i (VY c i i) (VE c i i)) (BD (QX c)) (BD (Hi c)))) (hd95 (Kw c (Cf c))) PS (KF (λi=>NO (EE c) (AP (SJ c) (uI c) (BS i) (LC c) (IE c) (CP c) (CO c) (CQ c) (Jc (NP c) (λj=>VO j c) (EE c) (SJ c) (λj=>VQ j 40) (QP zNt (BDD (BBR (APJ (APC NE 0) (Vr (APC NE 0) BBO))))) (AN (λj=>HM (Af (Yt i c) j))) (AN (λj=>BE (stK (Av c) i j))) (λj=>AJ (SB (gU i c j) 0) (Np (Oe i c j)) (My (Oe i c j)) (Np (Jd i c j)) (My (Jd i c j))))) (QT i (JJ c))) (λi=>CX (QT i (JJ c)) i (AU (JJ c)) (Vy (DU i (JJ c)) (λj=>Ux (And (EE c) (AP (SJ c) (uI c) (AV j i) (LC c) (IE c) (CP c) (CO c) (CQ c) (TS (NP c) (λk=>VO k c) (EE c) (SJ c) (λk=>VQ k 40) (AN (λk=>JB (Af (Yt j c) k) (YF (Af (Yt i c)) (NG c i) k))) (AN (λk=>AO (stK (Av c) j k) (S3 (Af (Yt i c)) (stK (Av c) i) (NG c i) k))) (λk=>AJ (SB (gU j c k) (Zl k c i (NG c i) (ZF (gU i c k)))) (HT (Oe j c k) (Zl k c i (EM (JE c i)) (EM (Oe i c k)))) (FQ (Oe j c k) (Zl k c i (FL (JE c i)) (FL (Oe i c k)))) (HT (Jd j c k) (Zl k c i (EM (FP c i)) (EM (Jd i c k)))) (FQ (Jd j c k) (Zl k c i (FL (FP c i)) (FL (Jd i c k)))))))) j (JJ c) j i)) (FT CL (EW (Dy (gJ c)) (YN c)) (EJ (Dy (gJ c)) (YN c)) (Rm (xD c) c) (Qg (xD c) c) (Sc (xD c) c) (XV (MY (LV (gJ c)) c) (λj=>Hl j (LV (gJ c)) (OO (gJ c) j) c j (MZ (gJ c) j) j) (dQ (xD c) c) (λj=>UP j (xD c) j (NG c j) (JI (JE (xD c) j) c j) (PZ (JE (xD c) j) c j) (LN (gJ c) j) (FP c j)) (λj=>VQ j 40) (AN (λj=>VT (xD c) j (Yt i c) j)) (AN (λj=>Vx (gJ c) j (stK (Av c) i j))) (λj=>Cl (UU (gJ c) j) (gU i c j) (LF (gJ c) j) (Oe i c j) (Sa (gJ c) j (Jd i c j)) (Sk (gJ c) j (Jd i c j)))))))):=by kernel_rfl
def CDX(c:Cht):Prop:=BG Try.prog (BNB c) zU (AL zU) (C_openQ.xs c) (AF []) (C_openXQ.val c) [] [] []
abbrev wT:=RH (Value.pointer (@none Addr))
abbrev Ql a:=And wT a
attribute [go_sem] wT Ql
theorem CTQ(c:Cht):(CDX c)=(RA (AH (LC c) (IE c) (KE (CP c) (CO c) (CQ c) (MY (QX c) c) (λi=>SC i (QX c) c i i i i) (PL c) (λi=>OZ i c i i i (VY c i i) (VE c i i)) (BD (QX c)) (BD (Hi c)))) (hd95 (Kw c (Cf c))) (Ql (uG c (hd95 (Kw c (Cf c))))) (KF (λi=>NO (EE c) (AP (SJ c) (uI c) (BS i) (LC c) (IE c) (CP c) (CO c) (CQ c) (Jc (NP c) (λj=>VO j c) (EE c) (SJ c) (λj=>VQ j 40) (QP zNt (BDD (BBR (APJ (APC NE 0) (Vr (APC NE 0) BBO))))) (AN (λj=>HM (Af (Yt i c) j))) (AN (λj=>BE (stK (Av c) i j))) (λj=>AJ (SB (gU i c j) 0) (Np (Oe i c j)) (My (Oe i c j)) (Np (Jd i c j)) (My (Jd i c j))))) (QT i (JJ c))) (λi=>CX (QT i (JJ c)) i (AU (JJ c)) (Vy (DU i (JJ c)) (λj=>Ux (And (EE c) (AP (SJ c) (uI c) (AV j i) (LC c) (IE c) (CP c) (CO c) (CQ c) (TS (NP c) (λk=>VO k c) (EE c) (SJ c) (λk=>VQ k 40) (AN (λk=>JB (Af (Yt j c) k) (YF (Af (Yt i c)) (NG c i) k))) (AN (λk=>AO (stK (Av c) j k) (S3 (Af (Yt i c)) (stK (Av c) i) (NG c i) k))) (λk=>AJ (SB (gU j c k) (Zl k c i (NG c i) (ZF (gU i c k)))) (HT (Oe j c k) (Zl k c i (EM (JE c i)) (EM (Oe i c k)))) (FQ (Oe j c k) (Zl k c i (FL (JE c i)) (FL (Oe i c k)))) (HT (Jd j c k) (Zl k c i (EM (FP c i)) (EM (Jd i c k)))) (FQ (Jd j c k) (Zl k c i (FL (FP c i)) (FL (Jd i c k)))))))) j (JJ c) j i)) PS))):=by kernel_rfl
theorem Ur(c:Cht):Cht.mk c.p c.base c.scale c.off c.ms c.ns=c:=rfl
theorem CWY(c:Cht):(newD c).c=c:=rfl
theorem BUW(l:List Nt)(x:Nt)(j:Int):hasN (l ++ [x]) j=YF (hasN l) x.mi j:=by
 unfold hasN YF;rw[List.any_append,Bool.or_comm]
 simp only[List.any_cons,List.any_nil,Bool.or_false]
 congr 1
 rw[Bool.eq_iff_iff,beq_iff_eq,decide_eq_true_eq];exact eq_comm
theorem CSZ(l:List Nt)(x:Nt)(j:Int):ntOf (l ++ [x]) j=bif decide (j=x.mi) then x else ntOf l j:=by
 induction l with
 |nil=>
  simp only[List.nil_append,ntOf,hasN,List.any_nil,cond_false]
  have:(x.mi==j)=decide (j=x.mi):=by rw[Bool.eq_iff_iff,beq_iff_eq,decide_eq_true_eq];exact eq_comm
  rw[this]
 |cons y l ih=>
  simp only[List.cons_append,ntOf,ih,BUW,YF]
  cases decide (j=x.mi)<;>rfl
theorem DRP(c:Cht)(h:(c.ms.length<4611686018427387904/\c.ns.length<4611686018427387904)/\IQ c=0):CMP c:=by
 obtain⟨⟨hm,hn⟩,h0⟩:=h
 rw[DDK]<;> delta JB Oz EM FL ZF NE NU XB AR AK BO CI AO AU UH DV JD DJ DX OP IS Iz Bh YN Kz Rn Pz Vq Hc Av Gh jM LA hd95 Gi PS QP BDD BBR APJ APC BBO AN Af QT Pg BVM BV gJ Ia AH YJ AJ JJ Bs AZ EV Pq AI BI FJ RH Ui DK AP jF Pb mY Lg HA BZ ED BC IZ Cf W7 JE FQ FP HT EJ EW EU UU Xp WK LV Dh NG GT GY oI WF XN SE IE GV Dy CK JZ FK VB LF OX VQ Gz LC LN BD XR YO CE KJ MH Ec SB YZ As EE EC AV OO CS QX CQ CO CP DO BF ES MZ FU FF NB BE Hi JO ZK Yt Az CX NT JI Kd OC PZ NP gU CL BS HR AXO OA UY DU PY Jc SJ Yn Am QZ Cl VO bB FT TA SZ PK HM TS NO MY XV KF TT O9 KE UP PL Jd Hl Vr My VT RA Oe YW OZ VE VY xD Np Wj Sa Kw Ux Sk Zl SC Vy uI Sc dQ Qg Rm Vx;simp only[CCQ,eq_self,implies_true,forall_const,Ur,CWY,h0]
 refine⟨⟨hm,hn⟩,(λh=>by simp at h),λ_=>⟨⟨0,⟨rfl,rfl,λ_=>rfl,λ_=>rfl,λ_=>⟨rfl,rfl,rfl,rfl,rfl⟩⟩,Nat.zero_le _⟩,λk hk=>⟨λhlt=>?_,λhge=>?_⟩⟩⟩
 ·have hlt:k<c.ns.length:=by omega
  refine⟨by omega,k+1,⟨(FN (by omega)).symm,λn=>?_,λn=>rfl,λn=>?_⟩,by omega,by omega⟩
  ·rw[AYB hlt,BUW]
  ·rw[AYB hlt,CSZ]
   cases decide (n=(gD c.ns k).mi)<;>exact⟨rfl,rfl,rfl,rfl,rfl⟩
 ·obtain rfl:k=c.ns.length:=by omega
  simp[newD]
theorem CWM:AM Try.prog yO (C_openQ.spec dC1):=WY C_openQ BNB [(0,201),(1,202)] [] BRL (λ_=>by kernel_rfl) (λ_=>AB BWY AG) (λc h=>DRP c h) (λ_=>YE rfl rfl) _
theorem CSL:AM Try.prog yO (C_openXQ.spec dC1):=WY C_openXQ BNB [] [] BRL (λ_=>by kernel_rfl) (λ_=>AB BWY AG) (λ(c:Cht) h=>by
 obtain⟨⟨hm,hn⟩,h0⟩:(c.ms.length<4611686018427387904/\c.ns.length<4611686018427387904)/\IQ c≠0:=h
 have h0':(IQ c != 0)=true:=by simpa using h0
 show CDX c;rw[CTQ]<;> delta JB Oz EM FL ZF NE NU XB AR AK BO CI AO AU DV JD DJ DX OP IS Iz Bh YN Kz Rn Pz Vq Hc Av Gh jM LA hd95 Gi PS QP BDD BBR APJ APC BBO AN Af QT Pg BVM AH YJ AJ JJ Bs AZ EV Pq AI BI FJ RH Ui DK AP Pb mY HA BZ ED BC IZ Cf W7 JE FQ FP HT EJ EW EU Xp WK Dh NG GT GY oI WF XN SE IE GV CK JZ FK VB VQ Gz LC BD XR YO CE KJ Ec SB YZ As EE EC AV CS QX CQ CO CP DO BF ES FF NB BE Hi JO ZK Yt Az CX NT JI OC PZ NP gU BS HR AXO OA UY DU PY Jc SJ Yn Am QZ VO bB TA SZ PK HM TS NO MY KF TT O9 KE PL Jd Hl Vr My RA Oe YW wT OZ VE VY Np Wj Kw Ux Ql Zl SC Vy uI uG;simp only[CCQ,eq_self,implies_true,forall_const,Ur,h0']
 simp[hm,hn]) (λ_=>YE rfl rfl) _
def nR(m:Int):Int->List Int->Bool
 |_,[]=>true
 |a,g :: r=>bif XA g (MQ (a+1)) (MQ (m-2)) then nR m g r else false
def stpF(m:Int):Int->List Int->(Nat->Bool)->Nat->Bool
 |_,[],f,j=>f j
 |a,g :: r,f,j=>bif XA g (MQ (a+1)) (MQ (m-2)) then stpF m g r (λi=>bif decide (i=g.toNat) then true else f i) j else f j
structure DkZ where
 w:Dk
 z:List Int
def stD(a:DkZ):Dk:=⟨a.w.c,a.w.st,stpF a.w.c.ms.length (-1) a.z a.w.sp⟩
def dDkZ:List AVal->Heap->Option (DkZ×List (Nat×Nat)×List Nat)
 |[.bptr id _,y],H=>match CFW H id,W2 y H with
  |some (w,q),some (l,f)=>some (⟨w,l⟩,[(100,id),(101,q)],f)
  |_,_=>none
 |_,_=>none
structure StK where
 k:Nat
 m:Int
 f:Nat->Bool
 deriving Inhabited
def stp3(a:DkZ):Shape:={ α:=StK,dflt:=default,T:=λs=>⟨[(0,.bptr 100 0),(5,.int s.m),(8,.d (FE a.z)),(9,.int a.z.length),(10,.int s.k)],dkK ⟨a.w.c,a.w.st,s.f⟩⟩,inv:=λs=>(s.k<=a.z.length /\ -1<=s.m/\s.m<=40)/\nR a.w.c.ms.length s.m (a.z.drop s.k)=nR a.w.c.ms.length (-1) a.z/\∀j,stpF a.w.c.ms.length s.m (a.z.drop s.k) s.f j=stpF a.w.c.ms.length (-1) a.z a.w.sp j,meas:=λs=>a.z.length-s.k }
def C_stop:Ctr:={ ro:=[101],α:=DkZ,xs:=λa=>[.bptr 100 0,.d (FE a.z)],L:=λa=>dkL a.w,val:=λa=>.bool (nR a.w.c.ms.length (-1) a.z),keep:=λa=>dkK (stD a),pre:=λa=>[a.z.length<4611686018427387904/\a.w.c.ms.length<=40] }
def DBD(a:DkZ):Ann:={ ann 33 [(BCD,BLL)] with E:=[100,101],loops:=λid=>if id=3 then some [stp3 a] else none }
def CXR(a:DkZ):Prop:=BG Try.prog (DBD a) CME (AL CME) (C_stop.xs a) (AF (C_stop.L a)) (C_stop.val a) (C_stop.keep a) [] []
abbrev fO:=StK.m
abbrev BN:=@List.length Int
abbrev US:=DkZ.z
abbrev BJ:=@gD Int Int.instInhabited
abbrev Jl:=StK.k
abbrev QQ:=DkZ.w
abbrev AOV:=StK.f
abbrev WJ:=Dk.sp
abbrev W0:=@List.drop Int
abbrev jJ:=λ(x0 x1:Nat)=>decide (x0=x1)
abbrev Km a b c:=JB a (OX b c)
abbrev NQ a:=BV (QQ a)
abbrev Dm a:=BV (stD a)
abbrev Od a b c d:=AZ a b (JB c d)
abbrev Ze a b:=AR a (LV b)
abbrev Wi a:=AU (LV a)
abbrev wH a:=Wi (QQ a)
abbrev vK a b c:=nR (wH a) b c
abbrev Ou a b(c:Nat->Prop):=AH a b (AK c)
abbrev JU a b:=EA a (BN b)
abbrev DN a b c d:=AH (AO a b) c d
abbrev KH a:=AN (λi=>AI (Ia a i))
abbrev oJ a b c d:=NB a b c (MZ d a)
abbrev bO a b:=oJ a (LV b) (OO b a) b
abbrev Jh a:=BI (LV a)
abbrev lU a b(c:Nat->Prop)(d:Nat->Prop) e(f:Int->Prop):=XV (Jh a) (λi=>bO i a) b c d e (KH a) f
abbrev RZ a b c d e f:=bL (UU a b) (HA (LF a c)) (LF a d) (HA (MH a e)) (MH a f)
abbrev Bt(a:Int->Bool):=AN (λi=>FJ (a i))
abbrev RS a:=Bt (λi=>OX a i)
abbrev Lf a b c d:=Az a b (LN c d)
abbrev IH a:=HA (Dy a)
abbrev ER a:=AU (BN a)
abbrev RL a:=AI (ER a)
abbrev EZ a b c:=AZ a (BN b) c
abbrev Gk a b c:=EZ a b (AI c)
abbrev Mm a b c d:=Gk a b (BJ c d)
abbrev MC a b:=Mm a b b a
abbrev GI a:=AK (λi=>MC i a)
abbrev GU a:=BI (BN a)
abbrev KO a b:=QT (Nat.succ a) b
abbrev Nj a b:=ES a (ER b)
abbrev Vp a b c(d:Nat->Prop):=AY a b c (AK d)
attribute [go_sem] fO BN US BJ Jl QQ AOV WJ W0 jJ Km NQ Dm Od Ze Wi wH vK Ou JU DN KH oJ bO Jh lU RZ Bt RS Lf IH ER RL EZ Gk Mm MC GI GU KO Nj Vp
theorem DJD(a:DkZ):(CXR a)=(And ((@Exists StK) (λi=>Vp (DN (fO i) (-1) (GU (US a)) (AP (GI (US a)) (RL (US a)) (BS (Jl i)) (IH (QQ a)) (IE (NQ a)) (CP (NQ a)) (CO (NQ a)) (CQ (NQ a)) (lU (QQ a) (EE (NQ a)) (λj=>Lf j (NQ a) (QQ a) j) (λj=>Od j 40 (AOV i j) (WJ (QQ a) j)) (RS (NQ a)) (λj=>RZ (QQ a) j j j j j)))) (AH (JU (Jl i) (US a)) (DJ (-1) (fO i)) (DJ (fO i) 40)) (JB (vK a (fO i) (W0 (Jl i) (US a))) (vK a (-1) (US a))) (λj=>JB (stpF (wH a) (fO i) (W0 (Jl i) (US a)) (AOV i) j) (stpF (wH a) (-1) (US a) (WJ (QQ a)) j)))) ((λ(f:StK->Prop)=>∀(x:StK),f x) (λi=>CX (Ou (AH (JU (Jl i) (US a)) (DJ (-1) (fO i)) (DJ (fO i) 40)) (JB (vK a (fO i) (W0 (Jl i) (US a))) (vK a (-1) (US a))) (λj=>JB (stpF (wH a) (fO i) (W0 (Jl i) (US a)) (AOV i) j) (stpF (wH a) (-1) (US a) (WJ (QQ a)) j))) (Jl i) (ER (US a)) (KM (Nj (Jl i) (US a)) (hd1 (BJ (US a) (Jl i)) (ED (fO i)) (LI (wH a) 2)) (FT (HM (vK a (-1) (US a))) (EW (Dy (stD a)) (Dy (QQ a))) (EJ (Dy (stD a)) (Dy (QQ a))) (Rm (Dm a) (NQ a)) (Qg (Dm a) (NQ a)) (Sc (Dm a) (NQ a)) (XV (Ze (LV (stD a)) (QQ a)) (λj=>DO j (LV (stD a)) (OO (stD a) j) (OO (QQ a) j) (MZ (stD a) j) (MZ (QQ a) j)) (dQ (Dm a) (NQ a)) (λj=>UP j (Dm a) j (NG (NQ a) j) (JI (JE (Dm a) j) (NQ a) j) (PZ (JE (Dm a) j) (NQ a) j) (LN (stD a) j) (LN (QQ a) j)) (λj=>Od j 40 (WJ (stD a) j) (AOV i j)) (AN (λj=>Km (OX (Dm a) j) (NQ a) j)) (AN (λj=>Vx (stD a) j (Ia (QQ a) j))) (λj=>Cl (UU (stD a) j) (UU (QQ a) j) (LF (stD a) j) (LF (QQ a) j) (Sa (stD a) j (MH (QQ a) j)) (Sk (stD a) j (MH (QQ a) j))))) (NO (CE (BJ (US a) (Jl i)) 40) (KO (FZ (BJ (US a) (Jl i))) 40) ((@Exists StK) (λj=>HR (DN (fO j) (BJ (US a) (Jl i)) (GU (US a)) (AP (GI (US a)) (RL (US a)) (AV (Jl j) (Jl i)) (IH (QQ a)) (IE (NQ a)) (CP (NQ a)) (CO (NQ a)) (CQ (NQ a)) (lU (QQ a) (EE (NQ a)) (λk=>Lf k (NQ a) (QQ a) k) (λk=>Od k 40 (AOV j k) (OK (jJ k (FZ (BJ (US a) (Jl i)))) (AOV i k))) (RS (NQ a)) (λk=>RZ (QQ a) k k k k k)))) (Ou (AH (JU (Jl j) (US a)) (DJ (-1) (fO j)) (DJ (fO j) 40)) (JB (vK a (fO j) (W0 (Jl j) (US a))) (vK a (-1) (US a))) (λk=>JB (stpF (wH a) (fO j) (W0 (Jl j) (US a)) (AOV j) k) (stpF (wH a) (-1) (US a) (WJ (QQ a)) k))) (BN (US a)) (Jl j) (Jl i))))) (FT (DR (vK a (-1) (US a))) (EW (Dy (stD a)) (Dy (QQ a))) (EJ (Dy (stD a)) (Dy (QQ a))) (Rm (Dm a) (NQ a)) (Qg (Dm a) (NQ a)) (Sc (Dm a) (NQ a)) (XV (Ze (LV (stD a)) (QQ a)) (λj=>DO j (LV (stD a)) (OO (stD a) j) (OO (QQ a) j) (MZ (stD a) j) (MZ (QQ a) j)) (dQ (Dm a) (NQ a)) (λj=>UP j (Dm a) j (NG (NQ a) j) (JI (JE (Dm a) j) (NQ a) j) (PZ (JE (Dm a) j) (NQ a) j) (LN (stD a) j) (LN (QQ a) j)) (λj=>Od j 40 (WJ (stD a) j) (AOV i j)) (AN (λj=>Km (OX (Dm a) j) (NQ a) j)) (AN (λj=>Vx (stD a) j (Ia (QQ a) j))) (λj=>Cl (UU (stD a) j) (UU (QQ a) j) (LF (stD a) j) (LF (QQ a) j) (Sa (stD a) j (MH (QQ a) j)) (Sk (stD a) j (MH (QQ a) j)))))))):=by kernel_rfl
theorem DOK(a:DkZ):(stD a).c=a.w.c:=rfl
theorem DPQ(a:DkZ)(h:a.z.length<4611686018427387904/\a.w.c.ms.length<=40):CXR a:=by
 obtain⟨hz,hm⟩:=h
 rw[DJD]<;> delta JB hd1 hd5 Oz EM FL ZF NE Kq NU XB AR AK BO CI AO AU EA DV JD DJ DX OP IS Iz Bh YN Kz Rn Pz Vq Hc Av Gh QJ FZ QP AN Af QT BV Ia fO BN US BJ Jl QQ AOV WJ W0 jJ AH YJ AJ JJ AZ EV AI BI FJ RH DK AP jF LI Lg HA BZ ED BC IZ EZ DN JE FQ FP ER HT EJ EW EU UU WK LV NG GT GY WF GU AY SE IE Bt GV Gk Dy CK JZ VB LF OX LN DR YO CE KJ Mm MH SB YZ EE EC AV OO CS KH CQ CO CP DO BF ES MZ FF MC NB JO ZK GI Az GP CX NT JI Kd OC RS PZ Dm BS NQ HR bL UY IH Jc oJ Cl JU Jh KO RL FT Wi HM Km TS NO XV Lf OK KM wH UP bO Vp RZ Sa lU Od Sk Nj Ze Ou vK Sc dQ Qg Rm Vx;simp only[CCQ,eq_self,implies_true,forall_const,DOK]
 have e2:IntKind.i64.wrap ((a.w.c.ms.length:Int)-2)=(a.w.c.ms.length:Int)-2:=JC (by omega) (by omega)
 refine⟨⟨⟨0,-1,a.w.sp⟩,⟨rfl,rfl,λ_ _=>rfl⟩,⟨Nat.zero_le _,by show (-1:Int) <= -1;omega,by show (-1:Int)<=40;omega⟩,rfl,λ_=>rfl⟩,λs ⟨⟨s1,s2,s3⟩,s4,s5⟩=>⟨λhlt=>?_,λhge=>?_⟩⟩
 ·have hlt:s.k<a.z.length:=by omega
  have hd:=CCR hlt
  rw[hd] at s4 s5
  have e1:IntKind.i64.wrap (s.m+1)=s.m+1:=JC (by omega) (by omega)
  refine⟨by omega,λh1=>⟨?_,λj _=>?_,λ_=>rfl⟩,λh1=>?_⟩
  ·rw[<-s4];unfold nR MQ;rw[h1];rfl
  ·show stpF _ _ _ _ j=_
   rw[<-s5 j];unfold stpF MQ;rw[h1];rfl
  ·have h2:=h1
   rw[e1,e2] at h2
   simp only[XA,Bool.and_eq_true,decide_eq_true_eq] at h2
   refine⟨by omega,⟨s.k+1,gD a.z s.k,λi=>bif decide (i=(gD a.z s.k).toNat) then true else s.f i⟩,⟨rfl,(FN (by omega)).symm,λ_ _=>rfl⟩,⟨⟨by show s.k+1<=_;omega,by show -1<=gD a.z s.k;omega,by show gD a.z s.k<=40;omega⟩,?_,λj=>?_⟩,by show a.z.length-(s.k+1)<_;omega⟩
   ·rw[<-s4];conv=>rhs;unfold nR MQ
    rw[h1];rfl
   ·rw[<-s5 j];conv=>rhs;unfold stpF MQ
    rw[h1];rfl
 ·rw[List.drop_of_length_le (by omega)] at s4 s5
  exact⟨s4.symm,λj _=>(s5 j).symm,λ_=>rfl⟩
theorem DJG:AM Try.prog CLY (C_stop.spec dDkZ):=WY C_stop DBD [] [] DHT (λ_=>by kernel_rfl) (λ_=>AB BSB AG) (λa h=>DPQ a h) (λ_=>YE rfl rfl) _
structure CZ where
 c:Cht
 z:List Int
def dCZ:List AVal->Heap->Option (CZ×List (Nat×Nat)×List Nat)
 |[x,y],H=>match DBP x H,W2 y H with
  |some (c,f),some (l,e)=>some (⟨c,l⟩,[],f ++ e)
  |_,_=>none
 |_,_=>none
def xCZ(a:CZ):List AVal:=[.d (eCht a.c),.d (FE a.z)]
def Fh(a:CZ):Dk:=stD ⟨newD a.c,a.z⟩
def okZ(a:CZ):Bool:=nR a.c.ms.length (-1) a.z
def begE(a:CZ):Int:=bif IQ a.c==0 then bif okZ a then 0 else 2 else IQ a.c
def C_beg:Ctr:={ α:=CZ,xs:=xCZ,val:=λa=>.tup [.bptr 0 0,.int (begE a)],keep:=λa=>dkN (Fh a),pre:=λa=>[(a.c.ms.length<4611686018427387904/\a.c.ns.length<4611686018427387904/\a.z.length<4611686018427387904)/\IQ a.c=0] }
def C_begX:Ctr:={ α:=CZ,xs:=xCZ,val:=λa=>.tup [.d (.v (.pointer none)),.int (begE a)],keep:=λ_=>[],pre:=λa=>[(a.c.ms.length<4611686018427387904/\a.c.ns.length<4611686018427387904/\a.z.length<4611686018427387904)/\IQ a.c≠0] }
def DLA:Ann:={ ann 23 [(yO,C_openQ.spec dC1),(CLY,C_stop.spec dDkZ)] with md:=λid=>if id=2 then some λk=>if k=3∨k=4∨k=5∨k=6 then 8 else 0 else none }
def DBR:Ann:={ ann 23 [(yO,C_openXQ.spec dC1)] with md:=λid=>if id=2 then some λk=>if k=3∨k=4∨k=5∨k=6 then 9 else 0 else none }
def DMM(a:CZ):Prop:=BG Try.prog DLA BDN (AL BDN) (xCZ a) (AF []) (C_beg.val a) (C_beg.keep a) [(0,2016),(1,2017)] []
abbrev HZ:=CZ.c
abbrev JN:=@KA Int
abbrev Ts:=CZ.z
abbrev oP:=begE
abbrev jI:=Fh
abbrev nO a b c d:=AJ a b c a d
abbrev cQ a b c:=DN a 0 b c
abbrev Ik a b c d e:=Cl a b (NU a) c d (QD a e)
abbrev AGP a:=Ui (HZ a) (HZ a)
abbrev zJ a:=Bh (HZ a)
abbrev W5 a:=Pb (zJ a) (zJ a)
abbrev AAC a:=YN (HZ a)
abbrev rY a:=mY (AAC a) (HZ a) (HZ a) (HZ a) (W5 a) (AGP a)
abbrev LW a:=gJ (rY a)
abbrev hP a b c:=RO a (MH b c)
abbrev KY a:=BV (jI a)
abbrev On a:=BV (LW a)
abbrev LY a b(c:Nat->Nat):=JN a (λi=>BJ b (c i))
abbrev LX a b:=LY (BN a) b (λi=>i)
abbrev DG a:=LX a a
abbrev Gf a:=DG (Ts a)
abbrev ADH a b c:=Dk.mk a (Ia b) (WJ c)
abbrev Vv a:=Cf (BV a)
abbrev BDS a:=Pb (jF a) (jF a)
abbrev BHO a b:=W7 (Dy a) b (BDS a) (Vv a)
abbrev AFG a b c d:=ADH (BHO a b) c d
abbrev Bi a:=stD (DkZ.mk (AFG (LW a) (On a) (LW a) (LW a)) (Gf a))
abbrev Ky a:=Dm (DkZ.mk (AFG (LW a) (On a) (LW a) (LW a)) (Gf a))
abbrev V6 a:=YN (KY a)
abbrev Hn a b:=HJ a (not b)
abbrev JQ a:=Iz (BDS a)
abbrev Fv a:=EA a 40
abbrev HP a:=BD (BN a)
abbrev RJ a b:=ntOf (Vv a) b
abbrev VP a b c d:=Km (Af a b) c d
abbrev Bb a:=Hc (Vv a)
abbrev Hk a b:=WF (BDS a) b
abbrev Ho a b:=WK (BDS a) b
abbrev HL a b c d:=EZ a b (AO c d)
abbrev IA a b c d e:=HL a b (BJ c d) e
abbrev KC a b c d e f:=IA a b c d (BJ e f)
abbrev FG a b c d:=KC a b b a c d
abbrev EN a b c:=FG a b c a
abbrev AS a b:=AK (λi=>EN i a b)
abbrev JA a b:=AR a (BN b)
abbrev AW a b:=JA (BN a) b
abbrev MK:=FJ QJ
abbrev No a:=hd95 (rY a)
abbrev Im a:=Hc (AGP a)
abbrev Sr a:=BD (Im a)
abbrev Jn a:=Iz (W5 a)
abbrev Qn a:=BD (Jn a)
abbrev Mq a b:=FP (HZ a) b
abbrev PF a b:=Gh (AGP a) b
abbrev YY a b:=NU (PF a b)
abbrev Qi a b:=OC (Im a) b
abbrev Qz a b:=WF (zJ a) b
abbrev Td a b:=WF (W5 a) b
abbrev Py a b:=WK (zJ a) b
abbrev So a b:=WK (W5 a) b
abbrev Px a b:=AR (Jn a) b
abbrev Xe a:=Iz (zJ a)
abbrev Rf a:=IZ (AAC a)
abbrev Ta a:=HA (AAC a)
attribute [go_sem] HZ JN Ts oP jI nO cQ Ik AGP zJ W5 AAC rY LW hP KY On LY LX DG Gf ADH Vv BDS BHO AFG Bi Ky V6 Hn JQ Fv HP RJ VP Bb Hk Ho HL IA KC FG EN AS JA AW MK No Im Sr Jn Qn Mq PF YY Qi Qz Td Py So Px Xe Rf Ta
theorem DRV(a:CZ):(DMM a)=(AH (AH (Ta a) (Rf a) (KE (CP (HZ a)) (CO (HZ a)) (CQ (HZ a)) (Px a (Xe a)) (λi=>DO i (Jn a) (So a i) (Py a i) (Td a i) (Qz a i)) (Qi a (HZ a)) (λi=>QZ i (Im a) (PY (PF a i) (HZ a) i) (JI (YY a i) (HZ a) i) (YY a i) (HZ a) (RO (PF a i) (Mq a i)) (QD (PF a i) (Mq a i))) (And (Qn a) (Sr a)) (BE (No a)))) MK (nO MK MK (BB (AW (Gf a) (Ts a)) (AS (Gf a) (Ts a)) (IH (LW a)) (IE (On a)) (CP (On a)) (EB (CO (On a)) (CQ (On a)) (Ze (JQ (LW a)) (LW a)) (AK (λi=>DO i (JQ (LW a)) (Ho (LW a) i) (OO (LW a) i) (Hk (LW a) i) (MZ (LW a) i))) (OC (Bb (LW a)) (On a)) (λi=>YW i (Bb (LW a)) (On a) i i i (TA (On a) i (LN (LW a) i)) (SZ (On a) i (LN (LW a) i))) (AK (λi=>VQ i 40)) CS (AP (AN (λi=>VP (Vv (LW a)) i (On a) i)) (KH (LW a)) (AN (λi=>Ik (RJ (LW a) i) (UU (LW a) i) (LF (LW a) i) (hP (RJ (LW a) i) (LW a) i) (MH (LW a) i))) CS (AN (λi=>Km (OX (On a) i) (Ky a) i)) (AN (λi=>Vx (LW a) i (Ia (Bi a) i))) (AN (λi=>Cl (UU (LW a) i) (UU (Bi a) i) (LF (LW a) i) (LF (Bi a) i) (Sa (LW a) i (MH (Bi a) i)) (Sk (LW a) i (MH (Bi a) i)))) (HP (Gf a)) (Fv (JQ (LW a)))))) (DV (Hn ((@BEq.beq Nat (@instBEqOfDecidableEq Nat instDecidableEqNat)) 0 0) (nR (AU (JQ (LW a))) (-1) (Gf a))) (DN (oP a) 2 (EW (V6 a) (Dy (Bi a))) (AJ (EJ (V6 a) (Dy (Bi a))) (Rm (KY a) (Ky a)) (Qg (KY a) (Ky a)) (Sc (KY a) (Ky a)) (XV (TD (KY a) (LV (Bi a))) (λi=>Zh i (KY a) i (OO (Bi a) i) i (MZ (Bi a) i)) (dQ (KY a) (Ky a)) (λi=>UP i (KY a) i (NG (Ky a) i) (JI (JE (KY a) i) (Ky a) i) (PZ (JE (KY a) i) (Ky a) i) (FP (KY a) i) (LN (Bi a) i)) (λi=>Od i 40 (WJ (jI a) i) (WJ (Bi a) i)) (AN (λi=>Km (OX (KY a) i) (On a) i)) (AN (λi=>Vx (jI a) i (Ia (LW a) i))) (λi=>Ik (Lg (KY a) i) (UU (LW a) i) (LF (LW a) i) (hP (Lg (KY a) i) (LW a) i) (MH (LW a) i))))) (cQ (oP a) (EW (V6 a) (Dy (Bi a))) (AJ (EJ (V6 a) (Dy (Bi a))) (Rm (KY a) (Ky a)) (Qg (KY a) (Ky a)) (Sc (KY a) (Ky a)) (XV (TD (KY a) (LV (Bi a))) (λi=>Zh i (KY a) i (OO (Bi a) i) i (MZ (Bi a) i)) (dQ (KY a) (Ky a)) (λi=>UP i (KY a) i (NG (Ky a) i) (JI (JE (KY a) i) (Ky a) i) (PZ (JE (KY a) i) (Ky a) i) (FP (KY a) i) (LN (Bi a) i)) (λi=>Od i 40 (WJ (jI a) i) (WJ (Bi a) i)) (AN (λi=>Km (OX (KY a) i) (On a) i)) (AN (λi=>Vx (jI a) i (Ia (LW a) i))) (λi=>Ik (Lg (KY a) i) (UU (LW a) i) (LF (LW a) i) (hP (Lg (KY a) i) (LW a) i) (MH (LW a) i)))))))):=by kernel_rfl
def CYP(a:CZ):Prop:=BG Try.prog DBR BDN (AL BDN) (xCZ a) (AF []) (C_begX.val a) [] [] []
abbrev pE a b c d:=AJ a b a c d
abbrev CDT a b c:=pE a a b c
abbrev Fw a b c d:=DV a (And b c) d
abbrev GA a:=Cu a 0
abbrev GC a b:=BO (DR a) b
abbrev VD a:=(@Ne Int) a 0
attribute [go_sem] pE CDT Fw GA GC VD
theorem DHA(a:CZ):(CYP a)=(AH (AH (Ta a) (Rf a) (KE (CP (HZ a)) (CO (HZ a)) (CQ (HZ a)) (Px a (Xe a)) (λi=>DO i (Jn a) (So a i) (Py a i) (Td a i) (Qz a i)) (Qi a (HZ a)) (λi=>QZ i (Im a) (PY (PF a i) (HZ a) i) (JI (YY a i) (HZ a) i) (YY a i) (HZ a) (RO (PF a i) (Mq a i)) (QD (PF a i) (Mq a i))) (And (Qn a) (Sr a)) (VD (No a)))) (HM (GA (No a))) (CDT (HM (GA (No a))) (GC (GA (No a)) (DR Oz)) (Fw (HJ (GA (No a)) Oz) wT (AO (oP a) 2) (Ql (AO (oP a) (No a)))))):=by kernel_rfl
theorem BGQ(a:CZ):(Fh a).c=a.c:=rfl
theorem BQO(w:Dk):Dk.mk w.c w.st w.sp=w:=rfl
theorem kH{c:Cht}(h:IQ c=0):fX c=0/\(1<=c.ms.length/\c.ms.length<=40)/\c.ns.length<=20:=by
 have h1:fX c=0:=by
  unfold IQ at h
  cases hc:(fX c != 0) with
  |false=>simpa using hc
  |true=>rw[hc] at h;simpa using h
 refine⟨h1,?_⟩
 unfold fX at h1
 cases hc:(bif !XA c.ms.length 1 40 then true else decide ((c.ns.length:Int)>20)) with
 |true=>rw[hc] at h1;cases h1
 |false=>
  cases hb:XA c.ms.length 1 40 with
  |false=>rw[hb] at hc;cases hc
  |true=>
   rw[hb] at hc
   have hc:decide ((c.ns.length:Int)>20)=false:=hc
   simp only[XA,Bool.and_eq_true,decide_eq_true_eq,decide_eq_false_iff_not] at hb hc
   omega
theorem DUW(a:CZ)(h:(a.c.ms.length<4611686018427387904/\a.c.ns.length<4611686018427387904/\a.z.length<4611686018427387904)/\IQ a.c=0):DMM a:=by
 obtain⟨⟨hm,hn,hz⟩,h0⟩:=h
 have hl:=kH h0
 rw[DRV]<;> delta JB hd5 Oz EM FL ZF NU XB AR AK BO CI AO AU EA DV Iz Bh YN Kz Rn Pz Vq Hc Av Gh jM QJ hd95 QP AN Af BV gJ Ia BN BJ WJ HZ JN Ts oP jI AH LY YJ LX AJ zJ JJ Bs AZ KY Pq AI DG FJ RH nO Ui AAC AP jF Pb mY Gf Lg HA BZ IZ EZ Cf AGP W5 W7 DN JE JA FQ FP HT EJ EW rY UU AW Xp WK LV Dh NG GT LW HL WF Vv XN SE BDS IE IA Dy BB JZ KC VB LF OX VQ Gz LN BD XR FG EN MH Ec SB As OO CS AS KH CQ CO CP DO MZ On BE RJ BHO ADH HJ JI Kd QD OC AFG PZ RO PF Dm JQ UY PY IH Jc HP MK EB Xe Am QZ Cl Bi Im Jn cQ TA SZ Ik Km TS XV Bb KE Ky UP TD YY Hk Ho VP No YW Mq Fv Hn Sa Zh Od Sk Ze Qn Rf Sr Ta hP Qi Td Py Sc dQ Qz So Px Qg V6 Rm Vx;simp only[CCQ,eq_self,implies_true,forall_const,Ur,CWY,BQO,DOK,BGQ]
 have e:begE a=bif okZ a then 0 else 2:=by unfold begE;rw[h0];rfl
 have e2:nR a.c.ms.length (-1) a.z=okZ a:=rfl
 have e3:stD ⟨newD a.c,a.z⟩=Fh a:=rfl
 simp only[e,e2,e3,BGQ]
 have e4:∀n,(newD a.c).st n=(Fh a).st n:=λ_=>rfl
 cases okZ a<;>simp[hm,hn,hz,h0,hl.2.1.2,e4]<;>exact⟨λ_=>rfl,λ_ _=>rfl⟩
theorem CWE:AM Try.prog BDY (C_beg.spec dCZ):=WY C_beg (λ_=>DLA) [(0,2016),(1,2017)] [] CFI (λ_=>by kernel_rfl) (λ_=>AB CWM (AB DJG AG)) (λa h=>DUW a h) (λ_=>YE rfl rfl) _
theorem DIO:AM Try.prog BDY (C_begX.spec dCZ):=WY C_begX (λ_=>DBR) [] [] CFI (λ_=>by kernel_rfl) (λ_=>AB CSL AG) (λ(a:CZ) h=>by
 obtain⟨⟨hm,hn,hz⟩,h0⟩:(a.c.ms.length<4611686018427387904/\a.c.ns.length<4611686018427387904/\a.z.length<4611686018427387904)/\IQ a.c≠0:=h
 have h0':(IQ a.c==0)=false:=by simpa using h0
 have e:begE a=IQ a.c:=by unfold begE;rw[h0'];rfl
 show CYP a;rw[DHA]<;> delta JB hd5 Oz EM FL ZF NU XB AR AK BO CI AO DV Iz Bh YN Kz Rn Pz Vq Hc Av Gh jM Cu QJ hd95 QP HZ oP AH YJ AJ zJ JJ Bs AZ Pq AI RH pE CDT Ui AAC AP Pb mY HA BZ IZ AGP W5 JE FQ FP HT EJ EW rY WK NG GT WF SE JZ BD DR SB CQ CO CP DO GC HJ JI QD OC PZ RO PF PY Xe Am QZ GA Im Jn HM KE YY No VD wT Mq Fw Qn Rf Ql Sr Ta Qi Td Py Qz So Px;simp only[CCQ,eq_self,implies_true,forall_const,Ur,h0',e]
 simp[hm,hn,h0]) (λ_=>YE rfl rfl) _
end Go.Bal
