/- Package rating: ends of spans. -/
import Derived.Test.YtbmlgdlbffmjjaaGreatRatB
set_option linter.unusedVariables false
set_option linter.unusedSimpArgs false
namespace Go.Bal
open Go Go.Sym Go.Proofs
structure PP where
 l:List Pt
 p:Pt
def eqP(p q:Pt):Bool:=p.st==q.st&&p.fl==q.fl
def dPP:List AVal->Heap->Option (PP×List (Nat×Nat)×List Nat)
 |[y,.d p],H=>match dPts y H with
  |some (l,f)=>some (⟨l,dPt p⟩,[],f)
  |none=>none
 |_,_=>none
def xPP(a:PP):List AVal:=[.d (ePts a.l),.d (ePt a.p)]
def C_idxP:Ctr:={ α:=PP,xs:=xPP,L:=λ_=>[],val:=λa=>.int (aX (λi=>eqP a.p (gD a.l i)) a.l.length 0),keep:=λ_=>[],pre:=λa=>[a.l.length<4611686018427387904/\True] }
def BOK(a:PP):Ann:={ ann 19 [] with loops:=λid=>if id=2 then some [{ α:=Nat,dflt:=0,T:=λk=>⟨[(0,.d (ePts a.l)),(3,.bptr 201 0),(7,.int a.l.length),(8,.int k)],[(201,.live (.box [.int a.p.st,.int a.p.fl]))]⟩,inv:=λk=>k<=a.l.length/\aX (λi=>eqP a.p (gD a.l i)) a.l.length 0=aX (λi=>eqP a.p (gD a.l i)) (a.l.length-k) k,meas:=λk=>a.l.length-k,first:=[(201,1000)] }] else none }
def BTR(a:PP):Prop:=AX Try.prog (BOK a) AEN (AF AEN) (xPP a) (AC []) (C_idxP.val a) [] [] []
abbrev aV:=@List.length Pt
abbrev Wk:=@gD Pt instInhabitedPt
abbrev wQ a(b:Nat->Pt) c d:=aX (λi=>eqP (PP.p a) (b i)) c d
abbrev Qu a b:=Wk (PP.l a) b
abbrev jZ a b c d:=wQ a (λi=>Qu b i) c d
abbrev GP a:=aV (PP.l a)
abbrev Ry a b c:=jZ a b (GP c) 0
abbrev dL a:=AJ (Qe (PP.p a))
abbrev sI a:=dO (PP.p a)
abbrev dT a:=AJ (sI a)
abbrev fB a b:=AJ (Qe (Qu a b))
abbrev He a b:=dO (Qu a b)
abbrev Sj a:=AR (GP a)
attribute [go_sem] aV Wk wQ Qu jZ GP Ry dL sI dT fB He Sj
theorem CFX(a:PP):(BTR a)=(TU (λi=>FD (AV (Sj a) (AE (λj=>PS j (GP a) (He a j) (fB a j))) (EI (GP a)) (BD i) (dT a) (dL a)) i (GP a) (AK (Ry a a a) (jZ a a (KJ (GP a) i) i))) (λi=>UT (CJ i (GP a) (AK (Ry a a a) (jZ a a (KJ (GP a) i) i))) i (GP a) (BE i (GP a)) (and (ZJ (sI a) (He a i)) (and (ZJ (Qe (PP.p a)) (Qe (Qu a i))) HU)) (Jf (Ry a a a) i) (CG (λj=>EY (AV (Sj a) (AE (λk=>PS k (GP a) (He a k) (fB a k))) (EI (GP a)) (AU j i) (dT a) (dL a)) (CJ j (GP a) (AK (Ry a a a) (jZ a a (KJ (GP a) j) j))) (GP a) j i)) (AK (Ry a a a) (-1)))):=by kernel_rfl
def rowP(l:List Pt):AObj:=.row 2 l.length λi=>ePt (gD l i)
def xPo(a:PP):List AVal:=[.own 100 2 0 a.l.length,.d (ePt a.p)]
def dPo:List AVal->Heap->Option (PP×List (Nat×Nat)×List Nat)
 |[.own id _ _ n,.d p],H=>match H id with
  | .live (.row _ _ g)=>some (⟨VZ n λi=>dPt (g i),dPt p⟩,[(100,id)],[])
  |_=>none
 |_,_=>none
def C_idxO:Ctr:={ ro:=[100],α:=PP,xs:=xPo,L:=λa=>[(100,rowP a.l)],val:=λa=>.int (aX (λi=>eqP a.p (gD a.l i)) a.l.length 0),keep:=λa=>[(100,.live (rowP a.l))],pre:=λa=>[a.l.length<4611686018427387904/\True] }
def BVH(a:PP):Ann:={ ann 19 [] with E:=[100],loops:=λid=>if id=2 then some [{ α:=Nat,dflt:=0,T:=λk=>⟨[(0,.own 100 2 0 a.l.length),(3,.bptr 201 0),(7,.int a.l.length),(8,.int k)],[(100,.live (rowP a.l)),(201,.live (.box [.int a.p.st,.int a.p.fl]))]⟩,inv:=λk=>k<=a.l.length/\aX (λi=>eqP a.p (gD a.l i)) a.l.length 0=aX (λi=>eqP a.p (gD a.l i)) (a.l.length-k) k,meas:=λk=>a.l.length-k,first:=[(201,1000)] }] else none }
def BRU(a:PP):Prop:=AX Try.prog (BVH a) AEN (AF AEN) (xPo a) (AC (C_idxO.L a)) (C_idxO.val a) (C_idxO.keep a) [] []
abbrev La a b c:=Ax (BE a b) c b
attribute [go_sem] La
theorem CAX(a:PP):(BRU a)=(TU (λi=>FD (Ma AM (Sj a) (GP a) (FU (BD i) (Sj a) (λj=>PS j (GP a) (He a j) (fB a j)) (dT a) (dL a))) i (GP a) (AK (Ry a a a) (jZ a a (KJ (GP a) i) i))) (λi=>UT (CJ i (GP a) (AK (Ry a a a) (jZ a a (KJ (GP a) i) i))) i (GP a) (La i (GP a) (AP i)) (and (ZJ (sI a) (He a (AP i))) (and (ZJ (Qe (PP.p a)) (Qe (Qu a (AP i)))) HU)) (HB (Ry a a a) (BH i) (Sj a) (AE (λj=>PS j (GP a) (He a j) (fB a j)))) (CG (λj=>EY (Ma AM (Sj a) (GP a) (FU (AU j i) (Sj a) (λk=>PS k (GP a) (He a k) (fB a k)) (dT a) (dL a))) (CJ j (GP a) (AK (Ry a a a) (jZ a a (KJ (GP a) j) j))) (GP a) j i)) (HB (Ry a a a) (-1) (Sj a) (AE (λj=>PS j (GP a) (He a j) (fB a j)))))):=by kernel_rfl
theorem CIK(p q:Pt):(p.st==q.st&&(p.fl==q.fl&&true))=eqP p q:=by unfold eqP;rw[Bool.and_true]
theorem BXT{p:Nat->Bool}{n:Nat}(h:n<4611686018427387904):(∃a:Nat,(a:Int)=0/\a<=n/\aX p n 0=aX p (n-a) a)/\∀a:Nat,a<=n/\aX p n 0=aX p (n-a) a->((a:Int)<n->(0<=(a:Int)/\(a:Int)<n)/\(p a=true->aX p n 0=a)/\(p a=false->∃b:Nat,(b:Int)=IntKind.i64.wrap ((a:Int)+1)/\(b<=n/\aX p n 0=aX p (n-b) b)/\n-b<n-a))/\(¬(a:Int)<n->aX p n 0=-1):=by
 refine⟨⟨0,rfl,Nat.zero_le _,rfl⟩,λa ⟨h1,h2⟩=>⟨λhlt=>?_,λhge=>?_⟩⟩
 ·have hlt:a<n:=by omega
  refine⟨⟨by omega,by omega⟩,λhp=>?_,λhp=>⟨a+1,(GJ (by omega)).symm,⟨by omega,?_⟩,by omega⟩⟩
  ·rw[h2];exact mO hlt hp
  ·rw[h2];exact P9 hlt hp
 ·rw[h2];exact xN (by omega)
theorem CCY:AH Try.prog AFG (C_idxP.spec dPP):=PU C_idxP BOK [] [] BIX (λ_=>by kernel_rfl) (λ_=>AD) (λ(a:PP) h=>by
 show BTR a;rw[CFX]<;> delta dO Qe NL HU FA AK AN AE BA BM BH CW DC ER NE TD KJ ZJ CG aV Wk CS AG AI AO AJ AR IF BF DN GH PS EI EA DG FB FP EV AV DT JA AU EW BE IA GP CJ LB Qu HK BD HE FD SG TF EY UT wQ jZ He TU Sj Jf sI Ry fB dL dT;simp only[CC,CU,CIK]
 have h:a.l.length<4611686018427387904/\True:=h
 exact BXT h.1) (λ_=>RR rfl rfl) _
theorem CGC:AH Try.prog AFG (C_idxO.spec dPo):=PU C_idxO BVH [] [] BIX (λ_=>by kernel_rfl) (λ_=>AD) (λ(a:PP) h=>by
 show BRU a;rw[CAX]<;> delta dO Qe NL HU FA AK AN AE BA BM BH CW DC ER NE TD KJ ZJ HD CG NZ aV Wk CS AG AP AI AO AJ AR CM IF BF HB DN GH AM PS EA DG FB FP EV DT JA AU EW BE IA GP CJ PK LB Qu HK HF BD FU HE FD SG TF EY UT Ax wQ jZ He TU Sj sI La Ry Ma fB dL dT;simp only[CC,CU,CIK]
 have h:a.l.length<4611686018427387904/\True:=h
 obtain⟨e1,e2⟩:=BXT (p:=λi=>eqP a.p (gD a.l i)) h.1
 exact⟨e1,λk hk=>⟨λhl=>⟨⟨((e2 k hk).1 hl).1,by omega⟩,((e2 k hk).1 hl).2⟩,(e2 k hk).2⟩⟩) (λ_=>RR rfl rfl) _
theorem BGA{a:PP}:decide (a.p∈a.l)=decide (aX (λi=>eqP a.p (gD a.l i)) a.l.length 0>=0):=by
 rw[Bool.eq_iff_iff]
 simp only[decide_eq_true_eq,ge_iff_le,AZQ,Nat.zero_le,Nat.zero_add,true_and]
 have e:∀q:Pt,eqP a.p q=true↔a.p=q:=λq=>by
  obtain⟨⟨⟩,⟨x,y⟩⟩:=a
  all_goals obtain⟨z,w⟩:=q;simp[eqP]
 constructor
 ·intro h
  obtain⟨i,hi,hx⟩:=pK h
  exact⟨i,hi,(e _).2 hx.symm⟩
 ·rintro⟨i,hi,hx⟩
  rw[(e _).1 hx];exact MH hi
def C_conO:Ctr:={ C_idxO with val:=λ(a:PP)=>.bool (decide (a.p∈a.l)) }
def BPE:Ann:={ ann 9 [(AFG,C_idxO.spec dPo)] with E:=[100] }
def BVM(a:PP):Prop:=AX Try.prog BPE ADU (AF ADU) (xPo a) (AC (C_conO.L a)) (C_conO.val a) (C_conO.keep a) [] []
abbrev AAL:=λ(x0:List Pt) (x1:Pt)=>decide (x1∈x0)
abbrev Yh a:=(@VZ Pt) (GP a) (λi=>Qu a i)
abbrev Xm a:=aV (Yh a)
abbrev TH a b c d e f:=Ty a b c d (AK e f)
abbrev Mf a b:=Qe (Wk a b)
abbrev Me a b:=dO (Wk a b)
attribute [go_sem] AAL Yh Xm TH Mf Me
theorem CBK(a:PP):(BVM a)=(AQ (KU (uP (AN (Xm a) (GP a)) (dT a) (dL a) (FU (AE (λi=>TH i (Xm a) (Me (Yh a) i) (He a i) (Mf (Yh a) i) (Qe (Qu a i)))) (AN (GP a) (Xm a)) (λi=>TH i (GP a) (He a i) (Me (Yh a) i) (Qe (Qu a i)) (Mf (Yh a) i)) (HP (Xm a)) FW))) (LI (AAL (PP.l a) (PP.p a)) (Lw (wQ a (λi=>Wk (Yh a) i) (Xm a) 0))) (Sj a) (AE (λi=>PS i (GP a) (He a i) (fB a i)))):=by kernel_rfl
def C_conP:Ctr:={ C_idxP with val:=λ(a:PP)=>.bool (decide (a.p∈a.l)) }
def BZK:Ann:=ann 9 [(AFG,C_idxP.spec dPP)]
def BZB(a:PP):Prop:=AX Try.prog BZK ADU (AF ADU) (xPP a) (AC []) (C_conP.val a) [] [] []
theorem CBL(a:PP):(BZB a)=(And (AV (AN (Xm a) (GP a)) (AE (λi=>TH i (Xm a) (Me (Yh a) i) (He a i) (Mf (Yh a) i) (Qe (Qu a i)))) (dT a) (dL a) (HP (Xm a)) FW) (LI (AAL (PP.l a) (PP.p a)) (Lw (wQ a (λi=>Wk (Yh a) i) (Xm a) 0)))):=by kernel_rfl
theorem CDL:AH Try.prog APC (C_conO.spec dPo):=Ctr.spec_ok (C:=C_conO) (λ(a:PP) h=>Ee (A:=BPE) (ren:=[]) (fz:=[]) BIK (by kernel_rfl) (AA CGC AD) (by
 show BVM a;rw[CBK]<;> delta LI G4 dO Qe AK AN AE BA BM FW aV Wk AAL AG AI AO AJ AR uP IF AM AQ PS GP Qu FU Ty HP KU TH wQ Yh Lw He Mf Me Sj Xm sI fB dL dT;simp only[CC,CU]
 have h:a.l.length<4611686018427387904/\True:=h
 exact⟨h.1,BGA⟩)) _
theorem CFQ:AH Try.prog APC (C_conP.spec dPP):=Ctr.spec_ok (C:=C_conP) (λ(a:PP) h=>Ee (A:=BZK) (L:=[]) (keep:=[]) (ren:=[]) (fz:=[]) BIK (by kernel_rfl) (AA CCY AD) (by
 show BZB a;rw[CBL]<;> delta LI G4 dO Qe AK AN AE BA BM FW aV Wk AAL AG AI AO AJ IF AV GP Qu Ty HP TH wQ Yh Lw He Mf Me Xm sI dL dT;simp only[CC,CU]
 have h:a.l.length<4611686018427387904/\True:=h
 exact⟨h.1,BGA⟩)) _
def addP(l:List Pt)(p:Pt):List Pt:=if p∈l then l else l ++ [p]
def addG(l:List Pt)(g:Gau):List Pt:=addP (addP l ⟨g.st,g.lo⟩) ⟨g.st,g.hi⟩
def AB(s:List Gau):List Pt:=s.foldl addG []
def Nj(s:List Gau)(k:Nat):List Pt:=(s.take k).foldl addG []
def vU(s:List Gau)(k j:Nat):List Pt:=if j=0 then Nj s k else if j=1 then addP (Nj s k) ⟨(gD s k).st,(gD s k).lo⟩ else Nj s (k+1)
structure PtK where
 k:Nat
 l:List Pt
 deriving Inhabited
structure PtJ where
 k:Nat
 j:Nat
 l:List Pt
 deriving Inhabited
def enS(s:List Gau)(k:Nat):List (Nat×AVal):=[(9,.d (KB s)),(10,.int s.length),(11,.int k)]
def enI(s:List Gau)(k j:Nat):List (Nat×AVal):=[(5,.bptr 302 0),(21,.own 303 1 0 2),(22,.int 2),(23,.int j)] ++ enS s k
def enH(g:Gau):List (Nat×HCell):=[(302,.live (.box [.int g.st,.int g.lo,.int g.hi])),(303,.live (.row 1 2 λi=>EP (gD [g.lo,g.hi] i)))]
def enN(s:List Gau):Shape:={ α:=One,dflt:=default,T:=λ_=>⟨(3,.d gK) :: enS s 0,[]⟩,inv:=λ_=>True,meas:=λ_=>s.length+1,tag:=[0] }
def enO(s:List Gau):Shape:={ α:=PtK,dflt:=default,T:=λx=>⟨(3,.own 301 2 0 x.l.length) :: enS s x.k,[(301,.live (rowP x.l))]⟩,inv:=λx=>x.k<=s.length/\1<=x.k/\x.l=Nj s x.k,meas:=λx=>s.length-x.k,tag:=[1] }
def enA(s:List Gau):Shape:={ α:=One,dflt:=default,T:=λ_=>⟨(3,.d gK) :: enI s 0 0,enH (gD s 0)⟩,inv:=λ_=>0<s.length,meas:=λ_=>3,first:=[(302,5032),(303,6096)] }
def enB(s:List Gau)(q:Nat):Shape:={ α:=PtJ,dflt:=default,T:=λx=>⟨(3,.own 301 2 0 x.l.length) :: enI s x.k x.j,(301,.live (rowP x.l)) :: enH (gD s x.k)⟩,inv:=λx=>x.k<s.length/\x.j<=2/\s.length-x.k<=q/\x.l=vU s x.k x.j,meas:=λx=>2-x.j,first:=[(302,5032),(303,6096)] }
def enC(s:List Gau)(m q:Nat)(f:List (Nat×Nat)):Shape:={ α:=PtJ,dflt:=default,T:=λx=>⟨(3,.own 301 2 0 x.l.length) :: enI s x.k x.j,(301,.live (rowP x.l)) :: enH (gD s x.k)⟩,inv:=λx=>x.k<s.length/\x.j<2/\2-x.j<=m/\s.length-x.k<=q/\x.l=vU s x.k (x.j+1),meas:=λ_=>0,first:=f }
def C_ends:Ctr:={ α:=List Gau,xs:=λl=>[.d (KB l)],L:=λ_=>[],val:=λl=>.d (ePts (AB l)),keep:=λ_=>[],pre:=λl=>[l.length<1073741824/\True] }
def BXH(s:List Gau):Ann:={ ann 42 [(APC,orS (C_conO.spec dPo) (C_conP.spec dPP))] with mt:=λid=>id==10,loops:=λid=>if id=3 then some [enN s,enO s] else none,inner:=λgs id=>if id=6 then (if gs.getD 1 0=0 then some [enA s,enB s (gs.getD 0 0)] else some [enB s (gs.getD 0 0)]) else none,cutIn:=λgs id=>if id=11 then some [enC s (gs.getD 0 0) (gs.getD 1 0) [(301,11048)],enC s (gs.getD 0 0) (gs.getD 1 0) []] else none }
def BNI(s:List Gau):Prop:=AX Try.prog (BXH s) BBP (AF BBP) (C_ends.xs s) (AC []) (C_ends.val s) [] [] [301]
abbrev BIR:=@List.cons Int
abbrev Rv:=@List.nil Int
abbrev uB:=@Exists PtJ
abbrev KP:=PtJ.j
abbrev rQ:=PtJ.k
abbrev AMB:=@Eq (List Pt)
abbrev AKL:=λ(f:PtJ->Prop)=>∀(x:PtJ),f x
abbrev gN:=PtK.l
abbrev Hz:=PtK.k
abbrev tU a b:=Wk (AB a) b
abbrev XI a b:=Qe (tU a b)
abbrev NU a b:=dO (tU a b)
abbrev EM a:=aV (AB a)
abbrev Sd a:=aV (gN a)
abbrev cR a b:=QU a (Hz b)
abbrev SU a b c:=AQ AM a b c
abbrev AGZ a b:=Wk (PtJ.l a) b
abbrev SO a b:=Qe (AGZ a b)
abbrev RZ a b:=dO (AGZ a b)
abbrev XA a:=aV (PtJ.l a)
abbrev WJ a:=EI (BP a)
abbrev Jh a b c d:=AMB (PtJ.l a) (vU b (rQ c) d)
abbrev Iz a b:=QU a (rQ b)
abbrev sU a:=uU (KP a)
abbrev Xv a b:=BM a (BP b)
abbrev Jv a b:=Xv (rQ a) b
abbrev Fs a b c:=KQ AM a b c
abbrev fD a b:=Fs a CO b
abbrev Gq a b c d:=AO a b (RO c a d)
abbrev A6 a b:=BIR a (BIR b Rv)
abbrev dV a b:=DF a (rQ b)
abbrev dS a b:=DK a (rQ b)
abbrev SP a b:=A6 (dS a b) (dV a b)
abbrev eA a b c:=AK (dV a b) c
abbrev eV a b c:=AK (dS a b) c
abbrev Iq a b:=DW a (rQ b)
abbrev cQ a b c:=AK (Iq a b) c
abbrev Tv a b c d e f:=TH a (XA b) c d e f
abbrev Uh a b:=AN (XA a) b
abbrev aQ a b:=Uh a (XA b)
abbrev AHV a b:=BC (rQ a) b
abbrev pB a b:=AHV a (rQ b)
abbrev lH a:=CL (KP a)
abbrev oA a:=KJ 2 (KP a)
abbrev iG a b:=CW (oA a) b
abbrev lD a:=BM (KP a) 2
abbrev Ks a b c d e f:=AG a b (EW c d e f)
abbrev jU a b:=IR a (AP b)
abbrev uV a:=CL (XA a)
abbrev RX a b:=Df (CL a) b
abbrev Tm a:=(@VZ Pt) (XA a) (λi=>AGZ a i)
abbrev kX a:=aV (Tm a)
abbrev NS a:=AN a 0
abbrev Fo a:=CL (BP a)
abbrev pX a:=DF a 0
abbrev oO a:=DK a 0
abbrev Ga a:=PK 0 a
abbrev nE a b c:=AO a b (DR c)
abbrev Sc a b:=nE a b UD
abbrev CK:=AE (λi=>Sc i 0)
attribute [go_sem] BIR Rv uB KP rQ AMB AKL gN Hz tU XI NU EM Sd cR SU AGZ SO RZ XA WJ Jh Iz sU Xv Jv Fs fD Gq A6 dV dS SP eA eV Iq cQ Tv Uh aQ AHV pB lH oA iG lD Ks jU uV RX Tm kX NS Fo pX oO Ga nE Sc CK
theorem CGI(s:List Gau):(BNI s)=(AG (NF (AV AM CK (BW s) (BX s) (WJ s) AL)) (Ac (λi=>MQ FW 0 (BP s) (AQ (BE 0 (BP s)) (Cr (FJ AM CK AM CO BL AL (JS (BW s) (BX s) (WJ s) AL (AJ (DW s 0)) (AJ (oO s)) (AJ (pX s)) CO (λj=>TJ j (ML (A6 (oO s) (pX s)) j (HG j (oO s) (pX s)))))) (Ga (BP s))) (Mp (Ga (BP s)) (Rn (AQ (La 0 2 (AP 0)) (AV AM AM (AJ (DW s 0)) (AJ (jU (A6 (oO s) (pX s)) 0)) (IC 4611686018427387904) FW) (Ao 2 2 GO 1 16) (uB (λj=>AV (fD (Uh j 1) (AI BL (BC (KP j) 0) (BW s) (BX s) (JS (WJ s) (AHV j 0) (Uh j 1) (AE (λk=>Tv k j (RZ j k) (DW s 0) (SO j k) (jU (A6 (oO s) (pX s)) 0))) (cQ s j (DW s 0)) (eV s j (oO s)) (eA s j (pX s)) CO (λk=>Gq k 2 (SP s j) (A6 (oO s) (pX s)))))) (Jv j s) (lD j) (iG j 3) (CW (Iz s j) (Fo s)) (Jh j s j (lH j))))) (AKL (λj=>BA (KY (Jv j s) (lD j) (iG j 3) (Iz s j) (Fo s) (Jh j s j (lH j))) (uB (λk=>SG (fD (aQ k j) (AI BL (AU (KP k) (KP j)) (BW s) (BX s) (JS (WJ s) (pB k j) (aQ k j) (AE (λl=>Tv l k (RZ k l) (RZ j l) (SO k l) (SO j l))) (cQ s k (Iq s j)) (eV s k (dS s j)) (eA s k (dV s j)) CO (λl=>Gq l 2 (SP s k) (SP s j))))) (ZC (Jv k s) (sU k) (Iz s k) (Fo s) (Jh k s k (KP k))) 2 (KP k) 3)))))) (AKL (λj=>MI (ZC (Jv j s) (sU j) (Iz s j) (Fo s) (Jh j s j (KP j))) (IA (KP j) 2) (Rn (Ks (La (KP j) 2 (AP (KP j))) (KU (uP (AN (kX j) (XA j)) (AJ (Iq s j)) (AJ (jU (SP s j) (KP j))) (FU (AE (λk=>TH k (kX j) (Me (Tm j) k) (RZ j k) (Mf (Tm j) k) (SO j k))) (Uh j (kX j)) (λk=>Tv k j (RZ j k) (Me (Tm j) k) (SO j k) (Mf (Tm j) k)) (HP (kX j)) FW))) (not (AAL (Tm j) (T6 (Iq s j) (jU (SP s j) (KP j))))) (VE (Ku (XA j) 2) 2 (uV j) (RX (XA j) 16)) (uB (λk=>AV (fD (Uh k (uV j)) (AI BL (BC (KP k) (KP j)) (BW s) (BX s) (JS (WJ s) (pB k j) (Uh k (uV j)) (AE (λl=>Tv l k (RZ k l) (KC l (XA j) (RZ j l) (Iq s j)) (SO k l) (KC l (XA j) (SO j l) (jU (SP s j) (KP j))))) (cQ s k (Iq s j)) (eV s k (dS s j)) (eA s k (dV s j)) CO (λl=>Gq l 2 (SP s k) (SP s j))))) (Jv k s) (lD k) (iG k (oA j)) (CW (Iz s k) (Fo s)) (Jh k s k (lH k)))) (uB (λk=>AV (fD (aQ k j) (AI BL (BC (KP k) (KP j)) (BW s) (BX s) (JS (WJ s) (pB k j) (aQ k j) (AE (λl=>Tv l k (RZ k l) (RZ j l) (SO k l) (SO j l))) (cQ s k (Iq s j)) (eV s k (dS s j)) (eA s k (dV s j)) CO (λl=>Gq l 2 (SP s k) (SP s j))))) (Jv k s) (lD k) (iG k (oA j)) (CW (Iz s k) (Fo s)) (Jh k s k (lH k))))) (AKL (λk=>BA (KY (Jv k s) (lD k) (iG k (oA j)) (Iz s k) (Fo s) (Jh k s k (lH k))) (uB (λl=>EY (fD (aQ l k) (AI BL (AU (KP l) (KP k)) (BW s) (BX s) (JS (WJ s) (pB l k) (aQ l k) (AE (λm=>Tv m l (RZ l m) (RZ k m) (SO l m) (SO k m))) (cQ s l (Iq s k)) (eV s l (dS s k)) (eA s l (dV s k)) CO (λm=>Gq m 2 (SP s l) (SP s k))))) (ZC (Jv l s) (sU l) (Iz s l) (Fo s) (Jh l s l (KP l))) 2 (KP l) (KP j)))))) ((@Exists PtK) (λk=>EV (SU (AN (Sd k) (XA j)) (BW s) (LR (BX s) (WJ s) (AU (Hz k) (rQ j)) (AN (Sd k) (XA j)) (λl=>TH l (Sd k) (Me (gN k) l) (RZ j l) (Mf (gN k) l) (SO j l)))) (FD (HH (Hz k) s) 1 (Hz k) (AMB (gN k) (Nj s (Hz k)))) (cR s k) (Fo s)))))) (hX (NS (EM s))))) ((λ(f:PtK->Prop)=>∀(x:PtK),f x) (λi=>MQ (FD (HH (Hz i) s) 1 (Hz i) (AMB (gN i) (Nj s (Hz i)))) (Hz i) (BP s) (AG (BE (Hz i) (BP s)) (uB (λj=>KY (fD (Uh j (Sd i)) (AI BL (BD (KP j)) (BW s) (BX s) (JS (WJ s) (AHV j (Hz i)) (Uh j (Sd i)) (AE (λk=>Tv k j (RZ j k) (Me (gN i) k) (SO j k) (Mf (gN i) k))) (cQ s j (DW s (Hz i))) (eV s j (DK s (Hz i))) (eA s j (DF s (Hz i))) CO (λk=>TJ k (ML (SP s j) k (HG k (DK s (Hz i)) (DF s (Hz i)))))))) (Jv j s) (sU j) (Iz s j) (cR s i) (Jh j s j (KP j)))) (AKL (λj=>MI (ZC (Jv j s) (sU j) (Iz s j) (cR s i) (Jh j s j (KP j))) (IA (KP j) 2) (Rn (Ks (La (KP j) 2 (AP (KP j))) (KU (uP (AN (kX j) (XA j)) (AJ (Iq s j)) (AJ (jU (SP s j) (KP j))) (FU (AE (λk=>TH k (kX j) (Me (Tm j) k) (RZ j k) (Mf (Tm j) k) (SO j k))) (Uh j (kX j)) (λk=>Tv k j (RZ j k) (Me (Tm j) k) (SO j k) (Mf (Tm j) k)) (HP (kX j)) FW))) (not (AAL (Tm j) (T6 (Iq s j) (jU (SP s j) (KP j))))) (VE (Ku (XA j) 2) 2 (uV j) (RX (XA j) 16)) (uB (λk=>AV (fD (Uh k (uV j)) (AI BL (BC (KP k) (KP j)) (BW s) (BX s) (JS (WJ s) (pB k j) (Uh k (uV j)) (AE (λl=>Tv l k (RZ k l) (KC l (XA j) (RZ j l) (Iq s j)) (SO k l) (KC l (XA j) (SO j l) (jU (SP s j) (KP j))))) (cQ s k (Iq s j)) (eV s k (dS s j)) (eA s k (dV s j)) CO (λl=>Gq l 2 (SP s k) (SP s j))))) (Jv k s) (lD k) (iG k (oA j)) (CW (Iz s k) (cR s i)) (Jh k s k (lH k)))) (uB (λk=>AV (fD (aQ k j) (AI BL (BC (KP k) (KP j)) (BW s) (BX s) (JS (WJ s) (pB k j) (aQ k j) (AE (λl=>Tv l k (RZ k l) (RZ j l) (SO k l) (SO j l))) (cQ s k (Iq s j)) (eV s k (dS s j)) (eA s k (dV s j)) CO (λl=>Gq l 2 (SP s k) (SP s j))))) (Jv k s) (lD k) (iG k (oA j)) (CW (Iz s k) (cR s i)) (Jh k s k (lH k))))) (AKL (λk=>BA (KY (Jv k s) (lD k) (iG k (oA j)) (Iz s k) (cR s i) (Jh k s k (lH k))) (uB (λl=>EY (fD (aQ l k) (AI BL (AU (KP l) (KP k)) (BW s) (BX s) (JS (WJ s) (pB l k) (aQ l k) (AE (λm=>Tv m l (RZ l m) (RZ k m) (SO l m) (SO k m))) (cQ s l (Iq s k)) (eV s l (dS s k)) (eA s l (dV s k)) CO (λm=>Gq m 2 (SP s l) (SP s k))))) (ZC (Jv l s) (sU l) (Iz s l) (cR s i) (Jh l s l (KP l))) 2 (KP l) (KP j)))))) ((@Exists PtK) (λk=>EV (SU (AN (Sd k) (XA j)) (BW s) (LR (BX s) (WJ s) (AU (Hz k) (rQ j)) (AN (Sd k) (XA j)) (λl=>TH l (Sd k) (Me (gN k) l) (RZ j l) (Mf (gN k) l) (SO j l)))) (FD (HH (Hz k) s) 1 (Hz k) (AMB (gN k) (Nj s (Hz k)))) (cR s k) (cR s i)))))) (FD (AN (EM s) (Sd i)) (AP (Sd i)) (Sd i) (AE (λj=>TH j (EM s) (NU s j) (Me (gN i) (AP j)) (XI s j) (Mf (gN i) (AP j)))))))):=by kernel_rfl
theorem AHT(l:List Pt)(p:Pt):(addP l p).length<=l.length+1:=by unfold addP;split<;>simp
theorem AEE{s:List Gau}{k:Nat}(h:k<s.length):Nj s (k+1)=addG (Nj s k) (gD s k):=by
 unfold Nj;rw[VQ h,List.foldl_append];rfl
theorem bL{s:List Gau}:∀k,k<=s.length->(Nj s k).length<=2*k
 |0,_=>by simp[Nj]
 |k+1,h=>by
  rw[AEE (by omega)]
  have:=bL (s:=s) k (by omega)
  have h1:=AHT (Nj s k) ⟨(gD s k).st,(gD s k).lo⟩
  have h2:=AHT (addP (Nj s k) ⟨(gD s k).st,(gD s k).lo⟩) ⟨(gD s k).st,(gD s k).hi⟩
  unfold addG;omega
theorem BDK{s:List Gau}{k j:Nat}(h:k<s.length)(hj:j<2):vU s k (j+1)=addP (vU s k j) ⟨(gD s k).st,gD [(gD s k).lo,(gD s k).hi] j⟩:=by
 match j,hj with
 |0,_=>rfl
 |1,_=>exact AEE h
theorem BKL{s:List Gau}{k j:Nat}(h:k<s.length)(hj:j<=2):(vU s k j).length<=2*s.length:=by
 match j,hj with
 |0,_=>have:=bL (s:=s) k (by omega);show (Nj s k).length<=_;omega
 |1,_=>
  have:=bL (s:=s) k (by omega)
  have h1:=AHT (Nj s k) ⟨(gD s k).st,(gD s k).lo⟩
  show (addP _ _).length<=_;omega
 |2,_=>have:=bL (s:=s) (k+1) (by omega);show (Nj s (k+1)).length<=_;omega
theorem CBV{l:List Pt}{p:Pt}(h:p∈l):addP l p=l:=if_pos h
theorem BPJ{l:List Pt}{p:Pt}(h:¬ p∈l):addP l p=l ++ [p]:=if_neg h
theorem CGX(l:List Pt)(p:Pt)(i:Nat)(hi:i<(l ++ [p]).length):((gD (l ++ [p]) i).st=bif decide (i<l.length) then (gD l i).st else p.st)/\(gD (l ++ [p]) i).fl=bif decide (i<l.length) then (gD l i).fl else p.fl:=by
 rw[G3 _ _ (by simpa using hi)]
 cases decide (i<l.length)<;>exact⟨rfl,rfl⟩
theorem CPW(s:List Gau)(hn:s.length<1073741824):BNI s:=by
 rw[CGI]<;> delta LI UD KA LX JZ dO Qe T6 NL HU FA AK AN AE BA BM IR BH CW DC ER NE TD KJ FF FW HD NZ BP GU HS ZU Wm Ac Df aV Wk AAL BIR Rv uB KP rQ AMB AKL gN Hz CS AG AP AI AO AJ Rn AR DR hX VS KQ uP AS CM DW HY IF BF BW DN DF MM JG DK BO GH VT AM AQ CL EI EA ML DG XJ FP EV KC GI NQ BC AV nE DT RO Ab JA AU AL EW QU tU Sc FV XA FJ Gq MG BE RF EM IA CK IC AGZ PK Ei LB KY VF BL BX LS HH CO BD FU JS Om GW HG NS dS NU FD dV XI MI JE SG RX Ay LR QM Xv Cr Ga TF Ks WJ Ku EY Ty GO XD Iq SO RZ A6 HP Uh KU TH Ax NF Tm SP TJ MQ Fs Jv Fo Iz oA Jh Sd SU ZC Mf Me aQ uU cR AHV kX VE lH cQ lD eA Mp iG jU fD eV La Tv Ao pB sU uV oO pX;simp only[CC,CU]
 have cut:∀(q m:Nat) (c:PtJ),c.k<s.length/\c.j<2/\2-c.j<=m/\s.length-c.k<=q/\c.l=vU s c.k (c.j+1)->∃b:PtJ,(b.l.length=c.l.length/\(b.j:Int)=IntKind.i64.wrap ((c.j:Int)+1)/\(b.k:Int)=c.k/\b.l.length=c.l.length/\(∀(i:Nat),i<b.l.length->(gD b.l i).st=(gD c.l i).st/\(gD b.l i).fl=(gD c.l i).fl)/\(gD s b.k).st=(gD s c.k).st/\(gD s b.k).lo=(gD s c.k).lo/\(gD s b.k).hi=(gD s c.k).hi/\∀(i:Nat),i<2->gD [(gD s b.k).lo,(gD s b.k).hi] i=gD [(gD s c.k).lo,(gD s c.k).hi] i)/\(b.k<s.length/\b.j<=2/\s.length-b.k<=q/\b.l=vU s b.k b.j)/\2-b.j<m:=λq m c hc=>
  ⟨⟨c.k,c.j+1,c.l⟩,⟨rfl,(GJ (by omega)).symm,rfl,rfl,λ_ _=>⟨rfl,rfl⟩,rfl,rfl,rfl,λ_ _=>rfl⟩,⟨hc.1,by show c.j+1<=2;omega,hc.2.2.2.1,hc.2.2.2.2⟩,by show 2-(c.j+1)<m;omega⟩
 have go:∀(q:Nat) (b:PtJ),b.k<s.length/\b.j<=2/\s.length-b.k<=q/\b.l=vU s b.k b.j->(b.j:Int)<2->b.l.length<4611686018427387904/\b.l.length<9223372036854775807/\(b.l.length+1)*16<=140737488355328/\∀p:Pt,p=⟨(gD s b.k).st,gD [(gD s b.k).lo,(gD s b.k).hi] b.j⟩->(¬ p∈b.l->b.l ++ [p]=vU s b.k (b.j+1))/\(p∈b.l->b.l=vU s b.k (b.j+1)):=λq b hb hj=>by
  have hl:=BKL hb.1 hb.2.1
  rw[<-hb.2.2.2] at hl
  refine⟨by omega,by omega,by omega,λp hp=>?_⟩
  rw[BDK hb.1 (by omega),<-hb.2.2.2,<-hp]
  exact⟨λh=>(BPJ h).symm,λh=>(CBV h).symm⟩
 have two:∀(g:Gau) (i:Nat),i<2->gD [g.lo,g.hi] i=bif decide (i=0) then g.lo else g.hi:=λg i hi=>by
  match i,hi with
  |0,_=>rfl
  |1,_=>rfl
 refine⟨⟨default,trivial⟩,⟨λh0=>⟨⟨by omega,by omega⟩,⟨default,two _,by omega⟩,λh1=>⟨⟨⟨by omega,by omega⟩,by omega,by simp,⟨⟨0,0,[⟨(gD s 0).st,(gD s 0).lo⟩]⟩,⟨rfl,rfl,rfl,rfl,λi hi=>?_,rfl,rfl,rfl,λ_ _=>rfl⟩,h1,by simp,by simp,by simp,rfl⟩⟩,cut _ _⟩,
  λb hb=>⟨λhj=>⟨⟨⟨by omega,by omega⟩,(go _ b hb hj).1,λhm=>⟨⟨by simp,by simp,(go _ b hb hj).2.1,(go _ b hb hj).2.2.1⟩,⟨b.k,b.j,b.l ++ [_]⟩,⟨by simp,rfl,rfl,by simp,CGX b.l _,rfl,rfl,rfl,λ_ _=>rfl⟩,hb.1,by show b.j<2;omega,Nat.le_refl _,hb.2.2.1,((go _ b hb hj).2.2.2 _ rfl).1 hm⟩,λhm=>⟨⟨b.k,b.j,b.l⟩,⟨rfl,rfl,rfl,rfl,λ_ _=>⟨rfl,rfl⟩,rfl,rfl,rfl,λ_ _=>rfl⟩,hb.1,by show b.j<2;omega,Nat.le_refl _,hb.2.2.1,((go _ b hb hj).2.2.2 _ rfl).2 hm⟩⟩,cut _ _⟩,λhj=>?_⟩⟩,λh0=>?_⟩,
  λa ha=>⟨λhk=>⟨⟨by omega,by omega⟩,⟨⟨a.k,0,a.l⟩,⟨rfl,rfl,rfl,rfl,λ_ _=>⟨rfl,rfl⟩,rfl,rfl,rfl,two _⟩,by show a.k<_;omega,by simp,Nat.le_refl _,ha.2.2⟩,
  λb hb=>⟨λhj=>⟨⟨⟨by omega,by omega⟩,(go _ b hb hj).1,λhm=>⟨⟨by simp,by simp,(go _ b hb hj).2.1,(go _ b hb hj).2.2.1⟩,⟨b.k,b.j,b.l ++ [_]⟩,⟨by simp,rfl,rfl,by simp,CGX b.l _,rfl,rfl,rfl,λ_ _=>rfl⟩,hb.1,by show b.j<2;omega,Nat.le_refl _,hb.2.2.1,((go _ b hb hj).2.2.2 _ rfl).1 hm⟩,λhm=>⟨⟨b.k,b.j,b.l⟩,⟨rfl,rfl,rfl,rfl,λ_ _=>⟨rfl,rfl⟩,rfl,rfl,rfl,λ_ _=>rfl⟩,hb.1,by show b.j<2;omega,Nat.le_refl _,hb.2.2.1,((go _ b hb hj).2.2.2 _ rfl).2 hm⟩⟩,cut _ _⟩,λhj=>?_⟩⟩,λhk=>?_⟩⟩
 ·have:i=0:=by have hi:i<1:=hi;omega
  subst this;exact⟨rfl,rfl⟩
 ·have h2:b.j=2:=by omega
  exact⟨⟨b.k+1,b.l⟩,⟨rfl,(GJ (by omega)).symm,rfl,λ_ _=>⟨rfl,rfl⟩⟩,⟨by show b.k+1<=_;omega,Nat.succ_pos _,by rw[hb.2.2.2,h2];rfl⟩,by show s.length-(b.k+1)<_;omega⟩
 ·have:s=[]:=List.eq_nil_of_length_eq_zero (by omega)
  subst this;rfl
 ·have h2:b.j=2:=by omega
  exact⟨⟨b.k+1,b.l⟩,⟨rfl,(GJ (by omega)).symm,rfl,λ_ _=>⟨rfl,rfl⟩⟩,⟨by show b.k+1<=_;omega,Nat.succ_pos _,by rw[hb.2.2.2,h2];rfl⟩,by show s.length-(b.k+1)<_;omega⟩
 ·have e:a.l=AB s:=by rw[ha.2.2];unfold Nj AB;rw[List.take_of_length_le (by omega)]
  rw[<-e]
  exact⟨rfl,Nat.le_refl _,λ_ _=>⟨rfl,rfl⟩⟩
theorem M3:AH Try.prog ALA (C_ends.spec A5):=PU C_ends BXH [] [301] CGH (λ_=>by kernel_rfl) (λ_=>AA (BSV CDL CFQ) AD) (λ(s:List Gau) h=>CPW s (show s.length<1073741824/\True from h).1) (λ_=>RR rfl rfl) _
end Go.Bal
