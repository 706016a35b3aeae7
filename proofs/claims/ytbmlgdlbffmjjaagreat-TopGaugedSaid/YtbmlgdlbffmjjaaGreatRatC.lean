/- Package rating: ends of spans. -/
import Derived.Test.YtbmlgdlbffmjjaaGreatRatB
set_option linter.unusedVariables false
set_option linter.unusedSimpArgs false
namespace Go.Bal
open Go Go.Sym Go.Proofs
structure PP where
 l:List Pt
 p:Pt
def eqP(p q:Pt):Bool:=p.st==q.st&&p.fl==q.fl
def dPP:List AVal->Heap->Option (PP×List (Nat×Nat)×List Nat)
 |[y,.d p],H=>match dPts y H with
  |some (l,f)=>some (⟨l,dPt p⟩,[],f)
  |none=>none
 |_,_=>none
def xPP(a:PP):List AVal:=[.d (ePts a.l),.d (ePt a.p)]
def C_idxP:Ctr:={ α:=PP,xs:=xPP,L:=λ_=>[],val:=λa=>.int (aT (λi=>eqP a.p (gD a.l i)) a.l.length 0),keep:=λ_=>[],pre:=λa=>[a.l.length<4611686018427387904/\True] }
def BZD(a:PP):Ann:={ ann 19 [] with loops:=λid=>if id=2 then some [{ α:=Nat,dflt:=0,T:=λk=>⟨[(0,.d (ePts a.l)),(3,.bptr 201 0),(7,.int a.l.length),(8,.int k)],[(201,.live (.box [.int a.p.st,.int a.p.fl]))]⟩,inv:=λk=>k<=a.l.length/\aT (λi=>eqP a.p (gD a.l i)) a.l.length 0=aT (λi=>eqP a.p (gD a.l i)) (a.l.length-k) k,meas:=λk=>a.l.length-k,first:=[(201,1000)] }] else none }
def BYN(a:PP):Prop:=AX Try.prog (BZD a) AEX (AF AEX) (xPP a) (AC []) (C_idxP.val a) [] [] []
abbrev aS:=@List.length Pt
abbrev Wm:=@gD Pt instInhabitedPt
abbrev tL a(b:Nat->Pt) c d:=aT (λi=>eqP (PP.p a) (b i)) c d
abbrev Om a b:=Wm (PP.l a) b
abbrev kU a b c d:=tL a (λi=>Om b i) c d
abbrev GP a:=aS (PP.l a)
abbrev Rz a b c:=kU a b (GP c) 0
abbrev dJ a:=AJ (Qj (PP.p a))
abbrev sJ a:=fD (PP.p a)
abbrev bW a:=AJ (sJ a)
abbrev dA a b:=AJ (Qj (Om a b))
abbrev Gv a b:=fD (Om a b)
abbrev Uy a:=AR (GP a)
attribute [go_sem] aS Wm tL Om kU GP Rz dJ sJ bW dA Gv Uy
theorem CCC(a:PP):(BYN a)=(TS (λi=>FG (AV (Uy a) (AE (λj=>PS j (GP a) (Gv a j) (dA a j))) (EJ (GP a)) (BD i) (bW a) (dJ a)) i (GP a) (AK (Rz a a a) (kU a a (KE (GP a) i) i))) (λi=>UO (CJ i (GP a) (AK (Rz a a a) (kU a a (KE (GP a) i) i))) i (GP a) (BE i (GP a)) (and (ZN (sJ a) (Gv a i)) (and (ZN (Qj (PP.p a)) (Qj (Om a i))) HU)) (Ih (Rz a a a) i) (CG (λj=>FB (AV (Uy a) (AE (λk=>PS k (GP a) (Gv a k) (dA a k))) (EJ (GP a)) (AU j i) (bW a) (dJ a)) (CJ j (GP a) (AK (Rz a a a) (kU a a (KE (GP a) j) j))) (GP a) j i)) (AK (Rz a a a) (-1)))):=by kernel_rfl
def rowP(l:List Pt):AObj:=.row 2 l.length λi=>ePt (gD l i)
def xPo(a:PP):List AVal:=[.own 100 2 0 a.l.length,.d (ePt a.p)]
def dPo:List AVal->Heap->Option (PP×List (Nat×Nat)×List Nat)
 |[.own id _ _ n,.d p],H=>match H id with
  | .live (.row _ _ g)=>some (⟨WA n λi=>dPt (g i),dPt p⟩,[(100,id)],[])
  |_=>none
 |_,_=>none
def C_idxO:Ctr:={ ro:=[100],α:=PP,xs:=xPo,L:=λa=>[(100,rowP a.l)],val:=λa=>.int (aT (λi=>eqP a.p (gD a.l i)) a.l.length 0),keep:=λa=>[(100,.live (rowP a.l))],pre:=λa=>[a.l.length<4611686018427387904/\True] }
def BWJ(a:PP):Ann:={ ann 19 [] with E:=[100],loops:=λid=>if id=2 then some [{ α:=Nat,dflt:=0,T:=λk=>⟨[(0,.own 100 2 0 a.l.length),(3,.bptr 201 0),(7,.int a.l.length),(8,.int k)],[(100,.live (rowP a.l)),(201,.live (.box [.int a.p.st,.int a.p.fl]))]⟩,inv:=λk=>k<=a.l.length/\aT (λi=>eqP a.p (gD a.l i)) a.l.length 0=aT (λi=>eqP a.p (gD a.l i)) (a.l.length-k) k,meas:=λk=>a.l.length-k,first:=[(201,1000)] }] else none }
def BNJ(a:PP):Prop:=AX Try.prog (BWJ a) AEX (AF AEX) (xPo a) (AC (C_idxO.L a)) (C_idxO.val a) (C_idxO.keep a) [] []
abbrev Mq a b c:=As (BE a b) c b
attribute [go_sem] Mq
theorem CBQ(a:PP):(BNJ a)=(TS (λi=>FG (Li AM (Uy a) (GP a) (FQ (BD i) (Uy a) (λj=>PS j (GP a) (Gv a j) (dA a j)) (bW a) (dJ a))) i (GP a) (AK (Rz a a a) (kU a a (KE (GP a) i) i))) (λi=>UO (CJ i (GP a) (AK (Rz a a a) (kU a a (KE (GP a) i) i))) i (GP a) (Mq i (GP a) (AP i)) (and (ZN (sJ a) (Gv a (AP i))) (and (ZN (Qj (PP.p a)) (Qj (Om a (AP i)))) HU)) (HC (Rz a a a) (BH i) (Uy a) (AE (λj=>PS j (GP a) (Gv a j) (dA a j)))) (CG (λj=>FB (Li AM (Uy a) (GP a) (FQ (AU j i) (Uy a) (λk=>PS k (GP a) (Gv a k) (dA a k)) (bW a) (dJ a))) (CJ j (GP a) (AK (Rz a a a) (kU a a (KE (GP a) j) j))) (GP a) j i)) (HC (Rz a a a) (-1) (Uy a) (AE (λj=>PS j (GP a) (Gv a j) (dA a j)))))):=by kernel_rfl
theorem CJV(p q:Pt):(p.st==q.st&&(p.fl==q.fl&&true))=eqP p q:=by unfold eqP;rw[Bool.and_true]
theorem BRK{p:Nat->Bool}{n:Nat}(h:n<4611686018427387904):(∃a:Nat,(a:Int)=0/\a<=n/\aT p n 0=aT p (n-a) a)/\∀a:Nat,a<=n/\aT p n 0=aT p (n-a) a->((a:Int)<n->(0<=(a:Int)/\(a:Int)<n)/\(p a=true->aT p n 0=a)/\(p a=false->∃b:Nat,(b:Int)=IntKind.i64.wrap ((a:Int)+1)/\(b<=n/\aT p n 0=aT p (n-b) b)/\n-b<n-a))/\(¬(a:Int)<n->aT p n 0=-1):=by
 refine⟨⟨0,rfl,Nat.zero_le _,rfl⟩,λa ⟨h1,h2⟩=>⟨λhlt=>?_,λhge=>?_⟩⟩
 ·have hlt:a<n:=by omega
  refine⟨⟨by omega,by omega⟩,λhp=>?_,λhp=>⟨a+1,(GH (by omega)).symm,⟨by omega,?_⟩,by omega⟩⟩
  ·rw[h2];exact mS hlt hp
  ·rw[h2];exact P8 hlt hp
 ·rw[h2];exact wW (by omega)
theorem BZY:AH Try.prog AGJ (C_idxP.spec dPP):=PU C_idxP BZD [] [] BHO (λ_=>by kernel_rfl) (λ_=>AD) (λ(a:PP) h=>by
 show BYN a;rw[CCC]<;> delta fD Qj NX HU EZ AK AN AE BA BN BH CV DC ER NC TD KE ZN CG aS Wm CS AG AI AO AJ AR IG BG DK GJ PS EJ EB DR EX FP EV AV DT JD AU EY BE HX GP CJ LA Om HH BD HF FG SA TM FB UO tL kU Gv TS Uy Ih sJ Rz dA dJ bW;simp only[CC,CU,CJV]
 have h:a.l.length<4611686018427387904/\True:=h
 exact BRK h.1) (λ_=>RU rfl rfl) _
theorem CDX:AH Try.prog AGJ (C_idxO.spec dPo):=PU C_idxO BWJ [] [] BHO (λ_=>by kernel_rfl) (λ_=>AD) (λ(a:PP) h=>by
 show BNJ a;rw[CBQ]<;> delta fD Qj NX HU EZ AK AN AE BA BN BH CV DC ER NC TD KE ZN HA CG NZ aS Wm CS AG AP AI AO AJ AR CM IG BG HC DK GJ AM PS EB DR EX FP EV DT JD AU EY BE HX GP CJ PL LA Om HH HL BD FQ HF FG SA TM FB UO As tL kU Gv TS Uy sJ Mq Rz Li dA dJ bW;simp only[CC,CU,CJV]
 have h:a.l.length<4611686018427387904/\True:=h
 obtain⟨e1,e2⟩:=BRK (p:=λi=>eqP a.p (gD a.l i)) h.1
 exact⟨e1,λk hk=>⟨λhl=>⟨⟨((e2 k hk).1 hl).1,by omega⟩,((e2 k hk).1 hl).2⟩,(e2 k hk).2⟩⟩) (λ_=>RU rfl rfl) _
theorem BGC{a:PP}:decide (a.p∈a.l)=decide (aT (λi=>eqP a.p (gD a.l i)) a.l.length 0>=0):=by
 rw[Bool.eq_iff_iff]
 simp only[decide_eq_true_eq,ge_iff_le,BER,Nat.zero_le,Nat.zero_add,true_and]
 have e:∀q:Pt,eqP a.p q=true↔a.p=q:=λq=>by
  obtain⟨⟨⟩,⟨x,y⟩⟩:=a
  all_goals obtain⟨z,w⟩:=q;simp[eqP]
 constructor
 ·intro h
  obtain⟨i,hi,hx⟩:=oX h
  exact⟨i,hi,(e _).2 hx.symm⟩
 ·rintro⟨i,hi,hx⟩
  rw[(e _).1 hx];exact MF hi
def C_conO:Ctr:={ C_idxO with val:=λ(a:PP)=>.bool (decide (a.p∈a.l)) }
def BYK:Ann:={ ann 9 [(AGJ,C_idxO.spec dPo)] with E:=[100] }
def BZK(a:PP):Prop:=AX Try.prog BYK AFX (AF AFX) (xPo a) (AC (C_conO.L a)) (C_conO.val a) (C_conO.keep a) [] []
abbrev ABF:=λ(x0:List Pt) (x1:Pt)=>decide (x1∈x0)
abbrev Xb a:=(@WA Pt) (GP a) (λi=>Om a i)
abbrev aK a:=aS (Xb a)
abbrev TL a b c d e f:=Un a b c d (AK e f)
abbrev Mm a b:=Qj (Wm a b)
abbrev Ky a b:=fD (Wm a b)
attribute [go_sem] ABF Xb aK TL Mm Ky
theorem CAT(a:PP):(BZK a)=(AQ (LB (vD (AN (aK a) (GP a)) (bW a) (dJ a) (FQ (AE (λi=>TL i (aK a) (Ky (Xb a) i) (Gv a i) (Mm (Xb a) i) (Qj (Om a i)))) (AN (GP a) (aK a)) (λi=>TL i (GP a) (Gv a i) (Ky (Xb a) i) (Qj (Om a i)) (Mm (Xb a) i)) (HP (aK a)) FT))) (LI (ABF (PP.l a) (PP.p a)) (Mi (tL a (λi=>Wm (Xb a) i) (aK a) 0))) (Uy a) (AE (λi=>PS i (GP a) (Gv a i) (dA a i)))):=by kernel_rfl
def C_conP:Ctr:={ C_idxP with val:=λ(a:PP)=>.bool (decide (a.p∈a.l)) }
def BWV:Ann:=ann 9 [(AGJ,C_idxP.spec dPP)]
def BQH(a:PP):Prop:=AX Try.prog BWV AFX (AF AFX) (xPP a) (AC []) (C_conP.val a) [] [] []
theorem CFC(a:PP):(BQH a)=(And (AV (AN (aK a) (GP a)) (AE (λi=>TL i (aK a) (Ky (Xb a) i) (Gv a i) (Mm (Xb a) i) (Qj (Om a i)))) (bW a) (dJ a) (HP (aK a)) FT) (LI (ABF (PP.l a) (PP.p a)) (Mi (tL a (λi=>Wm (Xb a) i) (aK a) 0)))):=by kernel_rfl
theorem CGG:AH Try.prog APT (C_conO.spec dPo):=Ctr.spec_ok (C:=C_conO) (λ(a:PP) h=>Dy (A:=BYK) (ren:=[]) (fz:=[]) BIE (by kernel_rfl) (AA CDX AD) (by
 show BZK a;rw[CAT]<;> delta LI N4 fD Qj AK AN AE BA BN FT aS Wm ABF AG AI AO AJ AR vD IG AM AQ PS GP Om FQ Un HP LB TL tL Xb Mi Gv Mm Ky Uy aK sJ dA dJ bW;simp only[CC,CU]
 have h:a.l.length<4611686018427387904/\True:=h
 exact⟨h.1,BGC⟩)) _
theorem CAC:AH Try.prog APT (C_conP.spec dPP):=Ctr.spec_ok (C:=C_conP) (λ(a:PP) h=>Dy (A:=BWV) (L:=[]) (keep:=[]) (ren:=[]) (fz:=[]) BIE (by kernel_rfl) (AA BZY AD) (by
 show BQH a;rw[CFC]<;> delta LI N4 fD Qj AK AN AE BA BN FT aS Wm ABF AG AI AO AJ IG AV GP Om Un HP TL tL Xb Mi Gv Mm Ky aK sJ dJ bW;simp only[CC,CU]
 have h:a.l.length<4611686018427387904/\True:=h
 exact⟨h.1,BGC⟩)) _
def addP(l:List Pt)(p:Pt):List Pt:=if p∈l then l else l ++ [p]
def addG(l:List Pt)(g:Gau):List Pt:=addP (addP l ⟨g.st,g.lo⟩) ⟨g.st,g.hi⟩
def AB(s:List Gau):List Pt:=s.foldl addG []
def Nb(s:List Gau)(k:Nat):List Pt:=(s.take k).foldl addG []
def vI(s:List Gau)(k j:Nat):List Pt:=if j=0 then Nb s k else if j=1 then addP (Nb s k) ⟨(gD s k).st,(gD s k).lo⟩ else Nb s (k+1)
structure PtK where
 k:Nat
 l:List Pt
 deriving Inhabited
structure PtJ where
 k:Nat
 j:Nat
 l:List Pt
 deriving Inhabited
def enS(s:List Gau)(k:Nat):List (Nat×AVal):=[(9,.d (KD s)),(10,.int s.length),(11,.int k)]
def enI(s:List Gau)(k j:Nat):List (Nat×AVal):=[(5,.bptr 302 0),(21,.own 303 1 0 2),(22,.int 2),(23,.int j)] ++ enS s k
def enH(g:Gau):List (Nat×HCell):=[(302,.live (.box [.int g.st,.int g.lo,.int g.hi])),(303,.live (.row 1 2 λi=>ES (gD [g.lo,g.hi] i)))]
def enN(s:List Gau):Shape:={ α:=One,dflt:=default,T:=λ_=>⟨(3,.d gK) :: enS s 0,[]⟩,inv:=λ_=>True,meas:=λ_=>s.length+1,tag:=[0] }
def enO(s:List Gau):Shape:={ α:=PtK,dflt:=default,T:=λx=>⟨(3,.own 301 2 0 x.l.length) :: enS s x.k,[(301,.live (rowP x.l))]⟩,inv:=λx=>x.k<=s.length/\1<=x.k/\x.l=Nb s x.k,meas:=λx=>s.length-x.k,tag:=[1] }
def enA(s:List Gau):Shape:={ α:=One,dflt:=default,T:=λ_=>⟨(3,.d gK) :: enI s 0 0,enH (gD s 0)⟩,inv:=λ_=>0<s.length,meas:=λ_=>3,first:=[(302,5032),(303,6096)] }
def enB(s:List Gau)(q:Nat):Shape:={ α:=PtJ,dflt:=default,T:=λx=>⟨(3,.own 301 2 0 x.l.length) :: enI s x.k x.j,(301,.live (rowP x.l)) :: enH (gD s x.k)⟩,inv:=λx=>x.k<s.length/\x.j<=2/\s.length-x.k<=q/\x.l=vI s x.k x.j,meas:=λx=>2-x.j,first:=[(302,5032),(303,6096)] }
def enC(s:List Gau)(m q:Nat)(f:List (Nat×Nat)):Shape:={ α:=PtJ,dflt:=default,T:=λx=>⟨(3,.own 301 2 0 x.l.length) :: enI s x.k x.j,(301,.live (rowP x.l)) :: enH (gD s x.k)⟩,inv:=λx=>x.k<s.length/\x.j<2/\2-x.j<=m/\s.length-x.k<=q/\x.l=vI s x.k (x.j+1),meas:=λ_=>0,first:=f }
def C_ends:Ctr:={ α:=List Gau,xs:=λl=>[.d (KD l)],L:=λ_=>[],val:=λl=>.d (ePts (AB l)),keep:=λ_=>[],pre:=λl=>[l.length<1073741824/\True] }
def BRZ(s:List Gau):Ann:={ ann 42 [(APT,orS (C_conO.spec dPo) (C_conP.spec dPP))] with mt:=λid=>id==10,loops:=λid=>if id=3 then some [enN s,enO s] else none,inner:=λgs id=>if id=6 then (if gs.getD 1 0=0 then some [enA s,enB s (gs.getD 0 0)] else some [enB s (gs.getD 0 0)]) else none,cutIn:=λgs id=>if id=11 then some [enC s (gs.getD 0 0) (gs.getD 1 0) [(301,11048)],enC s (gs.getD 0 0) (gs.getD 1 0) []] else none }
def BXU(s:List Gau):Prop:=AX Try.prog (BRZ s) BCC (AF BCC) (C_ends.xs s) (AC []) (C_ends.val s) [] [] [301]
abbrev BGQ:=@List.cons Int
abbrev Rw:=@List.nil Int
abbrev vN:=@Exists PtJ
abbrev KP:=PtJ.j
abbrev rO:=PtJ.k
abbrev ANW:=@Eq (List Pt)
abbrev AGZ:=λ(f:PtJ->Prop)=>∀(x:PtJ),f x
abbrev gP:=PtK.l
abbrev Hx:=PtK.k
abbrev uA a b:=Wm (AB a) b
abbrev WI a b:=Qj (uA a b)
abbrev NQ a b:=fD (uA a b)
abbrev EM a:=aS (AB a)
abbrev Uq a:=aS (gP a)
abbrev gB a b:=QU a (Hx b)
abbrev SP a b c:=AQ AM a b c
abbrev ADZ a b:=Wm (PtJ.l a) b
abbrev SG a b:=Qj (ADZ a b)
abbrev SU a b:=fD (ADZ a b)
abbrev WG a:=aS (PtJ.l a)
abbrev WY a:=EJ (BP a)
abbrev Jf a b c d:=ANW (PtJ.l a) (vI b (rO c) d)
abbrev Iu a b:=QU a (rO b)
abbrev sQ a:=uB (KP a)
abbrev Ym a b:=BN a (BP b)
abbrev Ii a b:=Ym (rO a) b
abbrev Fv a b c:=KS AM a b c
abbrev dV a b:=Fv a CO b
abbrev Gl a b c d:=AO a b (RR c a d)
abbrev A1 a b:=BGQ a (BGQ b Rw)
abbrev cN a b:=DI a (rO b)
abbrev fX a b:=DO a (rO b)
abbrev SQ a b:=A1 (fX a b) (cN a b)
abbrev eX a b c:=AK (cN a b) c
abbrev eW a b c:=AK (fX a b) c
abbrev Jp a b:=DY a (rO b)
abbrev fP a b c:=AK (Jp a b) c
abbrev Um a b c d e f:=TL a (WG b) c d e f
abbrev Ui a b:=AN (WG a) b
abbrev aB a b:=Ui a (WG b)
abbrev AEH a b:=BC (rO a) b
abbrev qX a b:=AEH a (rO b)
abbrev jE a:=CL (KP a)
abbrev oG a:=KE 2 (KP a)
abbrev jY a b:=CV (oG a) b
abbrev iM a:=BN (KP a) 2
abbrev Lw a b c d e f:=AG a b (EY c d e f)
abbrev iI a b:=IQ a (AP b)
abbrev vQ a:=CL (WG a)
abbrev SK a b:=Cw (CL a) b
abbrev Uf a:=(@WA Pt) (WG a) (λi=>ADZ a i)
abbrev iE a:=aS (Uf a)
abbrev NT a:=AN a 0
abbrev Gk a:=CL (BP a)
abbrev qH a:=DI a 0
abbrev oS a:=DO a 0
abbrev Fx a:=PL 0 a
abbrev lX a b c:=AO a b (DF c)
abbrev Uo a b:=lX a b UD
abbrev CK:=AE (λi=>Uo i 0)
attribute [go_sem] BGQ Rw vN KP rO ANW AGZ gP Hx uA WI NQ EM Uq gB SP ADZ SG SU WG WY Jf Iu sQ Ym Ii Fv dV Gl A1 cN fX SQ eX eW Jp fP Um Ui aB AEH qX jE oG jY iM Lw iI vQ SK Uf iE NT Gk qH oS Fx lX Uo CK
theorem CAL(s:List Gau):(BXU s)=(AG (NM (AV AM CK (BW s) (BX s) (WY s) AL)) (ZV (λi=>MU FT 0 (BP s) (AQ (BE 0 (BP s)) (Co (FK AM CK AM CO BL AL (JQ (BW s) (BX s) (WY s) AL (AJ (DY s 0)) (AJ (oS s)) (AJ (qH s)) CO (λj=>TP j (MM (A1 (oS s) (qH s)) j (HG j (oS s) (qH s)))))) (Fx (BP s))) (Ma (Fx (BP s)) (Rp (AQ (Mq 0 2 (AP 0)) (AV AM AM (AJ (DY s 0)) (AJ (iI (A1 (oS s) (qH s)) 0)) (HW 4611686018427387904) FT) (Cj 2 2 GV 1 16) (vN (λj=>AV (dV (Ui j 1) (AI BL (BC (KP j) 0) (BW s) (BX s) (JQ (WY s) (AEH j 0) (Ui j 1) (AE (λk=>Um k j (SU j k) (DY s 0) (SG j k) (iI (A1 (oS s) (qH s)) 0))) (fP s j (DY s 0)) (eW s j (oS s)) (eX s j (qH s)) CO (λk=>Gl k 2 (SQ s j) (A1 (oS s) (qH s)))))) (Ii j s) (iM j) (jY j 3) (CV (Iu s j) (Gk s)) (Jf j s j (jE j))))) (AGZ (λj=>BA (KX (Ii j s) (iM j) (jY j 3) (Iu s j) (Gk s) (Jf j s j (jE j))) (vN (λk=>SA (dV (aB k j) (AI BL (AU (KP k) (KP j)) (BW s) (BX s) (JQ (WY s) (qX k j) (aB k j) (AE (λl=>Um l k (SU k l) (SU j l) (SG k l) (SG j l))) (fP s k (Jp s j)) (eW s k (fX s j)) (eX s k (cN s j)) CO (λl=>Gl l 2 (SQ s k) (SQ s j))))) (ZE (Ii k s) (sQ k) (Iu s k) (Gk s) (Jf k s k (KP k))) 2 (KP k) 3)))))) (AGZ (λj=>MD (ZE (Ii j s) (sQ j) (Iu s j) (Gk s) (Jf j s j (KP j))) (HX (KP j) 2) (Rp (Lw (Mq (KP j) 2 (AP (KP j))) (LB (vD (AN (iE j) (WG j)) (AJ (Jp s j)) (AJ (iI (SQ s j) (KP j))) (FQ (AE (λk=>TL k (iE j) (Ky (Uf j) k) (SU j k) (Mm (Uf j) k) (SG j k))) (Ui j (iE j)) (λk=>Um k j (SU j k) (Ky (Uf j) k) (SG j k) (Mm (Uf j) k)) (HP (iE j)) FT))) (not (ABF (Uf j) (X9 (Jp s j) (iI (SQ s j) (KP j))))) (UT (Lj (WG j) 2) 2 (vQ j) (SK (WG j) 16)) (vN (λk=>AV (dV (Ui k (vQ j)) (AI BL (BC (KP k) (KP j)) (BW s) (BX s) (JQ (WY s) (qX k j) (Ui k (vQ j)) (AE (λl=>Um l k (SU k l) (KB l (WG j) (SU j l) (Jp s j)) (SG k l) (KB l (WG j) (SG j l) (iI (SQ s j) (KP j))))) (fP s k (Jp s j)) (eW s k (fX s j)) (eX s k (cN s j)) CO (λl=>Gl l 2 (SQ s k) (SQ s j))))) (Ii k s) (iM k) (jY k (oG j)) (CV (Iu s k) (Gk s)) (Jf k s k (jE k)))) (vN (λk=>AV (dV (aB k j) (AI BL (BC (KP k) (KP j)) (BW s) (BX s) (JQ (WY s) (qX k j) (aB k j) (AE (λl=>Um l k (SU k l) (SU j l) (SG k l) (SG j l))) (fP s k (Jp s j)) (eW s k (fX s j)) (eX s k (cN s j)) CO (λl=>Gl l 2 (SQ s k) (SQ s j))))) (Ii k s) (iM k) (jY k (oG j)) (CV (Iu s k) (Gk s)) (Jf k s k (jE k))))) (AGZ (λk=>BA (KX (Ii k s) (iM k) (jY k (oG j)) (Iu s k) (Gk s) (Jf k s k (jE k))) (vN (λl=>FB (dV (aB l k) (AI BL (AU (KP l) (KP k)) (BW s) (BX s) (JQ (WY s) (qX l k) (aB l k) (AE (λm=>Um m l (SU l m) (SU k m) (SG l m) (SG k m))) (fP s l (Jp s k)) (eW s l (fX s k)) (eX s l (cN s k)) CO (λm=>Gl m 2 (SQ s l) (SQ s k))))) (ZE (Ii l s) (sQ l) (Iu s l) (Gk s) (Jf l s l (KP l))) 2 (KP l) (KP j)))))) ((@Exists PtK) (λk=>EV (SP (AN (Uq k) (WG j)) (BW s) (LQ (BX s) (WY s) (AU (Hx k) (rO j)) (AN (Uq k) (WG j)) (λl=>TL l (Uq k) (Ky (gP k) l) (SU j l) (Mm (gP k) l) (SG j l)))) (FG (HE (Hx k) s) 1 (Hx k) (ANW (gP k) (Nb s (Hx k)))) (gB s k) (Gk s)))))) (iC (NT (EM s))))) ((λ(f:PtK->Prop)=>∀(x:PtK),f x) (λi=>MU (FG (HE (Hx i) s) 1 (Hx i) (ANW (gP i) (Nb s (Hx i)))) (Hx i) (BP s) (AG (BE (Hx i) (BP s)) (vN (λj=>KX (dV (Ui j (Uq i)) (AI BL (BD (KP j)) (BW s) (BX s) (JQ (WY s) (AEH j (Hx i)) (Ui j (Uq i)) (AE (λk=>Um k j (SU j k) (Ky (gP i) k) (SG j k) (Mm (gP i) k))) (fP s j (DY s (Hx i))) (eW s j (DO s (Hx i))) (eX s j (DI s (Hx i))) CO (λk=>TP k (MM (SQ s j) k (HG k (DO s (Hx i)) (DI s (Hx i)))))))) (Ii j s) (sQ j) (Iu s j) (gB s i) (Jf j s j (KP j)))) (AGZ (λj=>MD (ZE (Ii j s) (sQ j) (Iu s j) (gB s i) (Jf j s j (KP j))) (HX (KP j) 2) (Rp (Lw (Mq (KP j) 2 (AP (KP j))) (LB (vD (AN (iE j) (WG j)) (AJ (Jp s j)) (AJ (iI (SQ s j) (KP j))) (FQ (AE (λk=>TL k (iE j) (Ky (Uf j) k) (SU j k) (Mm (Uf j) k) (SG j k))) (Ui j (iE j)) (λk=>Um k j (SU j k) (Ky (Uf j) k) (SG j k) (Mm (Uf j) k)) (HP (iE j)) FT))) (not (ABF (Uf j) (X9 (Jp s j) (iI (SQ s j) (KP j))))) (UT (Lj (WG j) 2) 2 (vQ j) (SK (WG j) 16)) (vN (λk=>AV (dV (Ui k (vQ j)) (AI BL (BC (KP k) (KP j)) (BW s) (BX s) (JQ (WY s) (qX k j) (Ui k (vQ j)) (AE (λl=>Um l k (SU k l) (KB l (WG j) (SU j l) (Jp s j)) (SG k l) (KB l (WG j) (SG j l) (iI (SQ s j) (KP j))))) (fP s k (Jp s j)) (eW s k (fX s j)) (eX s k (cN s j)) CO (λl=>Gl l 2 (SQ s k) (SQ s j))))) (Ii k s) (iM k) (jY k (oG j)) (CV (Iu s k) (gB s i)) (Jf k s k (jE k)))) (vN (λk=>AV (dV (aB k j) (AI BL (BC (KP k) (KP j)) (BW s) (BX s) (JQ (WY s) (qX k j) (aB k j) (AE (λl=>Um l k (SU k l) (SU j l) (SG k l) (SG j l))) (fP s k (Jp s j)) (eW s k (fX s j)) (eX s k (cN s j)) CO (λl=>Gl l 2 (SQ s k) (SQ s j))))) (Ii k s) (iM k) (jY k (oG j)) (CV (Iu s k) (gB s i)) (Jf k s k (jE k))))) (AGZ (λk=>BA (KX (Ii k s) (iM k) (jY k (oG j)) (Iu s k) (gB s i) (Jf k s k (jE k))) (vN (λl=>FB (dV (aB l k) (AI BL (AU (KP l) (KP k)) (BW s) (BX s) (JQ (WY s) (qX l k) (aB l k) (AE (λm=>Um m l (SU l m) (SU k m) (SG l m) (SG k m))) (fP s l (Jp s k)) (eW s l (fX s k)) (eX s l (cN s k)) CO (λm=>Gl m 2 (SQ s l) (SQ s k))))) (ZE (Ii l s) (sQ l) (Iu s l) (gB s i) (Jf l s l (KP l))) 2 (KP l) (KP j)))))) ((@Exists PtK) (λk=>EV (SP (AN (Uq k) (WG j)) (BW s) (LQ (BX s) (WY s) (AU (Hx k) (rO j)) (AN (Uq k) (WG j)) (λl=>TL l (Uq k) (Ky (gP k) l) (SU j l) (Mm (gP k) l) (SG j l)))) (FG (HE (Hx k) s) 1 (Hx k) (ANW (gP k) (Nb s (Hx k)))) (gB s k) (gB s i)))))) (FG (AN (EM s) (Uq i)) (AP (Uq i)) (Uq i) (AE (λj=>TL j (EM s) (NQ s j) (Ky (gP i) (AP j)) (WI s j) (Mm (gP i) (AP j)))))))):=by kernel_rfl
theorem AHK(l:List Pt)(p:Pt):(addP l p).length<=l.length+1:=by unfold addP;split<;>simp
theorem AJO{s:List Gau}{k:Nat}(h:k<s.length):Nb s (k+1)=addG (Nb s k) (gD s k):=by
 unfold Nb;rw[VP h,List.foldl_append];rfl
theorem bK{s:List Gau}:∀k,k<=s.length->(Nb s k).length<=2*k
 |0,_=>by simp[Nb]
 |k+1,h=>by
  rw[AJO (by omega)]
  have:=bK (s:=s) k (by omega)
  have h1:=AHK (Nb s k) ⟨(gD s k).st,(gD s k).lo⟩
  have h2:=AHK (addP (Nb s k) ⟨(gD s k).st,(gD s k).lo⟩) ⟨(gD s k).st,(gD s k).hi⟩
  unfold addG;omega
theorem BAD{s:List Gau}{k j:Nat}(h:k<s.length)(hj:j<2):vI s k (j+1)=addP (vI s k j) ⟨(gD s k).st,gD [(gD s k).lo,(gD s k).hi] j⟩:=by
 match j,hj with
 |0,_=>rfl
 |1,_=>exact AJO h
theorem BKS{s:List Gau}{k j:Nat}(h:k<s.length)(hj:j<=2):(vI s k j).length<=2*s.length:=by
 match j,hj with
 |0,_=>have:=bK (s:=s) k (by omega);show (Nb s k).length<=_;omega
 |1,_=>
  have:=bK (s:=s) k (by omega)
  have h1:=AHK (Nb s k) ⟨(gD s k).st,(gD s k).lo⟩
  show (addP _ _).length<=_;omega
 |2,_=>have:=bK (s:=s) (k+1) (by omega);show (Nb s (k+1)).length<=_;omega
theorem CDG{l:List Pt}{p:Pt}(h:p∈l):addP l p=l:=if_pos h
theorem BPH{l:List Pt}{p:Pt}(h:¬ p∈l):addP l p=l ++ [p]:=if_neg h
theorem CJD(l:List Pt)(p:Pt)(i:Nat)(hi:i<(l ++ [p]).length):((gD (l ++ [p]) i).st=bif decide (i<l.length) then (gD l i).st else p.st)/\(gD (l ++ [p]) i).fl=bif decide (i<l.length) then (gD l i).fl else p.fl:=by
 rw[F0 _ _ (by simpa using hi)]
 cases decide (i<l.length)<;>exact⟨rfl,rfl⟩
theorem CNT(s:List Gau)(hn:s.length<1073741824):BXU s:=by
 rw[CAL]<;> delta LI UD KA LV JY fD Qj X9 NX HU EZ AK AN AE BA BN IQ BH CV DC ER NC TD KE FD FT HA NZ BP GU HR ZP We ZV Cw aS Wm ABF BGQ Rw vN KP rO ANW AGZ gP Hx CS AG AP AI AO AJ Rp AR DF iC VR KS vD AS CM DY HZ IG BG BW DK DI MK JH DO BO GJ VT AM AQ CL EJ EB MM DR XJ FP EV KB GI NK BC AV lX DT RR ZQ JD AU AL EY QU uA Uo FW WG FK Gl ME BE RB EM HX CK HW ADZ PL Eh LA KX UY BL BX LO HE CO BD FQ JQ Ns GQ HG NT fX NQ FG cN WI MD JE SA SK Bf LQ PY Ym Co Fx TM Lw WY Lj FB Un GV XA Jp SG SU A1 HP Ui LB TL As NM Uf SQ TP MU Fv Ii Gk Iu oG Jf Uq SP ZE Mm Ky aB uB gB AEH iE UT jE fP iM eX Ma jY iI dV eW Mq Um Cj qX sQ vQ oS qH;simp only[CC,CU]
 have cut:∀(q m:Nat) (c:PtJ),c.k<s.length/\c.j<2/\2-c.j<=m/\s.length-c.k<=q/\c.l=vI s c.k (c.j+1)->∃b:PtJ,(b.l.length=c.l.length/\(b.j:Int)=IntKind.i64.wrap ((c.j:Int)+1)/\(b.k:Int)=c.k/\b.l.length=c.l.length/\(∀(i:Nat),i<b.l.length->(gD b.l i).st=(gD c.l i).st/\(gD b.l i).fl=(gD c.l i).fl)/\(gD s b.k).st=(gD s c.k).st/\(gD s b.k).lo=(gD s c.k).lo/\(gD s b.k).hi=(gD s c.k).hi/\∀(i:Nat),i<2->gD [(gD s b.k).lo,(gD s b.k).hi] i=gD [(gD s c.k).lo,(gD s c.k).hi] i)/\(b.k<s.length/\b.j<=2/\s.length-b.k<=q/\b.l=vI s b.k b.j)/\2-b.j<m:=λq m c hc=>
  ⟨⟨c.k,c.j+1,c.l⟩,⟨rfl,(GH (by omega)).symm,rfl,rfl,λ_ _=>⟨rfl,rfl⟩,rfl,rfl,rfl,λ_ _=>rfl⟩,⟨hc.1,by show c.j+1<=2;omega,hc.2.2.2.1,hc.2.2.2.2⟩,by show 2-(c.j+1)<m;omega⟩
 have go:∀(q:Nat) (b:PtJ),b.k<s.length/\b.j<=2/\s.length-b.k<=q/\b.l=vI s b.k b.j->(b.j:Int)<2->b.l.length<4611686018427387904/\b.l.length<9223372036854775807/\(b.l.length+1)*16<=140737488355328/\∀p:Pt,p=⟨(gD s b.k).st,gD [(gD s b.k).lo,(gD s b.k).hi] b.j⟩->(¬ p∈b.l->b.l ++ [p]=vI s b.k (b.j+1))/\(p∈b.l->b.l=vI s b.k (b.j+1)):=λq b hb hj=>by
  have hl:=BKS hb.1 hb.2.1
  rw[<-hb.2.2.2] at hl
  refine⟨by omega,by omega,by omega,λp hp=>?_⟩
  rw[BAD hb.1 (by omega),<-hb.2.2.2,<-hp]
  exact⟨λh=>(BPH h).symm,λh=>(CDG h).symm⟩
 have two:∀(g:Gau) (i:Nat),i<2->gD [g.lo,g.hi] i=bif decide (i=0) then g.lo else g.hi:=λg i hi=>by
  match i,hi with
  |0,_=>rfl
  |1,_=>rfl
 refine⟨⟨default,trivial⟩,⟨λh0=>⟨⟨by omega,by omega⟩,⟨default,two _,by omega⟩,λh1=>⟨⟨⟨by omega,by omega⟩,by omega,by simp,⟨⟨0,0,[⟨(gD s 0).st,(gD s 0).lo⟩]⟩,⟨rfl,rfl,rfl,rfl,λi hi=>?_,rfl,rfl,rfl,λ_ _=>rfl⟩,h1,by simp,by simp,by simp,rfl⟩⟩,cut _ _⟩,
  λb hb=>⟨λhj=>⟨⟨⟨by omega,by omega⟩,(go _ b hb hj).1,λhm=>⟨⟨by simp,by simp,(go _ b hb hj).2.1,(go _ b hb hj).2.2.1⟩,⟨b.k,b.j,b.l ++ [_]⟩,⟨by simp,rfl,rfl,by simp,CJD b.l _,rfl,rfl,rfl,λ_ _=>rfl⟩,hb.1,by show b.j<2;omega,Nat.le_refl _,hb.2.2.1,((go _ b hb hj).2.2.2 _ rfl).1 hm⟩,λhm=>⟨⟨b.k,b.j,b.l⟩,⟨rfl,rfl,rfl,rfl,λ_ _=>⟨rfl,rfl⟩,rfl,rfl,rfl,λ_ _=>rfl⟩,hb.1,by show b.j<2;omega,Nat.le_refl _,hb.2.2.1,((go _ b hb hj).2.2.2 _ rfl).2 hm⟩⟩,cut _ _⟩,λhj=>?_⟩⟩,λh0=>?_⟩,
  λa ha=>⟨λhk=>⟨⟨by omega,by omega⟩,⟨⟨a.k,0,a.l⟩,⟨rfl,rfl,rfl,rfl,λ_ _=>⟨rfl,rfl⟩,rfl,rfl,rfl,two _⟩,by show a.k<_;omega,by simp,Nat.le_refl _,ha.2.2⟩,
  λb hb=>⟨λhj=>⟨⟨⟨by omega,by omega⟩,(go _ b hb hj).1,λhm=>⟨⟨by simp,by simp,(go _ b hb hj).2.1,(go _ b hb hj).2.2.1⟩,⟨b.k,b.j,b.l ++ [_]⟩,⟨by simp,rfl,rfl,by simp,CJD b.l _,rfl,rfl,rfl,λ_ _=>rfl⟩,hb.1,by show b.j<2;omega,Nat.le_refl _,hb.2.2.1,((go _ b hb hj).2.2.2 _ rfl).1 hm⟩,λhm=>⟨⟨b.k,b.j,b.l⟩,⟨rfl,rfl,rfl,rfl,λ_ _=>⟨rfl,rfl⟩,rfl,rfl,rfl,λ_ _=>rfl⟩,hb.1,by show b.j<2;omega,Nat.le_refl _,hb.2.2.1,((go _ b hb hj).2.2.2 _ rfl).2 hm⟩⟩,cut _ _⟩,λhj=>?_⟩⟩,λhk=>?_⟩⟩
 ·have:i=0:=by have hi:i<1:=hi;omega
  subst this;exact⟨rfl,rfl⟩
 ·have h2:b.j=2:=by omega
  exact⟨⟨b.k+1,b.l⟩,⟨rfl,(GH (by omega)).symm,rfl,λ_ _=>⟨rfl,rfl⟩⟩,⟨by show b.k+1<=_;omega,Nat.succ_pos _,by rw[hb.2.2.2,h2];rfl⟩,by show s.length-(b.k+1)<_;omega⟩
 ·have:s=[]:=List.eq_nil_of_length_eq_zero (by omega)
  subst this;rfl
 ·have h2:b.j=2:=by omega
  exact⟨⟨b.k+1,b.l⟩,⟨rfl,(GH (by omega)).symm,rfl,λ_ _=>⟨rfl,rfl⟩⟩,⟨by show b.k+1<=_;omega,Nat.succ_pos _,by rw[hb.2.2.2,h2];rfl⟩,by show s.length-(b.k+1)<_;omega⟩
 ·have e:a.l=AB s:=by rw[ha.2.2];unfold Nb AB;rw[List.take_of_length_le (by omega)]
  rw[<-e]
  exact⟨rfl,Nat.le_refl _,λ_ _=>⟨rfl,rfl⟩⟩
theorem F3:AH Try.prog AKD (C_ends.spec A2):=PU C_ends BRZ [] [301] CCX (λ_=>by kernel_rfl) (λ_=>AA (BTD CGG CAC) AD) (λ(s:List Gau) h=>CNT s (show s.length<1073741824/\True from h).1) (λ_=>RU rfl rfl) _
end Go.Bal
