/- Package rating: ends of spans. -/
import Derived.Test.YtoihhodbkimedaaGreatRatB
import Derived.Test.YtoihhodbkimedaaGreatRLn1
set_option linter.unusedVariables false
set_option linter.unusedSimpArgs false
namespace Go.Bal
open Go Go.Sym Go.Proofs
structure PP where
 l:List Pt
 p:Pt
def eqP(p q:Pt):Bool:=p.st==q.st&&p.fl==q.fl
def dPP:List AVal->Heap->Option (PP×List (Nat×Nat)×List Nat)
 |[y,.d p],H=>match dPts y H with
  |some (l,f)=>some (⟨l,dPt p⟩,[],f)
  |none=>none
 |_,_=>none
def xPP(a:PP):List AVal:=[.d (ePts a.l),.d (ePt a.p)]
def C_idxP:Ctr:={ α:=PP,xs:=xPP,L:=λ_=>[],val:=λa=>.int (gQ (λi=>eqP a.p (gD a.l i)) a.l.length 0),keep:=λ_=>[],pre:=λa=>[a.l.length<4611686018427387904/\True] }
def BTA(a:PP):Ann:={ ann 19 [] with loops:=λid=>if id=2 then some [{ α:=Nat,dflt:=0,T:=λk=>⟨[(0,.d (ePts a.l)),(3,.bptr 201 0),(7,.int a.l.length),(8,.int k)],[(201,.live (.box [.int a.p.st,.int a.p.fl]))]⟩,inv:=λk=>k<=a.l.length/\gQ (λi=>eqP a.p (gD a.l i)) a.l.length 0=gQ (λi=>eqP a.p (gD a.l i)) (a.l.length-k) k,meas:=λk=>a.l.length-k,first:=[(201,1000)] }] else none }
def BXE(a:PP):Prop:=BQ Try.prog (BTA a) ARZ (AI ARZ) (xPP a) (AD []) (C_idxP.val a) [] [] []
abbrev cV:=@List.length Pt
abbrev pZ:=@gD Pt instInhabitedPt
abbrev HX a:=cV (PP.l a)
abbrev tZ a b:=eqP (PP.p a) b
abbrev cN a b:=pZ (PP.l a) b
abbrev ZP a b c:=tZ a (cN b c)
abbrev VH a b c:=And (BU a b) c
abbrev Ys a:=AM (Vy (PP.p a))
abbrev sH a:=qS (PP.p a)
abbrev Zd a:=AM (sH a)
abbrev Ym a b:=AM (Vy (cN a b))
abbrev Yj a b:=qS (cN a b)
abbrev Xk a b:=AM (Yj a b)
abbrev Qu a:=BL (HX a)
attribute [go_sem] cV pZ HX tZ cN ZP VH Ys sH Zd Ym Yj Xk Qu
theorem CIN(a:PP):(BXE a)=(DJ (λi=>AG (BJ (Qu a) (AK (λj=>GA j (HX a) (Xk a j) (Ym a j))) (BE (HX a)) (BD i) (Zd a) (Ys a)) (BU i (HX a)) (VS (λj=>ZP a a j) (HX a) (λj=>ZP a a j) (EF (HX a) i) i)) (λi=>PI (VH i (HX a) (VS (λj=>ZP a a j) (HX a) (λj=>ZP a a j) (EF (HX a) i) i)) i (HX a) (IR i (HX a)) (NO (and (OL (sH a) (Yj a i)) (and (OL (Vy (PP.p a)) (Vy (cN a i))) JG)) (Qi (λj=>ZP a a j) (HX a) (AQ i)) (λj=>EV (BJ (Qu a) (AK (λk=>GA k (HX a) (Xk a k) (Ym a k))) (BE (HX a)) (BS j i) (Zd a) (Ys a)) (VH j (HX a) (VS (λk=>ZP a a k) (HX a) (λk=>ZP a a k) (EF (HX a) j) j)) (HX a) j i)) (Qi (λj=>ZP a a j) (HX a) (-1)))):=by kernel_rfl
def rowP(l:List Pt):AObj:=.row 2 l.length λi=>ePt (gD l i)
def xPo(a:PP):List AVal:=[.own 100 2 0 a.l.length,.d (ePt a.p)]
def dPo:List AVal->Heap->Option (PP×List (Nat×Nat)×List Nat)
 |[.own id _ _ n,.d p],H=>match H id with
  | .live (.row _ _ g)=>some (⟨MK n λi=>dPt (g i),dPt p⟩,[(100,id)],[])
  |_=>none
 |_,_=>none
def C_idxO:Ctr:={ ro:=[100],α:=PP,xs:=xPo,L:=λa=>[(100,rowP a.l)],val:=λa=>.int (gQ (λi=>eqP a.p (gD a.l i)) a.l.length 0),keep:=λa=>[(100,.live (rowP a.l))],pre:=λa=>[a.l.length<4611686018427387904/\True] }
def BVO(a:PP):Ann:={ ann 19 [] with E:=[100],loops:=λid=>if id=2 then some [{ α:=Nat,dflt:=0,T:=λk=>⟨[(0,.own 100 2 0 a.l.length),(3,.bptr 201 0),(7,.int a.l.length),(8,.int k)],[(100,.live (rowP a.l)),(201,.live (.box [.int a.p.st,.int a.p.fl]))]⟩,inv:=λk=>k<=a.l.length/\gQ (λi=>eqP a.p (gD a.l i)) a.l.length 0=gQ (λi=>eqP a.p (gD a.l i)) (a.l.length-k) k,meas:=λk=>a.l.length-k,first:=[(201,1000)] }] else none }
def BVJ(a:PP):Prop:=BQ Try.prog (BVO a) ARZ (AI ARZ) (xPo a) (AD (C_idxO.L a)) (C_idxO.val a) (C_idxO.keep a) [] []
abbrev IY:=Nat.le
abbrev AL:=BL 0
abbrev LO a b c:=AN AL a b c
abbrev RS a b(c:Nat->Prop) d e:=AF a b (AK c) d e
abbrev BP a:=LM 0 a
abbrev HN a b:=IY (Nat.succ a) b
attribute [go_sem] IY AL LO RS BP HN
theorem CGV(a:PP):(BVJ a)=(DJ (λi=>EI AL (Qu a) (BE (HX a)) (RS (BD i) (Qu a) (λj=>GA j (HX a) (Xk a j) (Ym a j)) (Zd a) (Ys a)) (BU i (HX a)) (VS (λj=>ZP a a j) (HX a) (λj=>ZP a a j) (EF (HX a) i) i)) (λi=>PI (VH i (HX a) (VS (λj=>ZP a a j) (HX a) (λj=>ZP a a j) (EF (HX a) i) i)) i (HX a) (And (IR i (HX a)) (HN (BP i) (HX a))) (NO (and (OL (sH a) (Yj a (BP i))) (and (OL (Vy (PP.p a)) (Vy (cN a (BP i)))) JG)) (CA (YD (λj=>ZP a a j) (HX a)) (AQ i) (Qu a) (AK (λj=>GA j (HX a) (Xk a j) (Ym a j)))) (λj=>EV (LO (Qu a) (BE (HX a)) (RS (BS j i) (Qu a) (λk=>GA k (HX a) (Xk a k) (Ym a k)) (Zd a) (Ys a))) (VH j (HX a) (VS (λk=>ZP a a k) (HX a) (λk=>ZP a a k) (EF (HX a) j) j)) (HX a) j i)) (CA (YD (λj=>ZP a a j) (HX a)) (-1) (Qu a) (AK (λj=>GA j (HX a) (Xk a j) (Ym a j)))))):=by kernel_rfl
theorem CMM(p q:Pt):(p.st==q.st&&(p.fl==q.fl&&true))=eqP p q:=by unfold eqP;rw[Bool.and_true]
theorem BTZ{p:Nat->Bool}{n:Nat}(h:n<4611686018427387904):(∃a:Nat,(a:Int)=0/\a<=n/\gQ p n 0=gQ p (n-a) a)/\∀a:Nat,a<=n/\gQ p n 0=gQ p (n-a) a->((a:Int)<n->(0<=(a:Int)/\(a:Int)<n)/\(p a=true->gQ p n 0=a)/\(p a=false->∃b:Nat,(b:Int)=IntKind.i64.wrap ((a:Int)+1)/\(b<=n/\gQ p n 0=gQ p (n-b) b)/\n-b<n-a))/\(¬(a:Int)<n->gQ p n 0=-1):=by
 refine⟨⟨0,rfl,Nat.zero_le _,rfl⟩,λa ⟨h1,h2⟩=>⟨λhlt=>?_,λhge=>?_⟩⟩
 ·have hlt:a<n:=by omega
  refine⟨⟨by omega,by omega⟩,λhp=>?_,λhp=>⟨a+1,(CN (by omega)).symm,⟨by omega,?_⟩,by omega⟩⟩
  ·rw[h2];exact ACK hlt hp
  ·rw[h2];exact AVV hlt hp
 ·rw[h2];exact ALR (by omega)
theorem CIF:AJ Try.prog ARY (C_idxP.spec dPP):=VD C_idxP BTA [] [] BMO (λ_=>by kernel_rfl) (λ_=>AE) (λ(a:PP) h=>by
 show BXE a;rw[CIN]<;> delta qS Vy GD JG CS AO AR AK BV BZ AQ BU DD ES LX EF OL FB cV pZ AG DG AF AT FF AM BL DU BC GA CQ BE ED BW HI FZ CL EA DV BJ FD HX LN LL cN FL EV BS BD FH DJ YD Qi tZ IR ZP VH NO VS Yj Qu PI sH Ym Xk Ys Zd;simp only[CC,eq_self,implies_true,forall_const,CMM]
 have h:a.l.length<4611686018427387904/\True:=h
 exact BTZ h.1) (λ_=>WK rfl rfl) _
theorem CIU:AJ Try.prog ARY (C_idxO.spec dPo):=VD C_idxO BVO [] [] BMO (λ_=>by kernel_rfl) (λ_=>AE) (λ(a:PP) h=>by
 show BVJ a;rw[CGV]<;> delta qS Vy GD JG CS AO AR AK BV BZ AQ BU DD ES LX EF OL FB LM cV pZ IY AG DG AF AT FF CA AM BL DU BP BC GA CQ AN AL BE ED BW HI FZ CL EA DV FD HX LN LL cN FL EV BS BD FH HN DJ YD EI Qi tZ IR LO ZP VH NO VS RS Yj Qu PI sH Ym Xk Ys Zd;simp only[CC,eq_self,implies_true,forall_const,CMM]
 have h:a.l.length<4611686018427387904/\True:=h
 obtain⟨e1,e2⟩:=BTZ (p:=λi=>eqP a.p (gD a.l i)) h.1
 exact⟨e1,λk hk=>⟨λhl=>⟨⟨((e2 k hk).1 hl).1,by omega⟩,((e2 k hk).1 hl).2⟩,(e2 k hk).2⟩⟩) (λ_=>WK rfl rfl) _
theorem BPJ{a:PP}:decide (a.p∈a.l)=decide (gQ (λi=>eqP a.p (gD a.l i)) a.l.length 0>=0):=by
 rw[Bool.eq_iff_iff]
 simp only[decide_eq_true_eq,ge_iff_le,BIB,Nat.zero_le,Nat.zero_add,true_and]
 have e:∀q:Pt,eqP a.p q=true↔a.p=q:=λq=>by
  obtain⟨⟨⟩,⟨x,y⟩⟩:=a
  all_goals obtain⟨z,w⟩:=q;simp[eqP]
 constructor
 ·intro h
  obtain⟨i,hi,hx⟩:=NL h
  exact⟨i,hi,(e _).2 hx.symm⟩
 ·rintro⟨i,hi,hx⟩
  rw[(e _).1 hx];exact CV hi
def C_conO:Ctr:={ C_idxO with val:=λ(a:PP)=>.bool (decide (a.p∈a.l)) }
def BXX:Ann:={ ann 9 [(ARY,C_idxO.spec dPo)] with E:=[100] }
def CAR(a:PP):Prop:=BQ Try.prog BXX ARI (AI ARI) (xPo a) (AD (C_conO.L a)) (C_conO.val a) (C_conO.keep a) [] []
abbrev AKE:=λ(x0:List Pt) (x1:Pt)=>decide (x1∈x0)
abbrev Tz a:=(@MK Pt) (HX a) (λi=>cN a i)
abbrev Ty a:=cV (Tz a)
abbrev JJ a:=And AL a
abbrev Vr a b c d:=AF a b c a d
abbrev Ql a b c d e f:=GA a b (AO c d) (AO e f)
abbrev Gm a b:=Vy (pZ a b)
abbrev Fo a b:=qS (pZ a b)
attribute [go_sem] AKE Tz Ty JJ Vr Ql Gm Fo
theorem CEX(a:PP):(CAR a)=(VV (JJ (Vr (AR (Ty a) (HX a)) (Zd a) (Ys a) (RS (AK (λi=>Ql i (Ty a) (Fo (Tz a) i) (Yj a i) (Gm (Tz a) i) (Vy (cN a i)))) (AR (HX a) (Ty a)) (λi=>Ql i (HX a) (Yj a i) (Fo (Tz a) i) (Vy (cN a i)) (Gm (Tz a) i)) (JS (Ty a)) FP))) (JT (AKE (PP.l a) (PP.p a)) (Ap (λi=>tZ a (pZ (Tz a) i)) (Ty a))) (Qu a) (λi=>GA i (HX a) (Xk a i) (Ym a i))):=by kernel_rfl
def C_conP:Ctr:={ C_idxP with val:=λ(a:PP)=>.bool (decide (a.p∈a.l)) }
def BSO:Ann:=ann 9 [(ARY,C_idxP.spec dPP)]
def CAV(a:PP):Prop:=BQ Try.prog BSO ARI (AI ARI) (xPP a) (AD []) (C_conP.val a) [] [] []
abbrev Dt a b c d e:=BJ a b c d e FP
attribute [go_sem] Dt
theorem CFH(a:PP):(CAV a)=(And (Dt (AR (Ty a) (HX a)) (AK (λi=>Ql i (Ty a) (Fo (Tz a) i) (Yj a i) (Gm (Tz a) i) (Vy (cN a i)))) (Zd a) (Ys a) (JS (Ty a))) (JT (AKE (PP.l a) (PP.p a)) (Ap (λi=>tZ a (pZ (Tz a) i)) (Ty a)))):=by kernel_rfl
theorem CFG:AJ Try.prog AZY (C_conO.spec dPo):=Ctr.spec_ok (C:=C_conO) (λ(a:PP) h=>Mn (A:=BXX) (ren:=[]) (fz:=[]) BNH (by kernel_rfl) (AC CIU AE) (by
 show CAR a;rw[CEX]<;> delta JT hd6 qS Vy AO AR AK BV BZ FP cV pZ AKE AG AF AT AM BL Vr GA AN AL HX cN JS YD JJ VV tZ Ql Tz RS Yj Gm Fo Ty Ap Qu sH Ym Xk Ys Zd;simp only[CC,eq_self,implies_true,forall_const]
 have h:a.l.length<4611686018427387904/\True:=h
 exact⟨h.1,BPJ⟩)) _
theorem CDZ:AJ Try.prog AZY (C_conP.spec dPP):=Ctr.spec_ok (C:=C_conP) (λ(a:PP) h=>Mn (A:=BSO) (L:=[]) (keep:=[]) (ren:=[]) (fz:=[]) BNH (by kernel_rfl) (AC CIF AE) (by
 show CAV a;rw[CFH]<;> delta JT hd6 qS Vy AO AR AK BV BZ FP cV pZ AKE AG AF AT AM GA BJ HX cN JS YD tZ Ql Tz Yj Gm Fo Ty Ap sH Ys Dt Zd;simp only[CC,eq_self,implies_true,forall_const]
 have h:a.l.length<4611686018427387904/\True:=h
 exact⟨h.1,BPJ⟩)) _
def addP(l:List Pt)(p:Pt):List Pt:=if p∈l then l else l ++ [p]
def addG(l:List Pt)(g:Gau):List Pt:=addP (addP l ⟨g.st,g.lo⟩) ⟨g.st,g.hi⟩
def AA(s:List Gau):List Pt:=s.foldl addG []
def Kd(s:List Gau)(k:Nat):List Pt:=(s.take k).foldl addG []
def rH(s:List Gau)(k j:Nat):List Pt:=if j=0 then Kd s k else if j=1 then addP (Kd s k) ⟨(gD s k).st,(gD s k).lo⟩ else Kd s (k+1)
structure PtK where
 k:Nat
 l:List Pt
 deriving Inhabited
structure PtJ where
 k:Nat
 j:Nat
 l:List Pt
 deriving Inhabited
def enS(s:List Gau)(k:Nat):List (Nat×AVal):=[(9,.d (BX s)),(10,.int s.length),(11,.int k)]
def enI(s:List Gau)(k j:Nat):List (Nat×AVal):=[(5,.bptr 302 0),(21,.own 303 1 0 2),(22,.int 2),(23,.int j)] ++ enS s k
def enH(g:Gau):List (Nat×HCell):=[(302,.live (.box [.int g.st,.int g.lo,.int g.hi])),(303,.live (.row 1 2 λi=>QH (gD [g.lo,g.hi] i)))]
def enN(s:List Gau):Shape:={ α:=One,dflt:=default,T:=λ_=>⟨(3,.d ZU) :: enS s 0,[]⟩,inv:=λ_=>True,meas:=λ_=>s.length+1,tag:=[0] }
def enO(s:List Gau):Shape:={ α:=PtK,dflt:=default,T:=λx=>⟨(3,.own 301 2 0 x.l.length) :: enS s x.k,[(301,.live (rowP x.l))]⟩,inv:=λx=>x.k<=s.length/\1<=x.k/\x.l=Kd s x.k,meas:=λx=>s.length-x.k,tag:=[1] }
def enA(s:List Gau):Shape:={ α:=One,dflt:=default,T:=λ_=>⟨(3,.d ZU) :: enI s 0 0,enH (gD s 0)⟩,inv:=λ_=>0<s.length,meas:=λ_=>3,first:=[(302,5032),(303,6096)] }
def enB(s:List Gau)(q:Nat):Shape:={ α:=PtJ,dflt:=default,T:=λx=>⟨(3,.own 301 2 0 x.l.length) :: enI s x.k x.j,(301,.live (rowP x.l)) :: enH (gD s x.k)⟩,inv:=λx=>x.k<s.length/\x.j<=2/\s.length-x.k<=q/\x.l=rH s x.k x.j,meas:=λx=>2-x.j,first:=[(302,5032),(303,6096)] }
def enC(s:List Gau)(m q:Nat)(f:List (Nat×Nat)):Shape:={ α:=PtJ,dflt:=default,T:=λx=>⟨(3,.own 301 2 0 x.l.length) :: enI s x.k x.j,(301,.live (rowP x.l)) :: enH (gD s x.k)⟩,inv:=λx=>x.k<s.length/\x.j<2/\2-x.j<=m/\s.length-x.k<=q/\x.l=rH s x.k (x.j+1),meas:=λ_=>0,first:=f }
def C_ends:Ctr:={ α:=List Gau,xs:=λl=>[.d (BX l)],L:=λ_=>[],val:=λl=>.d (ePts (AA l)),keep:=λ_=>[],pre:=λl=>[l.length<1073741824/\True] }
def BWU(s:List Gau):Ann:={ ann 42 [(AZY,orS (C_conO.spec dPo) (C_conP.spec dPP))] with mt:=λid=>id==10,loops:=λid=>if id=3 then some [enN s,enO s] else none,inner:=λgs id=>if id=6 then (if gs.getD 1 0=0 then some [enA s,enB s (gs.getD 0 0)] else some [enB s (gs.getD 0 0)]) else none,cutIn:=λgs id=>if id=11 then some [enC s (gs.getD 0 0) (gs.getD 1 0) [(301,11048)],enC s (gs.getD 0 0) (gs.getD 1 0) []] else none }
def CAH(s:List Gau):Prop:=BQ Try.prog (BWU s) BIP (AI BIP) (C_ends.xs s) (AD []) (C_ends.val s) [] [] [301]
abbrev Vu:=@Exists One
abbrev XB:=λ(f:One->Prop)=>∀(x:One),f x
abbrev BLD:=@List.cons Int
abbrev My:=@List.nil Int
abbrev XS:=λ(x0 x1:Nat)=>decide (x0=x1)
abbrev uQ:=@Exists PtJ
abbrev KZ:=PtJ.j
abbrev qB:=PtJ.k
abbrev ATN:=@Eq (List Pt)
abbrev ANI:=λ(f:PtJ->Prop)=>∀(x:PtJ),f x
abbrev Jv:=@HMul.hMul Nat Nat Nat (@instHMul Nat instMulNat)
abbrev Mz:=λ(x0 x1:Nat)=>decide (x0<x1)
abbrev cE:=PtK.l
abbrev TV:=PtK.k
abbrev KC a b(c:Nat->Prop):=AG a b (AK c)
abbrev Lm a b:=BU (BP a) b
abbrev Kl a:=Lm a a
abbrev Uz a:=cV (cE a)
abbrev NB a:=BU 1 a
abbrev BFB a b:=pZ (PtJ.l a) b
abbrev RR a b:=Vy (BFB a b)
abbrev RY a b:=qS (BFB a b)
abbrev TW a:=cV (PtJ.l a)
abbrev nJ a b:=AR a (TW b)
abbrev Jm a b:=AG a b b
abbrev Gl a b c d:=ATN (PtJ.l a) (rH b (qB c) d)
abbrev kV a b c:=BU (OK a (qB b)) c
abbrev RD a b:=BZ a (CI b)
abbrev Fv a b:=RD (qB a) b
abbrev SC a b c d:=AF a b a c d
abbrev Gp a b c d e f g:=SC AL a b (AF c d e f g)
abbrev FO a b c d e f g h(p:Nat->Prop):=AX a b c d e f g h (AK p)
abbrev APL a b:=AT a 2 b
abbrev Lr a b c d:=APL a (GI b c d)
abbrev X4 a b:=BLD a (BLD b My)
abbrev bJ a b:=AS a (qB b)
abbrev Yw a b:=AP a (qB b)
abbrev Kq a b:=X4 (Yw a b) (bJ a b)
abbrev Rh a b c:=CM (Kq a b) c
abbrev QI:=BL 2
abbrev Zy a b c:=AO (bJ a b) c
abbrev Yc a b c:=AO (Yw a b) c
abbrev Fw a b:=AH a (qB b)
abbrev Xi a b c:=AO (Fw a b) c
abbrev Re a b c d e f:=Ql a (TW b) c d e f
abbrev Uc a b:=nJ (TW a) b
abbrev AQJ a b:=CB (qB a) b
abbrev lP a b:=AQJ a (qB b)
abbrev Uk:=RH 2
abbrev dG a:=EO (KZ a)
abbrev pV a:=EF 2 (KZ a)
abbrev fD a b:=BU (pV a) b
abbrev fH a:=BZ (KZ a) 2
abbrev JQ a b c d:=(@cond Int) (Mz a b) c d
abbrev gM a:=BP (KZ a)
abbrev Cz a b c:=And a (AT 0 b (BL c))
abbrev VO a:=Cz Db 1 a
abbrev SR a b c d e:=AF a (VO b) c d e
abbrev OA a:=BU a 140737488355328
abbrev OR a b:=OA (Jv a b)
abbrev ZL a b:=OR (EO a) b
abbrev RN a b:=BU (EO a) b
abbrev OC a:=RN a 9223372036854775807
abbrev UP a:=EX XL a
abbrev MW a:=BZ 0 a
abbrev MD:=UP (MW 1)
abbrev YV a b:=Cz (BL a) a b
abbrev Qa a:=(@MK Pt) (TW a) (λi=>BFB a i)
abbrev fR a:=cV (Qa a)
abbrev Ab a b c d:=(@cond Int) (XS a b) c d
abbrev QR a b c:=Ab a 0 b c
abbrev cU a:=And a a
abbrev MV a:=AR a 0
abbrev ZG a:=EO (CI a)
abbrev dT a b c:=kV a b (ZG c)
abbrev Lt a b:=XB (λi=>BV a b)
abbrev nQ a:=AS a 0
abbrev mE a:=AP a 0
abbrev MU:=NB 9223372036854775807
abbrev MP:=BV MC (MW 1)
abbrev Ky a b:=AT a a b
abbrev YS a:=And FP (Ky 0 a)
abbrev Ak a:=YS (AR 0 a)
abbrev nB:=MW 4611686018427387904
abbrev QA a b:=Vu (λi=>And a b)
abbrev IW a b:=AG AL a b
abbrev Hb a b c:=AT a b (JM c)
abbrev Ks a(b:Nat->Bool):=AK (λi=>Hb i a (b i))
abbrev DH:=Ks 0 (λi=>XL)
abbrev Dg a:=QA a FP
attribute [go_sem] Vu XB BLD My XS uQ KZ qB ATN ANI Jv Mz cE TV KC Lm Kl Uz NB BFB RR RY TW nJ Jm Gl kV RD Fv SC Gp FO APL Lr X4 bJ Yw Kq Rh QI Zy Yc Fw Xi Re Uc AQJ lP Uk dG pV fD fH JQ gM Cz VO SR OA OR ZL RN OC UP MW MD YV Qa fR Ab QR cU MV ZG dT Lt nQ mE MU MP Ky YS Ak nB QA IW Hb Ks DH Dg
theorem CGH(s:List Gau):(CAH s)=(AG (Dg (BJ AL DH (AZ s) (BN s) (NW s) BY)) (XB (λi=>HP FP (FD 0 (EY s)) (AN (IB 0 s) (QA (IW DH (AF AL QI Uk BY (FO (AZ s) (BN s) (NW s) BY (AM (AH s 0)) (AM (mE s)) (AM (nQ s)) QI (λj=>Lr j (X4 (mE s) (nQ s)) j (QR j (mE s) (nQ s)))))) (HN 0 (CI s))) (Lt (HN 0 (CI s)) (Jm (AN (And (IR 0 2) (HN (BP 0) 2)) (Dt AL AL (AM (AH s 0)) (JD (X4 (mE s) (nQ s)) (BP 0)) nB) (SR (Ak 2) 2 MP MU (OA 16)) (uQ (λj=>BJ (Gp (GE (TW j)) QI Uk (CB (KZ j) 0) (AZ s) (BN s) (FO (NW s) (AQJ j 0) (GE (TW j)) (AK (λk=>Re k j (RY j k) (AH s 0) (RR j k) (CM (X4 (mE s) (nQ s)) (BP 0)))) (Xi s j (AH s 0)) (Yc s j (mE s)) (Zy s j (nQ s)) QI (λk=>Lr k (Kq s j) k (CM (X4 (mE s) (nQ s)) k)))) (Fv j s) (fH j) (fD j 3) (dT s j s) (Gl j s j (dG j))))) (ANI (λj=>BV (AF (Fv j s) (fH j) (fD j 3) (dT s j s) (Gl j s j (dG j))) (uQ (λk=>LN (Gp (Uc k j) QI Uk (BS (KZ k) (KZ j)) (AZ s) (BN s) (FO (NW s) (lP k j) (Uc k j) (AK (λl=>Re l k (RY k l) (RY j l) (RR k l) (RR j l))) (Xi s k (Fw s j)) (Yc s k (Yw s j)) (Zy s k (bJ s j)) QI (λl=>Lr l (Kq s k) l (Rh s j l)))) (AN (Fv k s) (BU (KZ k) 2) (dT s k s) (Gl k s k (KZ k))) 2 (KZ k) 3)))))) (ANI (λj=>HP (AN (Fv j s) (BU (KZ j) 2) (dT s j s) (Gl j s j (KZ j))) (FD (KZ j) 2) (Jm (DE (IR (KZ j) 2) (HN (gM j) 2) (JJ (Vr (nJ (fR j) j) (AM (Fw s j)) (JD (Kq s j) (gM j)) (RS (AK (λk=>Ql k (fR j) (Fo (Qa j) k) (RY j k) (Gm (Qa j) k) (RR j k))) (AR (TW j) (fR j)) (λk=>Re k j (RY j k) (Fo (Qa j) k) (RR j k) (Gm (Qa j) k)) (JS (fR j)) FP))) (CL (not (AKE (Qa j) (hd17 (Fw s j) (Rh s j (gM j))))) (SR (YV (TW j) 2) 2 MD (OC (TW j)) (ZL (TW j) 16)) (uQ (λk=>BJ (Gp (HC (TW k) (TW j)) QI Uk (CB (KZ k) (KZ j)) (AZ s) (BN s) (FO (NW s) (lP k j) (HC (TW k) (TW j)) (AK (λl=>Re l k (RY k l) (JQ l (TW j) (RY j l) (Fw s j)) (RR k l) (JQ l (TW j) (RR j l) (Rh s j (gM j))))) (Xi s k (Fw s j)) (Yc s k (Yw s j)) (Zy s k (bJ s j)) QI (λl=>Lr l (Kq s k) l (Rh s j l)))) (Fv k s) (fH k) (fD k (pV j)) (dT s k s) (Gl k s k (dG k)))) (uQ (λk=>BJ (Gp (Uc k j) QI Uk (CB (KZ k) (KZ j)) (AZ s) (BN s) (FO (NW s) (lP k j) (Uc k j) (AK (λl=>Re l k (RY k l) (RY j l) (RR k l) (RR j l))) (Xi s k (Fw s j)) (Yc s k (Yw s j)) (Zy s k (bJ s j)) QI (λl=>Lr l (Kq s k) l (Rh s j l)))) (Fv k s) (fH k) (fD k (pV j)) (dT s k s) (Gl k s k (dG k)))))) (ANI (λk=>BV (AF (Fv k s) (fH k) (fD k (pV j)) (dT s k s) (Gl k s k (dG k))) (uQ (λl=>EV (Gp (Uc l k) QI Uk (BS (KZ l) (KZ k)) (AZ s) (BN s) (FO (NW s) (lP l k) (Uc l k) (AK (λm=>Re m l (RY l m) (RY k m) (RR l m) (RR k m))) (Xi s l (Fw s k)) (Yc s l (Yw s k)) (Zy s l (bJ s k)) QI (λm=>Lr m (Kq s l) m (Rh s k m)))) (AN (Fv l s) (BU (KZ l) 2) (dT s l s) (Gl l s l (KZ l))) 2 (KZ l) (KZ j)))))) ((@Exists PtK) (λk=>Ar (LO (nJ (Uz k) j) (AZ s) (CU (BN s) (NW s) (BS (TV k) (qB j)) (nJ (Uz k) j) (λl=>Ql l (Uz k) (Fo (cE k) l) (RY j l) (Gm (cE k) l) (RR j l)))) (AG (FX (TV k) s) (NB (TV k)) (ATN (cE k) (Kd s (TV k)))) s (TV k) (ZG s)))))) (cU (MV (cV (AA s)))))) ((λ(f:PtK->Prop)=>∀(x:PtK),f x) (λi=>NJ (AG (FX (TV i) s) (NB (TV i)) (ATN (cE i) (Kd s (TV i)))) (FD (TV i) (EY s)) (IB (TV i) s) (uQ (λj=>AF (Gp (AR (TW j) (Uz i)) QI Uk (BD (KZ j)) (AZ s) (BN s) (FO (NW s) (AQJ j (TV i)) (AR (TW j) (Uz i)) (AK (λk=>Re k j (RY j k) (Fo (cE i) k) (RR j k) (Gm (cE i) k))) (Xi s j (AH s (TV i))) (Yc s j (AP s (TV i))) (Zy s j (AS s (TV i))) QI (λk=>Lr k (Kq s j) k (QR k (AP s (TV i)) (AS s (TV i)))))) (Fv j s) (BU (KZ j) 2) (kV s j (OK s (TV i))) (Gl j s j (KZ j)))) (ANI (λj=>HP (AN (Fv j s) (BU (KZ j) 2) (kV s j (OK s (TV i))) (Gl j s j (KZ j))) (FD (KZ j) 2) (Jm (DE (IR (KZ j) 2) (HN (gM j) 2) (JJ (Vr (nJ (fR j) j) (AM (Fw s j)) (JD (Kq s j) (gM j)) (RS (AK (λk=>Ql k (fR j) (Fo (Qa j) k) (RY j k) (Gm (Qa j) k) (RR j k))) (AR (TW j) (fR j)) (λk=>Re k j (RY j k) (Fo (Qa j) k) (RR j k) (Gm (Qa j) k)) (JS (fR j)) FP))) (CL (not (AKE (Qa j) (hd17 (Fw s j) (Rh s j (gM j))))) (SR (YV (TW j) 2) 2 MD (OC (TW j)) (ZL (TW j) 16)) (uQ (λk=>BJ (Gp (HC (TW k) (TW j)) QI Uk (CB (KZ k) (KZ j)) (AZ s) (BN s) (FO (NW s) (lP k j) (HC (TW k) (TW j)) (AK (λl=>Re l k (RY k l) (JQ l (TW j) (RY j l) (Fw s j)) (RR k l) (JQ l (TW j) (RR j l) (Rh s j (gM j))))) (Xi s k (Fw s j)) (Yc s k (Yw s j)) (Zy s k (bJ s j)) QI (λl=>Lr l (Kq s k) l (Rh s j l)))) (Fv k s) (fH k) (fD k (pV j)) (kV s k (OK s (TV i))) (Gl k s k (dG k)))) (uQ (λk=>BJ (Gp (Uc k j) QI Uk (CB (KZ k) (KZ j)) (AZ s) (BN s) (FO (NW s) (lP k j) (Uc k j) (AK (λl=>Re l k (RY k l) (RY j l) (RR k l) (RR j l))) (Xi s k (Fw s j)) (Yc s k (Yw s j)) (Zy s k (bJ s j)) QI (λl=>Lr l (Kq s k) l (Rh s j l)))) (Fv k s) (fH k) (fD k (pV j)) (kV s k (OK s (TV i))) (Gl k s k (dG k)))))) (ANI (λk=>BV (AF (Fv k s) (fH k) (fD k (pV j)) (kV s k (OK s (TV i))) (Gl k s k (dG k))) (uQ (λl=>EV (Gp (Uc l k) QI Uk (BS (KZ l) (KZ k)) (AZ s) (BN s) (FO (NW s) (lP l k) (Uc l k) (AK (λm=>Re m l (RY l m) (RY k m) (RR l m) (RR k m))) (Xi s l (Fw s k)) (Yc s l (Yw s k)) (Zy s l (bJ s k)) QI (λm=>Lr m (Kq s l) m (Rh s k m)))) (AN (Fv l s) (BU (KZ l) 2) (kV s l (OK s (TV i))) (Gl l s l (KZ l))) 2 (KZ l) (KZ j)))))) ((@Exists PtK) (λk=>HR (LO (nJ (Uz k) j) (AZ s) (CU (BN s) (NW s) (BS (TV k) (qB j)) (nJ (Uz k) j) (λl=>Ql l (Uz k) (Fo (cE k) l) (RY j l) (Gm (cE k) l) (RR j l)))) (AG (FX (TV k) s) (NB (TV k)) (ATN (cE k) (Kd s (TV k)))) s (TV k) (TV i))))) (KC (AR (cV (AA s)) (Uz i)) (Kl (Uz i)) (λj=>Ql j (cV (AA s)) (Fo (AA s) j) (Fo (cE i) (BP j)) (Gm (AA s) j) (Gm (cE i) (BP j))))))):=by kernel_rfl
theorem ANR(l:List Pt)(p:Pt):(addP l p).length<=l.length+1:=by unfold addP;split<;>simp
theorem ARM{s:List Gau}{k:Nat}(h:k<s.length):Kd s (k+1)=addG (Kd s k) (gD s k):=by
 unfold Kd;rw[ND h,List.foldl_append];rfl
theorem Wk{s:List Gau}:∀k,k<=s.length->(Kd s k).length<=2*k
 |0,_=>by simp[Kd]
 |k+1,h=>by
  rw[ARM (by omega)]
  have:=Wk (s:=s) k (by omega)
  have h1:=ANR (Kd s k) ⟨(gD s k).st,(gD s k).lo⟩
  have h2:=ANR (addP (Kd s k) ⟨(gD s k).st,(gD s k).lo⟩) ⟨(gD s k).st,(gD s k).hi⟩
  unfold addG;omega
theorem BIW{s:List Gau}{k j:Nat}(h:k<s.length)(hj:j<2):rH s k (j+1)=addP (rH s k j) ⟨(gD s k).st,gD [(gD s k).lo,(gD s k).hi] j⟩:=by
 match j,hj with
 |0,_=>rfl
 |1,_=>exact ARM h
theorem BQZ{s:List Gau}{k j:Nat}(h:k<s.length)(hj:j<=2):(rH s k j).length<=2*s.length:=by
 match j,hj with
 |0,_=>have:=Wk (s:=s) k (by omega);show (Kd s k).length<=_;omega
 |1,_=>
  have:=Wk (s:=s) k (by omega)
  have h1:=ANR (Kd s k) ⟨(gD s k).st,(gD s k).lo⟩
  show (addP _ _).length<=_;omega
 |2,_=>have:=Wk (s:=s) (k+1) (by omega);show (Kd s (k+1)).length<=_;omega
theorem CET{l:List Pt}{p:Pt}(h:p∈l):addP l p=l:=if_pos h
theorem BWO{l:List Pt}{p:Pt}(h:¬ p∈l):addP l p=l ++ [p]:=if_neg h
theorem CLF(l:List Pt)(p:Pt)(i:Nat)(hi:i<(l ++ [p]).length):((gD (l ++ [p]) i).st=bif decide (i<l.length) then (gD l i).st else p.st)/\(gD (l ++ [p]) i).fl=bif decide (i<l.length) then (gD l i).fl else p.fl:=by
 rw[AAC _ _ (by simpa using hi)]
 cases decide (i<l.length)<;>exact⟨rfl,rfl⟩
theorem CPR(s:List Gau)(hn:s.length<1073741824):CAH s:=by
 rw[CGH]<;> delta JT XL EE EC DP qS Vy hd17 GD JG CS AO AR AK BV BZ CM AQ BU DD ES LX EF UM CI EZ FP LM cV pZ IY AKE Vu XB BLD My XS uQ KZ qB ATN ANI Jv Mz cE TV AG DG AF AT AH FF CA CF AM Jm BL GQ JM cU Ky SC Vr AP BR AS AW EO DU AX BP BC HH GA CQ HL AN AL OK AZ GI BE ED BW EL FX HI JD JA CL CU EA TW Hb EX Ab RH DV GF CB BJ BN FD LN MW BFB ON HC Ks LL RD EV DH BS JS JQ BY bJ BD HN EY Yw NB Cz NW HP GE FO Db RN DE Ar OA VO ZG IW IB JJ QR MC Fw RR MV RY X4 OR QI HR UP IR QA KC Qa Kq YS nJ MD LO MU SR Ql Fv OC MP pV kV NJ RS Gl Gm Uz Fo ZL Ak Rh Uc Uk Lm APL YV Kl Lr AQJ gM fR Gp dG Xi Yc fD Dg Zy fH Re dT lP Lt nB Dt nQ mE;simp only[CC,eq_self,implies_true,forall_const]
 have cut:∀(q m:Nat) (c:PtJ),c.k<s.length/\c.j<2/\2-c.j<=m/\s.length-c.k<=q/\c.l=rH s c.k (c.j+1)->∃b:PtJ,(b.l.length=c.l.length/\(b.j:Int)=IntKind.i64.wrap ((c.j:Int)+1)/\(b.k:Int)=c.k/\b.l.length=c.l.length/\(∀(i:Nat),i<b.l.length->(gD b.l i).st=(gD c.l i).st/\(gD b.l i).fl=(gD c.l i).fl)/\(gD s b.k).st=(gD s c.k).st/\(gD s b.k).lo=(gD s c.k).lo/\(gD s b.k).hi=(gD s c.k).hi/\∀(i:Nat),i<2->gD [(gD s b.k).lo,(gD s b.k).hi] i=gD [(gD s c.k).lo,(gD s c.k).hi] i)/\(b.k<s.length/\b.j<=2/\s.length-b.k<=q/\b.l=rH s b.k b.j)/\2-b.j<m:=λq m c hc=>
  ⟨⟨c.k,c.j+1,c.l⟩,⟨rfl,(CN (by omega)).symm,rfl,rfl,λ_ _=>⟨rfl,rfl⟩,rfl,rfl,rfl,λ_ _=>rfl⟩,⟨hc.1,by show c.j+1<=2;omega,hc.2.2.2.1,hc.2.2.2.2⟩,by show 2-(c.j+1)<m;omega⟩
 have go:∀(q:Nat) (b:PtJ),b.k<s.length/\b.j<=2/\s.length-b.k<=q/\b.l=rH s b.k b.j->(b.j:Int)<2->b.l.length<4611686018427387904/\b.l.length<9223372036854775807/\(b.l.length+1)*16<=140737488355328/\∀p:Pt,p=⟨(gD s b.k).st,gD [(gD s b.k).lo,(gD s b.k).hi] b.j⟩->(¬ p∈b.l->b.l ++ [p]=rH s b.k (b.j+1))/\(p∈b.l->b.l=rH s b.k (b.j+1)):=λq b hb hj=>by
  have hl:=BQZ hb.1 hb.2.1
  rw[<-hb.2.2.2] at hl
  refine⟨by omega,by omega,by omega,λp hp=>?_⟩
  rw[BIW hb.1 (by omega),<-hb.2.2.2,<-hp]
  exact⟨λh=>(BWO h).symm,λh=>(CET h).symm⟩
 have two:∀(g:Gau) (i:Nat),i<2->gD [g.lo,g.hi] i=bif decide (i=0) then g.lo else g.hi:=λg i hi=>by
  match i,hi with
  |0,_=>rfl
  |1,_=>rfl
 refine⟨⟨default,trivial⟩,⟨λh0=>⟨⟨by omega,by omega⟩,⟨default,two _,by omega⟩,λh1=>⟨⟨⟨by omega,by omega⟩,by omega,by simp,⟨⟨0,0,[⟨(gD s 0).st,(gD s 0).lo⟩]⟩,⟨rfl,rfl,rfl,rfl,λi hi=>?_,rfl,rfl,rfl,λ_ _=>rfl⟩,h1,by simp,by simp,by simp,rfl⟩⟩,cut _ _⟩,
  λb hb=>⟨λhj=>⟨⟨⟨by omega,by omega⟩,(go _ b hb hj).1,λhm=>⟨⟨by simp,by simp,(go _ b hb hj).2.1,(go _ b hb hj).2.2.1⟩,⟨b.k,b.j,b.l ++ [_]⟩,⟨by simp,rfl,rfl,by simp,CLF b.l _,rfl,rfl,rfl,λ_ _=>rfl⟩,hb.1,by show b.j<2;omega,Nat.le_refl _,hb.2.2.1,((go _ b hb hj).2.2.2 _ rfl).1 hm⟩,λhm=>⟨⟨b.k,b.j,b.l⟩,⟨rfl,rfl,rfl,rfl,λ_ _=>⟨rfl,rfl⟩,rfl,rfl,rfl,λ_ _=>rfl⟩,hb.1,by show b.j<2;omega,Nat.le_refl _,hb.2.2.1,((go _ b hb hj).2.2.2 _ rfl).2 hm⟩⟩,cut _ _⟩,λhj=>?_⟩⟩,λh0=>?_⟩,
  λa ha=>⟨λhk=>⟨⟨by omega,by omega⟩,⟨⟨a.k,0,a.l⟩,⟨rfl,rfl,rfl,rfl,λ_ _=>⟨rfl,rfl⟩,rfl,rfl,rfl,two _⟩,by show a.k<_;omega,by simp,Nat.le_refl _,ha.2.2⟩,
  λb hb=>⟨λhj=>⟨⟨⟨by omega,by omega⟩,(go _ b hb hj).1,λhm=>⟨⟨by simp,by simp,(go _ b hb hj).2.1,(go _ b hb hj).2.2.1⟩,⟨b.k,b.j,b.l ++ [_]⟩,⟨by simp,rfl,rfl,by simp,CLF b.l _,rfl,rfl,rfl,λ_ _=>rfl⟩,hb.1,by show b.j<2;omega,Nat.le_refl _,hb.2.2.1,((go _ b hb hj).2.2.2 _ rfl).1 hm⟩,λhm=>⟨⟨b.k,b.j,b.l⟩,⟨rfl,rfl,rfl,rfl,λ_ _=>⟨rfl,rfl⟩,rfl,rfl,rfl,λ_ _=>rfl⟩,hb.1,by show b.j<2;omega,Nat.le_refl _,hb.2.2.1,((go _ b hb hj).2.2.2 _ rfl).2 hm⟩⟩,cut _ _⟩,λhj=>?_⟩⟩,λhk=>?_⟩⟩
 ·have:i=0:=by have hi:i<1:=hi;omega
  subst this;exact⟨rfl,rfl⟩
 ·have h2:b.j=2:=by omega
  exact⟨⟨b.k+1,b.l⟩,⟨rfl,(CN (by omega)).symm,rfl,λ_ _=>⟨rfl,rfl⟩⟩,⟨by show b.k+1<=_;omega,Nat.succ_pos _,by rw[hb.2.2.2,h2];rfl⟩,by show s.length-(b.k+1)<_;omega⟩
 ·have:s=[]:=List.eq_nil_of_length_eq_zero (by omega)
  subst this;rfl
 ·have h2:b.j=2:=by omega
  exact⟨⟨b.k+1,b.l⟩,⟨rfl,(CN (by omega)).symm,rfl,λ_ _=>⟨rfl,rfl⟩⟩,⟨by show b.k+1<=_;omega,Nat.succ_pos _,by rw[hb.2.2.2,h2];rfl⟩,by show s.length-(b.k+1)<_;omega⟩
 ·have e:a.l=AA s:=by rw[ha.2.2];unfold Kd AA;rw[List.take_of_length_le (by omega)]
  rw[<-e]
  exact⟨rfl,Nat.le_refl _,λ_ _=>⟨rfl,rfl⟩⟩
theorem ADA:AJ Try.prog AQD (C_ends.spec WJ):=VD C_ends BWU [] [301] CHC (λ_=>by kernel_rfl) (λ_=>AC (AJF CFG CDZ) AE) (λ(s:List Gau) h=>CPR s (show s.length<1073741824/\True from h).1) (λ_=>WK rfl rfl) _
end Go.Bal
