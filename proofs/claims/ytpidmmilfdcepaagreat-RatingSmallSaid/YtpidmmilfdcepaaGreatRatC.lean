/- Package rating: ends of spans. -/
import Derived.Test.YtpidmmilfdcepaaGreatRatB
set_option linter.unusedVariables false
set_option linter.unusedSimpArgs false
namespace Go.Bal
open Go Go.Sym Go.Proofs
structure PP where
 l:List Pt
 p:Pt
def eqP(p q:Pt):Bool:=p.st==q.st&&p.fl==q.fl
def dPP:List AVal->Heap->Option (PP×List (Nat×Nat)×List Nat)
 |[y,.d p],H=>match dPts y H with
  |some (l,f)=>some (⟨l,dPt p⟩,[],f)
  |none=>none
 |_,_=>none
def xPP(a:PP):List AVal:=[.d (ePts a.l),.d (ePt a.p)]
def C_idxP:Ctr:={ α:=PP,xs:=xPP,L:=λ_=>[],val:=λa=>.int (bE (λi=>eqP a.p (gD a.l i)) a.l.length 0),keep:=λ_=>[],pre:=λa=>[a.l.length<4611686018427387904/\True] }
def CBT(a:PP):Ann:={ ann 19 [] with loops:=λid=>if id=2 then some [{ α:=Nat,dflt:=0,T:=λk=>⟨[(0,.d (ePts a.l)),(3,.bptr 201 0),(7,.int a.l.length),(8,.int k)],[(201,.live (.box [.int a.p.st,.int a.p.fl]))]⟩,inv:=λk=>k<=a.l.length/\bE (λi=>eqP a.p (gD a.l i)) a.l.length 0=bE (λi=>eqP a.p (gD a.l i)) (a.l.length-k) k,meas:=λk=>a.l.length-k,first:=[(201,1000)] }] else none }
def BWO(a:PP):Prop:=AS ZP (CBT a) Tryz.f142 (AE Tryz.f142) (xPP a) (AB []) (C_idxP.val a) [] [] []
abbrev AHX:=@List.length Pt
abbrev ABK:=@gD Pt instInhabitedPt
abbrev FK a:=AHX (PP.l a)
abbrev AWJ a b:=eqP (PP.p a) b
abbrev fM a b:=ABK (PP.l a) b
abbrev Bp a b c:=AWJ a (fM b c)
abbrev X8 a:=AK (rI (PP.p a))
abbrev BBT a:=hd14 (PP.p a)
abbrev T6 a:=AK (BBT a)
abbrev vR a b:=AK (rI (fM a b))
abbrev Mf a b:=hd14 (fM a b)
abbrev xQ a:=DR (FK a)
abbrev Mm a b:=and a (and b aN)
attribute [go_sem] AHX ABK FK AWJ fM Bp X8 BBT T6 vR Mf xQ Mm
theorem CLQ(a:PP):(BWO a)=(HU (λi=>EE (AW (xQ a) (AG (λj=>Lk j (FK a) (Mf a j) (vR a j))) (BP (FK a)) (BX i) (T6 a) (X8 a)) i (FK a) (Ma (λj=>Bp a a j) (FK a) (λj=>Bp a a j) i i)) (λi=>An (GP i (FK a) (Ma (λj=>Bp a a j) (FK a) (λj=>Bp a a j) i i)) i (FK a) (CR i (FK a)) (Mm (VS (BBT a) (Mf a i)) (VS (rI (PP.p a)) (rI (fM a i)))) (Ix (λj=>Bp a a j) (FK a) (BO i)) (λj=>QS (AW (xQ a) (AG (λk=>Lk k (FK a) (Mf a k) (vR a k))) (BP (FK a)) (AJ j i) (T6 a) (X8 a)) j (FK a) (Ma (λk=>Bp a a k) (FK a) (λk=>Bp a a k) j j) i) (Ix (λj=>Bp a a j) (FK a) (-1)))):=by kernel_rfl
def rowP(l:List Pt):AObj:=.row 2 l.length λi=>ePt (gD l i)
def xPo(a:PP):List AVal:=[.own 100 2 0 a.l.length,.d (ePt a.p)]
def dPo:List AVal->Heap->Option (PP×List (Nat×Nat)×List Nat)
 |[.own id _ _ n,.d p],H=>match H id with
  | .live (.row _ _ g)=>some (⟨HA n λi=>dPt (g i),dPt p⟩,[(100,id)],[])
  |_=>none
 |_,_=>none
def C_idxO:Ctr:={ ro:=[100],α:=PP,xs:=xPo,L:=λa=>[(100,rowP a.l)],val:=λa=>.int (bE (λi=>eqP a.p (gD a.l i)) a.l.length 0),keep:=λa=>[(100,.live (rowP a.l))],pre:=λa=>[a.l.length<4611686018427387904/\True] }
def CBI(a:PP):Ann:={ ann 19 [] with E:=[100],loops:=λid=>if id=2 then some [{ α:=Nat,dflt:=0,T:=λk=>⟨[(0,.own 100 2 0 a.l.length),(3,.bptr 201 0),(7,.int a.l.length),(8,.int k)],[(100,.live (rowP a.l)),(201,.live (.box [.int a.p.st,.int a.p.fl]))]⟩,inv:=λk=>k<=a.l.length/\bE (λi=>eqP a.p (gD a.l i)) a.l.length 0=bE (λi=>eqP a.p (gD a.l i)) (a.l.length-k) k,meas:=λk=>a.l.length-k,first:=[(201,1000)] }] else none }
def CBE(a:PP):Prop:=AS ZP (CBI a) Tryz.f142 (AE Tryz.f142) (xPo a) (AB (C_idxO.L a)) (C_idxO.val a) (C_idxO.keep a) [] []
abbrev Ko:=Nat.le
abbrev WX a b(c:Nat->Prop):=AO a b (AG c)
abbrev wF a b c d e f g:=Wx a b c d b e f g
abbrev AF:=DR 0
abbrev AQ a:=sG 0 a
abbrev IU a b:=Ko (Nat.succ a) b
abbrev BNN a b c d:=Qv a b (IU c d)
abbrev AFJ a b c:=BNN a b c b
abbrev dR a b c:=AFJ a b (AQ c)
attribute [go_sem] Ko WX wF AF AQ IU BNN AFJ dR
theorem CIL(a:PP):(CBE a)=(HU (λi=>EE (wF AF (xQ a) (BO (FK a)) (BX i) (AG (λj=>Lk j (FK a) (Mf a j) (vR a j))) (T6 a) (X8 a)) i (FK a) (Ma (λj=>Bp a a j) (FK a) (λj=>Bp a a j) i i)) (λi=>An (GP i (FK a) (Ma (λj=>Bp a a j) (FK a) (λj=>Bp a a j) i i)) i (FK a) (dR i (FK a) i) (Mm (VS (BBT a) (Mf a (AQ i))) (VS (rI (PP.p a)) (rI (fM a (AQ i))))) (WX (Ix (λj=>Bp a a j) (FK a) (BO i)) (xQ a) (λj=>Lk j (FK a) (Mf a j) (vR a j))) (λj=>QS (wF AF (xQ a) (BO (FK a)) (AJ j i) (AG (λk=>Lk k (FK a) (Mf a k) (vR a k))) (T6 a) (X8 a)) j (FK a) (Ma (λk=>Bp a a k) (FK a) (λk=>Bp a a k) j j) i) (WX (Ix (λj=>Bp a a j) (FK a) (-1)) (xQ a) (λj=>Lk j (FK a) (Mf a j) (vR a j))))):=by kernel_rfl
theorem CRA(p q:Pt):(p.st==q.st&&(p.fl==q.fl&&true))=eqP p q:=by unfold eqP;rw[Bool.and_true]
theorem CAI{p:Nat->Bool}{n:Nat}(h:n<4611686018427387904):(∃a:Nat,(a:Int)=0/\a<=n/\bE p n 0=bE p (n-a) a)/\∀a:Nat,a<=n/\bE p n 0=bE p (n-a) a->((a:Int)<n->(0<=(a:Int)/\(a:Int)<n)/\(p a=true->bE p n 0=a)/\(p a=false->∃b:Nat,(b:Int)=IntKind.i64.wrap ((a:Int)+1)/\(b<=n/\bE p n 0=bE p (n-b) b)/\n-b<n-a))/\(¬(a:Int)<n->bE p n 0=-1):=by
 refine⟨⟨0,rfl,Nat.zero_le _,rfl⟩,λa ⟨h1,h2⟩=>⟨λhlt=>?_,λhge=>?_⟩⟩
 ·have hlt:a<n:=by omega
  refine⟨⟨by omega,by omega⟩,λhp=>?_,λhp=>⟨a+1,(BF (by omega)).symm,⟨by omega,?_⟩,by omega⟩⟩
  ·rw[h2];exact uA hlt hp
  ·rw[h2];exact ALB hlt hp
 ·rw[h2];exact ABV (by omega)
theorem CIO:AH ZP 142 (C_idxP.spec dPP):=PW C_idxP CBT [] [] Tryz.func142 (λ_=>by kernel_rfl) (λ_=>AD) (λ(a:PP) h=>by
 show BWO a;rw[CLQ]<;> dsimp only[go_sem];simp only[CC,CU,CRA]
 have h:a.l.length<4611686018427387904/\True:=h
 exact CAI h.1) (λ_=>RA rfl rfl) _
theorem CIR:AH ZP 142 (C_idxO.spec dPo):=PW C_idxO CBI [] [] Tryz.func142 (λ_=>by kernel_rfl) (λ_=>AD) (λ(a:PP) h=>by
 show CBE a;rw[CIL]<;> dsimp only[go_sem];simp only[CC,CU,CRA]
 have h:a.l.length<4611686018427387904/\True:=h
 obtain⟨e1,e2⟩:=CAI (p:=λi=>eqP a.p (gD a.l i)) h.1
 exact⟨e1,λk hk=>⟨λhl=>⟨⟨((e2 k hk).1 hl).1,by omega⟩,((e2 k hk).1 hl).2⟩,(e2 k hk).2⟩⟩) (λ_=>RA rfl rfl) _
theorem BQG{a:PP}:decide (a.p∈a.l)=decide (bE (λi=>eqP a.p (gD a.l i)) a.l.length 0>=0):=by
 rw[Bool.eq_iff_iff]
 simp only[decide_eq_true_eq,ge_iff_le,BMR,Nat.zero_le,Nat.zero_add,true_and]
 have e:∀q:Pt,eqP a.p q=true↔a.p=q:=λq=>by
  obtain⟨⟨⟩,⟨x,y⟩⟩:=a
  all_goals obtain⟨z,w⟩:=q;simp[eqP]
 constructor
 ·intro h
  obtain⟨i,hi,hx⟩:=JP h
  exact⟨i,hi,(e _).2 hx.symm⟩
 ·rintro⟨i,hi,hx⟩
  rw[(e _).1 hx];exact BU hi
def C_conO:Ctr:={ C_idxO with val:=λ(a:PP)=>.bool (decide (a.p∈a.l)) }
def CAW:Ann:={ ann 9 [(142,C_idxO.spec dPo)] with E:=[100] }
def BYX(a:PP):Prop:=AS ZP CAW Tryz.f137 (AE Tryz.f137) (xPo a) (AB (C_conO.L a)) (C_conO.val a) (C_conO.keep a) [] []
abbrev BFK:=λ(x0:List Pt) (x1:Pt)=>decide (x1∈x0)
abbrev eK a:=(@HA Pt) (FK a) (λi=>fM a i)
abbrev gP a:=AHX (eK a)
abbrev EN a:=And AF a
abbrev BPA a b c d e f g h:=BK a b c a d e f g h
abbrev ZV a b c d e f:=APH a b c d (BM e f)
abbrev Ui a b:=rI (ABK a b)
abbrev Qs a b:=hd14 (ABK a b)
attribute [go_sem] BFK eK gP EN BPA ZV Ui Qs
theorem CLP(a:PP):(BYX a)=(BD (EN (BPA (DU (gP a) (FK a)) (T6 a) (X8 a) (AG (λi=>ZV i (gP a) (Qs (eK a) i) (Mf a i) (Ui (eK a) i) (rI (fM a i)))) (DU (FK a) (gP a)) (AG (λi=>ZV i (FK a) (Mf a i) (Qs (eK a) i) (rI (fM a i)) (Ui (eK a) i))) (Hb (gP a)) HO)) (Va (BFK (PP.l a) (PP.p a)) (Jn (λi=>AWJ a (ABK (eK a) i)) (gP a))) (xQ a) (AG (λi=>Lk i (FK a) (Mf a i) (vR a i)))):=by kernel_rfl
def C_conP:Ctr:={ C_idxP with val:=λ(a:PP)=>.bool (decide (a.p∈a.l)) }
def BYH:Ann:=ann 9 [(142,C_idxP.spec dPP)]
def CAT(a:PP):Prop:=AS ZP BYH Tryz.f137 (AE Tryz.f137) (xPP a) (AB []) (C_conP.val a) [] [] []
abbrev zB a b c d e:=AW a b c d e HO
attribute [go_sem] zB
theorem CIK(a:PP):(CAT a)=(Wo (zB (DU (gP a) (FK a)) (AG (λi=>ZV i (gP a) (Qs (eK a) i) (Mf a i) (Ui (eK a) i) (rI (fM a i)))) (T6 a) (X8 a) (Hb (gP a))) (BFK (PP.l a) (PP.p a)) (Jn (λi=>AWJ a (ABK (eK a) i)) (gP a))):=by kernel_rfl
theorem CIE:AH ZP 137 (C_conO.spec dPo):=Ctr.spec_ok (C:=C_conO) (λ(a:PP) h=>WP (A:=CAW) (ren:=[]) (fz:=[]) Tryz.func137 (by kernel_rfl) (AA CIR AD) (by
 show BYX a;rw[CLP]<;> dsimp only[go_sem];simp only[CC,CU]
 have h:a.l.length<4611686018427387904/\True:=h
 exact⟨h.1,BQG⟩)) _
theorem CKU:AH ZP 137 (C_conP.spec dPP):=Ctr.spec_ok (C:=C_conP) (λ(a:PP) h=>WP (A:=BYH) (L:=[]) (keep:=[]) (ren:=[]) (fz:=[]) Tryz.func137 (by kernel_rfl) (AA CIO AD) (by
 show CAT a;rw[CIK]<;> dsimp only[go_sem];simp only[CC,CU]
 have h:a.l.length<4611686018427387904/\True:=h
 exact⟨h.1,BQG⟩)) _
def addP(l:List Pt)(p:Pt):List Pt:=if p∈l then l else l ++ [p]
def addG(l:List Pt)(g:Gau):List Pt:=addP (addP l ⟨g.st,g.lo⟩) ⟨g.st,g.hi⟩
def AC(s:List Gau):List Pt:=s.foldl addG []
def Hx(s:List Gau)(k:Nat):List Pt:=(s.take k).foldl addG []
def tI(s:List Gau)(k j:Nat):List Pt:=if j=0 then Hx s k else if j=1 then addP (Hx s k) ⟨(gD s k).st,(gD s k).lo⟩ else Hx s (k+1)
structure PtK where
 k:Nat
 l:List Pt
 deriving Inhabited
structure PtJ where
 k:Nat
 j:Nat
 l:List Pt
 deriving Inhabited
def enS(s:List Gau)(k:Nat):List (Nat×AVal):=[(9,.d (AT s)),(10,.int s.length),(11,.int k)]
def enI(s:List Gau)(k j:Nat):List (Nat×AVal):=[(5,.bptr 302 0),(21,.own 303 1 0 2),(22,.int 2),(23,.int j)] ++ enS s k
def enH(g:Gau):List (Nat×HCell):=[(302,.live (.box [.int g.st,.int g.lo,.int g.hi])),(303,.live (.row 1 2 λi=>NY (gD [g.lo,g.hi] i)))]
def enN(s:List Gau):Shape:={ α:=One,dflt:=default,T:=λ_=>⟨(3,.d NC) :: enS s 0,[]⟩,inv:=λ_=>True,meas:=λ_=>s.length+1,tag:=[0] }
def enO(s:List Gau):Shape:={ α:=PtK,dflt:=default,T:=λx=>⟨(3,.own 301 2 0 x.l.length) :: enS s x.k,[(301,.live (rowP x.l))]⟩,inv:=λx=>x.k<=s.length/\1<=x.k/\x.l=Hx s x.k,meas:=λx=>s.length-x.k,tag:=[1] }
def enA(s:List Gau):Shape:={ α:=One,dflt:=default,T:=λ_=>⟨(3,.d NC) :: enI s 0 0,enH (gD s 0)⟩,inv:=λ_=>0<s.length,meas:=λ_=>3,first:=[(302,5032),(303,6096)] }
def enB(s:List Gau)(q:Nat):Shape:={ α:=PtJ,dflt:=default,T:=λx=>⟨(3,.own 301 2 0 x.l.length) :: enI s x.k x.j,(301,.live (rowP x.l)) :: enH (gD s x.k)⟩,inv:=λx=>x.k<s.length/\x.j<=2/\s.length-x.k<=q/\x.l=tI s x.k x.j,meas:=λx=>2-x.j,first:=[(302,5032),(303,6096)] }
def enC(s:List Gau)(m q:Nat)(f:List (Nat×Nat)):Shape:={ α:=PtJ,dflt:=default,T:=λx=>⟨(3,.own 301 2 0 x.l.length) :: enI s x.k x.j,(301,.live (rowP x.l)) :: enH (gD s x.k)⟩,inv:=λx=>x.k<s.length/\x.j<2/\2-x.j<=m/\s.length-x.k<=q/\x.l=tI s x.k (x.j+1),meas:=λ_=>0,first:=f }
def C_ends:Ctr:={ α:=List Gau,xs:=λl=>[.d (AT l)],L:=λ_=>[],val:=λl=>.d (ePts (AC l)),keep:=λ_=>[],pre:=λl=>[l.length<1073741824/\True] }
def CFW(s:List Gau):Ann:={ ann 42 [(137,orS (C_conO.spec dPo) (C_conP.spec dPP))] with mt:=λid=>id==10,loops:=λid=>if id=3 then some [enN s,enO s] else none,inner:=λgs id=>if id=6 then (if gs.getD 1 0=0 then some [enA s,enB s (gs.getD 0 0)] else some [enB s (gs.getD 0 0)]) else none,cutIn:=λgs id=>if id=11 then some [enC s (gs.getD 0 0) (gs.getD 1 0) [(301,11048)],enC s (gs.getD 0 0) (gs.getD 1 0) []] else none }
def CDY(s:List Gau):Prop:=AS ZP (CFW s) Tryz.f122 (AE Tryz.f122) (C_ends.xs s) (AB []) (C_ends.val s) [] [] [301]
abbrev Ur:=@Exists One
abbrev Ep:=λ(f:One->Prop)=>∀(x:One),f x
abbrev ACR:=@List.cons Int
abbrev aX:=@List.nil Int
abbrev zW:=@cond Int
abbrev AOF:=λ(x0 x1:Nat)=>decide (x0=x1)
abbrev J2:=@Exists PtJ
abbrev GI:=PtJ.j
abbrev vW:=PtJ.k
abbrev BED:=@Eq (List Pt)
abbrev ATC:=λ(f:PtJ->Prop)=>∀(x:PtJ),f x
abbrev ABE:=@HMul.hMul Nat Nat Nat (@instHMul Nat instMulNat)
abbrev ANN:=λ(x0 x1:Nat)=>decide (x0<x1)
abbrev iH:=PtK.l
abbrev SQ:=PtK.k
abbrev Tl a b c:=EE a (AQ b) b c
abbrev BCN a b:=ABK (AC a) b
abbrev Bg a b:=rI (BCN a b)
abbrev OY a b:=hd14 (BCN a b)
abbrev DZ a:=AHX (AC a)
abbrev Wl a:=AHX (iH a)
abbrev AXX a b:=ABK (PtJ.l a) b
abbrev RD a b:=rI (AXX a b)
abbrev QO a b:=hd14 (AXX a b)
abbrev MW a:=AHX (PtJ.l a)
abbrev wU a b:=DU a (MW b)
abbrev Az a:=BP (CH a)
abbrev Hv a b:=AO a b b
abbrev Gx a b c d:=BED (PtJ.l a) (tI b (vW c) d)
abbrev Hc a b:=RG a (vW b)
abbrev Ki a b:=FC a (CH b)
abbrev Gz a b:=Ki (vW a) b
abbrev Ld a b c d e f g h:=BK a b a c d e f g h
abbrev Cr a b c d e f g:=Ld AF a b c d e f g
abbrev Tf a b c(d:Nat->Prop) e f g h p:=BK a b c (AG d) e f g h p
abbrev Fy a b c d e f:=HJ a b (BCP c d e f)
abbrev wJ a b:=ACR a (ACR b aX)
abbrev iE a b:=DG a (vW b)
abbrev fE a b:=DF a (vW b)
abbrev QQ a b:=wJ (fE a b) (iE a b)
abbrev MR:=DR 2
abbrev gI a b c:=BM (iE a b) c
abbrev fY a b c:=BM (fE a b) c
abbrev Gi a b:=BL a (vW b)
abbrev dL a b c:=BM (Gi a b) c
abbrev Qt a b c d e f:=ZV a (MW b) c d e f
abbrev Zx a b:=wU (MW a) b
abbrev AXE a b:=AI (vW a) b
abbrev zX a b:=AXE a (vW b)
abbrev Re:=JQ 2
abbrev oK a:=CN (GI a)
abbrev yZ a:=TJ 2 (GI a)
abbrev lZ a b:=FF (yZ a) b
abbrev rL a:=FC (GI a) 2
abbrev UG a b c d e f:=AO a b (FD c d e f)
abbrev HF a b c d e f g:=AW a b c d (FF e f) g
abbrev EF a b c d:=zW (ANN a b) c d
abbrev MS a b:=KL a (AQ b)
abbrev QM a b:=DU a (CN b)
abbrev tW a:=FF a 140737488355328
abbrev BKS a b c d e:=FE a b c d 9223372036854775807 (tW e)
abbrev APT a:=FA hd8 a
abbrev BIO a b c d e:=BKS a b (APT c) d e
abbrev gM a b c d e:=BIO a b c d (ABE d e)
abbrev SA a:=FC 0 a
abbrev AUD:=SA 1
abbrev eV a b c d:=gM a b AUD c d
abbrev U5 a b c d:=eV a b (CN c) d
abbrev xD a b c:=And a (HJ 0 b (DR c))
abbrev AVZ a b:=xD (DR a) a b
abbrev Sw a:=(@HA Pt) (MW a) (λi=>AXX a i)
abbrev pN a:=AHX (Sw a)
abbrev Nm a b c d e:=HJ a b (BFU c d e)
abbrev SE a b c d:=zW (AOF a b) c d
abbrev ET a b c:=SE a 0 b c
abbrev AAX a:=And a a
abbrev HE a:=DU a 0
abbrev WR a:=CN (CH a)
abbrev lN a b:=Ep (λi=>PY a b)
abbrev mH a:=DG a 0
abbrev zD a:=DF a 0
abbrev mK a:=BL a 0
abbrev PI a:=DU a 1
abbrev BBU a b c:=And a (HJ b b c)
abbrev Xk a:=BBU HO 0 (DU 0 a)
abbrev BJF a b c d e:=BKS (Xk a) b c d e
abbrev Lv a:=PY UN a
abbrev Xg:=Lv AUD
abbrev Sx a b c:=BJF a b Xg 1 c
abbrev xS a b:=Ur (λi=>And a b)
abbrev CY a b c d e f g:=AO a b (AR c d e f g)
abbrev BLT a b c:=HJ a b (jL c)
abbrev AKT a:=BLT a 0 hd8
abbrev AN:=AG AKT
abbrev Al a:=And a HO
abbrev KZ a:=Ur (λi=>Al a)
attribute [go_sem] Ur Ep ACR aX zW AOF J2 GI vW BED ATC ABE ANN iH SQ Tl BCN Bg OY DZ Wl AXX RD QO MW wU Az Hv Gx Hc Ki Gz Ld Cr Tf Fy wJ iE fE QQ MR gI fY Gi dL Qt Zx AXE zX Re oK yZ lZ rL UG HF EF MS QM tW BKS APT BIO gM SA AUD eV U5 xD AVZ Sw pN Nm SE ET AAX HE WR lN mH zD mK PI BBU Xk BJF Lv Xg Sx xS CY BLT AKT AN Al KZ
theorem CJN(s:List Gau):(CDY s)=(AO (KZ (AW AF AN (BQ s) (AP s) (Az s) BB)) (Ep (λi=>Ee HO 0 (CH s) (BD (PH 0 s) (xS (CY AF AN AF MR Re BB (BK (BQ s) (AP s) (Az s) BB (AK (mK s)) (AK (zD s)) (AK (mH s)) MR (AG (λj=>Nm j 2 (wJ (zD s) (mH s)) j (ET j (zD s) (mH s)))))) (IU 0 (CH s))) (lN (IU 0 (CH s)) (Hv (BD (dR 0 2 0) (zB AF AF (AK (mK s)) (Qc (wJ (zD s) (mH s)) (AQ 0)) (SA 4611686018427387904)) (Sx 2 (xD Ea 1 2) 16) (J2 (λj=>HF (Cr (PI (MW j)) MR Re (AI (GI j) 0) (BQ s) (AP s) (Tf (Az s) (AXE j 0) (PI (MW j)) (λk=>Qt k j (QO j k) (mK s) (RD j k) (MS (wJ (zD s) (mH s)) 0)) (dL s j (mK s)) (fY s j (zD s)) (gI s j (mH s)) MR (AG (λk=>Fy k 2 (QQ s j) k (wJ (zD s) (mH s)) k)))) (Gz j s) (rL j) (lZ j 3) (Hc s j) (WR s) (Gx j s j (oK j))))) (ATC (λj=>PY (FE (Gz j s) (rL j) (lZ j 3) (Hc s j) (WR s) (Gx j s j (oK j))) (J2 (λk=>Je (Cr (Zx k j) MR Re (AJ (GI k) (GI j)) (BQ s) (AP s) (Tf (Az s) (zX k j) (Zx k j) (λl=>Qt l k (QO k l) (QO j l) (RD k l) (RD j l)) (dL s k (Gi s j)) (fY s k (fE s j)) (gI s k (iE s j)) MR (AG (λl=>Fy l 2 (QQ s k) l (QQ s j) l)))) (JO (Gz k s) (FF (GI k) 2) (Hc s k) (WR s) (Gx k s k (GI k))) 2 (GI k) 3)))))) (ATC (λj=>Ys (JO (Gz j s) (FF (GI j) 2) (Hc s j) (WR s) (Gx j s j (GI j))) (UO (GI j) 2) (Hv (UG (dR (GI j) 2 (GI j)) (EN (BPA (wU (pN j) j) (AK (Gi s j)) (Qc (QQ s j) (AQ (GI j))) (AG (λk=>ZV k (pN j) (Qs (Sw j) k) (QO j k) (Ui (Sw j) k) (RD j k))) (DU (MW j) (pN j)) (AG (λk=>Qt k j (QO j k) (Qs (Sw j) k) (RD j k) (Ui (Sw j) k))) (Hb (pN j)) HO)) (not (BFK (Sw j) (hd17 (Gi s j) (MS (QQ s j) (GI j))))) (U5 (AVZ (MW j) 2) (xD Ea 1 2) (MW j) 16) (J2 (λk=>HF (Cr (QM (MW k) (MW j)) MR Re (AI (GI k) (GI j)) (BQ s) (AP s) (Tf (Az s) (zX k j) (QM (MW k) (MW j)) (λl=>Qt l k (QO k l) (EF l (MW j) (QO j l) (Gi s j)) (RD k l) (EF l (MW j) (RD j l) (MS (QQ s j) (GI j)))) (dL s k (Gi s j)) (fY s k (fE s j)) (gI s k (iE s j)) MR (AG (λl=>Fy l 2 (QQ s k) l (QQ s j) l)))) (Gz k s) (rL k) (lZ k (yZ j)) (Hc s k) (WR s) (Gx k s k (oK k)))) (J2 (λk=>HF (Cr (Zx k j) MR Re (AI (GI k) (GI j)) (BQ s) (AP s) (Tf (Az s) (zX k j) (Zx k j) (λl=>Qt l k (QO k l) (QO j l) (RD k l) (RD j l)) (dL s k (Gi s j)) (fY s k (fE s j)) (gI s k (iE s j)) MR (AG (λl=>Fy l 2 (QQ s k) l (QQ s j) l)))) (Gz k s) (rL k) (lZ k (yZ j)) (Hc s k) (WR s) (Gx k s k (oK k))))) (ATC (λk=>PY (FE (Gz k s) (rL k) (lZ k (yZ j)) (Hc s k) (WR s) (Gx k s k (oK k))) (J2 (λl=>EO (Cr (Zx l k) MR Re (AJ (GI l) (GI k)) (BQ s) (AP s) (Tf (Az s) (zX l k) (Zx l k) (λm=>Qt m l (QO l m) (QO k m) (RD l m) (RD k m)) (dL s l (Gi s k)) (fY s l (fE s k)) (gI s l (iE s k)) MR (AG (λm=>Fy m 2 (QQ s l) m (QQ s k) m)))) (JO (Gz l s) (FF (GI l) 2) (Hc s l) (WR s) (Gx l s l (GI l))) 2 (GI l) (GI j)))))) ((@Exists PtK) (λk=>Je (DY AF (wU (Wl k) j) (BQ s) (AP s) (Az s) (AJ (SQ k) (vW j)) (wU (Wl k) j) (AG (λl=>ZV l (Wl k) (Qs (iH k) l) (QO j l) (Ui (iH k) l) (RD j l)))) (EE (XU (SQ k) s) 1 (SQ k) (BED (iH k) (Hx s (SQ k)))) (CH s) (SQ k) (WR s)))))) (AAX (HE (DZ s))))) ((λ(f:PtK->Prop)=>∀(x:PtK),f x) (λi=>YH (EE (XU (SQ i) s) 1 (SQ i) (BED (iH i) (Hx s (SQ i)))) (SQ i) (CH s) (PH (SQ i) s) (J2 (λj=>FE (Cr (DU (MW j) (Wl i)) MR Re (BX (GI j)) (BQ s) (AP s) (Tf (Az s) (AXE j (SQ i)) (DU (MW j) (Wl i)) (λk=>Qt k j (QO j k) (Qs (iH i) k) (RD j k) (Ui (iH i) k)) (dL s j (BL s (SQ i))) (fY s j (DF s (SQ i))) (gI s j (DG s (SQ i))) MR (AG (λk=>Nm k 2 (QQ s j) k (ET k (DF s (SQ i)) (DG s (SQ i))))))) (Gz j s) (FF (GI j) 2) (Hc s j) (RG s (SQ i)) (Gx j s j (GI j)))) (ATC (λj=>Ys (JO (Gz j s) (FF (GI j) 2) (Hc s j) (RG s (SQ i)) (Gx j s j (GI j))) (UO (GI j) 2) (Hv (UG (dR (GI j) 2 (GI j)) (EN (BPA (wU (pN j) j) (AK (Gi s j)) (Qc (QQ s j) (AQ (GI j))) (AG (λk=>ZV k (pN j) (Qs (Sw j) k) (QO j k) (Ui (Sw j) k) (RD j k))) (DU (MW j) (pN j)) (AG (λk=>Qt k j (QO j k) (Qs (Sw j) k) (RD j k) (Ui (Sw j) k))) (Hb (pN j)) HO)) (not (BFK (Sw j) (hd17 (Gi s j) (MS (QQ s j) (GI j))))) (U5 (AVZ (MW j) 2) (xD Ea 1 2) (MW j) 16) (J2 (λk=>HF (Cr (QM (MW k) (MW j)) MR Re (AI (GI k) (GI j)) (BQ s) (AP s) (Tf (Az s) (zX k j) (QM (MW k) (MW j)) (λl=>Qt l k (QO k l) (EF l (MW j) (QO j l) (Gi s j)) (RD k l) (EF l (MW j) (RD j l) (MS (QQ s j) (GI j)))) (dL s k (Gi s j)) (fY s k (fE s j)) (gI s k (iE s j)) MR (AG (λl=>Fy l 2 (QQ s k) l (QQ s j) l)))) (Gz k s) (rL k) (lZ k (yZ j)) (Hc s k) (RG s (SQ i)) (Gx k s k (oK k)))) (J2 (λk=>HF (Cr (Zx k j) MR Re (AI (GI k) (GI j)) (BQ s) (AP s) (Tf (Az s) (zX k j) (Zx k j) (λl=>Qt l k (QO k l) (QO j l) (RD k l) (RD j l)) (dL s k (Gi s j)) (fY s k (fE s j)) (gI s k (iE s j)) MR (AG (λl=>Fy l 2 (QQ s k) l (QQ s j) l)))) (Gz k s) (rL k) (lZ k (yZ j)) (Hc s k) (RG s (SQ i)) (Gx k s k (oK k))))) (ATC (λk=>PY (FE (Gz k s) (rL k) (lZ k (yZ j)) (Hc s k) (RG s (SQ i)) (Gx k s k (oK k))) (J2 (λl=>EO (Cr (Zx l k) MR Re (AJ (GI l) (GI k)) (BQ s) (AP s) (Tf (Az s) (zX l k) (Zx l k) (λm=>Qt m l (QO l m) (QO k m) (RD l m) (RD k m)) (dL s l (Gi s k)) (fY s l (fE s k)) (gI s l (iE s k)) MR (AG (λm=>Fy m 2 (QQ s l) m (QQ s k) m)))) (JO (Gz l s) (FF (GI l) 2) (Hc s l) (RG s (SQ i)) (Gx l s l (GI l))) 2 (GI l) (GI j)))))) ((@Exists PtK) (λk=>BLY (DY AF (wU (Wl k) j) (BQ s) (AP s) (Az s) (AJ (SQ k) (vW j)) (wU (Wl k) j) (AG (λl=>ZV l (Wl k) (Qs (iH k) l) (QO j l) (Ui (iH k) l) (RD j l)))) (XU (SQ k) s) 1 (SQ k) (BED (iH k) (Hx s (SQ k))) (CH s) (SQ k) (SQ i))))) (Tl (DU (DZ s) (Wl i)) (Wl i) (AG (λj=>ZV j (DZ s) (OY s j) (Qs (iH i) (AQ j)) (Bg s j) (Ui (iH i) (AQ j)))))))):=by kernel_rfl
theorem ANG(l:List Pt)(p:Pt):(addP l p).length<=l.length+1:=by unfold addP;split<;>simp
theorem ANM{s:List Gau}{k:Nat}(h:k<s.length):Hx s (k+1)=addG (Hx s k) (gD s k):=by
 unfold Hx;rw[LG h,List.foldl_append];rfl
theorem Vz{s:List Gau}:∀k,k<=s.length->(Hx s k).length<=2*k
 |0,_=>by simp[Hx]
 |k+1,h=>by
  rw[ANM (by omega)]
  have:=Vz (s:=s) k (by omega)
  have h1:=ANG (Hx s k) ⟨(gD s k).st,(gD s k).lo⟩
  have h2:=ANG (addP (Hx s k) ⟨(gD s k).st,(gD s k).lo⟩) ⟨(gD s k).st,(gD s k).hi⟩
  unfold addG;omega
theorem BHN{s:List Gau}{k j:Nat}(h:k<s.length)(hj:j<2):tI s k (j+1)=addP (tI s k j) ⟨(gD s k).st,gD [(gD s k).lo,(gD s k).hi] j⟩:=by
 match j,hj with
 |0,_=>rfl
 |1,_=>exact ANM h
theorem BUH{s:List Gau}{k j:Nat}(h:k<s.length)(hj:j<=2):(tI s k j).length<=2*s.length:=by
 match j,hj with
 |0,_=>have:=Vz (s:=s) k (by omega);show (Hx s k).length<=_;omega
 |1,_=>
  have:=Vz (s:=s) k (by omega)
  have h1:=ANG (Hx s k) ⟨(gD s k).st,(gD s k).lo⟩
  show (addP _ _).length<=_;omega
 |2,_=>have:=Vz (s:=s) (k+1) (by omega);show (Hx s (k+1)).length<=_;omega
theorem CLH{l:List Pt}{p:Pt}(h:p∈l):addP l p=l:=if_pos h
theorem BXX{l:List Pt}{p:Pt}(h:¬ p∈l):addP l p=l ++ [p]:=if_neg h
theorem CPG(l:List Pt)(p:Pt)(i:Nat)(hi:i<(l ++ [p]).length):((gD (l ++ [p]) i).st=bif decide (i<l.length) then (gD l i).st else p.st)/\(gD (l ++ [p]) i).fl=bif decide (i<l.length) then (gD l i).fl else p.fl:=by
 rw[D8 _ _ (by simpa using hi)]
 cases decide (i<l.length)<;>exact⟨rfl,rfl⟩
theorem CRY(s:List Gau)(hn:s.length<1073741824):CDY s:=by
 rw[CJN]<;> dsimp only[go_sem];simp only[CC,CU]
 have cut:∀(q m:Nat) (c:PtJ),c.k<s.length/\c.j<2/\2-c.j<=m/\s.length-c.k<=q/\c.l=tI s c.k (c.j+1)->∃b:PtJ,(b.l.length=c.l.length/\(b.j:Int)=IntKind.i64.wrap ((c.j:Int)+1)/\(b.k:Int)=c.k/\b.l.length=c.l.length/\(∀(i:Nat),i<b.l.length->(gD b.l i).st=(gD c.l i).st/\(gD b.l i).fl=(gD c.l i).fl)/\(gD s b.k).st=(gD s c.k).st/\(gD s b.k).lo=(gD s c.k).lo/\(gD s b.k).hi=(gD s c.k).hi/\∀(i:Nat),i<2->gD [(gD s b.k).lo,(gD s b.k).hi] i=gD [(gD s c.k).lo,(gD s c.k).hi] i)/\(b.k<s.length/\b.j<=2/\s.length-b.k<=q/\b.l=tI s b.k b.j)/\2-b.j<m:=λq m c hc=>
  ⟨⟨c.k,c.j+1,c.l⟩,⟨rfl,(BF (by omega)).symm,rfl,rfl,λ_ _=>⟨rfl,rfl⟩,rfl,rfl,rfl,λ_ _=>rfl⟩,⟨hc.1,by show c.j+1<=2;omega,hc.2.2.2.1,hc.2.2.2.2⟩,by show 2-(c.j+1)<m;omega⟩
 have go:∀(q:Nat) (b:PtJ),b.k<s.length/\b.j<=2/\s.length-b.k<=q/\b.l=tI s b.k b.j->(b.j:Int)<2->b.l.length<4611686018427387904/\b.l.length<9223372036854775807/\(b.l.length+1)*16<=140737488355328/\∀p:Pt,p=⟨(gD s b.k).st,gD [(gD s b.k).lo,(gD s b.k).hi] b.j⟩->(¬ p∈b.l->b.l ++ [p]=tI s b.k (b.j+1))/\(p∈b.l->b.l=tI s b.k (b.j+1)):=λq b hb hj=>by
  have hl:=BUH hb.1 hb.2.1
  rw[<-hb.2.2.2] at hl
  refine⟨by omega,by omega,by omega,λp hp=>?_⟩
  rw[BHN hb.1 (by omega),<-hb.2.2.2,<-hp]
  exact⟨λh=>(BXX h).symm,λh=>(CLH h).symm⟩
 have two:∀(g:Gau) (i:Nat),i<2->gD [g.lo,g.hi] i=bif decide (i=0) then g.lo else g.hi:=λg i hi=>by
  match i,hi with
  |0,_=>rfl
  |1,_=>rfl
 refine⟨⟨default,trivial⟩,⟨λh0=>⟨⟨by omega,by omega⟩,⟨default,two _,by omega⟩,λh1=>⟨⟨⟨by omega,by omega⟩,by omega,by simp,⟨⟨0,0,[⟨(gD s 0).st,(gD s 0).lo⟩]⟩,⟨rfl,rfl,rfl,rfl,λi hi=>?_,rfl,rfl,rfl,λ_ _=>rfl⟩,h1,by simp,by simp,by simp,rfl⟩⟩,cut _ _⟩,
  λb hb=>⟨λhj=>⟨⟨⟨by omega,by omega⟩,(go _ b hb hj).1,λhm=>⟨⟨by simp,by simp,(go _ b hb hj).2.1,(go _ b hb hj).2.2.1⟩,⟨b.k,b.j,b.l ++ [_]⟩,⟨by simp,rfl,rfl,by simp,CPG b.l _,rfl,rfl,rfl,λ_ _=>rfl⟩,hb.1,by show b.j<2;omega,Nat.le_refl _,hb.2.2.1,((go _ b hb hj).2.2.2 _ rfl).1 hm⟩,λhm=>⟨⟨b.k,b.j,b.l⟩,⟨rfl,rfl,rfl,rfl,λ_ _=>⟨rfl,rfl⟩,rfl,rfl,rfl,λ_ _=>rfl⟩,hb.1,by show b.j<2;omega,Nat.le_refl _,hb.2.2.1,((go _ b hb hj).2.2.2 _ rfl).2 hm⟩⟩,cut _ _⟩,λhj=>?_⟩⟩,λh0=>?_⟩,
  λa ha=>⟨λhk=>⟨⟨by omega,by omega⟩,⟨⟨a.k,0,a.l⟩,⟨rfl,rfl,rfl,rfl,λ_ _=>⟨rfl,rfl⟩,rfl,rfl,rfl,two _⟩,by show a.k<_;omega,by simp,Nat.le_refl _,ha.2.2⟩,
  λb hb=>⟨λhj=>⟨⟨⟨by omega,by omega⟩,(go _ b hb hj).1,λhm=>⟨⟨by simp,by simp,(go _ b hb hj).2.1,(go _ b hb hj).2.2.1⟩,⟨b.k,b.j,b.l ++ [_]⟩,⟨by simp,rfl,rfl,by simp,CPG b.l _,rfl,rfl,rfl,λ_ _=>rfl⟩,hb.1,by show b.j<2;omega,Nat.le_refl _,hb.2.2.1,((go _ b hb hj).2.2.2 _ rfl).1 hm⟩,λhm=>⟨⟨b.k,b.j,b.l⟩,⟨rfl,rfl,rfl,rfl,λ_ _=>⟨rfl,rfl⟩,rfl,rfl,rfl,λ_ _=>rfl⟩,hb.1,by show b.j<2;omega,Nat.le_refl _,hb.2.2.1,((go _ b hb hj).2.2.2 _ rfl).2 hm⟩⟩,cut _ _⟩,λhj=>?_⟩⟩,λhk=>?_⟩⟩
 ·have:i=0:=by have hi:i<1:=hi;omega
  subst this;exact⟨rfl,rfl⟩
 ·have h2:b.j=2:=by omega
  exact⟨⟨b.k+1,b.l⟩,⟨rfl,(BF (by omega)).symm,rfl,λ_ _=>⟨rfl,rfl⟩⟩,⟨by show b.k+1<=_;omega,Nat.succ_pos _,by rw[hb.2.2.2,h2];rfl⟩,by show s.length-(b.k+1)<_;omega⟩
 ·have:s=[]:=List.eq_nil_of_length_eq_zero (by omega)
  subst this;rfl
 ·have h2:b.j=2:=by omega
  exact⟨⟨b.k+1,b.l⟩,⟨rfl,(BF (by omega)).symm,rfl,λ_ _=>⟨rfl,rfl⟩⟩,⟨by show b.k+1<=_;omega,Nat.succ_pos _,by rw[hb.2.2.2,h2];rfl⟩,by show s.length-(b.k+1)<_;omega⟩
 ·have e:a.l=AC s:=by rw[ha.2.2];unfold Hx AC;rw[List.take_of_length_le (by omega)]
  rw[<-e]
  exact⟨rfl,Nat.le_refl _,λ_ _=>⟨rfl,rfl⟩⟩
theorem ACO:AH ZP 122 (C_ends.spec NU):=PW C_ends CFW [] [301] Tryz.func122 (λ_=>by kernel_rfl) (λ_=>AA (pR CIE CKU) AD) (λ(s:List Gau) h=>CRY s (show s.length<1073741824/\True from h).1) (λ_=>RA rfl rfl) _
end Go.Bal
