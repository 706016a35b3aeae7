/- Package rating: ends of spans. -/
import Derived.Test.YtceloknnpdonhaaGreatRatB
set_option linter.unusedVariables false
set_option linter.unusedSimpArgs false
namespace Go.Bal
open Go Go.Sym Go.Proofs
structure PP where
 l:List Pt
 p:Pt
def eqP(p q:Pt):Bool:=p.st==q.st&&p.fl==q.fl
def dPP:List AVal->Heap->Option (PP×List (Nat×Nat)×List Nat)
 |[y,.d p],H=>match dPts y H with
  |some (l,f)=>some (⟨l,dPt p⟩,[],f)
  |none=>none
 |_,_=>none
def xPP(a:PP):List AVal:=[.d (ePts a.l),.d (ePt a.p)]
def C_idxP:Ctr:={ α:=PP,xs:=xPP,L:=λ_=>[],val:=λa=>.int (Gs (λi=>eqP a.p (gD a.l i)) a.l.length 0),keep:=λ_=>[],pre:=λa=>[a.l.length<4611686018427387904/\True] }
def CVI(a:PP):Ann:={ ann 19 [] with loops:=λid=>if id=2 then some [{ α:=Nat,dflt:=0,T:=λk=>⟨[(0,.d (ePts a.l)),(3,.bptr 201 0),(7,.int a.l.length),(8,.int k)],[(201,.live (.box [.int a.p.st,.int a.p.fl]))]⟩,inv:=λk=>k<=a.l.length/\Gs (λi=>eqP a.p (gD a.l i)) a.l.length 0=Gs (λi=>eqP a.p (gD a.l i)) (a.l.length-k) k,meas:=λk=>a.l.length-k,first:=[(201,1000)] }] else none }
def CVO(a:PP):Prop:=BG Try.prog (CVI a) BRM (AL BRM) (xPP a) (AF []) (C_idxP.val a) [] [] []
abbrev qS:=@List.length Pt
abbrev W6:=@gD Pt instInhabitedPt
abbrev ACV a(b:Nat->Pt) c d:=Gs (λi=>eqP (PP.p a) (b i)) c d
abbrev T4 a b:=W6 (PP.l a) b
abbrev wD a b c d:=ACV a (λi=>T4 b i) c d
abbrev IC a:=qS (PP.l a)
abbrev cM a b c:=wD a b (IC c) 0
abbrev Y5 a:=fF (PP.p a)
abbrev mJ a:=AI (Y5 a)
abbrev AAW a:=Yk (PP.p a)
abbrev pY a:=AI (AAW a)
abbrev La a b:=fF (T4 a b)
abbrev Lc a b:=Yk (T4 a b)
abbrev Zr a:=BI (IC a)
attribute [go_sem] qS W6 ACV T4 wD IC cM Y5 mJ AAW pY La Lc Zr
theorem DHY(a:PP):(CVO a)=(KF (λi=>QB (BB (Zr a) (AK (λj=>NB j (IC a) (Lc a j) (La a j))) (TT (IC a)) (BS i) (pY a) (mJ a)) i (IC a) (AO (cM a a a) (wD a a (IS (IC a) i) i))) (λi=>NA i (IC a) (AO (cM a a a) (wD a a (IS (IC a) i) i)) (AU (IC a)) (BF (DU i (IC a)) (and (Cu (AAW a) (Lc a i)) (and (Cu (Y5 a) (La a i)) QJ)) (AO (cM a a a) (AU i)) (LA (λj=>RN (BB (Zr a) (AK (λk=>NB k (IC a) (Lc a k) (La a k))) (TT (IC a)) (AV j i) (pY a) (mJ a)) j (IC a) (AO (cM a a a) (wD a a (IS (IC a) j) j)) i))) (AO (cM a a a) (-1)))):=by kernel_rfl
def rowP(l:List Pt):AObj:=.row 2 l.length λi=>ePt (gD l i)
def xPo(a:PP):List AVal:=[.own 100 2 0 a.l.length,.d (ePt a.p)]
def dPo:List AVal->Heap->Option (PP×List (Nat×Nat)×List Nat)
 |[.own id _ _ n,.d p],H=>match H id with
  | .live (.row _ _ g)=>some (⟨KA n λi=>dPt (g i),dPt p⟩,[(100,id)],[])
  |_=>none
 |_,_=>none
def C_idxO:Ctr:={ ro:=[100],α:=PP,xs:=xPo,L:=λa=>[(100,rowP a.l)],val:=λa=>.int (Gs (λi=>eqP a.p (gD a.l i)) a.l.length 0),keep:=λa=>[(100,.live (rowP a.l))],pre:=λa=>[a.l.length<4611686018427387904/\True] }
def CZM(a:PP):Ann:={ ann 19 [] with E:=[100],loops:=λid=>if id=2 then some [{ α:=Nat,dflt:=0,T:=λk=>⟨[(0,.own 100 2 0 a.l.length),(3,.bptr 201 0),(7,.int a.l.length),(8,.int k)],[(100,.live (rowP a.l)),(201,.live (.box [.int a.p.st,.int a.p.fl]))]⟩,inv:=λk=>k<=a.l.length/\Gs (λi=>eqP a.p (gD a.l i)) a.l.length 0=Gs (λi=>eqP a.p (gD a.l i)) (a.l.length-k) k,meas:=λk=>a.l.length-k,first:=[(201,1000)] }] else none }
def DAX(a:PP):Prop:=BG Try.prog (CZM a) BRM (AL BRM) (xPo a) (AF (C_idxO.L a)) (C_idxO.val a) (C_idxO.keep a) [] []
theorem DIR(a:PP):(DAX a)=(KF (λi=>QB (EP AQ (Zr a) (AU (IC a)) (ZC (BS i) (Zr a) (λj=>NB j (IC a) (Lc a j) (La a j)) (pY a) (mJ a))) i (IC a) (AO (cM a a a) (wD a a (IS (IC a) i) i))) (λi=>NA i (IC a) (AO (cM a a a) (wD a a (IS (IC a) i) i)) (AU (IC a)) (BF (And (DU i (IC a)) (KO (BP i) (IC a))) (and (Cu (AAW a) (Lc a (BP i))) (and (Cu (Y5 a) (La a (BP i))) QJ)) (DN (cM a a a) (AU i) (Zr a) (AK (λj=>NB j (IC a) (Lc a j) (La a j)))) (LA (λj=>RN (EP AQ (Zr a) (AU (IC a)) (ZC (AV j i) (Zr a) (λk=>NB k (IC a) (Lc a k) (La a k)) (pY a) (mJ a))) j (IC a) (AO (cM a a a) (wD a a (IS (IC a) j) j)) i))) (DN (cM a a a) (-1) (Zr a) (AK (λj=>NB j (IC a) (Lc a j) (La a j)))))):=by kernel_rfl
theorem DMP(p q:Pt):(p.st==q.st&&(p.fl==q.fl&&true))=eqP p q:=by unfold eqP;rw[Bool.and_true]
theorem DDS{p:Nat->Bool}{n:Nat}(h:n<4611686018427387904):(∃a:Nat,(a:Int)=0/\a<=n/\Gs p n 0=Gs p (n-a) a)/\∀a:Nat,a<=n/\Gs p n 0=Gs p (n-a) a->((a:Int)<n->(0<=(a:Int)/\(a:Int)<n)/\(p a=true->Gs p n 0=a)/\(p a=false->∃b:Nat,(b:Int)=IntKind.i64.wrap ((a:Int)+1)/\(b<=n/\Gs p n 0=Gs p (n-b) b)/\n-b<n-a))/\(¬(a:Int)<n->Gs p n 0=-1):=by
 refine⟨⟨0,rfl,Nat.zero_le _,rfl⟩,λa ⟨h1,h2⟩=>⟨λhlt=>?_,λhge=>?_⟩⟩
 ·have hlt:a<n:=by omega
  refine⟨⟨by omega,by omega⟩,λhp=>?_,λhp=>⟨a+1,(FN (by omega)).symm,⟨by omega,?_⟩,by omega⟩⟩
  ·rw[h2];exact Wd hlt hp
  ·rw[h2];exact F3 hlt hp
 ·rw[h2];exact jL (by omega)
theorem DGF:AM Try.prog BUD (C_idxP.spec dPP):=WY C_idxP CVI [] [] CQU (λ_=>by kernel_rfl) (λ_=>AG) (λ(a:PP) h=>by
 show CVO a;rw[DHY]<;> delta NE AR AK BO CI AO AU EA DV JD DJ DX OP IS LA Cu QJ Yk fF qS W6 AH AJ AZ EV AI BI DK BZ ED BC EU GY GV BB CK FK CE KJ MW IC EC AV BF ES T4 FF NB JO CX NT BS HR DU KF TT ACV Bc QB NA wD Fe La RN Lc Zr Y5 AAW cM pY mJ;simp only[CC,eq_self,implies_true,forall_const,DMP]
 have h:a.l.length<4611686018427387904/\True:=h
 exact DDS h.1) (λ_=>YE rfl rfl) _
theorem DHD:AM Try.prog BUD (C_idxO.spec dPo):=WY C_idxO CZM [] [] CQU (λ_=>by kernel_rfl) (λ_=>AG) (λ(a:PP) h=>by
 show DAX a;rw[DIR]<;> delta NE AR AK BO CI AO AU EA DV JD DJ DX OP IS LA Cu QJ SG QT Yk fF qS W6 AH AJ AZ EV AI BI DK BZ ED BC DN HE EU AQ BP GY GV CK FK CE KJ MW IC EC AV BF ES T4 FF NB JO CX NT BS EP HR DU KO KF ACV Bc QB NA wD Fe La RN Lc ZC Zr Y5 AAW cM pY mJ;simp only[CC,eq_self,implies_true,forall_const,DMP]
 have h:a.l.length<4611686018427387904/\True:=h
 obtain⟨e1,e2⟩:=DDS (p:=λi=>eqP a.p (gD a.l i)) h.1
 exact⟨e1,λk hk=>⟨λhl=>⟨⟨((e2 k hk).1 hl).1,by omega⟩,((e2 k hk).1 hl).2⟩,(e2 k hk).2⟩⟩) (λ_=>YE rfl rfl) _
theorem CNH{a:PP}:decide (a.p∈a.l)=decide (Gs (λi=>eqP a.p (gD a.l i)) a.l.length 0>=0):=by
 rw[Bool.eq_iff_iff]
 simp only[decide_eq_true_eq,ge_iff_le,CKB,Nat.zero_le,Nat.zero_add,true_and]
 have e:∀q:Pt,eqP a.p q=true↔a.p=q:=λq=>by
  obtain⟨⟨⟩,⟨x,y⟩⟩:=a
  all_goals obtain⟨z,w⟩:=q;simp[eqP]
 constructor
 ·intro h
  obtain⟨i,hi,hx⟩:=aQ h
  exact⟨i,hi,(e _).2 hx.symm⟩
 ·rintro⟨i,hi,hx⟩
  rw[(e _).1 hx];exact HI hi
def C_conO:Ctr:={ C_idxO with val:=λ(a:PP)=>.bool (decide (a.p∈a.l)) }
def DCA:Ann:={ ann 9 [(BUD,C_idxO.spec dPo)] with E:=[100] }
def CVR(a:PP):Prop:=BG Try.prog DCA BQD (AL BQD) (xPo a) (AF (C_conO.L a)) (C_conO.val a) (C_conO.keep a) [] []
abbrev BLP:=λ(x0:List Pt) (x1:Pt)=>decide (x1∈x0)
abbrev iK a:=(@KA Pt) (IC a) (λi=>T4 a i)
abbrev gR a:=qS (iK a)
abbrev Nf a b:=fF (W6 a b)
abbrev Oi a b:=Yk (W6 a b)
attribute [go_sem] BLP iK gR Nf Oi
theorem DGX(a:PP):(CVR a)=(Vp (ZH (nO (AR (gR a) (IC a)) (pY a) (mJ a) (ZC (AK (λi=>DO i (gR a) (Oi (iK a) i) (Lc a i) (Nf (iK a) i) (La a i))) (AR (IC a) (gR a)) (λi=>DO i (IC a) (Lc a i) (Oi (iK a) i) (La a i) (Nf (iK a) i)) (BD (gR a)) FI))) (JB (BLP (PP.l a) (PP.p a)) (XE (ACV a (λi=>W6 (iK a) i) (gR a) 0))) (Zr a) (λi=>NB i (IC a) (Lc a i) (La a i))):=by kernel_rfl
def C_conP:Ctr:={ C_idxP with val:=λ(a:PP)=>.bool (decide (a.p∈a.l)) }
def CUY:Ann:=ann 9 [(BUD,C_idxP.spec dPP)]
def CYG(a:PP):Prop:=BG Try.prog CUY BQD (AL BQD) (xPP a) (AF []) (C_conP.val a) [] [] []
theorem DIH(a:PP):(CYG a)=(And (BB (AR (gR a) (IC a)) (AK (λi=>DO i (gR a) (Oi (iK a) i) (Lc a i) (Nf (iK a) i) (La a i))) (pY a) (mJ a) (BD (gR a)) FI) (JB (BLP (PP.l a) (PP.p a)) (XE (ACV a (λi=>W6 (iK a) i) (gR a) 0)))):=by kernel_rfl
theorem DJM:AM Try.prog CBM (C_conO.spec dPo):=Ctr.spec_ok (C:=C_conO) (λ(a:PP) h=>Mj (A:=DCA) (ren:=[]) (fz:=[]) CMY (by kernel_rfl) (AB DHD AG) (by
 show CVR a;rw[DGX]<;> delta JB hd6 AR AK BO CI AO FI Yk fF qS W6 BLP AH AJ AZ AI BI nO BZ AQ AY JZ BD KJ IC DO T4 NB XE ACV iK Vp La Oi Nf Lc ZH ZC Zr gR Y5 AAW pY mJ;simp only[CC,eq_self,implies_true,forall_const]
 have h:a.l.length<4611686018427387904/\True:=h
 exact⟨h.1,CNH⟩)) _
theorem DGU:AM Try.prog CBM (C_conP.spec dPP):=Ctr.spec_ok (C:=C_conP) (λ(a:PP) h=>Mj (A:=CUY) (L:=[]) (keep:=[]) (ren:=[]) (fz:=[]) CMY (by kernel_rfl) (AB DGF AG) (by
 show CYG a;rw[DIH]<;> delta JB hd6 AR AK BO CI AO FI Yk fF qS W6 BLP AH AJ AZ AI BZ BB JZ BD IC DO T4 XE ACV iK La Oi Nf Lc gR Y5 AAW pY mJ;simp only[CC,eq_self,implies_true,forall_const]
 have h:a.l.length<4611686018427387904/\True:=h
 exact⟨h.1,CNH⟩)) _
def addP(l:List Pt)(p:Pt):List Pt:=if p∈l then l else l ++ [p]
def addG(l:List Pt)(g:Gau):List Pt:=addP (addP l ⟨g.st,g.lo⟩) ⟨g.st,g.hi⟩
def AA(s:List Gau):List Pt:=s.foldl addG []
def Tm(s:List Gau)(k:Nat):List Pt:=(s.take k).foldl addG []
def AGQ(s:List Gau)(k j:Nat):List Pt:=if j=0 then Tm s k else if j=1 then addP (Tm s k) ⟨(gD s k).st,(gD s k).lo⟩ else Tm s (k+1)
structure PtK where
 k:Nat
 l:List Pt
 deriving Inhabited
structure PtJ where
 k:Nat
 j:Nat
 l:List Pt
 deriving Inhabited
def enS(s:List Gau)(k:Nat):List (Nat×AVal):=[(9,.d (KZ s)),(10,.int s.length),(11,.int k)]
def enI(s:List Gau)(k j:Nat):List (Nat×AVal):=[(5,.bptr 302 0),(21,.own 303 1 0 2),(22,.int 2),(23,.int j)] ++ enS s k
def enH(g:Gau):List (Nat×HCell):=[(302,.live (.box [.int g.st,.int g.lo,.int g.hi])),(303,.live (.row 1 2 λi=>JS (gD [g.lo,g.hi] i)))]
def enN(s:List Gau):Shape:={ α:=One,dflt:=default,T:=λ_=>⟨(3,.d TE) :: enS s 0,[]⟩,inv:=λ_=>True,meas:=λ_=>s.length+1,tag:=[0] }
def enO(s:List Gau):Shape:={ α:=PtK,dflt:=default,T:=λx=>⟨(3,.own 301 2 0 x.l.length) :: enS s x.k,[(301,.live (rowP x.l))]⟩,inv:=λx=>x.k<=s.length/\1<=x.k/\x.l=Tm s x.k,meas:=λx=>s.length-x.k,tag:=[1] }
def enA(s:List Gau):Shape:={ α:=One,dflt:=default,T:=λ_=>⟨(3,.d TE) :: enI s 0 0,enH (gD s 0)⟩,inv:=λ_=>0<s.length,meas:=λ_=>3,first:=[(302,5032),(303,6096)] }
def enB(s:List Gau)(q:Nat):Shape:={ α:=PtJ,dflt:=default,T:=λx=>⟨(3,.own 301 2 0 x.l.length) :: enI s x.k x.j,(301,.live (rowP x.l)) :: enH (gD s x.k)⟩,inv:=λx=>x.k<s.length/\x.j<=2/\s.length-x.k<=q/\x.l=AGQ s x.k x.j,meas:=λx=>2-x.j,first:=[(302,5032),(303,6096)] }
def enC(s:List Gau)(m q:Nat)(f:List (Nat×Nat)):Shape:={ α:=PtJ,dflt:=default,T:=λx=>⟨(3,.own 301 2 0 x.l.length) :: enI s x.k x.j,(301,.live (rowP x.l)) :: enH (gD s x.k)⟩,inv:=λx=>x.k<s.length/\x.j<2/\2-x.j<=m/\s.length-x.k<=q/\x.l=AGQ s x.k (x.j+1),meas:=λ_=>0,first:=f }
def C_ends:Ctr:={ α:=List Gau,xs:=λl=>[.d (KZ l)],L:=λ_=>[],val:=λl=>.d (ePts (AA l)),keep:=λ_=>[],pre:=λl=>[l.length<1073741824/\True] }
def DCR(s:List Gau):Ann:={ ann 42 [(CBM,orS (C_conO.spec dPo) (C_conP.spec dPP))] with mt:=λid=>id==10,loops:=λid=>if id=3 then some [enN s,enO s] else none,inner:=λgs id=>if id=6 then (if gs.getD 1 0=0 then some [enA s,enB s (gs.getD 0 0)] else some [enB s (gs.getD 0 0)]) else none,cutIn:=λgs id=>if id=11 then some [enC s (gs.getD 0 0) (gs.getD 1 0) [(301,11048)],enC s (gs.getD 0 0) (gs.getD 1 0) []] else none }
def CVC(s:List Gau):Prop:=BG Try.prog (DCR s) CIY (AL CIY) (C_ends.xs s) (AF []) (C_ends.val s) [] [] [301]
abbrev CQS:=@List.cons Int
abbrev qW:=@List.nil Int
abbrev AHT:=@Exists PtJ
abbrev QO:=PtJ.j
abbrev W9:=PtJ.k
abbrev BXG:=@Eq (List Pt)
abbrev BOD:=λ(f:PtJ->Prop)=>∀(x:PtJ),f x
abbrev tE:=PtK.l
abbrev Mf:=PtK.k
abbrev aA a:=qS (tE a)
abbrev oH a b:=QW a (Mf b)
abbrev Yp a b c:=AY AQ a b c
abbrev BPY a b:=W6 (PtJ.l a) b
abbrev VW a b:=fF (BPY a b)
abbrev VN a b:=Yk (BPY a b)
abbrev XT a:=qS (PtJ.l a)
abbrev XS a:=AI (HV a)
abbrev Nk a b c d:=BXG (PtJ.l a) (AGQ b (W9 c) d)
abbrev O5 a b c:=EA (QW a (W9 b)) c
abbrev ARX a:=EA a 2
abbrev ADS a:=ARX (QO a)
abbrev VF a b:=CI a (CW b)
abbrev Ng a b:=VF (W9 a) b
abbrev AER a b c:=pE AQ a b c
abbrev oV a b:=AER a Fg b
abbrev gY a b c:=AZ a 2 (AO b c)
abbrev AVE a b c:=BJ (CQS a (CQS b qW)) c
abbrev nJ a b:=DY a (W9 b)
abbrev nW a b:=DZ a (W9 b)
abbrev VU a b c:=AVE (nW a b) (nJ a b) c
abbrev pK a b c:=AO (nJ a b) c
abbrev kQ a b c:=AO (nW a b) c
abbrev Of a b:=DI a (W9 b)
abbrev nM a b c:=AO (Of a b) c
abbrev aW a b c d e f:=DO a (XT b) c d e f
abbrev oD a b:=AR (XT a) b
abbrev iI a b:=oD a (XT b)
abbrev BUE a b:=CN (W9 a) b
abbrev U7 a b:=BUE a (W9 b)
abbrev XQ:=UH 2
abbrev vS a:=JF (QO a)
abbrev J5 a:=IS 2 (QO a)
abbrev wZ a b:=EA (J5 a) b
abbrev wA a:=CI (QO a) 2
abbrev uK a:=BP (QO a)
abbrev AAT a:=JF (XT a)
abbrev aO a:=(@KA Pt) (XT a) (λi=>BPY a i)
abbrev xF a:=qS (aO a)
abbrev BLT a:=And a a
abbrev Iv a:=AR a 0
abbrev Fb a:=JF (CW a)
abbrev wC a b c:=O5 a b (Fb c)
abbrev C8 a:=DY a 0
abbrev O8 a:=DZ a 0
attribute [go_sem] CQS qW AHT QO W9 BXG BOD tE Mf aA oH Yp BPY VW VN XT XS Nk O5 ARX ADS VF Ng AER oV gY AVE nJ nW VU pK kQ Of nM aW oD iI BUE U7 XQ vS J5 wZ wA uK AAT aO xF BLT Iv Fb wC C8 O8
theorem DFS(s:List Gau):(CVC s)=(AH (Kl (BB AQ BK (BY s) (BR s) (XS s) CL) FI) (Ip (λi=>CX FI 0 (HV s) (AY (Cm 0 s) (ZY (λj=>HG AQ BK (AJ AQ Fg (AI XQ) CL (DC (BY s) (BR s) (XS s) CL (AI (DI s 0)) (AI (O8 s)) (AI (C8 s)) Fg (λk=>gY k (AVE (O8 s) (C8 s) k) (RX k 0 (O8 s) (C8 s))))) (KO 0 (CW s)))) (Ru (KO 0 (CW s)) (It (AY (And (DU 0 2) (KO (BP 0) 2)) (BB AQ AQ (AI (DI s 0)) (AI (AVE (O8 s) (C8 s) (BP 0))) (BD 0) FI) (Wl 2 2 16) (AHT (λj=>BB (oV (LD (XT j)) (GP XQ (CN (QO j) 0) (BY s) (BR s) (DC (XS s) (BUE j 0) (LD (XT j)) (AK (λk=>aW k j (VN j k) (DI s 0) (VW j k) (AVE (O8 s) (C8 s) (BP 0)))) (nM s j (DI s 0)) (kQ s j (O8 s)) (pK s j (C8 s)) Fg (λk=>gY k (VU s j k) (AVE (O8 s) (C8 s) k))))) (Ng j s) (wA j) (wZ j 3) (wC s j s) (Nk j s j (vS j))))) (BOD (λj=>BO (AJ (Ng j s) (wA j) (wZ j 3) (wC s j s) (Nk j s j (vS j))) (AHT (λk=>JO (oV (iI k j) (GP XQ (AV (QO k) (QO j)) (BY s) (BR s) (DC (XS s) (U7 k j) (iI k j) (AK (λl=>aW l k (VN k l) (VN j l) (VW k l) (VW j l))) (nM s k (Of s j)) (kQ s k (nW s j)) (pK s k (nJ s j)) Fg (λl=>gY l (VU s k l) (VU s j l))))) (AY (Ng k s) (ADS k) (wC s k s) (Nk k s k (QO k))) 2 (QO k) 3)))))) (BOD (λj=>CX (AY (Ng j s) (ADS j) (wC s j s) (Nk j s j (QO j))) (QO j) 2 (It (PC (And (DU (QO j) 2) (KO (uK j) 2)) (ZH (nO (AR (xF j) (XT j)) (AI (Of s j)) (AI (VU s j (uK j))) (ZC (AK (λk=>DO k (xF j) (Oi (aO j) k) (VN j k) (Nf (aO j) k) (VW j k))) (oD j (xF j)) (λk=>aW k j (VN j k) (Oi (aO j) k) (VW j k) (Nf (aO j) k)) (BD (xF j)) FI))) (not (BLP (aO j) (X5 (Of s j) (VU s j (uK j))))) (And (Do (Mu (XT j) 2) 2 (Ms (XT j)) (AAT j) 16) (AHT (λk=>BB (oV (oD k (AAT j)) (GP XQ (CN (QO k) (QO j)) (BY s) (BR s) (DC (XS s) (U7 k j) (oD k (AAT j)) (AK (λl=>aW l k (VN k l) (GJ l (XT j) (VN j l) (Of s j)) (VW k l) (GJ l (XT j) (VW j l) (VU s j (uK j))))) (nM s k (Of s j)) (kQ s k (nW s j)) (pK s k (nJ s j)) Fg (λl=>gY l (VU s k l) (VU s j l))))) (Ng k s) (wA k) (wZ k (J5 j)) (wC s k s) (Nk k s k (vS k))))) (AHT (λk=>BB (oV (iI k j) (GP XQ (CN (QO k) (QO j)) (BY s) (BR s) (DC (XS s) (U7 k j) (iI k j) (AK (λl=>aW l k (VN k l) (VN j l) (VW k l) (VW j l))) (nM s k (Of s j)) (kQ s k (nW s j)) (pK s k (nJ s j)) Fg (λl=>gY l (VU s k l) (VU s j l))))) (Ng k s) (wA k) (wZ k (J5 j)) (wC s k s) (Nk k s k (vS k))))) (BOD (λk=>BO (AJ (Ng k s) (wA k) (wZ k (J5 j)) (wC s k s) (Nk k s k (vS k))) (AHT (λl=>HR (oV (iI l k) (GP XQ (AV (QO l) (QO k)) (BY s) (BR s) (DC (XS s) (U7 l k) (iI l k) (AK (λm=>aW m l (VN l m) (VN k m) (VW l m) (VW k m))) (nM s l (Of s k)) (kQ s l (nW s k)) (pK s l (nJ s k)) Fg (λm=>gY m (VU s l m) (VU s k m))))) (AY (Ng l s) (ADS l) (wC s l s) (Nk l s l (QO l))) 2 (QO l) (QO j)))))) ((@Exists PtK) (λk=>CK (Yp (AR (aA k) (XT j)) (BY s) (RY (BR s) (XS s) (AV (Mf k) (W9 j)) (AR (aA k) (XT j)) (λl=>DO l (aA k) (Oi (tE k) l) (VN j l) (Nf (tE k) l) (VW j l)))) (AH (KQ (Mf k) s) (FW (Mf k)) (BXG (tE k) (Tm s (Mf k)))) (oH s k) (Fb s)))))) (BLT (Iv (qS (AA s)))))) ((λ(f:PtK->Prop)=>∀(x:PtK),f x) (λi=>CX (AH (KQ (Mf i) s) (FW (Mf i)) (BXG (tE i) (Tm s (Mf i)))) (Mf i) (HV s) (AH (Cm (Mf i) s) (AHT (λj=>AJ (oV (oD j (aA i)) (GP XQ (BS (QO j)) (BY s) (BR s) (DC (XS s) (BUE j (Mf i)) (oD j (aA i)) (AK (λk=>aW k j (VN j k) (Oi (tE i) k) (VW j k) (Nf (tE i) k))) (nM s j (DI s (Mf i))) (kQ s j (DZ s (Mf i))) (pK s j (DY s (Mf i))) Fg (λk=>gY k (VU s j k) (RX k 0 (DZ s (Mf i)) (DY s (Mf i))))))) (Ng j s) (ADS j) (O5 s j (oH s i)) (Nk j s j (QO j)))) (BOD (λj=>CX (AY (Ng j s) (ADS j) (O5 s j (oH s i)) (Nk j s j (QO j))) (QO j) 2 (It (PC (And (DU (QO j) 2) (KO (uK j) 2)) (ZH (nO (AR (xF j) (XT j)) (AI (Of s j)) (AI (VU s j (uK j))) (ZC (AK (λk=>DO k (xF j) (Oi (aO j) k) (VN j k) (Nf (aO j) k) (VW j k))) (oD j (xF j)) (λk=>aW k j (VN j k) (Oi (aO j) k) (VW j k) (Nf (aO j) k)) (BD (xF j)) FI))) (not (BLP (aO j) (X5 (Of s j) (VU s j (uK j))))) (And (Do (Mu (XT j) 2) 2 (Ms (XT j)) (AAT j) 16) (AHT (λk=>BB (oV (oD k (AAT j)) (GP XQ (CN (QO k) (QO j)) (BY s) (BR s) (DC (XS s) (U7 k j) (oD k (AAT j)) (AK (λl=>aW l k (VN k l) (GJ l (XT j) (VN j l) (Of s j)) (VW k l) (GJ l (XT j) (VW j l) (VU s j (uK j))))) (nM s k (Of s j)) (kQ s k (nW s j)) (pK s k (nJ s j)) Fg (λl=>gY l (VU s k l) (VU s j l))))) (Ng k s) (wA k) (wZ k (J5 j)) (O5 s k (oH s i)) (Nk k s k (vS k))))) (AHT (λk=>BB (oV (iI k j) (GP XQ (CN (QO k) (QO j)) (BY s) (BR s) (DC (XS s) (U7 k j) (iI k j) (AK (λl=>aW l k (VN k l) (VN j l) (VW k l) (VW j l))) (nM s k (Of s j)) (kQ s k (nW s j)) (pK s k (nJ s j)) Fg (λl=>gY l (VU s k l) (VU s j l))))) (Ng k s) (wA k) (wZ k (J5 j)) (O5 s k (oH s i)) (Nk k s k (vS k))))) (BOD (λk=>BO (AJ (Ng k s) (wA k) (wZ k (J5 j)) (O5 s k (oH s i)) (Nk k s k (vS k))) (AHT (λl=>HR (oV (iI l k) (GP XQ (AV (QO l) (QO k)) (BY s) (BR s) (DC (XS s) (U7 l k) (iI l k) (AK (λm=>aW m l (VN l m) (VN k m) (VW l m) (VW k m))) (nM s l (Of s k)) (kQ s l (nW s k)) (pK s l (nJ s k)) Fg (λm=>gY m (VU s l m) (VU s k m))))) (AY (Ng l s) (ADS l) (O5 s l (oH s i)) (Nk l s l (QO l))) 2 (QO l) (QO j)))))) ((@Exists PtK) (λk=>CK (Yp (AR (aA k) (XT j)) (BY s) (RY (BR s) (XS s) (AV (Mf k) (W9 j)) (AR (aA k) (XT j)) (λl=>DO l (aA k) (Oi (tE k) l) (VN j l) (Nf (tE k) l) (VW j l)))) (AH (KQ (Mf k) s) (FW (Mf k)) (BXG (tE k) (Tm s (Mf k)))) (oH s k) (oH s i)))))) (QB (AR (qS (AA s)) (aA i)) (BP (aA i)) (aA i) (AK (λj=>DO j (qS (AA s)) (Oi (AA s) j) (Oi (tE i) (BP j)) (Nf (AA s) j) (Nf (tE i) (BP j)))))))):=by kernel_rfl
theorem BTZ(l:List Pt)(p:Pt):(addP l p).length<=l.length+1:=by unfold addP;split<;>simp
theorem BTW{s:List Gau}{k:Nat}(h:k<s.length):Tm s (k+1)=addG (Tm s k) (gD s k):=by
 unfold Tm;rw[WX h,List.foldl_append];rfl
theorem kL{s:List Gau}:∀k,k<=s.length->(Tm s k).length<=2*k
 |0,_=>by simp[Tm]
 |k+1,h=>by
  rw[BTW (by omega)]
  have:=kL (s:=s) k (by omega)
  have h1:=BTZ (Tm s k) ⟨(gD s k).st,(gD s k).lo⟩
  have h2:=BTZ (addP (Tm s k) ⟨(gD s k).st,(gD s k).lo⟩) ⟨(gD s k).st,(gD s k).hi⟩
  unfold addG;omega
theorem CJP{s:List Gau}{k j:Nat}(h:k<s.length)(hj:j<2):AGQ s k (j+1)=addP (AGQ s k j) ⟨(gD s k).st,gD [(gD s k).lo,(gD s k).hi] j⟩:=by
 match j,hj with
 |0,_=>rfl
 |1,_=>exact BTW h
theorem CSA{s:List Gau}{k j:Nat}(h:k<s.length)(hj:j<=2):(AGQ s k j).length<=2*s.length:=by
 match j,hj with
 |0,_=>have:=kL (s:=s) k (by omega);show (Tm s k).length<=_;omega
 |1,_=>
  have:=kL (s:=s) k (by omega)
  have h1:=BTZ (Tm s k) ⟨(gD s k).st,(gD s k).lo⟩
  show (addP _ _).length<=_;omega
 |2,_=>have:=kL (s:=s) (k+1) (by omega);show (Tm s (k+1)).length<=_;omega
theorem DHF{l:List Pt}{p:Pt}(h:p∈l):addP l p=l:=if_pos h
theorem DDT{l:List Pt}{p:Pt}(h:¬ p∈l):addP l p=l ++ [p]:=if_neg h
theorem DOQ(l:List Pt)(p:Pt)(i:Nat)(hi:i<(l ++ [p]).length):((gD (l ++ [p]) i).st=bif decide (i<l.length) then (gD l i).st else p.st)/\(gD (l ++ [p]) i).fl=bif decide (i<l.length) then (gD l i).fl else p.fl:=by
 rw[J8 _ _ (by simpa using hi)]
 cases decide (i<l.length)<;>exact⟨rfl,rfl⟩
theorem DRA(s:List Gau)(hn:s.length<1073741824):CVC s:=by
 rw[DFS]<;> delta JB Oz NE AR AK BO CI AO AU UH EA DV JD DJ DX OP IS FI QJ SG QT Pg BJ jJ ZY Ip Me tC EY GW Yk fF X5 CW FX qS W6 BLP CQS qW AHT QO W9 BXG BOD tE Mf AH AJ AZ EV AI It BI FJ pE BLT nO DK AP DI DY BZ ED BC DZ GQ JF HE EU QL Dh AQ BP GY UW AY GV BY BB CK JZ HV VQ XT BD DR CE OH QW Ce EC AV BPY BK DO ES FU GC KQ FF HO VF FW JO BR CN GJ GP CX NT Ji nW nJ DC XS ZI Bo CL UQ Fb BS HR DU Xl HG Ov RY Jr MK LD KO U2 Of VW VN Fg AVE Ht RV Fp RX oD Je VU aO El Hf XQ Ir Ng QB O5 J5 Hg PC Nk Cm Oi Nf aA ZH Ms Iv ZC iI Kl AER BUE oH Ru uK xF vS ARX Mu nM wZ pK Do wA oV gZ kQ aW gY wC Wl U7 ADS AAT O8 C8 Yp;simp only[CC,eq_self,implies_true,forall_const]
 have cut:∀(q m:Nat) (c:PtJ),c.k<s.length/\c.j<2/\2-c.j<=m/\s.length-c.k<=q/\c.l=AGQ s c.k (c.j+1)->∃b:PtJ,(b.l.length=c.l.length/\(b.j:Int)=IntKind.i64.wrap ((c.j:Int)+1)/\(b.k:Int)=c.k/\b.l.length=c.l.length/\(∀(i:Nat),i<b.l.length->(gD b.l i).st=(gD c.l i).st/\(gD b.l i).fl=(gD c.l i).fl)/\(gD s b.k).st=(gD s c.k).st/\(gD s b.k).lo=(gD s c.k).lo/\(gD s b.k).hi=(gD s c.k).hi/\∀(i:Nat),i<2->gD [(gD s b.k).lo,(gD s b.k).hi] i=gD [(gD s c.k).lo,(gD s c.k).hi] i)/\(b.k<s.length/\b.j<=2/\s.length-b.k<=q/\b.l=AGQ s b.k b.j)/\2-b.j<m:=λq m c hc=>
  ⟨⟨c.k,c.j+1,c.l⟩,⟨rfl,(FN (by omega)).symm,rfl,rfl,λ_ _=>⟨rfl,rfl⟩,rfl,rfl,rfl,λ_ _=>rfl⟩,⟨hc.1,by show c.j+1<=2;omega,hc.2.2.2.1,hc.2.2.2.2⟩,by show 2-(c.j+1)<m;omega⟩
 have go:∀(q:Nat) (b:PtJ),b.k<s.length/\b.j<=2/\s.length-b.k<=q/\b.l=AGQ s b.k b.j->(b.j:Int)<2->b.l.length<4611686018427387904/\b.l.length<9223372036854775807/\(b.l.length+1)*16<=140737488355328/\∀p:Pt,p=⟨(gD s b.k).st,gD [(gD s b.k).lo,(gD s b.k).hi] b.j⟩->(¬ p∈b.l->b.l ++ [p]=AGQ s b.k (b.j+1))/\(p∈b.l->b.l=AGQ s b.k (b.j+1)):=λq b hb hj=>by
  have hl:=CSA hb.1 hb.2.1
  rw[<-hb.2.2.2] at hl
  refine⟨by omega,by omega,by omega,λp hp=>?_⟩
  rw[CJP hb.1 (by omega),<-hb.2.2.2,<-hp]
  exact⟨λh=>(DDT h).symm,λh=>(DHF h).symm⟩
 have two:∀(g:Gau) (i:Nat),i<2->gD [g.lo,g.hi] i=bif decide (i=0) then g.lo else g.hi:=λg i hi=>by
  match i,hi with
  |0,_=>rfl
  |1,_=>rfl
 refine⟨⟨default,trivial⟩,⟨λh0=>⟨⟨by omega,by omega⟩,⟨default,two _,by omega⟩,λh1=>⟨⟨⟨by omega,by omega⟩,by omega,by simp,⟨⟨0,0,[⟨(gD s 0).st,(gD s 0).lo⟩]⟩,⟨rfl,rfl,rfl,rfl,λi hi=>?_,rfl,rfl,rfl,λ_ _=>rfl⟩,h1,by simp,by simp,by simp,rfl⟩⟩,cut _ _⟩,
  λb hb=>⟨λhj=>⟨⟨⟨by omega,by omega⟩,(go _ b hb hj).1,λhm=>⟨⟨by simp,by simp,(go _ b hb hj).2.1,(go _ b hb hj).2.2.1⟩,⟨b.k,b.j,b.l ++ [_]⟩,⟨by simp,rfl,rfl,by simp,DOQ b.l _,rfl,rfl,rfl,λ_ _=>rfl⟩,hb.1,by show b.j<2;omega,Nat.le_refl _,hb.2.2.1,((go _ b hb hj).2.2.2 _ rfl).1 hm⟩,λhm=>⟨⟨b.k,b.j,b.l⟩,⟨rfl,rfl,rfl,rfl,λ_ _=>⟨rfl,rfl⟩,rfl,rfl,rfl,λ_ _=>rfl⟩,hb.1,by show b.j<2;omega,Nat.le_refl _,hb.2.2.1,((go _ b hb hj).2.2.2 _ rfl).2 hm⟩⟩,cut _ _⟩,λhj=>?_⟩⟩,λh0=>?_⟩,
  λa ha=>⟨λhk=>⟨⟨by omega,by omega⟩,⟨⟨a.k,0,a.l⟩,⟨rfl,rfl,rfl,rfl,λ_ _=>⟨rfl,rfl⟩,rfl,rfl,rfl,two _⟩,by show a.k<_;omega,by simp,Nat.le_refl _,ha.2.2⟩,
  λb hb=>⟨λhj=>⟨⟨⟨by omega,by omega⟩,(go _ b hb hj).1,λhm=>⟨⟨by simp,by simp,(go _ b hb hj).2.1,(go _ b hb hj).2.2.1⟩,⟨b.k,b.j,b.l ++ [_]⟩,⟨by simp,rfl,rfl,by simp,DOQ b.l _,rfl,rfl,rfl,λ_ _=>rfl⟩,hb.1,by show b.j<2;omega,Nat.le_refl _,hb.2.2.1,((go _ b hb hj).2.2.2 _ rfl).1 hm⟩,λhm=>⟨⟨b.k,b.j,b.l⟩,⟨rfl,rfl,rfl,rfl,λ_ _=>⟨rfl,rfl⟩,rfl,rfl,rfl,λ_ _=>rfl⟩,hb.1,by show b.j<2;omega,Nat.le_refl _,hb.2.2.1,((go _ b hb hj).2.2.2 _ rfl).2 hm⟩⟩,cut _ _⟩,λhj=>?_⟩⟩,λhk=>?_⟩⟩
 ·have:i=0:=by have hi:i<1:=hi;omega
  subst this;exact⟨rfl,rfl⟩
 ·have h2:b.j=2:=by omega
  exact⟨⟨b.k+1,b.l⟩,⟨rfl,(FN (by omega)).symm,rfl,λ_ _=>⟨rfl,rfl⟩⟩,⟨by show b.k+1<=_;omega,Nat.succ_pos _,by rw[hb.2.2.2,h2];rfl⟩,by show s.length-(b.k+1)<_;omega⟩
 ·have:s=[]:=List.eq_nil_of_length_eq_zero (by omega)
  subst this;rfl
 ·have h2:b.j=2:=by omega
  exact⟨⟨b.k+1,b.l⟩,⟨rfl,(FN (by omega)).symm,rfl,λ_ _=>⟨rfl,rfl⟩⟩,⟨by show b.k+1<=_;omega,Nat.succ_pos _,by rw[hb.2.2.2,h2];rfl⟩,by show s.length-(b.k+1)<_;omega⟩
 ·have e:a.l=AA s:=by rw[ha.2.2];unfold Tm AA;rw[List.take_of_length_le (by omega)]
  rw[<-e]
  exact⟨rfl,Nat.le_refl _,λ_ _=>⟨rfl,rfl⟩⟩
theorem BBN:AM Try.prog BQQ (C_ends.spec xY):=WY C_ends DCR [] [301] DGC (λ_=>by kernel_rfl) (λ_=>AB (BEQ DJM DGU) AG) (λ(s:List Gau) h=>DRA s (show s.length<1073741824/\True from h).1) (λ_=>YE rfl rfl) _
end Go.Bal
