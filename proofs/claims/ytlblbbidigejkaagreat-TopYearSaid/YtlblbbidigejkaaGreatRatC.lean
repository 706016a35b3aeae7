/- Package rating: ends of spans. -/
import Derived.Test.YtlblbbidigejkaaGreatRatN
set_option linter.unusedVariables false
set_option linter.unusedSimpArgs false
namespace Go.Bal
open Go Go.Sym Go.Proofs
structure PP where
 l:List Pt
 p:Pt
def eqP(p q:Pt):Bool:=p.st==q.st&&p.fl==q.fl
def dPP:List AVal->Heap->Option (PP×List (Nat×Nat)×List Nat)
 |[y,.d p],H=>match dPts y H with
  |some (l,f)=>some (⟨l,dPt p⟩,[],f)
  |none=>none
 |_,_=>none
def xPP(a:PP):List AVal:=[.d (ePts a.l),.d (ePt a.p)]
def C_idxP:Ctr:={ α:=PP,xs:=xPP,L:=λ_=>[],val:=λa=>.int (TE (λi=>eqP a.p (gD a.l i)) a.l.length 0),keep:=λ_=>[],pre:=λa=>[a.l.length<4611686018427387904/\True] }
def CBJ(a:PP):Ann:={ ann 19 [] with loops:=λid=>if id=2 then some [{ α:=Nat,dflt:=0,T:=λk=>⟨[(0,.d (ePts a.l)),(3,.bptr 201 0),(7,.int a.l.length),(8,.int k)],[(201,.live (.box [.int a.p.st,.int a.p.fl]))]⟩,inv:=λk=>k<=a.l.length/\TE (λi=>eqP a.p (gD a.l i)) a.l.length 0=TE (λi=>eqP a.p (gD a.l i)) (a.l.length-k) k,meas:=λk=>a.l.length-k,first:=[(201,1000)] }] else none }
def CHS(a:PP):Prop:=AS ZP (CBJ a) Tryz.f165 (AG Tryz.f165) (xPP a) (AC []) (C_idxP.val a) [] [] []
abbrev ALL:=@List.length Pt
abbrev ALX:=@gD Pt instInhabitedPt
abbrev BBZ a(b:Nat->Pt) c d:=TE (λi=>eqP (PP.p a) (b i)) c d
abbrev ARO a b:=ALX (PP.l a) b
abbrev I6 a b c d:=BBZ a (λi=>ARO b i) c d
abbrev GH a:=ALL (PP.l a)
abbrev bL a b c d:=AN (I6 a b (GH c) 0) d
abbrev tO a:=N5 (PP.p a)
abbrev rJ a:=vU (PP.p a)
abbrev Oi a b:=N5 (ARO a b)
abbrev Px a b:=vU (ARO a b)
attribute [go_sem] ALL ALX BBZ ARO I6 GH bL tO rJ Oi Px
theorem CMT(a:PP):(CHS a)=(LR (λi=>DK (Wt (GH a) (CB (AE (λj=>Vx j (GH a) (Px a j) (Oi a j))) (BY (GH a)) (BC i) (AI (rJ a)) (AI (tO a)))) i (GH a) (bL a a a (I6 a a (KO (GH a) i) i))) (λi=>WR i (GH a) (bL a a a (I6 a a (KO (GH a) i) i)) (CL i (GH a)) (YL (and (wP (rJ a) (Px a i)) (and (wP (tO a) (Oi a i)) Fa)) (bL a a a (AZ i)) (EA (λj=>IK (Wt (GH a) (CB (AE (λk=>Vx k (GH a) (Px a k) (Oi a k))) (BY (GH a)) (AR j i) (AI (rJ a)) (AI (tO a)))) j (GH a) (bL a a a (I6 a a (KO (GH a) j) j)) i))) (bL a a a (-1)))):=by kernel_rfl
def rowP(l:List Pt):AObj:=.row 2 l.length λi=>ePt (gD l i)
def xPo(a:PP):List AVal:=[.own 100 2 0 a.l.length,.d (ePt a.p)]
def dPo:List AVal->Heap->Option (PP×List (Nat×Nat)×List Nat)
 |[.own id _ _ n,.d p],H=>match H id with
  | .live (.row _ _ g)=>some (⟨HQ n λi=>dPt (g i),dPt p⟩,[(100,id)],[])
  |_=>none
 |_,_=>none
def C_idxO:Ctr:={ ro:=[100],α:=PP,xs:=xPo,L:=λa=>[(100,rowP a.l)],val:=λa=>.int (TE (λi=>eqP a.p (gD a.l i)) a.l.length 0),keep:=λa=>[(100,.live (rowP a.l))],pre:=λa=>[a.l.length<4611686018427387904/\True] }
def CEZ(a:PP):Ann:={ ann 19 [] with E:=[100],loops:=λid=>if id=2 then some [{ α:=Nat,dflt:=0,T:=λk=>⟨[(0,.own 100 2 0 a.l.length),(3,.bptr 201 0),(7,.int a.l.length),(8,.int k)],[(100,.live (rowP a.l)),(201,.live (.box [.int a.p.st,.int a.p.fl]))]⟩,inv:=λk=>k<=a.l.length/\TE (λi=>eqP a.p (gD a.l i)) a.l.length 0=TE (λi=>eqP a.p (gD a.l i)) (a.l.length-k) k,meas:=λk=>a.l.length-k,first:=[(201,1000)] }] else none }
def CHC(a:PP):Prop:=AS ZP (CEZ a) Tryz.f165 (AG Tryz.f165) (xPo a) (AC (C_idxO.L a)) (C_idxO.val a) (C_idxO.keep a) [] []
abbrev D3 a:=BI (GH a)
attribute [go_sem] D3
theorem CPN(a:PP):(CHC a)=(LR (λi=>CV AB (LZ (D3 a) (AZ (GH a)) (UY (BC i) (D3 a) (λj=>Vx j (GH a) (Px a j) (Oi a j)) (AI (rJ a)) (AI (tO a)))) (DC i (GH a)) (bL a a a (I6 a a (KO (GH a) i) i))) (λi=>WR i (GH a) (bL a a a (I6 a a (KO (GH a) i) i)) (rD i (GH a) (FI (AJ i) (GH a))) (YL (and (wP (rJ a) (Px a (AJ i))) (and (wP (tO a) (Oi a (AJ i))) Fa)) (Mp (bL a a a (AZ i)) (D3 a) (λj=>Vx j (GH a) (Px a j) (Oi a j))) (EA (λj=>IK (VK (LZ (D3 a) (AZ (GH a)) (UY (AR j i) (D3 a) (λk=>Vx k (GH a) (Px a k) (Oi a k)) (AI (rJ a)) (AI (tO a))))) j (GH a) (bL a a a (I6 a a (KO (GH a) j) j)) i))) (Mp (bL a a a (-1)) (D3 a) (λj=>Vx j (GH a) (Px a j) (Oi a j))))):=by kernel_rfl
theorem CQS(p q:Pt):(p.st==q.st&&(p.fl==q.fl&&true))=eqP p q:=by unfold eqP;rw[Bool.and_true]
theorem CGS{p:Nat->Bool}{n:Nat}(h:n<4611686018427387904):(∃a:Nat,(a:Int)=0/\a<=n/\TE p n 0=TE p (n-a) a)/\∀a:Nat,a<=n/\TE p n 0=TE p (n-a) a->((a:Int)<n->(0<=(a:Int)/\(a:Int)<n)/\(p a=true->TE p n 0=a)/\(p a=false->∃b:Nat,(b:Int)=IntKind.i64.wrap ((a:Int)+1)/\(b<=n/\TE p n 0=TE p (n-b) b)/\n-b<n-a))/\(¬(a:Int)<n->TE p n 0=-1):=by
 refine⟨⟨0,rfl,Nat.zero_le _,rfl⟩,λa ⟨h1,h2⟩=>⟨λhlt=>?_,λhge=>?_⟩⟩
 ·have hlt:a<n:=by omega
  refine⟨⟨by omega,by omega⟩,λhp=>?_,λhp=>⟨a+1,(BJ (by omega)).symm,⟨by omega,?_⟩,by omega⟩⟩
  ·rw[h2];exact YB hlt hp
  ·rw[h2];exact Wv hlt hp
 ·rw[h2];exact Ge (by omega)
theorem COG:AH ZP 165 (C_idxP.spec dPP):=MK C_idxP CBJ [] [] Tryz.func165 (λ_=>by kernel_rfl) (λ_=>AD) (λ(a:PP) h=>by
 show CHS a;rw[CMT]<;> dsimp only[go_sem];simp only[CC,CU,CQS]
 have h:a.l.length<4611686018427387904/\True:=h
 exact CGS h.1) (λ_=>OA rfl rfl) _
theorem CMA:AH ZP 165 (C_idxO.spec dPo):=MK C_idxO CEZ [] [] Tryz.func165 (λ_=>by kernel_rfl) (λ_=>AD) (λ(a:PP) h=>by
 show CHC a;rw[CPN]<;> dsimp only[go_sem];simp only[CC,CU,CQS]
 have h:a.l.length<4611686018427387904/\True:=h
 obtain⟨e1,e2⟩:=CGS (p:=λi=>eqP a.p (gD a.l i)) h.1
 exact⟨e1,λk hk=>⟨λhl=>⟨⟨((e2 k hk).1 hl).1,by omega⟩,((e2 k hk).1 hl).2⟩,(e2 k hk).2⟩⟩) (λ_=>OA rfl rfl) _
theorem BTK{a:PP}:decide (a.p∈a.l)=decide (TE (λi=>eqP a.p (gD a.l i)) a.l.length 0>=0):=by
 rw[Bool.eq_iff_iff]
 simp only[decide_eq_true_eq,ge_iff_le,BOT,Nat.zero_le,Nat.zero_add,true_and]
 have e:∀q:Pt,eqP a.p q=true↔a.p=q:=λq=>by
  obtain⟨⟨⟩,⟨x,y⟩⟩:=a
  all_goals obtain⟨z,w⟩:=q;simp[eqP]
 constructor
 ·intro h
  obtain⟨i,hi,hx⟩:=Hq h
  exact⟨i,hi,(e _).2 hx.symm⟩
 ·rintro⟨i,hi,hx⟩
  rw[(e _).1 hx];exact FD hi
def C_conO:Ctr:={ C_idxO with val:=λ(a:PP)=>.bool (decide (a.p∈a.l)) }
def CFX:Ann:={ ann 9 [(165,C_idxO.spec dPo)] with E:=[100] }
def CKB(a:PP):Prop:=AS ZP CFX Tryz.f155 (AG Tryz.f155) (xPo a) (AC (C_conO.L a)) (C_conO.val a) (C_conO.keep a) [] []
abbrev BGO:=λ(x0:List Pt) (x1:Pt)=>decide (x1∈x0)
abbrev jA a:=(@HQ Pt) (GH a) (λi=>ARO a i)
abbrev jJ a:=ALL (jA a)
abbrev Bp a b:=N5 (ALX a b)
abbrev Cq a b:=vU (ALX a b)
attribute [go_sem] BGO jA jJ Bp Cq
theorem COE(a:PP):(CKB a)=(Hl (VK (Z8 (BB (jJ a) (GH a)) (AI (rJ a)) (AI (tO a)) (AE (λi=>Bh i (jJ a) (Cq (jA a) i) (Px a i) (Bp (jA a) i) (Oi a i))) (BB (GH a) (jJ a)) (AE (λi=>Bh i (GH a) (Px a i) (Cq (jA a) i) (Oi a i) (Bp (jA a) i))) (JY (jJ a)) EB)) (Sr (BGO (PP.l a) (PP.p a)) (hd6 (BBZ a (λi=>ALX (jA a) i) (jJ a) 0) 0)) (D3 a) (λi=>Vx i (GH a) (Px a i) (Oi a i))):=by kernel_rfl
def C_conP:Ctr:={ C_idxP with val:=λ(a:PP)=>.bool (decide (a.p∈a.l)) }
def CBZ:Ann:=ann 9 [(165,C_idxP.spec dPP)]
def CAS(a:PP):Prop:=AS ZP CBZ Tryz.f155 (AG Tryz.f155) (xPP a) (AC []) (C_conP.val a) [] [] []
theorem CNJ(a:PP):(CAS a)=(EM (BB (jJ a) (GH a)) (DO (AE (λi=>Bh i (jJ a) (Cq (jA a) i) (Px a i) (Bp (jA a) i) (Oi a i))) (rJ a) (tO a) (JY (jJ a)) EB) (Sr (BGO (PP.l a) (PP.p a)) (hd6 (BBZ a (λi=>ALX (jA a) i) (jJ a) 0) 0))):=by kernel_rfl
theorem CNG:AH ZP 155 (C_conO.spec dPo):=Ctr.spec_ok (C:=C_conO) (λ(a:PP) h=>TF (A:=CFX) (ren:=[]) (fz:=[]) Tryz.func155 (by kernel_rfl) (AA CMA AD) (by
 show CKB a;rw[COE]<;> dsimp only[go_sem];simp only[CC,CU]
 have h:a.l.length<4611686018427387904/\True:=h
 exact⟨h.1,BTK⟩)) _
theorem CNA:AH ZP 155 (C_conP.spec dPP):=Ctr.spec_ok (C:=C_conP) (λ(a:PP) h=>TF (A:=CBZ) (L:=[]) (keep:=[]) (ren:=[]) (fz:=[]) Tryz.func155 (by kernel_rfl) (AA COG AD) (by
 show CAS a;rw[CNJ]<;> dsimp only[go_sem];simp only[CC,CU]
 have h:a.l.length<4611686018427387904/\True:=h
 exact⟨h.1,BTK⟩)) _
def addP(l:List Pt)(p:Pt):List Pt:=if p∈l then l else l ++ [p]
def addG(l:List Pt)(g:Gau):List Pt:=addP (addP l ⟨g.st,g.lo⟩) ⟨g.st,g.hi⟩
def AF(s:List Gau):List Pt:=s.foldl addG []
def Ng(s:List Gau)(k:Nat):List Pt:=(s.take k).foldl addG []
def K1(s:List Gau)(k j:Nat):List Pt:=if j=0 then Ng s k else if j=1 then addP (Ng s k) ⟨(gD s k).st,(gD s k).lo⟩ else Ng s (k+1)
structure PtK where
 k:Nat
 l:List Pt
 deriving Inhabited
structure PtJ where
 k:Nat
 j:Nat
 l:List Pt
 deriving Inhabited
def enS(s:List Gau)(k:Nat):List (Nat×AVal):=[(9,.d (TB s)),(10,.int s.length),(11,.int k)]
def enI(s:List Gau)(k j:Nat):List (Nat×AVal):=[(5,.bptr 302 0),(21,.own 303 1 0 2),(22,.int 2),(23,.int j)] ++ enS s k
def enH(g:Gau):List (Nat×HCell):=[(302,.live (.box [.int g.st,.int g.lo,.int g.hi])),(303,.live (.row 1 2 λi=>CF (gD [g.lo,g.hi] i)))]
def enN(s:List Gau):Shape:={ α:=One,dflt:=default,T:=λ_=>⟨(3,.d JX) :: enS s 0,[]⟩,inv:=λ_=>True,meas:=λ_=>s.length+1,tag:=[0] }
def enO(s:List Gau):Shape:={ α:=PtK,dflt:=default,T:=λx=>⟨(3,.own 301 2 0 x.l.length) :: enS s x.k,[(301,.live (rowP x.l))]⟩,inv:=λx=>x.k<=s.length/\1<=x.k/\x.l=Ng s x.k,meas:=λx=>s.length-x.k,tag:=[1] }
def enA(s:List Gau):Shape:={ α:=One,dflt:=default,T:=λ_=>⟨(3,.d JX) :: enI s 0 0,enH (gD s 0)⟩,inv:=λ_=>0<s.length,meas:=λ_=>3,first:=[(302,5032),(303,6096)] }
def enB(s:List Gau)(q:Nat):Shape:={ α:=PtJ,dflt:=default,T:=λx=>⟨(3,.own 301 2 0 x.l.length) :: enI s x.k x.j,(301,.live (rowP x.l)) :: enH (gD s x.k)⟩,inv:=λx=>x.k<s.length/\x.j<=2/\s.length-x.k<=q/\x.l=K1 s x.k x.j,meas:=λx=>2-x.j,first:=[(302,5032),(303,6096)] }
def enC(s:List Gau)(m q:Nat)(f:List (Nat×Nat)):Shape:={ α:=PtJ,dflt:=default,T:=λx=>⟨(3,.own 301 2 0 x.l.length) :: enI s x.k x.j,(301,.live (rowP x.l)) :: enH (gD s x.k)⟩,inv:=λx=>x.k<s.length/\x.j<2/\2-x.j<=m/\s.length-x.k<=q/\x.l=K1 s x.k (x.j+1),meas:=λ_=>0,first:=f }
def C_ends:Ctr:={ α:=List Gau,xs:=λl=>[.d (TB l)],L:=λ_=>[],val:=λl=>.d (ePts (AF l)),keep:=λ_=>[],pre:=λl=>[l.length<1073741824/\True] }
def CED(s:List Gau):Ann:={ ann 42 [(155,orS (C_conO.spec dPo) (C_conP.spec dPP))] with mt:=λid=>id==10,loops:=λid=>if id=3 then some [enN s,enO s] else none,inner:=λgs id=>if id=6 then (if gs.getD 1 0=0 then some [enA s,enB s (gs.getD 0 0)] else some [enB s (gs.getD 0 0)]) else none,cutIn:=λgs id=>if id=11 then some [enC s (gs.getD 0 0) (gs.getD 1 0) [(301,11048)],enC s (gs.getD 0 0) (gs.getD 1 0) []] else none }
def CIU(s:List Gau):Prop:=AS ZP (CED s) Tryz.f134 (AG Tryz.f134) (C_ends.xs s) (AC []) (C_ends.val s) [] [] [301]
abbrev CKH:=@List.cons Int
abbrev S9:=@List.nil Int
abbrev V4:=@Exists PtJ
abbrev GL:=PtJ.j
abbrev zA:=PtJ.k
abbrev BIL:=@Eq (List Pt)
abbrev AXH:=λ(f:PtJ->Prop)=>∀(x:PtJ),f x
abbrev lT:=PtK.l
abbrev SZ:=PtK.k
abbrev dB:=AF
abbrev sF a:=ALL (dB a)
abbrev Ui a:=ALL (lT a)
abbrev Fj a b c d e f g h:=AO a b c (CB d e f g h)
abbrev BBR a b:=ALX (PtJ.l a) b
abbrev QJ a b:=N5 (BBR a b)
abbrev QQ a b:=vU (BBR a b)
abbrev OM a:=ALL (PtJ.l a)
abbrev zC a b:=BB a (OM b)
abbrev Mn a:=BY (DW a)
abbrev BEG a b:=AE (λi=>Yk i a b)
abbrev Gy a:=BEG (DW a) a
abbrev Hp a:=BI (DW a)
abbrev Gi a b c d:=BIL (PtJ.l a) (K1 b (zA c) d)
abbrev AQY a b c:=DC (KO a b) c
abbrev zK a b c:=AQY (DW a) (zA b) c
abbrev Gg a b:=OB (zA a) (DW b)
abbrev RI a b c d e f g h:=AP a b a c d e f g h
abbrev bY a b c d:=HB a 2 (BLG b c d)
abbrev AIW a b:=CKH a (CKH b S9)
abbrev gE a b:=JP a (zA b)
abbrev iW a b:=IV a (zA b)
abbrev Qz a b:=AIW (iW a b) (gE a b)
abbrev Ws a b c:=ID (Qz a b) c
abbrev iZ a b c:=AN (gE a b) c
abbrev iQ a b c:=AN (iW a b) c
abbrev Gm a b:=IH a (zA b)
abbrev gV a b c:=AN (Gm a b) c
abbrev Ud a b c d e f:=Bh a (OM b) c d e f
abbrev Zy a b:=zC (OM a) b
abbrev AYA a b:=AT (zA a) b
abbrev wU a b:=AYA a (zA b)
abbrev Ce:=aZ 2
abbrev tW a:=HN (GL a)
abbrev tA a b:=AQY 2 (GL a) b
abbrev sG a:=OB (GL a) 2
abbrev rT a:=AJ (GL a)
abbrev Vf a:=(@HQ Pt) (OM a) (λi=>BBR a i)
abbrev oO a:=ALL (Vf a)
abbrev Hw a:=BHS a 0
abbrev MW a b c:=vE (Hw a) b c
abbrev AWT a:=And a a
abbrev fF a:=BB a 0
abbrev uL a:=HN (DW a)
abbrev rU a b c:=zK a b (uL c)
abbrev zV a:=JP a 0
abbrev C6 a:=IV a 0
attribute [go_sem] CKH S9 V4 GL zA BIL AXH lT SZ dB sF Ui Fj BBR QJ QQ OM zC Mn BEG Gy Hp Gi AQY zK Gg RI bY AIW gE iW Qz Ws iZ iQ Gm gV Ud Zy AYA wU Ce tW tA sG rT Vf oO Hw MW AWT fF uL rU zV C6
theorem COS(s:List Gau):(CIU s)=(AQ (TV (BW AB AK (Hp s) (Gy s) (Mn s) AU)) (Xh (λi=>OU EB 0 (DW s) (AO (CL 0 (DW s)) (ASQ (AQ AB AK (PO AB GI (wM 2) AU (AP (Hp s) (Gy s) (Mn s) AU (AI (IH s 0)) (AI (C6 s)) (AI (zV s)) GI (AE (λj=>bY j (AIW (C6 s) (zV s)) j (MW j (C6 s) (zV s))))))) (FI 0 (DW s))) (ADG (FI 0 (DW s)) (WH (AO (rD 0 2 (FI (AJ 0) 2)) (BW AB AB (AI (IH s 0)) (ACP (AIW (C6 s) (zV s)) (AJ 0)) AAK EB) (Wr 2 16) (V4 (λj=>BW (RI AB (XS (OM j)) GI Ce (AT (GL j) 0) (Hp s) (Gy s) (DY (Mn s) (AYA j 0) (XS (OM j)) (λk=>Ud k j (QQ j k) (IH s 0) (QJ j k) (ID (AIW (C6 s) (zV s)) (AJ 0))) (gV s j (IH s 0)) (iQ s j (C6 s)) (iZ s j (zV s)) GI (AE (λk=>bY k (Qz s j) k (ID (AIW (C6 s) (zV s)) k))))) (Gg j s) (sG j) (tA j 3) (rU s j s) (Gi j s j (tW j))))) (AXH (λj=>TD (CB (Gg j s) (sG j) (tA j 3) (rU s j s) (Gi j s j (tW j))) (V4 (λk=>Kv (RI AB (Zy k j) GI Ce (AR (GL k) (GL j)) (Hp s) (Gy s) (DY (Mn s) (wU k j) (Zy k j) (λl=>Ud l k (QQ k l) (QQ j l) (QJ k l) (QJ j l)) (gV s k (Gm s j)) (iQ s k (iW s j)) (iZ s k (gE s j)) GI (AE (λl=>bY l (Qz s k) l (Ws s j l))))) (Cj (Gg k s) (GL k) 2 (rU s k s) (Gi k s k (GL k))) 2 (GL k) 3)))))) (AXH (λj=>Is (Cj (Gg j s) (GL j) 2 (rU s j s) (Gi j s j (GL j))) (RL (GL j) 2) (WH (CV (CL (GL j) 2) (FI (rT j) 2) (VK (Z8 (zC (oO j) j) (AI (Gm s j)) (ACP (Qz s j) (rT j)) (AE (λk=>Bh k (oO j) (Cq (Vf j) k) (QQ j k) (Bp (Vf j) k) (QJ j k))) (BB (OM j) (oO j)) (AE (λk=>Ud k j (QQ j k) (Cq (Vf j) k) (QJ j k) (Bp (Vf j) k))) (JY (oO j)) EB)) (FW (not (BGO (Vf j) (Pt.mk (Gm s j) (Ws s j (rT j))))) (jE (OM j)) (V4 (λk=>BW (RI AB (OK (OM k) (OM j)) GI Ce (AT (GL k) (GL j)) (Hp s) (Gy s) (DY (Mn s) (wU k j) (OK (OM k) (OM j)) (λl=>Ud l k (QQ k l) (BF l (OM j) (QQ j l) (Gm s j)) (QJ k l) (BF l (OM j) (QJ j l) (Ws s j (rT j)))) (gV s k (Gm s j)) (iQ s k (iW s j)) (iZ s k (gE s j)) GI (AE (λl=>bY l (Qz s k) l (Ws s j l))))) (Gg k s) (sG k) (tA k (KO 2 (GL j))) (rU s k s) (Gi k s k (tW k)))) (V4 (λk=>BW (RI AB (Zy k j) GI Ce (AT (GL k) (GL j)) (Hp s) (Gy s) (DY (Mn s) (wU k j) (Zy k j) (λl=>Ud l k (QQ k l) (QQ j l) (QJ k l) (QJ j l)) (gV s k (Gm s j)) (iQ s k (iW s j)) (iZ s k (gE s j)) GI (AE (λl=>bY l (Qz s k) l (Ws s j l))))) (Gg k s) (sG k) (tA k (KO 2 (GL j))) (rU s k s) (Gi k s k (tW k)))))) (AXH (λk=>TD (CB (Gg k s) (sG k) (tA k (KO 2 (GL j))) (rU s k s) (Gi k s k (tW k))) (V4 (λl=>EO (RI AB (Zy l k) GI Ce (AR (GL l) (GL k)) (Hp s) (Gy s) (DY (Mn s) (wU l k) (Zy l k) (λm=>Ud m l (QQ l m) (QQ k m) (QJ l m) (QJ k m)) (gV s l (Gm s k)) (iQ s l (iW s k)) (iZ s l (gE s k)) GI (AE (λm=>bY m (Qz s l) m (Ws s k m))))) (Cj (Gg l s) (GL l) 2 (rU s l s) (Gi l s l (GL l))) 2 (GL l) (GL j)))))) ((@Exists PtK) (λk=>Kv (Fj AB (zC (Ui k) j) (Hp s) (Gy s) (Mn s) (AR (SZ k) (zA j)) (zC (Ui k) j) (AE (λl=>Bh l (Ui k) (Cq (lT k) l) (QQ j l) (Bp (lT k) l) (QJ j l)))) (xK (DC (SZ k) (DW s)) (SZ k) (BIL (lT k) (Ng s (SZ k)))) (DW s) (SZ k) (uL s)))))) (AWT (fF (sF s))))) ((λ(f:PtK->Prop)=>∀(x:PtK),f x) (λi=>OU (xK (DC (SZ i) (DW s)) (SZ i) (BIL (lT i) (Ng s (SZ i)))) (SZ i) (DW s) (Fl (SZ i) (DW s) (V4 (λj=>TY (RI AB (BB (OM j) (Ui i)) GI Ce (BC (GL j)) (Hp s) (Gy s) (DY (Mn s) (AYA j (SZ i)) (BB (OM j) (Ui i)) (λk=>Ud k j (QQ j k) (Cq (lT i) k) (QJ j k) (Bp (lT i) k)) (gV s j (IH s (SZ i))) (iQ s j (IV s (SZ i))) (iZ s j (JP s (SZ i))) GI (AE (λk=>bY k (Qz s j) k (MW k (IV s (SZ i)) (JP s (SZ i))))))) (Gg j s) (GL j) 2 (zK s j (KO (DW s) (SZ i))) (Gi j s j (GL j)))) (AXH (λj=>Is (Cj (Gg j s) (GL j) 2 (zK s j (KO (DW s) (SZ i))) (Gi j s j (GL j))) (RL (GL j) 2) (WH (CV (CL (GL j) 2) (FI (rT j) 2) (VK (Z8 (zC (oO j) j) (AI (Gm s j)) (ACP (Qz s j) (rT j)) (AE (λk=>Bh k (oO j) (Cq (Vf j) k) (QQ j k) (Bp (Vf j) k) (QJ j k))) (BB (OM j) (oO j)) (AE (λk=>Ud k j (QQ j k) (Cq (Vf j) k) (QJ j k) (Bp (Vf j) k))) (JY (oO j)) EB)) (FW (not (BGO (Vf j) (Pt.mk (Gm s j) (Ws s j (rT j))))) (jE (OM j)) (V4 (λk=>BW (RI AB (OK (OM k) (OM j)) GI Ce (AT (GL k) (GL j)) (Hp s) (Gy s) (DY (Mn s) (wU k j) (OK (OM k) (OM j)) (λl=>Ud l k (QQ k l) (BF l (OM j) (QQ j l) (Gm s j)) (QJ k l) (BF l (OM j) (QJ j l) (Ws s j (rT j)))) (gV s k (Gm s j)) (iQ s k (iW s j)) (iZ s k (gE s j)) GI (AE (λl=>bY l (Qz s k) l (Ws s j l))))) (Gg k s) (sG k) (tA k (KO 2 (GL j))) (zK s k (KO (DW s) (SZ i))) (Gi k s k (tW k)))) (V4 (λk=>BW (RI AB (Zy k j) GI Ce (AT (GL k) (GL j)) (Hp s) (Gy s) (DY (Mn s) (wU k j) (Zy k j) (λl=>Ud l k (QQ k l) (QQ j l) (QJ k l) (QJ j l)) (gV s k (Gm s j)) (iQ s k (iW s j)) (iZ s k (gE s j)) GI (AE (λl=>bY l (Qz s k) l (Ws s j l))))) (Gg k s) (sG k) (tA k (KO 2 (GL j))) (zK s k (KO (DW s) (SZ i))) (Gi k s k (tW k)))))) (AXH (λk=>TD (CB (Gg k s) (sG k) (tA k (KO 2 (GL j))) (zK s k (KO (DW s) (SZ i))) (Gi k s k (tW k))) (V4 (λl=>EO (RI AB (Zy l k) GI Ce (AR (GL l) (GL k)) (Hp s) (Gy s) (DY (Mn s) (wU l k) (Zy l k) (λm=>Ud m l (QQ l m) (QQ k m) (QJ l m) (QJ k m)) (gV s l (Gm s k)) (iQ s l (iW s k)) (iZ s l (gE s k)) GI (AE (λm=>bY m (Qz s l) m (Ws s k m))))) (Cj (Gg l s) (GL l) 2 (zK s l (KO (DW s) (SZ i))) (Gi l s l (GL l))) 2 (GL l) (GL j)))))) ((@Exists PtK) (λk=>EO (Fj AB (zC (Ui k) j) (Hp s) (Gy s) (Mn s) (AR (SZ k) (zA j)) (zC (Ui k) j) (AE (λl=>Bh l (Ui k) (Cq (lT k) l) (QQ j l) (Bp (lT k) l) (QJ j l)))) (xK (DC (SZ k) (DW s)) (SZ k) (BIL (lT k) (Ng s (SZ k)))) (DW s) (SZ k) (SZ i)))))) (DK (BB (sF s) (Ui i)) (AJ (Ui i)) (Ui i) (AE (λj=>Bh j (sF s) (Cq (dB s) j) (Cq (lT i) (AJ j)) (Bp (dB s) j) (Bp (lT i) (AJ j)))))))):=by kernel_rfl
theorem ATQ(l:List Pt)(p:Pt):(addP l p).length<=l.length+1:=by unfold addP;split<;>simp
theorem ARN{s:List Gau}{k:Nat}(h:k<s.length):Ng s (k+1)=addG (Ng s k) (gD s k):=by
 unfold Ng;rw[YG h,List.foldl_append];rfl
theorem kU{s:List Gau}:∀k,k<=s.length->(Ng s k).length<=2*k
 |0,_=>by simp[Ng]
 |k+1,h=>by
  rw[ARN (by omega)]
  have:=kU (s:=s) k (by omega)
  have h1:=ATQ (Ng s k) ⟨(gD s k).st,(gD s k).lo⟩
  have h2:=ATQ (addP (Ng s k) ⟨(gD s k).st,(gD s k).lo⟩) ⟨(gD s k).st,(gD s k).hi⟩
  unfold addG;omega
theorem BLZ{s:List Gau}{k j:Nat}(h:k<s.length)(hj:j<2):K1 s k (j+1)=addP (K1 s k j) ⟨(gD s k).st,gD [(gD s k).lo,(gD s k).hi] j⟩:=by
 match j,hj with
 |0,_=>rfl
 |1,_=>exact ARN h
theorem BXM{s:List Gau}{k j:Nat}(h:k<s.length)(hj:j<=2):(K1 s k j).length<=2*s.length:=by
 match j,hj with
 |0,_=>have:=kU (s:=s) k (by omega);show (Ng s k).length<=_;omega
 |1,_=>
  have:=kU (s:=s) k (by omega)
  have h1:=ATQ (Ng s k) ⟨(gD s k).st,(gD s k).lo⟩
  show (addP _ _).length<=_;omega
 |2,_=>have:=kU (s:=s) (k+1) (by omega);show (Ng s (k+1)).length<=_;omega
theorem CQD{l:List Pt}{p:Pt}(h:p∈l):addP l p=l:=if_pos h
theorem CAA{l:List Pt}{p:Pt}(h:¬ p∈l):addP l p=l ++ [p]:=if_neg h
theorem CUQ(l:List Pt)(p:Pt)(i:Nat)(hi:i<(l ++ [p]).length):((gD (l ++ [p]) i).st=bif decide (i<l.length) then (gD l i).st else p.st)/\(gD (l ++ [p]) i).fl=bif decide (i<l.length) then (gD l i).fl else p.fl:=by
 rw[P2 _ _ (by simpa using hi)]
 cases decide (i<l.length)<;>exact⟨rfl,rfl⟩
theorem CXQ(s:List Gau)(hn:s.length<1073741824):CIU s:=by
 rw[COS]<;> dsimp only[go_sem];simp only[CC,CU]
 have cut:∀(q m:Nat) (c:PtJ),c.k<s.length/\c.j<2/\2-c.j<=m/\s.length-c.k<=q/\c.l=K1 s c.k (c.j+1)->∃b:PtJ,(b.l.length=c.l.length/\(b.j:Int)=IntKind.i64.wrap ((c.j:Int)+1)/\(b.k:Int)=c.k/\b.l.length=c.l.length/\(∀(i:Nat),i<b.l.length->(gD b.l i).st=(gD c.l i).st/\(gD b.l i).fl=(gD c.l i).fl)/\(gD s b.k).st=(gD s c.k).st/\(gD s b.k).lo=(gD s c.k).lo/\(gD s b.k).hi=(gD s c.k).hi/\∀(i:Nat),i<2->gD [(gD s b.k).lo,(gD s b.k).hi] i=gD [(gD s c.k).lo,(gD s c.k).hi] i)/\(b.k<s.length/\b.j<=2/\s.length-b.k<=q/\b.l=K1 s b.k b.j)/\2-b.j<m:=λq m c hc=>
  ⟨⟨c.k,c.j+1,c.l⟩,⟨rfl,(BJ (by omega)).symm,rfl,rfl,λ_ _=>⟨rfl,rfl⟩,rfl,rfl,rfl,λ_ _=>rfl⟩,⟨hc.1,by show c.j+1<=2;omega,hc.2.2.2.1,hc.2.2.2.2⟩,by show 2-(c.j+1)<m;omega⟩
 have go:∀(q:Nat) (b:PtJ),b.k<s.length/\b.j<=2/\s.length-b.k<=q/\b.l=K1 s b.k b.j->(b.j:Int)<2->b.l.length<4611686018427387904/\b.l.length<9223372036854775807/\(b.l.length+1)*16<=140737488355328/\∀p:Pt,p=⟨(gD s b.k).st,gD [(gD s b.k).lo,(gD s b.k).hi] b.j⟩->(¬ p∈b.l->b.l ++ [p]=K1 s b.k (b.j+1))/\(p∈b.l->b.l=K1 s b.k (b.j+1)):=λq b hb hj=>by
  have hl:=BXM hb.1 hb.2.1
  rw[<-hb.2.2.2] at hl
  refine⟨by omega,by omega,by omega,λp hp=>?_⟩
  rw[BLZ hb.1 (by omega),<-hb.2.2.2,<-hp]
  exact⟨λh=>(CAA h).symm,λh=>(CQD h).symm⟩
 have two:∀(g:Gau) (i:Nat),i<2->gD [g.lo,g.hi] i=bif decide (i=0) then g.lo else g.hi:=λg i hi=>by
  match i,hi with
  |0,_=>rfl
  |1,_=>rfl
 refine⟨⟨default,trivial⟩,⟨λh0=>⟨⟨by omega,by omega⟩,⟨default,two _,by omega⟩,λh1=>⟨⟨⟨by omega,by omega⟩,by omega,by simp,⟨⟨0,0,[⟨(gD s 0).st,(gD s 0).lo⟩]⟩,⟨rfl,rfl,rfl,rfl,λi hi=>?_,rfl,rfl,rfl,λ_ _=>rfl⟩,h1,by simp,by simp,by simp,rfl⟩⟩,cut _ _⟩,
  λb hb=>⟨λhj=>⟨⟨⟨by omega,by omega⟩,(go _ b hb hj).1,λhm=>⟨⟨by simp,by simp,(go _ b hb hj).2.1,(go _ b hb hj).2.2.1⟩,⟨b.k,b.j,b.l ++ [_]⟩,⟨by simp,rfl,rfl,by simp,CUQ b.l _,rfl,rfl,rfl,λ_ _=>rfl⟩,hb.1,by show b.j<2;omega,Nat.le_refl _,hb.2.2.1,((go _ b hb hj).2.2.2 _ rfl).1 hm⟩,λhm=>⟨⟨b.k,b.j,b.l⟩,⟨rfl,rfl,rfl,rfl,λ_ _=>⟨rfl,rfl⟩,rfl,rfl,rfl,λ_ _=>rfl⟩,hb.1,by show b.j<2;omega,Nat.le_refl _,hb.2.2.1,((go _ b hb hj).2.2.2 _ rfl).2 hm⟩⟩,cut _ _⟩,λhj=>?_⟩⟩,λh0=>?_⟩,
  λa ha=>⟨λhk=>⟨⟨by omega,by omega⟩,⟨⟨a.k,0,a.l⟩,⟨rfl,rfl,rfl,rfl,λ_ _=>⟨rfl,rfl⟩,rfl,rfl,rfl,two _⟩,by show a.k<_;omega,by simp,Nat.le_refl _,ha.2.2⟩,
  λb hb=>⟨λhj=>⟨⟨⟨by omega,by omega⟩,(go _ b hb hj).1,λhm=>⟨⟨by simp,by simp,(go _ b hb hj).2.1,(go _ b hb hj).2.2.1⟩,⟨b.k,b.j,b.l ++ [_]⟩,⟨by simp,rfl,rfl,by simp,CUQ b.l _,rfl,rfl,rfl,λ_ _=>rfl⟩,hb.1,by show b.j<2;omega,Nat.le_refl _,hb.2.2.1,((go _ b hb hj).2.2.2 _ rfl).1 hm⟩,λhm=>⟨⟨b.k,b.j,b.l⟩,⟨rfl,rfl,rfl,rfl,λ_ _=>⟨rfl,rfl⟩,rfl,rfl,rfl,λ_ _=>rfl⟩,hb.1,by show b.j<2;omega,Nat.le_refl _,hb.2.2.1,((go _ b hb hj).2.2.2 _ rfl).2 hm⟩⟩,cut _ _⟩,λhj=>?_⟩⟩,λhk=>?_⟩⟩
 ·have:i=0:=by have hi:i<1:=hi;omega
  subst this;exact⟨rfl,rfl⟩
 ·have h2:b.j=2:=by omega
  exact⟨⟨b.k+1,b.l⟩,⟨rfl,(BJ (by omega)).symm,rfl,λ_ _=>⟨rfl,rfl⟩⟩,⟨by show b.k+1<=_;omega,Nat.succ_pos _,by rw[hb.2.2.2,h2];rfl⟩,by show s.length-(b.k+1)<_;omega⟩
 ·have:s=[]:=List.eq_nil_of_length_eq_zero (by omega)
  subst this;rfl
 ·have h2:b.j=2:=by omega
  exact⟨⟨b.k+1,b.l⟩,⟨rfl,(BJ (by omega)).symm,rfl,λ_ _=>⟨rfl,rfl⟩⟩,⟨by show b.k+1<=_;omega,Nat.succ_pos _,by rw[hb.2.2.2,h2];rfl⟩,by show s.length-(b.k+1)<_;omega⟩
 ·have e:a.l=AF s:=by rw[ha.2.2];unfold Ng AF;rw[List.take_of_length_le (by omega)]
  rw[<-e]
  exact⟨rfl,Nat.le_refl _,λ_ _=>⟨rfl,rfl⟩⟩
theorem AMY:AH ZP 134 (C_ends.spec dGs1):=MK C_ends CED [] [301] Tryz.func134 (λ_=>by kernel_rfl) (λ_=>AA (CDH CNG CNA) AD) (λ(s:List Gau) h=>CXQ s (show s.length<1073741824/\True from h).1) (λ_=>OA rfl rfl) _
def dGsK:List AVal->Heap->Option (List Gau×List (Nat×Nat)×List Nat):=dGs1
def C_through:Ctr:={ α:=List Gau,xs:=λs=>[.d (TB s)],L:=λ_=>[],val:=λs=>.fn (.func 154) [] [.bptr 0 0],keep:=λs=>[(0,.live (.box [.d (TB s)]))] }
def AXI(s:List Gau):Prop:=AS ZP (ann 4 []) Tryz.f131 (AG Tryz.f131) (C_through.xs s) (AC []) (C_through.val s) (C_through.keep s) [(0,1000)] []
abbrev cD a(b:Nat->Prop):=Wt a (AE b)
attribute [go_sem] cD
theorem BLT(s:List Gau):(AXI s)=(cD (DW s) (λi=>Yk i (DW s) s)):=by kernel_rfl
theorem AQS:AH ZP 131 (C_through.spec dGsK):=MK C_through (λ_=>ann 4 []) [(0,1000)] [] Tryz.func131 (λ_=>by kernel_rfl) (λ_=>AD) (λ(s:List Gau) _=>by
 show AXI s;rw[BLT]<;> dsimp only[go_sem];simp) (λ_=>OA rfl rfl) _
structure GsL where
 s:List Gau
 x:Ln
def dGsL:List AVal->Heap->Option (GsL×List (Nat×Nat)×List Nat)
 |[y,.d x],H=>match BIG y H with
  |some (l,f)=>some (⟨l,dLn x⟩,[],f)
  |none=>none
 |_,_=>none
def C_passing:Ctr:={ α:=GsL,xs:=λa=>[.d (TB a.s),.d (eLn a.x)],L:=λ_=>[],val:=λa=>.bool (a.s.all λg=>KU a.x g),keep:=λ_=>[],pre:=λa=>[a.s.length<4611686018427387904/\(∀g∈a.s,(MM a.x/\Rz g))] }
def AUY:Ann:=ann 9 [(51,C4Gp.spec d4Gp)]
def AXC(a:GsL):Prop:=AS ZP AUY Tryz.f132 (AG Tryz.f132) (C_passing.xs a) (AC []) (C_passing.val a) [] [] []
abbrev AEO:=GsL.s
abbrev N9:=GsL.x
abbrev BJW a b c d(e:Gau->Prop):=Ea a b c d (C1 e)
attribute [go_sem] AEO N9 BJW
theorem BNT(a:GsL):(AXC a)=(EM (HT (NA (AEO a)) (AEO a)) (AGY (λi=>ADN i (NA (AEO a)) (AEO a)) (FJ (N9 a)) (BJW (FH (N9 a)) (FP (N9 a)) (EV (N9 a)) (WL (NA (AEO a))) (λi=>ANX i (NA (AEO a)) (FJ (N9 a)) (FP (N9 a)) (FH (N9 a)) (EV (N9 a))))) (Sr (AQH (AEO a) (N9 a)) (AQH (NA (AEO a)) (N9 a)))):=by kernel_rfl
theorem ANM:AH ZP 132 (C_passing.spec dGsL):=MK C_passing (λ_=>AUY) [] [] Tryz.func132 (λ_=>by kernel_rfl) (λ_=>AA DCG AD) (λ(a:GsL) h=>by
 show AXC a;rw[BNT]<;> dsimp only[go_sem];simp only[CC,CU]
 have h:a.s.length<4611686018427387904/\(∀g∈a.s,(MM a.x/\Rz g)):=h
 first | exact h | exact⟨h,rfl⟩) (λ_=>OA rfl rfl) _
def xI(a b:Pt):Ln:=⟨a.st,a.fl,b.st,b.fl⟩
def blk(e:List Pt)(a:Pt):List Ln:=YE a :: (e.map (xI a)).filter mD
def wA(s:List Gau):List Ln:=(AF s).flatMap (blk (AF s))
def Yd(s:List Gau)(x:Ln):Bool:=s.all λg=>KU x g
def lP(s:List Gau):Ln×Bool:=if s.length=0 then (YE ⟨0,0⟩,true) else match (wA s).find? (Yd s) with
 |some x=>(x,true)
 |none=>(default,false)
def zLn:HCell:=.live (.box [.int 0,.int 0,.int 0,.int 0])
def lnS(s:List Gau)(l i:Nat):List (Nat×AVal):=[(0,.fn (.yield l) [] []),(3,.d (ePts (AF s))),(11,.d (ePts (AF s))),(12,.int (AF s).length),(13,.int i)]
def R5(s:List Gau)(i:Nat):List Ln:=((AF s).take i).flatMap (blk (AF s))
def Ae(s:List Gau)(i j:Nat):List Ln:=R5 s i ++ YE (gD (AF s) i) :: (((AF s).take j).map (xI (gD (AF s) i))).filter mD
def okP(p:Pt):Prop:=0<=p.st/\p.st<=2000/\0<=p.fl/\p.fl<=200000
theorem CAK{l:List Pt}{p q:Pt}:q∈addP l p↔q∈l∨q=p:=by
 unfold addP;split
 ·rename_i h
  exact⟨.inl,λh2=>h2.elim id λh2=>h2 ▸ h⟩
 ·simp
theorem AUL:∀(s:List Gau) (l:List Pt) (p:Pt),p∈s.foldl addG l↔p∈l∨∃g∈s,p=⟨g.st,g.lo⟩∨p=⟨g.st,g.hi⟩
 |[],l,p=>by simp
 |g :: s,l,p=>by
  rw[List.foldl_cons,AUL s]
  simp only[addG,CAK,List.mem_cons,exists_eq_or_imp]
  constructor
  ·rintro (((h | h) | h) | h)
   ·exact .inl h
   ·exact .inr (.inl (.inl h))
   ·exact .inr (.inl (.inr h))
   ·exact .inr (.inr h)
  ·rintro (h | (h | h) | h)
   ·exact .inl (.inl (.inl h))
   ·exact .inl (.inl (.inr h))
   ·exact .inl (.inr h)
   ·exact .inr h
theorem ANU{s:List Gau}{p:Pt}:p∈AF s↔∃g∈s,p=⟨g.st,g.lo⟩∨p=⟨g.st,g.hi⟩:=by
 unfold AF;rw[AUL];simp
theorem tZ{s:List Gau}(h:∀g∈s,Rz g){p:Pt}(hp:p∈AF s):okP p:=by
 obtain⟨g,hg,rfl | rfl⟩:=ANU.1 hp
 ·obtain⟨h1,h2,h3,h4,h5⟩:=h g hg;exact⟨h1,h2,h3,by show g.lo<=_;omega⟩
 ·obtain⟨h1,h2,h3,h4,h5⟩:=h g hg;exact⟨h1,h2,by show 0<=g.hi;omega,h5⟩
theorem ABE{p:Pt}(h:okP p):MM (YE p):=by
 obtain⟨h1,h2,h3,h4⟩:=h
 unfold YE;split
 ·exact⟨by show 0<=p.st-1;omega,by show p.st-1<p.st;omega,h2,h3,Int.le_refl _,h4⟩
 ·exact⟨h1,by show p.st<p.st+1;omega,by show p.st+1<=2000;omega,h3,Int.le_refl _,h4⟩
theorem aY{x:Ln}:mD x=true↔MM x:=by
 unfold mD riP NJ MM
 simp only[Bool.and_eq_true,decide_eq_true_eq]
 constructor
 ·intro h;exact⟨by omega,by omega,by omega,by omega,by omega,by omega⟩
 ·intro h;exact⟨⟨⟨⟨⟨by omega,by omega⟩,by omega,by omega⟩,⟨by omega,by omega⟩,by omega,by omega⟩,by omega⟩,by omega⟩
theorem BWK{s:List Gau}{i:Nat}(h:i<(AF s).length):R5 s (i+1)=R5 s i ++ blk (AF s) (gD (AF s) i):=by
 unfold R5;rw[YG h,List.flatMap_append];simp
theorem AEX{s:List Gau}:R5 s (AF s).length=wA s:=by unfold R5 wA;rw[List.take_length]
theorem ATC{s:List Gau}{i:Nat}(h:i<(AF s).length):Ae s i (AF s).length=R5 s (i+1):=by
 rw[BWK h];unfold Ae blk;rw[List.take_length]
theorem AIZ{s:List Gau}{i j:Nat}(h:j<(AF s).length):Ae s i (j+1)=Ae s i j ++ (if mD (xI (gD (AF s) i) (gD (AF s) j)) then [xI (gD (AF s) i) (gD (AF s) j)] else []):=by
 unfold Ae
 rw[YG h,List.map_append,List.filter_append,<-List.cons_append,<-List.append_assoc]
 simp only[List.map_cons,List.map_nil]
 congr 1
 split
 ·rename_i h1;rw[List.filter_cons_of_pos h1];rfl
 ·rename_i h1;rw[List.filter_cons_of_neg h1];rfl
structure Bk where
 g:List Gau
 b:List Int
 has:Int->Bool
 st:Int->Int
def Rm(w:Bk)(k:Int):List Gau:=w.g.filter λg=>(iV w.b g.st:Int)==k
def dY(s:List Gau):List Ln:=(wA s).filter (Yd s)
def fdM(w:Bk)(j:Int):List Ln:=bif w.has j then dY (Rm w j) else []
def bkB(w:Bk)(m:Nat):AObj:=.box [.d (TB w.g),.d (BM w.b),.mref m]
def bkM(w:Bk):AObj:=.imap (.int .i64) (.slice none 0 0) w.has (λj=>eLns (fdM w j)) w.st none
def bkL(w:Bk):List (Nat×AObj):=[(100,bkB w 101),(101,bkM w)]
def bkK(w:Bk):List (Nat×HCell):=[(100,.live (bkB w 101)),(101,.live (bkM w))]
def cQ(g:List Gau)(b:List Int):Prop:=g.length<=24/\(∀x∈g,Rz x)/\b.length<=24/\asc b/\∀x∈b,1<=x/\x<=2000
def BTY(H:Heap)(id:Nat):Option (Bk×Nat):=match H id with
 | .live (.box [.d (.list _ n g _),.d (.list _ m b _),.mref q])=>match H q with
  | .live (.imap _ _ has _ st _)=>some (⟨HQ n λi=>dGau (g i),HQ m λi=>DG (b i),has,st⟩,q)
  |_=>none
 |_=>none
structure BkI where
 w:Bk
 k:Int
def dBkI:List AVal->Heap->Option (BkI×List (Nat×Nat)×List Nat)
 |[.bptr id _,.d k],H=>match BTY H id with
  |some (w,q)=>some (⟨w,DG k⟩,[(100,id),(101,q)],[])
  |none=>none
 |_,_=>none
def inA(w:Bk)(k:Int)(i:Nat):Bool:=(iV w.b (gD w.g i).st:Int)==k
def CTX(w:Bk)(k:Int)(m:Nat):HCell:=.live (.row 1 24 λj=>AEP (bif decide (j<m) then inA w k j else false))
def pV(w:Bk)(k:Int)(i:Nat):List Gau:=(w.g.take i).filter λg=>(iV w.b g.st:Int)==k
def in3(a:BkI):Shape:={ α:=Nat,dflt:=0,T:=λi=>⟨[(0,.bptr 100 0),(1,.int a.k),(5,.rptr 201 1 0 0),(15,.d (TB a.w.g)),(16,.int a.w.g.length),(17,.int i)],bkK a.w ++ [(201,CTX a.w a.k i)]⟩,inv:=λi=>i<=a.w.g.length,meas:=λi=>a.w.g.length-i,first:=[(201,2000)] }
structure GsK where
 i:Nat
 l:List Gau
 deriving Inhabited
def in9s(a:BkI)(i:Nat):List (Nat×AVal):=[(5,.rptr 201 1 0 0),(39,.d (TB a.w.g)),(40,.int a.w.g.length),(41,.int i)]
def rowG(l:List Gau):AObj:=.row 3 l.length λi=>eGau (gD l i)
def in9h(a:BkI):List (Nat×HCell):=bkK a.w ++ [(201,CTX a.w a.k a.w.g.length)]
def in9n(a:BkI):Shape:={ α:=Nat,dflt:=0,T:=λi=>⟨(8,.d JX) :: in9s a i,in9h a⟩,inv:=λi=>i<=a.w.g.length/\pV a.w a.k i=[],meas:=λi=>a.w.g.length-i }
def in9o(a:BkI):Shape:={ α:=GsK,dflt:=default,T:=λx=>⟨(8,.own 202 3 0 x.l.length) :: in9s a x.i,in9h a ++ [(202,.live (rowG x.l))]⟩,inv:=λx=>x.i<=a.w.g.length/\x.l=pV a.w a.k x.i,meas:=λx=>a.w.g.length-x.i }
def CZM(a:BkI)(m:Nat):Shape:={ α:=Nat,dflt:=0,T:=λi=>⟨(8,.d JX) :: in9s a i,in9h a⟩,inv:=λi=>i<a.w.g.length/\a.w.g.length-i=m/\pV a.w a.k (i+1)=[],meas:=λi=>0 }
def CSX(a:BkI)(m:Nat)(f:List (Nat×Nat)):Shape:={ α:=GsK,dflt:=default,T:=λx=>⟨(8,.own 202 3 0 x.l.length) :: in9s a x.i,in9h a ++ [(202,.live (rowG x.l))]⟩,inv:=λx=>x.i<a.w.g.length/\a.w.g.length-x.i=m/\x.l=pV a.w a.k (x.i+1),meas:=λx=>0,first:=f }
def C_inside:Ctr:={ ro:=[100,101],α:=BkI,xs:=λa=>[.bptr 100 0,.int a.k],L:=λa=>bkL a.w,val:=λa=>.d (TB (Rm a.w a.k)),keep:=λa=>bkK a.w,pre:=λa=>[cQ a.w.g a.w.b/\True] }
def BHF(a:BkI):Ann:={ ann 55 [(23,C_part.spec dIX)] with E:=[100,101],mt:=λid=>id==12,loops:=λid=>if id=3 then some [in3 a] else if id=9 then some [in9n a,in9o a] else none,cutIn:=λgs id=>if id=13 then some [CZM a (gs.getD 0 0),CSX a (gs.getD 0 0) [(202,13048)],CSX a (gs.getD 0 0) []] else none }
def BIM(a:BkI):Prop:=AS ZP (BHF a) Tryz.f130 (AG Tryz.f130) (C_inside.xs a) (AC (C_inside.L a)) (C_inside.val a) (C_inside.keep a) [] [202]
abbrev BYB:=@Array.toList Value
abbrev U8:=BkI.k
abbrev dR:=BkI.w
abbrev dE:=Bk.b
abbrev Nm:=Bk.has
abbrev AFQ:=Bk.st
abbrev AVI:=@Eq (List Gau)
abbrev D7:=@Exists GsK
abbrev NW:=GsK.l
abbrev BN:=GsK.i
abbrev ATX:=λ(f:GsK->Prop)=>∀(x:GsK),f x
abbrev ES:=BVK (Value.slice (@none Addr) 0 0)
abbrev Rh a b(c:Nat->Prop) d e f g h:=Pm a b c d e ES f g h
abbrev Iy a b(c:Nat->Prop) d e f g(h:Int->Prop):=Rh a b c d e f g (AM h)
abbrev QR a b:=KF (fdM a b)
abbrev BMT a b:=QR (dR a) b
abbrev Ly a b(c:Nat->Prop):=cD (BMT a b) c
abbrev BAC a b c:=BOP a b (FJ c) (FH c) (FP c) c
abbrev AMD a b c:=Nz (fdM a b) c
abbrev zH a b c d e:=BAC a b (AMD c d e)
abbrev Kp a b c d e f:=zH a (BMT b c) (dR d) e f
abbrev fB a:=AM (λi=>AI (AFQ a i))
abbrev Ll a:=fB (dR a)
abbrev uG a:=AOL (λi=>Nm a i)
abbrev Mq a:=uG (dR a)
abbrev Ps a:=dE (dR a)
abbrev uJ a:=IU (Ps a)
abbrev Lk a:=MO (Ps a)
abbrev Zn a b c:=BJS a b (Ac c) c (YF c)
abbrev Xg a b:=U7 (Bk.g a) b
abbrev fH a b:=Xg (dR a) b
abbrev Gt a:=DW (Bk.g a)
abbrev TK a:=Gt (dR a)
abbrev VD a b c d:=Zn a (TK b) (fH c d)
abbrev Eg a:=BI (TK a)
abbrev A0 a:=DW (NW a)
abbrev AJJ a b:=HT a (NW b)
abbrev Hk a b c d:=TD (AQ a b c) d
abbrev iL a b:=AVI (NW a) b
abbrev Dw a b c:=pV (dR a) (U8 b) c
abbrev Qd a b c d e f(g:Nat->Prop) h p:=BV (IU a) b c d e f g h p
abbrev bS a b:=AJJ (NW a) b
abbrev uZ a b:=BAP a 24 b
abbrev BKL a b c:=inA (dR a) (U8 b) c
abbrev APP a b c d e:=IC (dT a b) (BKL c d e)
abbrev Vy a b c d e:=APP a (TK b) c d e
abbrev Vr a:=BY (TK a)
abbrev Yq a:=HN (BN a)
abbrev UI a b c:=BNE (KO a b) a c
abbrev rQ a b c:=UI (TK a) b c
abbrev uN a b:=OB a (TK b)
abbrev Qw a:=AVI a (@List.nil Gau)
abbrev BEN a b c d e f g:=RI a b c d e f c g
abbrev Z9:=BI 24
abbrev uT a b:=TM (NW a) b
abbrev iG a b c d e:=sE a b c d (YF e)
abbrev AOH a b:=iV (LI a) b
abbrev xJ:=Value.bool P8
attribute [go_sem] BYB U8 dR dE Nm AFQ AVI D7 NW BN ATX ES Rh Iy QR BMT Ly BAC AMD zH Kp fB Ll uG Mq Ps uJ Lk Zn Xg fH Gt TK VD Eg A0 AJJ Hk iL Dw Qd bS uZ BKL APP Vy Vr Yq UI rQ uN Qw BEN Z9 uT iG AOH xJ
theorem BXC(a:BkI):(BIM a)=(Mp ((@Eq (List Value)) (BYB (Value.cells (BFR (BIA (gU xJ (gU xJ (gU xJ (gU xJ (gU xJ (gU xJ BGM)))))))))) ((@List.flatten Value) ((@List.replicate (List Value)) 24 (BYB (Value.cells xJ))))) (EA (λi=>Kw (AI (U8 a)) AB (Eg a) (CB (AE (λj=>VD j a a j)) (Vr a) (BC i) (Eg a) (SE (λj=>VD j a a j) (Lk a) (uJ a) ES (Mq a) (Ll a) (AM (λj=>Ly a j (λk=>Kp k a j a j k))) Z9 (AE (λj=>HB j 24 (Hd (APP j i a a j)))))) (MH i (TK a)))) (λi=>OU (MH i (TK a)) i (TK a) (Fl i (TK a) (BW (JZ (Ps a)) (JO (Ps a)) (AI (Ac (fH a i))) (And (Qa (Ps a)) (Aj ZK (Ps a))) (Uh (AZ i) (ZK (AZ i) 24)) (FI i 24)) (EA (λj=>Bg (Fj (AI (U8 a)) AB (Eg a) (AE (λk=>VD k a a k)) (Vr a) (AR j i) (Eg a) (SE (λk=>VD k a a k) (Lk a) (uJ a) ES (Mq a) (Ll a) (AM (λk=>Ly a k (λl=>Kp l a k a k l))) Z9 (AE (λk=>fJ k 24 (APP k j a a k) (hd5 (BHS k i) (wP (AZ (AOH (Ps a) (Ac (fH a i)))) (U8 a)) (APP k i a a k)))))) j (TK a) j i))) (AQ (EA (λj=>DK (BEN AB AK (Eg a) (AE (λk=>VD k a a k)) (Vr a) (BC j) (SE (λk=>VD k a a k) (Lk a) (uJ a) ES (Mq a) (Ll a) (AM (λk=>Ly a k (λl=>Kp l a k a k l))) Z9 (AE (λk=>HB k 24 (SQ (Vy k a a a k) (dT k i) (BKL a a k)))))) j (TK a) (Qw (Dw a a j)))) (AE (λj=>WR j (TK a) (Qw (Dw a a j)) (Fl j (TK a) (And (Uh (AZ j) (ZK (AZ j) 24)) (FI j 24)) (FW (Vy j a a a j) (Wr 3 24) (D7 (λk=>AO (AQ AB (uT k 1) (aP AB (Eg a) (AE (λl=>VD l a a l)) (Vr a) (AT (BN k) j) (Lk a) (Qd (Ps a) ES (Mq a) (Ll a) (AM (λl=>Ly a l (λm=>Kp m a l a l m))) 24 (λl=>uZ l (Vy l a a a l)) (uT k 1) (AE (λl=>iG l (NW k) (Ac (fH a j)) (Xc (fH a j)) (fH a j)))))) (uN (BN k) a) (rQ a (BN k) j) (iL k (Dw a a (Yq k))))) (EA (λk=>AO (BEN AB AK (Eg a) (AE (λl=>VD l a a l)) (Vr a) (AT k j) (SE (λl=>VD l a a l) (Lk a) (uJ a) ES (Mq a) (Ll a) (AM (λl=>Ly a l (λm=>Kp m a l a l m))) Z9 (AE (λl=>uZ l (Vy l a a a l))))) (uN k a) (rQ a k j) (Qw (Dw a a (HN k))))))) (WH (AE (λk=>Hk (uN k a) (rQ a k j) (Qw (Dw a a (HN k))) (EA (λl=>IK (BEN AB AK (Eg a) (AE (λm=>VD m a a m)) (Vr a) (AR l k) (SE (λm=>VD m a a m) (Lk a) (uJ a) ES (Mq a) (Ll a) (AM (λm=>Ly a m (λn=>Kp n a m a m n))) Z9 (AE (λm=>uZ m (Vy m a a a m))))) l (TK a) (Qw (Dw a a l)) j)))) (ATX (λk=>Hk (uN (BN k) a) (rQ a (BN k) j) (iL k (Dw a a (Yq k))) (D7 (λl=>IK (AQ AB (bS l k) (aP AB (Eg a) (AE (λm=>VD m a a m)) (Vr a) (AR (BN l) (BN k)) (Lk a) (Qd (Ps a) ES (Mq a) (Ll a) (AM (λm=>Ly a m (λn=>Kp n a m a m n))) 24 (λm=>uZ m (Vy m a a a m)) (bS l k) (JC (NW l) (NW k))))) (BN l) (TK a) (iL l (Dw a a (BN l))) j))))) (And (TM (Rm (dR a) (U8 a)) 0) (Iy (TM (Rm (dR a) (U8 a)) 0) (Eg a) (λk=>VD k a a k) (Lk a) (uJ a) (Mq a) (Ll a) (λk=>Ly a k (λl=>Kp l a k a k l)))))) (ATX (λj=>WR (BN j) (TK a) (iL j (Dw a a (BN j))) (Fl (BN j) (TK a) (And (Uh (AZ (BN j)) (ZK (AZ (BN j)) 24)) (FI (BN j) 24)) (FW (Vy (BN j) a a a (BN j)) (AAN (A0 j) 3 24) (D7 (λk=>AO (AQ AB (uT k (uL (NW j))) (aP AB (Eg a) (AE (λl=>VD l a a l)) (Vr a) (AT (BN k) (BN j)) (Lk a) (Qd (Ps a) ES (Mq a) (Ll a) (AM (λl=>Ly a l (λm=>Kp m a l a l m))) 24 (λl=>uZ l (Vy l a a a l)) (uT k (uL (NW j))) (AE (λl=>sE l (NW k) (BF l (A0 j) (IH (NW j) l) (Ac (fH a (BN j)))) (BF l (A0 j) (IV (NW j) l) (Xc (fH a (BN j)))) (BF l (A0 j) (JP (NW j) l) (YF (fH a (BN j))))))))) (uN (BN k) a) (rQ a (BN k) (BN j)) (iL k (Dw a a (Yq k))))) (D7 (λk=>AO (AQ AB (bS k j) (aP AB (Eg a) (AE (λl=>VD l a a l)) (Vr a) (AT (BN k) (BN j)) (Lk a) (Qd (Ps a) ES (Mq a) (Ll a) (AM (λl=>Ly a l (λm=>Kp m a l a l m))) 24 (λl=>uZ l (Vy l a a a l)) (bS k j) (JC (NW k) (NW j))))) (uN (BN k) a) (rQ a (BN k) (BN j)) (iL k (Dw a a (Yq k))))))) (WH (AE (λk=>Hk (uN k a) (rQ a k (BN j)) (Qw (Dw a a (HN k))) (EA (λl=>IK (BEN AB AK (Eg a) (AE (λm=>VD m a a m)) (Vr a) (AR l k) (SE (λm=>VD m a a m) (Lk a) (uJ a) ES (Mq a) (Ll a) (AM (λm=>Ly a m (λn=>Kp n a m a m n))) Z9 (AE (λm=>uZ m (Vy m a a a m))))) l (TK a) (Qw (Dw a a l)) (BN j))))) (ATX (λk=>Hk (uN (BN k) a) (rQ a (BN k) (BN j)) (iL k (Dw a a (Yq k))) (D7 (λl=>IK (AQ AB (bS l k) (aP AB (Eg a) (AE (λm=>VD m a a m)) (Vr a) (AR (BN l) (BN k)) (Lk a) (Qd (Ps a) ES (Mq a) (Ll a) (AM (λm=>Ly a m (λn=>Kp n a m a m n))) 24 (λm=>uZ m (Vy m a a a m)) (bS l k) (JC (NW l) (NW k))))) (BN l) (TK a) (iL l (Dw a a (BN l))) (BN j)))))) (DK (AJJ (Rm (dR a) (U8 a)) j) (AJ (A0 j)) (A0 j) (Iy (AE (λk=>AIJ k (Rm (dR a) (U8 a)) (IH (NW j) (AJ k)) (IV (NW j) (AJ k)) (NW j) (AJ k))) (Eg a) (λk=>VD k a a k) (Lk a) (uJ a) (Mq a) (Ll a) (λk=>Ly a k (λl=>Kp l a k a k l))))))))):=by kernel_rfl
theorem Q6{w:Bk}{k:Int}{i:Nat}(h:i<w.g.length):pV w k (i+1)=if inA w k i=true then pV w k i ++ [gD w.g i] else pV w k i:=by
 unfold pV
 rw[YG h,List.filter_append]
 unfold inA
 split
 ·rename_i h1;simp[List.filter_cons,h1]
 ·rename_i h1;simp[List.filter_cons,h1]
theorem BGH{w:Bk}{k:Int}{i:Nat}(h:w.g.length<=i):pV w k i=Rm w k:=by unfold pV Rm;rw[List.take_of_length_le h]
theorem BIQ{w:Bk}{k:Int}{i:Nat}:(pV w k i).length<=w.g.length:=
 Nat.le_trans (List.length_filter_le _ _) (by simp;omega)
theorem CUH(l:List Gau)(p:Gau)(i:Nat)(hi:i<(l ++ [p]).length):((gD (l ++ [p]) i).st=bif decide (i<l.length) then (gD l i).st else p.st)/\((gD (l ++ [p]) i).lo=bif decide (i<l.length) then (gD l i).lo else p.lo)/\(gD (l ++ [p]) i).hi=bif decide (i<l.length) then (gD l i).hi else p.hi:=by
 rw[P2 _ _ (by simpa using hi)]
 cases decide (i<l.length)<;>exact⟨rfl,rfl,rfl⟩
theorem CFN(a:BkI)(h:cQ a.w.g a.w.b):BIM a:=by
 rw[BXC]<;> dsimp only[go_sem];simp only[CC,CU]
 obtain⟨hg,hgo,hb,hasc,hbr⟩:=h
 have cn:∀(m i:Nat),i<a.w.g.length/\a.w.g.length-i=m/\pV a.w a.k (i+1)=[]->∃j:Nat,(j:Int)=IntKind.i64.wrap ((i:Int)+1)/\(j<=a.w.g.length/\pV a.w a.k j=[])/\a.w.g.length-j<m:=λm i h=>⟨i+1,(BJ (by omega)).symm,⟨h.1,h.2.2⟩,by omega⟩
 have co:∀(m:Nat) (x:GsK),x.i<a.w.g.length/\a.w.g.length-x.i=m/\x.l=pV a.w a.k (x.i+1)->∃y:GsK,(y.l.length=x.l.length/\(y.i:Int)=IntKind.i64.wrap ((x.i:Int)+1)/\y.l.length=x.l.length/\∀(i:Nat),i<y.l.length->(gD y.l i).st=(gD x.l i).st/\(gD y.l i).lo=(gD x.l i).lo/\(gD y.l i).hi=(gD x.l i).hi)/\(y.i<=a.w.g.length/\y.l=pV a.w a.k y.i)/\a.w.g.length-y.i<m:=λm x h=>⟨⟨x.i+1,x.l⟩,⟨rfl,(BJ (by omega)).symm,rfl,λ_ _=>⟨rfl,rfl,rfl⟩⟩,⟨h.1,h.2.2⟩,by show a.w.g.length-(x.i+1)<m;omega⟩
 have ne:∀(i:Nat),i<a.w.g.length->pV a.w a.k i=[]->inA a.w a.k i=false->pV a.w a.k (i+1)=[]:=λi hi h1 h2=>by
  rw[Q6 hi,h2,h1];simp
 refine⟨rfl,⟨0,⟨rfl,λi hi=>by simp⟩,Nat.zero_le _⟩,λi hi=>⟨λhlt=>⟨⟨by omega,by omega⟩,⟨⟨by omega,hasc⟩,⟨by omega,by omega⟩,by omega⟩,i+1,⟨(BJ (by omega)).symm,λj hj=>?_⟩,by omega,by omega⟩,λhge=>⟨⟨0,⟨rfl,λj hj=>by rw[show i=a.w.g.length by omega]⟩,Nat.zero_le _,by simp[pV]⟩,
  λi hi=>⟨λhlt=>⟨⟨⟨by omega,by omega⟩,⟨⟨by omega,by omega⟩,by omega⟩,λhp=>⟨by simp,⟨i,[gD a.w.g i]⟩,⟨rfl,rfl,rfl,λj hj=>?_⟩,Int.ofNat_lt.1 hlt,rfl,?_⟩,λhp=>⟨i,rfl,by omega,rfl,ne i (by omega) hi.2 ?_⟩⟩,cn _,co _⟩,λhge=>?_⟩,
  λx hx=>⟨λhlt=>⟨⟨⟨by omega,by omega⟩,⟨⟨by omega,by omega⟩,by omega⟩,λhp=>⟨⟨by simp,by simp,?_,?_⟩,⟨x.i,x.l ++ [gD a.w.g x.i]⟩,⟨by simp,rfl,by simp,CUH _ _⟩,Int.ofNat_lt.1 hlt,rfl,?_⟩,λhp=>⟨⟨x.i,x.l⟩,⟨rfl,rfl,rfl,λ_ _=>⟨rfl,rfl,rfl⟩⟩,Int.ofNat_lt.1 hlt,rfl,?_⟩⟩,cn _,co _⟩,λhge=>?_⟩⟩⟩⟩
 ·by_cases h1:j=i
  ·subst h1;simp[inA]
  ·by_cases h2:j<i
   ·simp[h1,h2,show j<i+1 by omega]
   ·simp[h1,h2,show ¬ j<i+1 by omega]
 ·have:j=0:=by have hj:j<1:=hj;omega
  subst this;exact⟨rfl,rfl,rfl⟩
 ·have hlt':i<a.w.g.length:=Int.ofNat_lt.1 hlt
  show [gD a.w.g i]=_
  rw[Q6 hlt',hi.2,if_pos (by simpa[hlt'] using hp)];rfl
 ·have hlt':i<a.w.g.length:=Int.ofNat_lt.1 hlt
  simpa[hlt'] using hp
 ·rw[<-BGH (i:=i) (by omega),hi.2];rfl
 ·have:=BIQ (w:=a.w) (k:=a.k) (i:=x.i);rw[<-hx.2] at this;omega
 ·have:=BIQ (w:=a.w) (k:=a.k) (i:=x.i);rw[<-hx.2] at this;omega
 ·show x.l ++ _=_
  have hlt':x.i<a.w.g.length:=Int.ofNat_lt.1 hlt
  rw[Q6 hlt',<-hx.2,if_pos (by simpa[hlt'] using hp)]
 ·show x.l=_
  have hlt':x.i<a.w.g.length:=Int.ofNat_lt.1 hlt
  rw[Q6 hlt',<-hx.2,if_neg (by simpa[hlt'] using hp)]
 ·have e:x.l=Rm a.w a.k:=by rw[hx.2,BGH (by omega)]
  rw[e];exact⟨rfl,Nat.le_refl _,λ_ _=>⟨rfl,rfl,rfl⟩⟩
theorem AUZ:AH ZP 130 (C_inside.spec dBkI):=MK C_inside BHF [] [202] Tryz.func130 (λ_=>by kernel_rfl) (λ_=>AA AET AD) (λ(a:BkI) h=>CFN a (show cQ a.w.g a.w.b/\True from h).1) (λ_=>OA rfl rfl) _
def aS(w:Bk)(k:Int):Span:=⟨bif decide (k>0) then gD w.b (k-1).toNat else 0,bif decide (k<w.b.length) then wr (gD w.b k.toNat-1) else 2000⟩
structure GB where
 g:List Gau
 b:List Int
def dGB:List AVal->Heap->Option (GB×List (Nat×Nat)×List Nat)
 |[x,y],H=>match BIG x H,S6 y H with
  |some (l,f),some (m,e)=>some (⟨l,m⟩,[],f ++ e)
  |_,_=>none
 |_,_=>none
def xGB(a:GB):List AVal:=[.d (TB a.g),.d (BM a.b)]
def OG(a:GB):Int:=bif LY a.g==0 then UR a.b else LY a.g
def VX(a:GB):Bk:=⟨a.g,a.b,λ_=>false,λ_=>0⟩
def C_open:Ctr:={ α:=GB,xs:=xGB,L:=λ_=>[],val:=λ_=>.tup [.bptr 0 0,.int 0],keep:=λa=>[(0,.live (bkB (VX a) 1)),(1,.live (bkM (VX a)))],pre:=λa=>[a.g.length<4611686018427387904/\a.b.length<4611686018427387904/\OG a=0] }
def C_openX:Ctr:={ α:=GB,xs:=xGB,L:=λ_=>[],val:=λa=>.tup [.d (.v (.pointer none)),.int (OG a)],keep:=λ_=>[],pre:=λa=>[a.g.length<4611686018427387904/\a.b.length<4611686018427387904/\OG a≠0] }
def BCW:Ann:=ann 22 [(21,C_Check.spec dGs1),(53,C_checkB.spec dIs1)]
def CFG(a:GB):Prop:=AS ZP BCW Tryz.f69 (AG Tryz.f69) (xGB a) (AC []) (C_open.val a) (C_open.keep a) [(0,7080),(1,7048)] []
abbrev dO:=GB.g
abbrev dC:=GB.b
abbrev Fv:=VX
abbrev A1:=AOL (λi=>P8)
abbrev QB a b:=YF (Xg a b)
abbrev PC a b:=Xc (Xg a b)
abbrev PT a b:=Ac (Xg a b)
abbrev nD a b:=BB a (DW b)
abbrev Um a:=NA (dO a)
attribute [go_sem] dO dC Fv A1 QB PC PT nD Um
theorem CNF(a:GB):(CFG a)=(X5 (HT (Um a) (dO a)) (JC (Um a) (dO a)) (WL (Um a)) (FW (WO (L5 (Um a))) (AO (JZ (dC a)) (JO (dC a)) (Qa (dC a)) EB) (nJ (AEE (LI (dC a))) Tt (Iy AU (nD (Gt (Fv a)) (dO a)) (λi=>EJ i (Gt (Fv a)) (PT (Fv a) i) (IH (dO a) i) (PC (Fv a) i) (IV (dO a) i) (QB (Fv a) i) (JP (dO a) i)) (BH (dE (Fv a)) (dC a)) (BO (dE (Fv a)) (dC a)) A1 (AM (λi=>BZ (AFQ (Fv a) i))) (λi=>AWT (fF (QR (Fv a) i))))) (nJ (L5 (Um a)) Tt (Iy AU (nD (Gt (Fv a)) (dO a)) (λi=>EJ i (Gt (Fv a)) (PT (Fv a) i) (IH (dO a) i) (PC (Fv a) i) (IV (dO a) i) (QB (Fv a) i) (JP (dO a) i)) (BH (dE (Fv a)) (dC a)) (BO (dE (Fv a)) (dC a)) A1 (AM (λi=>BZ (AFQ (Fv a) i))) (λi=>AWT (fF (QR (Fv a) i))))))):=by kernel_rfl
def BUU(a:GB):Prop:=AS ZP BCW Tryz.f69 (AG Tryz.f69) (xGB a) (AC []) (C_openX.val a) [] [] []
abbrev AEW:=OG
attribute [go_sem] AEW
theorem CAC(a:GB):(BUU a)=(X5 (HT (Um a) (dO a)) (JC (Um a) (dO a)) (WL (Um a)) (FW (WO (L5 (Um a))) (AO (JZ (dC a)) (JO (dC a)) (Qa (dC a)) EB) (FW (UH (AEE (LI (dC a)))) pY (AN (AEW a) (AEE (LI (dC a)))) Tt) (FW (UH (L5 (Um a))) pY (AN (AEW a) (L5 (Um a))) Tt))):=by kernel_rfl
theorem BRI:AH ZP 69 (C_open.spec dGB):=MK C_open (λ_=>BCW) [(0,7080),(1,7048)] [] Tryz.func69 (λ_=>by kernel_rfl) (λ_=>AA APN (AA AIN AD)) (λ(a:GB) h=>by
 show CFG a;rw[CNF]<;> dsimp only[go_sem];simp only[CC,CU]
 obtain⟨h1,h2,h3⟩:a.g.length<4611686018427387904/\a.b.length<4611686018427387904/\OG a=0:=h
 have key:(VX a).g.length=a.g.length/\(∀i:Nat,i<(VX a).g.length->(gD (VX a).g i).st=(gD a.g i).st/\(gD (VX a).g i).lo=(gD a.g i).lo/\(gD (VX a).g i).hi=(gD a.g i).hi)/\(VX a).b.length=a.b.length/\(∀i:Nat,i<(VX a).b.length->gD (VX a).b i=gD a.b i)/\(∀n:Int,(VX a).st n=0)/\∀n:Int,(fdM (VX a) n).length=0:=⟨rfl,λ_ _=>⟨rfl,rfl,rfl⟩,rfl,λ_ _=>rfl,λ_=>rfl,λ_=>rfl⟩
 unfold OG at h3
 refine⟨h1,λh4=>⟨h2,λh5=>?_,λ_=>key⟩,λh4=>⟨λh5=>?_,λ_=>key⟩⟩
 ·rw[h4] at h3;simp at h3 h5;exact h5 h3
 ·rw[h4] at h3;simp at h3 h5;exact h5 h3) (λ_=>OA rfl rfl) _
theorem CHX:AH ZP 69 (C_openX.spec dGB):=MK C_openX (λ_=>BCW) [] [] Tryz.func69 (λ_=>by kernel_rfl) (λ_=>AA APN (AA AIN AD)) (λ(a:GB) h=>by
 show BUU a;rw[CAC]<;> dsimp only[go_sem];simp only[CC,CU]
 obtain⟨h1,h2,h3⟩:a.g.length<4611686018427387904/\a.b.length<4611686018427387904/\OG a≠0:=h
 refine⟨h1,λh4=>⟨h2,λh5=>?_,λh5=>h3 ?_⟩,λh4=>⟨λh5=>?_,λh5=>h3 ?_⟩⟩
 ·unfold OG;rw[h4];rfl
 ·unfold OG;rw[h4];simpa using h5
 ·unfold OG;rw[h4];rfl
 ·unfold OG;rw[h4];simpa using h5) (λ_=>OA rfl rfl) _
end Go.Bal
