/- Package rating: lines of a part that bound its flows. -/
import Derived.Test.YtpidmmilfdcepaaGreatRatF
set_option linter.unusedVariables false
set_option linter.unusedSimpArgs false
namespace Go.Bal
open Go Go.Sym Go.Proofs
def rowL(l:List Ln):AObj:=.row 4 l.length λi=>eLn (gD l i)
def dLs1:List AVal->Heap->Option (List Ln×List (Nat×Nat)×List Nat)
 |[y],H=>match dLns y H with
  |some (l,f)=>some (l,[],f)
  |none=>none
 |_,_=>none
def C_cloN:Ctr:={ α:=List Ln,xs:=λl=>[.d (Qr l)],L:=λ_=>[],val:=λl=>.own 0 4 0 l.length,keep:=λl=>[(0,.live (rowL l))],pre:=λl=>[0<l.length/\l.length<1073741824] }
def CEZ:Ann:={ ann 8 [] with mt:=λid=>id==3 }
def CAA(l:List Ln):Prop:=AS ZP CEZ Tryz.f123 (AE Tryz.f123) (C_cloN.xs l) (AB []) (C_cloN.val l) (C_cloN.keep l) [(0,4032)] []
abbrev AQD a b c d:=AR a b c c d
abbrev VC a:=TJ a 0
abbrev xN a:=AQ (CO a)
abbrev fF a b:=xD a b 4
attribute [go_sem] AQD VC xN fF
theorem CKC(l:List Ln):(CAA l)=(And (IU 0 (CO l)) (AQD (gM (BBU AF 0 (DR 4)) (fF HO (CO l)) (SA (CO l)) (xN l) 32) AF (LB l (xN l)) (AG (λi=>AMT i (CO l) l (GQ l (VC i)) (LO l (VC i)) l (VC i) l (VC i))))):=by kernel_rfl
def nilN:DVal:=.list 0 0 (λ_=>default) false
def C_cloE:Ctr:={ α:=One,xs:=λ_=>[.d nilN],L:=λ_=>[],val:=λ_=>.d NC,keep:=λ_=>[] }
def dNil:List AVal->Heap->Option (One×List (Nat×Nat)×List Nat)
 |[.d (.list 0 0 _ _)],_=>some (default,[],[])
 |_,_=>none
def CDT:Ann:={ ann 8 [] with md:=λid=>if id=3 then some (λk=>if k=0 then 4 else 0) else none }
def CAH(_x:One):Prop:=AS ZP CDT Tryz.f123 (AE Tryz.f123) (C_cloE.xs _x) (AB []) (C_cloE.val _x) [] [] []
theorem CHG(_x:One):(CAH _x)=(And (QY AF AKT) (Hv (BIO (BBU HO 0 (DR 4)) (Xk 4) (SA 0) 0 0) AF)):=by kernel_rfl
theorem CLA:AH ZP 123 (C_cloN.spec dLs1):=PW C_cloN (λ_=>CEZ) [(0,4032)] [] Tryz.func123 (λ_=>by kernel_rfl) (λ_=>AD) (λ(l:List Ln) h=>by
 show CAA l;rw[CKC]<;> dsimp only[go_sem];simp only[CC,CU]
 obtain⟨h1,h2⟩:0<l.length/\l.length<1073741824:=h
 exact⟨h1,⟨λ_=>h1,by omega,by omega⟩,λ_ _=>⟨rfl,rfl,rfl,rfl⟩⟩) (λ_=>RA rfl rfl) _
theorem CID:AH ZP 123 (C_cloE.spec dNil):=PW C_cloE (λ_=>CDT) [] [] Tryz.func123 (λ_=>by kernel_rfl) (λ_=>AD) (λ(x:One) _=>by
 show CAH x;rw[CHG]<;> dsimp only[go_sem];simp only[CC,CU]
 exact⟨by omega,by simp,by omega,by omega⟩) (λ_=>RA rfl rfl) _
structure BkS where
 w:Bk
 k:Int
 st:Int
def dBkS:List AVal->Heap->Option (BkS×List (Nat×Nat)×List Nat)
 |[.bptr id _,.d k,.d t],H=>match ARU H id with
  |some (w,q)=>some (⟨w,EG k,EG t⟩,[(100,id),(101,q)],[])
  |none=>none
 |_,_=>none
def C3(w:Bk)(k:Int):Bk:=⟨w.g,w.b,WA w.has k,xG w.has w.st k⟩
def moB(t:Int):List Ln:=[QB ⟨t,0⟩,QB ⟨t,200000⟩]
def cQ(s:List Gau)(t:Int)(i:Nat):List Ln:=moB t ++ ((AC s).take i).flatMap λp=>[pI ⟨t,0⟩ p,pI p ⟨t,200000⟩]
def XD(s:List Gau)(t:Int):List Ln:=moB t ++ (AC s).flatMap λp=>[pI ⟨t,0⟩ p,pI p ⟨t,200000⟩]
def okX(s:List Gau)(x:Ln):Bool:=bif Kv x then Lh s x else false
def PX(s:List Gau)(t:Int):List Ln:=bif (bif decide (0<s.length) then decide ((bG s).length=0) else false) then [] else bG s ++ (XD s t).filter (okX s)
structure LnK where
 i:Nat
 l:List Ln
 deriving Inhabited
structure LnJ where
 i:Nat
 j:Nat
 l:List Ln
 deriving Inhabited
def sB(a:BkS):List Gau:=Jp a.w a.k
def lsH(a:BkS)(c:AVal):List (Nat×HCell):=bkK a.w ++ [(2048,.live (.box [.d (AT (sB a))])),(3144,.live (.box [c]))]
def lsR(a:BkS)(l:List Ln):List (Nat×HCell):=lsH a (.own 401 4 0 l.length) ++ [(401,.live (rowL l))]
def lsPt(p:Pt):HCell:=.live (.box [.int p.st,.int p.fl])
def lsOn(a:BkS)(l:Nat):Shape:={ α:=Nat,dflt:=0,T:=λi=>⟨lnS (sB a) l i,lsH a (.d NC)⟩,inv:=λi=>i<=(AC (sB a)).length/\(Qz (sB a) i).filter (Lh (sB a))=[],meas:=λi=>(AC (sB a)).length-i }
def lsOo(a:BkS)(l:Nat):Shape:={ α:=LnK,dflt:=default,T:=λx=>⟨lnS (sB a) l x.i,lsR a x.l⟩,inv:=λx=>x.i<=(AC (sB a)).length/\x.l=(Qz (sB a) x.i).filter (Lh (sB a)),meas:=λx=>(AC (sB a)).length-x.i }
def lsIs(a:BkS)(l i j:Nat):List (Nat×AVal):=[(5,.bptr 205 0),(22,.d (ePts (AC (sB a)))),(23,.int (AC (sB a)).length),(24,.int j)] ++ lnS (sB a) l i
def lsIn(a:BkS)(q l:Nat):Shape:={ α:=IJ,dflt:=default,T:=λx=>⟨lsIs a l x.i x.j,(205,lsPt (gD (AC (sB a)) x.i)) :: lsH a (.d NC)⟩,inv:=λx=>x.i<(AC (sB a)).length/\x.j<=(AC (sB a)).length/\(AC (sB a)).length-x.i=q/\(RE (sB a) x.i x.j).filter (Lh (sB a))=[],meas:=λx=>(AC (sB a)).length-x.j,first:=[(205,104032)] }
def lsIo(a:BkS)(q l:Nat)(r:List (Nat×Nat)):Shape:={ α:=LnJ,dflt:=default,T:=λx=>⟨lsIs a l x.i x.j,(205,lsPt (gD (AC (sB a)) x.i)) :: lsR a x.l⟩,inv:=λx=>x.i<(AC (sB a)).length/\x.j<=(AC (sB a)).length/\(AC (sB a)).length-x.i=q/\x.l=(RE (sB a) x.i x.j).filter (Lh (sB a)),meas:=λx=>(AC (sB a)).length-x.j,first:=(205,104032) :: r,again:=r }
noncomputable def BSP(a:BkS):IterAnn:={ fn:=Tryz.f129,code:=AE Tryz.f129,live:=[0,1,2,7,8],ann:={ base:=λid=>100000+1000*(id+1),Γ:=Sym.look [(122,C_ends.spec NU),(107,F7),(54,AQB)],E:=[100,101,2048,3144],n:=41,inner:=λgs id=>if id=2 then some [lsOn a (gs.getD 0 0),lsOo a (gs.getD 0 0)] else if id=6 then some [lsIn a (gs.getD 0 0) (gs.getD 1 0),lsIo a (gs.getD 0 0) (gs.getD 1 0) [],lsIo a (gs.getD 0 0) (gs.getD 1 0) [(401,8048)]] else none } }
def ls8s(a:BkS):List (Nat×AVal):=[(0,.bptr 100 0),(1,.int a.k),(2,.int a.st),(7,.bptr 2048 0),(8,.bptr 3144 0)]
def ls8n(a:BkS):Shape:={ α:=One,dflt:=default,T:=λ_=>⟨ls8s a,lsH a (.d (Qr (bG (sB a))))⟩,inv:=λ_=>True,meas:=λ_=>0 }
def ls8o(a:BkS):Shape:={ α:=One,dflt:=default,T:=λ_=>⟨ls8s a,lsH a (.d (Qr (bG (sB a))))⟩,inv:=λ_=>True,meas:=λ_=>0,ffz:=[401] }
def lsU(a:BkS)(z:DVal):List (Nat×HCell):=bkK (C3 a.w a.k) ++ [(2048,.live (.box [.d (AT (sB a))])),(3144,.live (.box [.d z]))]
def ls9(a:BkS)(z:DVal):Shape:={ α:=One,dflt:=default,T:=λ_=>⟨[(2,.int a.st),(7,.bptr 2048 0),(8,.bptr 3144 0)],lsU a z⟩,inv:=λ_=>True,meas:=λ_=>0 }
def ls14(a:BkS)(z:DVal):Shape:={ α:=Nat,dflt:=0,T:=λi=>⟨[(7,.bptr 2048 0),(8,.bptr 3144 0),(11,.bptr 12064 0),(12,.bptr 12080 0),(13,.own 402 4 0 (cQ (sB a) a.st i).length),(67,.d (ePts (AC (sB a)))),(68,.int (AC (sB a)).length),(69,.int i)],lsU a z ++ [(12064,.live (.box [.int a.st,.int 0])),(12080,.live (.box [.int a.st,.int 200000])),(402,.live (rowL (cQ (sB a) a.st i)))]⟩,inv:=λi=>i<=(AC (sB a)).length,meas:=λi=>(AC (sB a)).length-i,first:=[(402,13064)],again:=[(402,17128)] }
def BQD(a:BkS)(v:AVal)(i:Nat):List (Nat×AVal):=[(7,.bptr 2048 0),(16,v),(85,.own 402 4 0 (XD (sB a) a.st).length),(86,.int (XD (sB a) a.st).length),(87,.int i)]
def BOG(a:BkS):List (Nat×HCell):=bkK (C3 a.w a.k) ++ [(2048,.live (.box [.d (AT (sB a))])),(402,.live (rowL (XD (sB a) a.st)))]
def CYG(a:BkS):Shape:={ α:=Nat,dflt:=0,T:=λi=>⟨BQD a (.d NC) i,BOG a⟩,inv:=λi=>i<=(XD (sB a) a.st).length/\((XD (sB a) a.st).take i).filter (okX (sB a))=[],meas:=λi=>(XD (sB a) a.st).length-i }
def COT(a:BkS):Shape:={ α:=LnK,dflt:=default,T:=λx=>⟨BQD a (.own 403 4 0 x.l.length) x.i,BOG a ++ [(403,.live (rowL x.l))]⟩,inv:=λx=>x.i<=(XD (sB a) a.st).length/\x.l=bG (sB a) ++ ((XD (sB a) a.st).take x.i).filter (okX (sB a)),meas:=λx=>(XD (sB a) a.st).length-x.i,first:=[(403,19016)] }
def CXC(a:BkS)(m:Nat):Shape:={ α:=Nat,dflt:=0,T:=λi=>⟨BQD a (.d NC) i,BOG a⟩,inv:=λi=>i<(XD (sB a) a.st).length/\(XD (sB a) a.st).length-i=m/\((XD (sB a) a.st).take (i+1)).filter (okX (sB a))=[],meas:=λ_=>0 }
def BRO(a:BkS)(m:Nat)(f:List (Nat×Nat)):Shape:={ α:=LnK,dflt:=default,T:=λx=>⟨BQD a (.own 403 4 0 x.l.length) x.i,BOG a ++ [(403,.live (rowL x.l))]⟩,inv:=λx=>x.i<(XD (sB a) a.st).length/\(XD (sB a) a.st).length-x.i=m/\x.l=bG (sB a) ++ ((XD (sB a) a.st).take (x.i+1)).filter (okX (sB a)),meas:=λ_=>0,first:=f }
def C_lns:Ctr:={ ro:=[100],α:=BkS,xs:=λa=>[.bptr 100 0,.int a.k,.int a.st],L:=λa=>bkL a.w,val:=λa=>.d (Qr (PX (sB a) a.st)),keep:=λa=>bkK (C3 a.w a.k),pre:=λa=>[US a.w.g a.w.b/\0<=a.st/\a.st<=2000] }
def CMO(c:Sym.Spec):List (FuncId×Sym.Spec):=[(68,C_inside.spec dBkI),(106,C_through.spec dGsK),(105,C_passing.spec dGsL),(107,F7),(122,C_ends.spec NU),(54,AQB),(123,c)]
noncomputable def BYN(a:BkS):Ann:={ ann 104 (CMO (C_cloN.spec dLs1)) with E:=[100,101],mt:=λid=>id==7||id==16||id==23,md:=λid=>if id=2 then some (λk=>if k=5 then 3 else 0) else none,iter:=λg=>if g=129 then some (BSP a) else none,loops:=λid=>if id=14 then some [ls14 a (Qr (bG (sB a)))] else if id=20 then some [COT a] else none,cut:=λid=>if id=8 then some [ls8n a,ls8o a] else if id=9 then some [ls9 a (Qr (bG (sB a)))] else none,cutIn:=λgs id=>if id=24 then some [BRO a (gs.getD 0 0) [(403,24048)],BRO a (gs.getD 0 0) []] else none }
noncomputable def BXQ(a:BkS):Ann:={ ann 104 (CMO (C_cloE.spec dNil)) with E:=[100,101],mt:=λid=>id==7||id==16||id==23,md:=λid=>if id=2 then some (λk=>if k=5 then 3 else 0) else none,iter:=λg=>if g=129 then some (BSP a) else none,loops:=λid=>if id=14 then some [ls14 a nilN] else if id=20 then some [CYG a,COT a] else none,cut:=λid=>if id=8 then some [ls8n a,ls8o a] else if id=9 then some [ls9 a nilN] else none,cutIn:=λgs id=>if id=24 then some [CXC a (gs.getD 0 0),BRO a (gs.getD 0 0) [(403,24048)],BRO a (gs.getD 0 0) []] else none }
def BYT(a:BkS):Prop:=AS ZP (BYN a) Tryz.f88 (AE Tryz.f88) (C_lns.xs a) (AB (C_lns.L a)) (C_lns.val a) (C_lns.keep a) [] [403]
abbrev Jt:=BkS.k
abbrev PM:=BkS.w
abbrev ATO:=@List.Mem Int
abbrev UJ:=BkS.st
abbrev VK:=@Exists LnK
abbrev DK:=LnK.l
abbrev AU:=LnK.i
abbrev I6:=@Eq (List Ln)
abbrev CGH:=@List.filter Ln
abbrev iU:=λ(f:LnK->Prop)=>∀(x:LnK),f x
abbrev ARI:=@List.nil Ln
abbrev YV:=@Exists LnJ
abbrev PR:=LnJ.j
abbrev aF:=LnJ.i
abbrev Kh:=LnJ.l
abbrev ACF:=λ(f:LnJ->Prop)=>∀(x:LnJ),f x
abbrev H4:=@cond Nat
abbrev Ir a b:=And a (Ep (λi=>b))
abbrev Sg a b c d e f:=AO (BD a b c d) e f
abbrev CCH a b:=C3 (PM a) (Jt b)
abbrev UP a:=CCH a a
abbrev AGP a b c:=BE (UP a) b c
abbrev Zl a b:=Ex (UP a) b
abbrev YA a b:=YJ (Zl a b) (λi=>Js i (Zl a b) (AGP a b i) (UP a) b)
abbrev KP a:=EL (λi=>YA a i)
abbrev EC a:=MU (UP a)
abbrev ED a:=VO (UP a)
abbrev Zm a:=Cp (UP a)
abbrev LY a:=EZ (Zm a)
abbrev MD a:=IW (Zm a)
abbrev sH a:=Be (CCH a a)
abbrev VR a:=AP (sH a)
abbrev LW a:=BQ (sH a)
abbrev Zn a b c d e f g:=BMP a b c d e f g g
abbrev YO a b:=LO a (AQ b)
abbrev Qq a b:=GQ a (AQ b)
abbrev BLB a b:=PX (sB a) b
abbrev eH a:=BLB a (UJ a)
abbrev HY a:=CO (DK a)
abbrev ADX a b:=LB (eH a) b
abbrev BYM a b:=XD (sB a) (UJ b)
abbrev KS a:=CO (BYM a a)
abbrev Wa a b c d e:=fL a (KS b) c d e
abbrev Xh a b c d e:=QS a b (KS c) d e
abbrev BMH a b:=I6 (DK a) b
abbrev YX a:=BYM a a
abbrev ALN a b:=CGH (okX (sB a)) ((@List.take Ln) b (YX a))
abbrev NH a:=bG (sB a)
abbrev BMG a b:=(@HAppend.hAppend (List Ln) (List Ln) (List Ln) (@instHAppendOfAppend (List Ln) (@List.instAppend Ln))) (NH a) (ALN a b)
abbrev wL a b c:=BMH a (BMG b c)
abbrev Nn a b c:=wL a b (AU c)
abbrev CFY a b c:=BD a b a c
abbrev BMM a b c d e f g h:=BK a b c d e f g CZ h
abbrev AVV a b c d e f g h p:=CFY AF a (BMM b c d (LW e) (VR f) (MD g) (LY h) p)
abbrev xR a:=BP (KS a)
abbrev KE a:=DR (KS a)
abbrev Aq a b c d e f g h p:=AVV a (KE b) (xR c) d e f g h p
abbrev BBH a b c:=RS (HY a) (DK b) c
abbrev Wm a b c:=BBH a b (DK c)
abbrev Sq a b:=LB (DK a) b
abbrev TP a b:=Sq a (HY b)
abbrev M7 a b:=OE (YX a) b
abbrev kY a b:=bL (YX a) b
abbrev pH a b:=GQ (YX a) b
abbrev QU a b c d e f g h p:=BHC a (KS b) (pH c d) (YX e) (kY f g) (M7 h p)
abbrev KH a:=AP (sB a)
abbrev JH a:=BQ (sB a)
abbrev uC a b:=AJ (AU a) b
abbrev yO a:=CN (AU a)
abbrev zY a b c:=IZ (KS a) b c
abbrev AEL a b c:=zY a (AU b) c
abbrev Np a b c:=AEL a b (AU c)
abbrev AQH a b c d e:=BD a b c (I6 d e)
abbrev Wz a b c d e:=AQH a b c (DK d) e
abbrev Zq a b:=BMG a (yO b)
abbrev AVQ a b:=FC a (KS b)
abbrev Zd a b:=AVQ (AU a) b
abbrev BCV a b:=AI (AU a) b
abbrev kD a b:=BCV a (AU b)
abbrev UQ a b c d e f(g:Nat->Prop) h(p:Nat->Prop):=DO a b c d e f g h (AG p)
abbrev OI a b c d:=EF a (HY b) c d
abbrev Im a:=AQ (AU a)
abbrev Mh a b:=M7 a (Im b)
abbrev Mu a b:=IV (YX a) (Im b)
abbrev Oj a b:=LO (YX a) (Im b)
abbrev Nl a b:=pH a (Im b)
abbrev AUQ a:=CN (HY a)
abbrev mP a b:=Sq a (AUQ b)
abbrev yK:=fF Ea 1
abbrev qK a:=fF (DR a) a
abbrev ADZ a:=U5 (qK a) yK a 32
abbrev U2 a:=ADZ (HY a)
abbrev VV a:=CG (sB a)
abbrev Rr a b:=S6 (VV a) b
abbrev AGK a b:=Kv (kY a b)
abbrev kL a b:=AGK a (Im b)
abbrev AEO a:=EK (VV a) (sB a)
abbrev AFS a:=HQ (VV a) (sB a)
abbrev Si a b c d e f g(h:Gau->Prop):=AQC (AFS a) (AEO b) c d e f (Fz (VV g)) h
abbrev AEU a b c:=aR a (VV b) (tQ c a a)
abbrev QZ a b c d e f:=AEU a b (AFT c d e f)
abbrev aA a:=dG (NH a)
abbrev JS a b:=cQ (sB a) (UJ a) b
abbrev TM a b:=CO (JS a b)
abbrev lI a b c:=DU (KS a) (TM b c)
abbrev HR a:=AHX (AC (sB a))
abbrev BEX a b:=TJ (HR a) b
abbrev yN a b c d e:=IB a b (BEX c d) (BEX c e)
abbrev nK a b:=Ko a (HR b)
abbrev Qa a b c d e f g h:=BK a b c d e d f g h
abbrev Cw a b c:=ET (AQ a) b c
abbrev ZL a b c d e f g h p:=EF a (TM b c) d (Cw (TJ e (TM f g)) h p)
abbrev BSH a b:=ABK (AC (sB a)) b
abbrev SU a b:=rI (BSH a b)
abbrev PU a b:=hd14 (BSH a b)
abbrev eU a b c:=LB (JS a b) c
abbrev Ns a b:=sG (TM a b) 2
abbrev eJ:=JQ 200000
abbrev Hi a:=AK (UJ a)
abbrev tH a b:=GQ (NH a) b
abbrev WY a:=CO (NH a)
abbrev OT a:=BP (HR a)
abbrev AUM a b:=AK (SU a b)
abbrev IK a:=AG (λi=>Lk i (HR a) (PU a i) (AUM a i))
abbrev OK a:=DR (HR a)
abbrev gR:=BGE 2
abbrev fG a b:=CR a (HR b)
abbrev BML a b:=hd84 (hd17 (UJ a) b)
abbrev As a:=BML a 200000
abbrev ZF a:=BML a 0
abbrev kV a b:=eU a b 2
abbrev oF a b:=AZY (HR a) b
abbrev Mz a:=ADX a 0
abbrev mN a:=OJ (BO a)
abbrev Ti a b c(d:Int->Prop) e f g:=Ro a b c d (JH e) (λi=>fX i (sB e)) f g
abbrev Tv a b(c:Nat->Prop):=QY (DU a b) c
abbrev AMC a b c:=MG (BE a b c)
abbrev wC a b c d e f g:=APH a b (AMC c d e) f g
abbrev Eg a b c:=BE (PM a) b c
abbrev qO a b c:=SJ (Eg a b c)
abbrev Ww a b:=(λ(x0 x1:Int)=>decide (x0=x1)) a (Jt b)
abbrev mM a b c:=QT (Eg a b c)
abbrev Fw a b:=Ex (PM a) b
abbrev AXM a b c:=BM (ACE a b) c
abbrev AYY a b c:=Va (bT a b) c
abbrev Ij a:=Cp (PM a)
abbrev Hq a:=Be (PM a)
abbrev tT a:=FF (AQ a) a
abbrev vO a b:=LB (NH a) b
abbrev ANP a b:=YJ (Fw a b) (λi=>uL i (Fw a b) (Eg a b i))
abbrev BAF a:=EL (λi=>ANP a i)
abbrev Xx a:=MU (PM a)
abbrev Wb a:=VO (PM a)
abbrev L8 a:=EZ (Ij a)
abbrev Bd a:=IW (Ij a)
abbrev Dt a:=AP (Hq a)
abbrev Bl a:=BQ (Hq a)
abbrev ZQ a b c d e f g h:=BKV a b (HR c) (fG b d) e f g h
abbrev AEV a b c:=GP a (HR b) c
abbrev Ak a b c d e f:=yN a (AEV b c d) e b f
abbrev BIH a b:=CGH (Lh (sB a)) b
abbrev BNB a b:=BIH a (Qz (sB a) b)
abbrev aO a b c:=BMH a (BNB b (AU c))
abbrev sM a b c d:=AR a b c b d
abbrev BHV a b c d e f g:=AHI a b c d e AF f g
abbrev APF a b c d e f(g:Nat->Prop):=BHV a b c d e f (AG g)
abbrev gV a b c d e f(g:Nat->Prop):=BMM a b c (Bl d) (Dt d) (Bd d) (L8 d) (APF (Wb e) (Xx e) (BAF e) (JH e) (KH e) f g)
abbrev dE a b c d:=Sy a b c (Kh d)
abbrev dV a:=CO (Kh a)
abbrev kU a b:=Sq a (dV b)
abbrev kH a b:=uC a (aF b)
abbrev cY a b:=FF a (HR b)
abbrev BHB a b c d e f:=AQH (FC a (HR b)) (cY c b) d e f
abbrev BNE a b c:=BIH a (RE (sB a) b c)
abbrev vU a b:=BNE a (aF b) (PR b)
abbrev BJU a b c:=DU (BEX a b) (BEX a c)
abbrev tC a b c:=BJU a (aF b) c
abbrev fD a b c:=BHB (aF a) b (PR a) (tC b a c) (Kh a) (vU b a)
abbrev tD a b:=AO (OK a) (IK a) b
abbrev ARZ a b c d e f g h:=BK a b c d e f e g h
abbrev AIJ a b c d e f g:=ARZ a b c d e d f g
abbrev tL a b c d:=AIJ (OT a) b (Aj c) (OK a) (IK a) (OT a) d
abbrev gG a b c d e f:=yN (tD a (tL a (AJ (PR b) c) d e)) (fD b a f) a (PR b) c
abbrev Jm a b c d e f:=gG a b (PR c) d e f
abbrev Mx a b c d e f:=Jm a b c d e (AU f)
abbrev UF a b:=SU a (aF b)
abbrev BIM a b c d e f(g:Nat->Prop):=gV (AI (aF a) b) c (BM (UF d a) e) d d (LB (Kh a) f) g
abbrev cT a b c d e f g(h:Nat->Prop):=BIM a (aF b) c d (UF e f) g h
abbrev YZ a b c d e f g(h:Nat->Prop):=cT a b c d e f (dV g) h
abbrev Ao a b c d:=dE a (dV b) (Kh c) d
abbrev MA a b:=PU a (aF b)
abbrev BIA a b c:=BM (MA a b) c
abbrev OM a b c:=BIA a b (MA a c)
abbrev Bo a b c d e(f:LnJ->Prop) g:=UG (DR a) b (Rr c d) e (YV f) g
abbrev UB a b c d e f g:=OU a (dV b) (Kh c) d e f g
abbrev IF a b c d:=EF a (dV b) c d
abbrev Aw a b:=SU a (PR b)
abbrev pU a b:=OE (Kh a) b
abbrev NW a b:=PU a (PR b)
abbrev lW a b:=IV (Kh a) b
abbrev kR a b:=LO (Kh a) b
abbrev qL a b:=GQ (Kh a) b
abbrev kX a:=CN (dV a)
abbrev mG a:=ADZ (dV a)
abbrev BLI a b c d e:=Ln.mk a b c (SU d e)
abbrev Av a b:=BLI (MA a b) (UF a b) (NW a b) a (PR b)
abbrev Ac a b c d e f g h(p:Gau->Prop):=Si a b c d e (AUM f g) h p
abbrev oN a b:=AK (UF a b)
abbrev Xu a:=I6 a ARI
abbrev Mi a b:=Xu (BNB a b)
abbrev AYS a b c:=AO (Aj a) b c
abbrev rO a b c:=AYS a (OK b) c
abbrev AWG a b c:=Ti (L8 a) (Wb a) (Xx a) (λi=>ANP a i) a b c
abbrev cX a:=AWG a AF AN
abbrev Bn a b c d e:=yN a b c (BY d) (BY e)
abbrev AYP a b:=BNE a (EB b) (BY b)
abbrev AUG a b c:=BJU a (EB b) c
abbrev OR a b c d e f g h:=BHB (EB a) b (BY c) (AUG d e f) (AYP g h) ARI
abbrev BXY a b c d e f:=BK a b c d e a b a f
abbrev AYD a b c d e f:=BXY (OK a) (IK b) (OT c) d (Aj e) f
abbrev Bq a b c d e f g:=AYD a b c (BCQ d e) f g
abbrev WS a b c d e f(g:Nat->Prop) h p:=DO (IK a) (OT b) c d e (Bl f) g (Bd h) (cX p)
abbrev WG a b:=fX a (Hq b)
abbrev LR a b:=SU a (EB b)
abbrev AZJ a b c:=BM (LR a b) c
abbrev Bc a b c d:=AZJ a b (LR c d)
abbrev GO a b:=PU a (EB b)
abbrev AVK a b c:=BM (GO a b) c
abbrev ZH a b c d:=AVK a b (GO c d)
abbrev Gp a b c d e f g h(p:Nat->Prop):=BIM a b (BIA c d e) f g h p
abbrev Ar a b:=SU a (BY b)
abbrev NZ a b:=PU a (BY b)
abbrev De:=Sx 4 yK 32
abbrev Ad a b c d e f g h:=BLI (GO a b) (LR c d) (NZ e f) g (BY h)
abbrev mW a b:=AUM a (EB b)
abbrev N9 a:=BX (PR a)
abbrev RY a b:=hd84 (BSH a b)
abbrev TS a b:=RY a (AU b)
abbrev BVT a b c d e:=Bk.mk a (CCX b c) (bT d) (ACE e)
abbrev BSM a b:=CCL (Be a) (Be b)
abbrev CHC a b c:=BVT (BSM a a) a a b c
abbrev Ej a:=CHC a a a
abbrev PK a:=Ej (PM a)
abbrev VQ a:=sQ (PK a) (Jt a)
abbrev Aa a:=sC (VQ a)
abbrev tU a b c d e f:=ARL a b c (RU d) e f
abbrev CE a b c d e f g h:=tU a b c d (BZ e f g) h
abbrev LA a b:=EL (λi=>AXM a i (ACE b i))
abbrev Sb a b c:=AYY a b (bT c b)
abbrev Rj a b:=EL (λi=>Sb a i b)
abbrev LZ a b c:=PY a (And b c)
abbrev Pb a:=AID (λi=>aR i a (BHU (AQJ i) (AOC i) (tE i) (Qo i)))
abbrev AFR a b c(d:Int->Int->Prop):=AR a (Pb b) (N1 c) (vI d c) (EL (λi=>LZ (ATO i c) (W9 i) (VF i)))
abbrev bH a:=BSM a a
abbrev SF a b(c:Int->Int->Prop):=AFR (kW (bH a)) (bH a) b c
abbrev Yp a:=Is (PM a)
abbrev fC a b c(d:Nat->Prop):=Tv a (Ex b c) d
abbrev dB a b c d e:=APH a b (MG c) d e
abbrev qW a b:=EK a (bH b)
abbrev cU a b:=HQ a (bH b)
attribute [go_sem] Jt PM ATO UJ VK DK AU I6 CGH iU ARI YV PR aF Kh ACF H4 Ir Sg CCH UP AGP Zl YA KP EC ED Zm LY MD sH VR LW Zn YO Qq BLB eH HY ADX BYM KS Wa Xh BMH YX ALN NH BMG wL Nn CFY BMM AVV xR KE Aq BBH Wm Sq TP M7 kY pH QU KH JH uC yO zY AEL Np AQH Wz Zq AVQ Zd BCV kD UQ OI Im Mh Mu Oj Nl AUQ mP yK qK ADZ U2 VV Rr AGK kL AEO AFS Si AEU QZ aA JS TM lI HR BEX yN nK Qa Cw ZL BSH SU PU eU Ns eJ Hi tH WY OT AUM IK OK gR fG BML As ZF kV oF Mz mN Ti Tv AMC wC Eg qO Ww mM Fw AXM AYY Ij Hq tT vO ANP BAF Xx Wb L8 Bd Dt Bl ZQ AEV Ak BIH BNB aO sM BHV APF gV dE dV kU kH cY BHB BNE vU BJU tC fD tD ARZ AIJ tL gG Jm Mx UF BIM cT YZ Ao MA BIA OM Bo UB IF Aw pU NW lW kR qL kX mG BLI Av Ac oN Xu Mi AYS rO AWG cX Bn AYP AUG OR BXY AYD Bq WS WG LR AZJ Bc GO AVK ZH Gp Ar NZ De Ad mW N9 RY TS BVT BSM CHC Ej PK VQ Aa tU CE LA Sb Rj LZ Pb AFR bH SF Yp fC dB qW cU
theorem CKN(a:BkS):(BYT a)=(UG (AO (AK (Jt a)) (HQ (bH (PM a)) (Hq a)) (IY (EK (bH (PM a)) (Hq a)) (BC (Yp a) (Ij a)) (BR (Yp a) (Ij a)) (Wb a) (Xx a) (λi=>Tv (Ex (PK a) i) (Fw a i) (λj=>wC j (Ex (PK a) i) (PK a) i j (MG (Eg a i j)) (CE (BA (PK a) i j) (mM a i j) (BE (PK a) i j) (Eg a i j) (PK a) i j (qO a i j)))) (cU (Hq a) (PM a)) (IY (qW (Hq a) (PM a)) (BC (Ij a) (Yp a)) (BR (Ij a) (Yp a)) (Wb a) (Xx a) (λi=>fC (Fw a i) (PK a) i (λj=>dB j (Fw a i) (Eg a i j) (AMC (PK a) i j) (tU (mM a i j) (BA (PK a) i j) (Eg a i j) (BE (PK a) i j) (qO a i j) (BZ (PK a) i j)))) (SF (PM a) (Yp a) OB) HO))) CZ (bT (PM a) (Jt a)) (KZ (AR (Hi a) (HQ (sH a) (Hq a)) (EK (sH a) (Hq a)) (BC (Zm a) (Ij a)) (Ro (BR (Zm a) (Ij a)) (Rj (UP a) (PM a)) (LA (UP a) (PM a)) (λi=>Tv (Zl a i) (Fw a i) (λj=>wC j (Zl a i) (UP a) i j (MG (Eg a i j)) (CE (BA (UP a) i j) (mM a i j) (AGP a i j) (Eg a i j) (UP a) i j (qO a i j)))) (HQ (sB a) (VQ a)) (λi=>UA i (sB a) (VQ a)) (vO a (Fw a (Jt a))) (AG (λi=>AQM i (WY a) (NH a) (Eg a (Jt a) i)))))) (Ep (λi=>MO HO (Iv (CH (sB a)) (mN (WY a))) (Mz a) (Ag (Mz a) (LW a) (VR a) (MD a) (LY a) (ED a) (EC a) (KP a)) (BD (YE (UW (UJ a)) (UJ a) (VF (UJ a))) (mQ (AFS a) (AEO a) (VV a)) (EI (λj=>XV (DY AF (kV a j) (oF a (VV a)) (AG (λk=>ZV k (HR a) (PU a k) (OY (VV a) k) (SU a k) (Bg (VV a) k))) (xT (HR a) (VV a)) (BX j) (LW a) (IY (VR a) (MD a) (LY a) (ED a) (EC a) (λk=>YA a k) (JH a) (Qa (KH a) (DR (WY a)) (AG (λk=>Jq k (WY a) (tH a k) (NH a) k k)) (Hi a) BB eJ (kV a j) (AG (λk=>OU k (TM a j) (JS a j) (ET k (MG (ZF a)) (MG (As a))) (ET k (QT (ZF a)) (QT (As a))) (ET k (RU (ZF a)) (RU (As a))) (ET k (SJ (ZF a)) (SJ (As a)))))))) j (HR a))) (AG (λj=>YH (nK j a) j (HR a) (fG j a) (gM (qK (TM a j)) (fF gR 2) (SA 2) (Ns a j) 32) (EI (λk=>yN (DY AF (eU a k (Ns a j)) (OK a) (IK a) (OT a) (AJ k j) (LW a) (IY (VR a) (MD a) (LY a) (ED a) (EC a) (λl=>YA a l) (JH a) (Qa (KH a) (DR (WY a)) (AG (λl=>Jq l (WY a) (tH a l) (NH a) l l)) (Hi a) BB eJ (eU a k (Ns a j)) (AG (λl=>OU l (TM a k) (JS a k) (ZL l a j (GQ (JS a j) l) l a j (UJ a) (PU a j)) (ZL l a j (LO (JS a j) l) l a j 0 (SU a j)) (ZL l a j (IV (JS a j) l) l a j (PU a j) (UJ a)) (ZL l a j (OE (JS a j) l) l a j (SU a j) 200000)))))) (nK k a) a k j)) (Sg (qJ (NH a)) (lH (aA a) (NH a)) (SA (aA a)) (Br (aA a)) (VK (λk=>EE (AVV (Sq k (aA a)) (lI a a j) (AI (KS a) (TM a j)) (BX (AU k)) a a a a (DO (ED a) (EC a) (KP a) (JH a) (KH a) (lI a a j) (λl=>Sy l (KS a) (YX a) (JS a j)) (Sq k (aA a)) (BBH k k (Jg (NH a))))) (AU k) (KS a) (Nn k a k))) (iU (λk=>Ee (GP (AU k) (KS a) (Nn k a k)) (AU k) (KS a) (Hv (UG (AFJ (AU k) (KS a) (Im k)) (FA (kL a k) (Si a a (Nl a k) (AK (Oj a k)) (Mu a k) (AK (Mh a k)) a (λl=>QZ l a (Nl a k) (Mu a k) (Oj a k) (Mh a k)))) (EP (kL a k) (Rr a (kY a (Im k)))) (U2 k) (VK (λl=>Wz (Aq (mP l k) a a (kD l k) a a a a (UQ (ED a) (EC a) (KP a) (JH a) (KH a) (KE a) (λm=>QU m a a m a a m a m) (mP l k) (λm=>OU m (HY l) (DK l) (OI m k (GQ (DK k) m) (Nl a k)) (OI m k (LO (DK k) m) (Oj a k)) (OI m k (IV (DK k) m) (Mu a k)) (OI m k (OE (DK k) m) (Mh a k))))) (Zd l a) (Np a l k) l (Zq a l))) (VK (λl=>Wz (Aq (TP l k) a a (kD l k) a a a a (DO (ED a) (EC a) (KP a) (JH a) (KH a) (KE a) (λm=>QU m a a m a a m a m) (TP l k) (Wm l l k))) (Zd l a) (Np a l k) l (Zq a l)))) (iU (λl=>Wa (AU l) a (Np a l k) (wL l a (yO l)) (VK (λm=>Xh (Aq (TP m l) a a (uC m (AU l)) a a a a (DO (ED a) (EC a) (KP a) (JH a) (KH a) (KE a) (λn=>QU n a a n a a n a n) (TP m l) (Wm m m l))) (AU m) a (Nn m a m) (AU k)))))) (Tl (ADX a (HY k)) (HY k) (Ag (AG (λl=>Zn l (CO (eH a)) (eH a) (Qq (DK k) l) (YO (DK k) l) (DK k) (AQ l))) (LW a) (VR a) (MD a) (LY a) (ED a) (EC a) (KP a))))))))))) (Ir (Hv (QY (QY (AY (VQ a)) (λi=>UA i (CG (VQ a)) (VQ a))) (λi=>BD (mQ (Zf (Aa a) (VQ a)) (Xv (Aa a) (VQ a)) (Aa a)) (EI (λj=>EE (AYS i (oF a (Aa a)) (Ld (AG (λk=>ZV k (HR a) (PU a k) (OY (Aa a) k) (SU a k) (Bg (Aa a) k))) (oF a (Aa a)) (xT (HR a) (Aa a)) (BX j) (Bl a) (Dt a) (Bd a) (Ro (L8 a) (Wb a) (Xx a) (λk=>ANP a k) (HQ (sB a) (VQ a)) (λk=>UA k (sB a) (VQ a)) AF AN))) j (HR a) (Mi a j))) (AG (λj=>Ee (AEV j a (Mi a j)) j (HR a) (AR (fG j a) (UW (PU a j)) (DR i) (Si a a (MG (RY a j)) (Su (RY a j)) (RU (RY a j)) (Sj (RY a j)) a (λk=>AEU k a (HX (RY a j)))) (Gj (Rr a (RY a j)) (cH De (YV (λk=>Fp (tD a (tL a (N9 k) i (Gp k j a k (PU a j) a (SU a j) 1 (λl=>UB l k k (MG (RY a j)) (QT (RY a j)) (RU (RY a j)) (SJ (RY a j)))))) (aF k) (HR a) (cY (PR k) a) (tC a k j) (I6 (Kh k) (vU a k)))) (uD (λk=>ZQ (OR k a k a k j a k) (BY k) a a (Ad a k a k a k a k) (Bo i (Ac a a (GO a k) (mW a k) (NZ a k) a (BY k) a (λl=>QZ l a (GO a k) (NZ a k) (LR a k) (Ar a k))) a (Ad a k a k a k a k) De (λl=>gG a l (BY k) i (Gp l (EB k) a l (GO a k) a (LR a k) 1 (λm=>UB m l l (GO a k) (LR a k) (NZ a k) (Ar a k))) j) (XJ (λl=>Bn (Bq a a a l k i (WS a a (UY l k) (ZH a l a k) (Bc a l a k) a (λm=>WG m a) a a)) (OR l a l a l j a l) a l k))) (XJ (λl=>Bn (Bq a a a l k i (WS a a (UY l k) (ZH a l a k) (Bc a l a k) a (λm=>WG m a) a a)) (OR l a l a l j a l) a l k)) (EI (λl=>Ak (rO i a (Ld (IK a) (OK a) (OT a) (iD l k) (Bl a) (Dt a) (Bd a) (cX a))) l a (Mi a l) a j)))) (ACF (λk=>ZQ (fD k a j) (PR k) a a (Av a k) (Bo i (Ac a a (MA a k) (oN a k) (NW a k) a (PR k) a (λl=>QZ l a (MA a k) (NW a k) (UF a k) (Aw a k))) a (Av a k) (mG k) (λl=>Jm a l k i (cT l k (OM a l k) a a k (kX k) (λm=>UB m l l (IF m k (qL k m) (MA a k)) (IF m k (kR k m) (UF a k)) (IF m k (lW k m) (NW a k)) (IF m k (pU k m) (Aw a k)))) j) (YV (λl=>Jm a l k i (YZ l k (OM a l k) a a k k (λm=>Ao m l l k)) j))) (YV (λl=>Jm a l k i (YZ l k (OM a l k) a a k k (λm=>Ao m l l k)) j)) (VK (λl=>Ak (sM (Aj i) (OK a) (IK a) (gV (IK a) (OT a) (kH l k) a a (kU l k) (λm=>dE m (HY l) (DK l) k))) (AU l) a (aO l a l) a j))))) (XJ (λk=>Fp (AYD a a a (BX (BY k)) i (WS a a (APC k j) (AVK a k (PU a j)) (AZJ a k (SU a j)) a (λl=>WG l a) a a)) (EB k) (HR a) (cY (BY k) a) (AUG a k j) (Xu (AYP a k)))) (Hv (uD (λk=>ZQ (OR k a k a k j a k) (BY k) a a (Ad a k a k a k a k) (Bo i (Ac a a (GO a k) (mW a k) (NZ a k) a (BY k) a (λl=>QZ l a (GO a k) (NZ a k) (LR a k) (Ar a k))) a (Ad a k a k a k a k) De (λl=>gG a l (BY k) i (Gp l (EB k) a l (GO a k) a (LR a k) 1 (λm=>UB m l l (GO a k) (LR a k) (NZ a k) (Ar a k))) j) (XJ (λl=>Bn (Bq a a a l k i (WS a a (UY l k) (ZH a l a k) (Bc a l a k) a (λm=>WG m a) a a)) (OR l a l a l j a l) a l k))) (XJ (λl=>Bn (Bq a a a l k i (WS a a (UY l k) (ZH a l a k) (Bc a l a k) a (λm=>WG m a) a a)) (OR l a l a l j a l) a l k)) (EI (λl=>Ak (rO i a (Ld (IK a) (OK a) (OT a) (iD l k) (Bl a) (Dt a) (Bd a) (cX a))) l a (Mi a l) a j)))) (ACF (λk=>ZQ (fD k a j) (PR k) a a (Av a k) (Bo i (Ac a a (MA a k) (oN a k) (NW a k) a (PR k) a (λl=>QZ l a (MA a k) (NW a k) (UF a k) (Aw a k))) a (Av a k) (mG k) (λl=>Jm a l k i (cT l k (OM a l k) a a k (kX k) (λm=>UB m l l (IF m k (qL k m) (MA a k)) (IF m k (kR k m) (UF a k)) (IF m k (lW k m) (NW a k)) (IF m k (pU k m) (Aw a k)))) j) (YV (λl=>Jm a l k i (YZ l k (OM a l k) a a k k (λm=>Ao m l l k)) j))) (YV (λl=>Jm a l k i (YZ l k (OM a l k) a a k k (λm=>Ao m l l k)) j)) (VK (λl=>Ak (sM (Aj i) (OK a) (IK a) (gV (IK a) (OT a) (kH l k) a a (kU l k) (λm=>dE m (HY l) (DK l) k))) (AU l) a (aO l a l) a j))))))) (KZ (AW (AK (Jt a)) (Hi a) (Bl a) (Dt a) (Bd a) (AWG a (vO a 0) (vO a 0)))))) (iU (λj=>Ee (AEV (AU j) a (aO j a j)) (AU j) (HR a) (AR (fG (AU j) a) (UW (PU a (AU j))) (DR i) (Si a a (MG (TS a j)) (Su (TS a j)) (RU (TS a j)) (Sj (TS a j)) a (λk=>AEU k a (HX (TS a j)))) (Gj (Rr a (TS a j)) (cH (U2 j) (YV (λk=>Fp (tD a (tL a (N9 k) i (Gp k (AU j) a k (PU a (AU j)) a (SU a (AU j)) (AUQ j) (λl=>UB l k k (OI l j (GQ (DK j) l) (MG (TS a j))) (OI l j (LO (DK j) l) (QT (TS a j))) (OI l j (IV (DK j) l) (RU (TS a j))) (OI l j (OE (DK j) l) (SJ (TS a j))))))) (aF k) (HR a) (cY (PR k) a) (tC a k (AU j)) (I6 (Kh k) (vU a k)))) (uD (λk=>ZQ (OR k a k a k (AU j) a k) (BY k) a a (Ad a k a k a k a k) (Bo i (Ac a a (GO a k) (mW a k) (NZ a k) a (BY k) a (λl=>QZ l a (GO a k) (NZ a k) (LR a k) (Ar a k))) a (Ad a k a k a k a k) De (λl=>gG a l (BY k) i (Gp l (EB k) a l (GO a k) a (LR a k) 1 (λm=>UB m l l (GO a k) (LR a k) (NZ a k) (Ar a k))) (AU j)) (XJ (λl=>Bn (Bq a a a l k i (WS a a (UY l k) (ZH a l a k) (Bc a l a k) a (λm=>WG m a) a a)) (OR l a l a l (AU j) a l) a l k))) (XJ (λl=>Bn (Bq a a a l k i (WS a a (UY l k) (ZH a l a k) (Bc a l a k) a (λm=>WG m a) a a)) (OR l a l a l (AU j) a l) a l k)) (EI (λl=>Ak (rO i a (Ld (IK a) (OK a) (OT a) (iD l k) (Bl a) (Dt a) (Bd a) (cX a))) l a (Mi a l) a (AU j))))) (ACF (λk=>ZQ (fD k a (AU j)) (PR k) a a (Av a k) (Bo i (Ac a a (MA a k) (oN a k) (NW a k) a (PR k) a (λl=>QZ l a (MA a k) (NW a k) (UF a k) (Aw a k))) a (Av a k) (mG k) (λl=>Mx a l k i (cT l k (OM a l k) a a k (kX k) (λm=>UB m l l (IF m k (qL k m) (MA a k)) (IF m k (kR k m) (UF a k)) (IF m k (lW k m) (NW a k)) (IF m k (pU k m) (Aw a k)))) j) (YV (λl=>Mx a l k i (YZ l k (OM a l k) a a k k (λm=>Ao m l l k)) j))) (YV (λl=>Mx a l k i (YZ l k (OM a l k) a a k k (λm=>Ao m l l k)) j)) (VK (λl=>Ak (sM (Aj i) (OK a) (IK a) (gV (IK a) (OT a) (kH l k) a a (kU l k) (λm=>dE m (HY l) (DK l) k))) (AU l) a (aO l a l) a (AU j)))))) (YV (λk=>Fp (tD a (tL a (N9 k) i (Gp k (AU j) a k (PU a (AU j)) a (SU a (AU j)) (HY j) (λl=>Sy l (dV k) (Kh k) (DK j))))) (aF k) (HR a) (cY (PR k) a) (tC a k (AU j)) (I6 (Kh k) (vU a k)))) (Hv (uD (λk=>ZQ (OR k a k a k (AU j) a k) (BY k) a a (Ad a k a k a k a k) (Bo i (Ac a a (GO a k) (mW a k) (NZ a k) a (BY k) a (λl=>QZ l a (GO a k) (NZ a k) (LR a k) (Ar a k))) a (Ad a k a k a k a k) De (λl=>gG a l (BY k) i (Gp l (EB k) a l (GO a k) a (LR a k) 1 (λm=>UB m l l (GO a k) (LR a k) (NZ a k) (Ar a k))) (AU j)) (XJ (λl=>Bn (Bq a a a l k i (WS a a (UY l k) (ZH a l a k) (Bc a l a k) a (λm=>WG m a) a a)) (OR l a l a l (AU j) a l) a l k))) (XJ (λl=>Bn (Bq a a a l k i (WS a a (UY l k) (ZH a l a k) (Bc a l a k) a (λm=>WG m a) a a)) (OR l a l a l (AU j) a l) a l k)) (EI (λl=>Ak (rO i a (Ld (IK a) (OK a) (OT a) (iD l k) (Bl a) (Dt a) (Bd a) (cX a))) l a (Mi a l) a (AU j))))) (ACF (λk=>ZQ (fD k a (AU j)) (PR k) a a (Av a k) (Bo i (Ac a a (MA a k) (oN a k) (NW a k) a (PR k) a (λl=>QZ l a (MA a k) (NW a k) (UF a k) (Aw a k))) a (Av a k) (mG k) (λl=>Mx a l k i (cT l k (OM a l k) a a k (kX k) (λm=>UB m l l (IF m k (qL k m) (MA a k)) (IF m k (kR k m) (UF a k)) (IF m k (lW k m) (NW a k)) (IF m k (pU k m) (Aw a k)))) j) (YV (λl=>Mx a l k i (YZ l k (OM a l k) a a k k (λm=>Ao m l l k)) j))) (YV (λl=>Mx a l k i (YZ l k (OM a l k) a a k k (λm=>Ao m l l k)) j)) (VK (λl=>Ak (sM (Aj i) (OK a) (IK a) (gV (IK a) (OT a) (kH l k) a a (kU l k) (λm=>dE m (HY l) (DK l) k))) (AU l) a (aO l a l) a (AU j)))))))) (KZ (AIA (Jt a) (UJ a) (AR (Bl a) (Dt a) (Bd a) (L8 a) (BK CZ (Wb a) (Xx a) (BAF a) (JH a) (KH a) (vO a (HY j)) (tT (HY j)) (AG (λk=>Zn k (WY a) (NH a) (Qq (DK j) k) (YO (DK j) k) (DK j) (AQ k))))))))))) (lN HO (KZ (AR (Hi a) (HQ (sH a) (Hq a)) (EK (sH a) (Hq a)) (BC (Zm a) (Ij a)) (Ti (BR (Zm a) (Ij a)) (EL (λi=>AYY (UP a) i (WA (bT (PM a)) (Jt a) i))) (EL (λi=>AXM (UP a) i (xG (bT (PM a)) (ACE (PM a)) (Jt a) i))) (λi=>Tv (Zl a i) (H4 (Ww i a) (WY a) (Fw a i)) (λj=>wC j (Zl a i) (UP a) i j (zW (Ww i a) (tH a j) (MG (Eg a i j))) (ARL (BA (UP a) i j) (zW (Ww i a) (LO (NH a) j) (mM a i j)) (AGP a i j) (zW (Ww i a) (IV (NH a) j) (RU (Eg a i j))) (BZ (UP a) i j) (zW (Ww i a) (OE (NH a) j) (qO a i j))))) a (DR (WY a)) (AG (λi=>Jq i (WY a) (tH a i) (NH a) i i))))))) (MO HO (Iv (CH (sB a)) (mN (WY a))) (Mz a) (Ag (Mz a) (LW a) (VR a) (MD a) (LY a) (ED a) (EC a) (KP a)) (BD (YE (UW (UJ a)) (UJ a) (VF (UJ a))) (mQ (AFS a) (AEO a) (VV a)) (EI (λi=>XV (DY AF (kV a i) (oF a (VV a)) (AG (λj=>ZV j (HR a) (PU a j) (OY (VV a) j) (SU a j) (Bg (VV a) j))) (xT (HR a) (VV a)) (BX i) (LW a) (IY (VR a) (MD a) (LY a) (ED a) (EC a) (λj=>YA a j) (JH a) (Qa (KH a) (DR (WY a)) (AG (λj=>Jq j (WY a) (tH a j) (NH a) j j)) (Hi a) BB eJ (kV a i) (AG (λj=>OU j (TM a i) (JS a i) (ET j (MG (ZF a)) (MG (As a))) (ET j (QT (ZF a)) (QT (As a))) (ET j (RU (ZF a)) (RU (As a))) (ET j (SJ (ZF a)) (SJ (As a)))))))) i (HR a))) (AG (λi=>YH (nK i a) i (HR a) (fG i a) (gM (qK (TM a i)) (fF gR 2) (SA 2) (Ns a i) 32) (EI (λj=>yN (DY AF (eU a j (Ns a i)) (OK a) (IK a) (OT a) (AJ j i) (LW a) (IY (VR a) (MD a) (LY a) (ED a) (EC a) (λk=>YA a k) (JH a) (Qa (KH a) (DR (WY a)) (AG (λk=>Jq k (WY a) (tH a k) (NH a) k k)) (Hi a) BB eJ (eU a j (Ns a i)) (AG (λk=>OU k (TM a j) (JS a j) (ZL k a i (GQ (JS a i) k) k a i (UJ a) (PU a i)) (ZL k a i (LO (JS a i) k) k a i 0 (SU a i)) (ZL k a i (IV (JS a i) k) k a i (PU a i) (UJ a)) (ZL k a i (OE (JS a i) k) k a i (SU a i) 200000)))))) (nK j a) a j i)) (Sg (qJ (NH a)) (lH (aA a) (NH a)) (SA (aA a)) (Br (aA a)) (VK (λj=>EE (AVV (Sq j (aA a)) (lI a a i) (AI (KS a) (TM a i)) (BX (AU j)) a a a a (DO (ED a) (EC a) (KP a) (JH a) (KH a) (lI a a i) (λk=>Sy k (KS a) (YX a) (JS a i)) (Sq j (aA a)) (BBH j j (Jg (NH a))))) (AU j) (KS a) (Nn j a j))) (iU (λj=>Ee (GP (AU j) (KS a) (Nn j a j)) (AU j) (KS a) (Hv (UG (AFJ (AU j) (KS a) (Im j)) (FA (kL a j) (Si a a (Nl a j) (AK (Oj a j)) (Mu a j) (AK (Mh a j)) a (λk=>QZ k a (Nl a j) (Mu a j) (Oj a j) (Mh a j)))) (EP (kL a j) (Rr a (kY a (Im j)))) (U2 j) (VK (λk=>Wz (Aq (mP k j) a a (kD k j) a a a a (UQ (ED a) (EC a) (KP a) (JH a) (KH a) (KE a) (λl=>QU l a a l a a l a l) (mP k j) (λl=>OU l (HY k) (DK k) (OI l j (GQ (DK j) l) (Nl a j)) (OI l j (LO (DK j) l) (Oj a j)) (OI l j (IV (DK j) l) (Mu a j)) (OI l j (OE (DK j) l) (Mh a j))))) (Zd k a) (Np a k j) k (Zq a k))) (VK (λk=>Wz (Aq (TP k j) a a (kD k j) a a a a (DO (ED a) (EC a) (KP a) (JH a) (KH a) (KE a) (λl=>QU l a a l a a l a l) (TP k j) (Wm k k j))) (Zd k a) (Np a k j) k (Zq a k)))) (iU (λk=>Wa (AU k) a (Np a k j) (wL k a (yO k)) (VK (λl=>Xh (Aq (TP l k) a a (uC l (AU k)) a a a a (DO (ED a) (EC a) (KP a) (JH a) (KH a) (KE a) (λm=>QU m a a m a a m a m) (TP l k) (Wm l l k))) (AU l) a (Nn l a l) (AU j)))))) (Tl (ADX a (HY j)) (HY j) (Ag (AG (λk=>Zn k (CO (eH a)) (eH a) (Qq (DK j) k) (YO (DK j) k) (DK j) (AQ k))) (LW a) (VR a) (MD a) (LY a) (ED a) (EC a) (KP a)))))))))))):=by kernel_rfl
def CDZ(a:BkS):Prop:=AS ZP (BXQ a) Tryz.f88 (AE Tryz.f88) (C_lns.xs a) (AB (C_lns.L a)) (C_lns.val a) (C_lns.keep a) [] [403]
abbrev Po a b:=Xu (ALN a b)
abbrev qV a b:=fX a (sH b)
abbrev wT a b:=IV a (AQ b)
attribute [go_sem] Po qV wT
theorem CJS(a:BkS):(CDZ a)=(UG (AO (AK (Jt a)) (HQ (bH (PM a)) (Hq a)) (IY (EK (bH (PM a)) (Hq a)) (BC (Yp a) (Ij a)) (BR (Yp a) (Ij a)) (Wb a) (Xx a) (λi=>Tv (Ex (PK a) i) (Fw a i) (λj=>wC j (Ex (PK a) i) (PK a) i j (MG (Eg a i j)) (CE (BA (PK a) i j) (mM a i j) (BE (PK a) i j) (Eg a i j) (PK a) i j (qO a i j)))) (cU (Hq a) (PM a)) (IY (qW (Hq a) (PM a)) (BC (Ij a) (Yp a)) (BR (Ij a) (Yp a)) (Wb a) (Xx a) (λi=>fC (Fw a i) (PK a) i (λj=>dB j (Fw a i) (Eg a i j) (AMC (PK a) i j) (tU (mM a i j) (BA (PK a) i j) (Eg a i j) (BE (PK a) i j) (qO a i j) (BZ (PK a) i j)))) (SF (PM a) (Yp a) OB) HO))) CZ (bT (PM a) (Jt a)) (KZ (AR (Hi a) (HQ (sH a) (Hq a)) (EK (sH a) (Hq a)) (BC (Zm a) (Ij a)) (Ro (BR (Zm a) (Ij a)) (Rj (UP a) (PM a)) (LA (UP a) (PM a)) (λi=>Tv (Zl a i) (Fw a i) (λj=>wC j (Zl a i) (UP a) i j (MG (Eg a i j)) (CE (BA (UP a) i j) (mM a i j) (AGP a i j) (Eg a i j) (UP a) i j (qO a i j)))) (HQ (sB a) (VQ a)) (λi=>UA i (sB a) (VQ a)) (DU 0 (Fw a (Jt a))) AF))) (Ep (λi=>MO HO (Iv (CH (sB a)) (mN 0)) (Mz a) (Ag (Mz a) (LW a) (VR a) (MD a) (LY a) (ED a) (EC a) (KP a)) (BD (YE (UW (UJ a)) (UJ a) (VF (UJ a))) (mQ (AFS a) (AEO a) (VV a)) (EI (λj=>XV (DY AF (kV a j) (oF a (VV a)) (AG (λk=>ZV k (HR a) (PU a k) (OY (VV a) k) (SU a k) (Bg (VV a) k))) (xT (HR a) (VV a)) (BX j) (LW a) (IY (VR a) (MD a) (LY a) (ED a) (EC a) (λk=>YA a k) (JH a) (Qa (KH a) AF AN (Hi a) BB eJ (kV a j) (AG (λk=>OU k (TM a j) (JS a j) (ET k (MG (ZF a)) (MG (As a))) (ET k (QT (ZF a)) (QT (As a))) (ET k (RU (ZF a)) (RU (As a))) (ET k (SJ (ZF a)) (SJ (As a)))))))) j (HR a))) (AG (λj=>YH (nK j a) j (HR a) (fG j a) (gM (qK (TM a j)) (fF gR 2) (SA 2) (Ns a j) 32) (EI (λk=>yN (DY AF (eU a k (Ns a j)) (OK a) (IK a) (OT a) (AJ k j) (LW a) (IY (VR a) (MD a) (LY a) (ED a) (EC a) (λl=>YA a l) (JH a) (Qa (KH a) AF AN (Hi a) BB eJ (eU a k (Ns a j)) (AG (λl=>OU l (TM a k) (JS a k) (ZL l a j (GQ (JS a j) l) l a j (UJ a) (PU a j)) (ZL l a j (LO (JS a j) l) l a j 0 (SU a j)) (ZL l a j (IV (JS a j) l) l a j (PU a j) (UJ a)) (ZL l a j (OE (JS a j) l) l a j (SU a j) 200000)))))) (nK k a) a k j)) (BD (QY AF AKT) (EI (λk=>EE (EN (DO AN AF (lI a a j) (AI (KS a) (TM a j)) (BX k) (LW a) (λl=>qV l a) (MD a) (Ti (LY a) (ED a) (EC a) (λl=>YA a l) a (lI a a j) (RS (KS a) (YX a) (JS a j))))) k (KS a) (Po a k))) (AG (λk=>Mb (GP k (KS a) (Po a k)) k (KS a) (UG (dR k (KS a) k) (FA (AGK a (AQ k)) (Si a a (pH a (AQ k)) (AK (YO (YX a) k)) (wT (YX a) k) (AK (M7 a (AQ k))) a (λl=>QZ l a (pH a (AQ k)) (wT (YX a) k) (YO (YX a) k) (M7 a (AQ k))))) (EP (AGK a (AQ k)) (Rr a (kY a (AQ k)))) De (VK (λl=>Wz (Aq (Sq l 1) a a (BCV l k) a a a a (UQ (ED a) (EC a) (KP a) (JH a) (KH a) (KE a) (λm=>QU m a a m a a m a m) (Sq l 1) (λm=>Zn m (HY l) (DK l) (pH a (AQ k)) (YO (YX a) k) (YX a) (AQ k)))) (Zd l a) (AEL a l k) l (Zq a l))) (EI (λl=>AQH (EN (DO AN AF (KE a) (xR a) (AI l k) (LW a) (λm=>qV m a) (MD a) (Ti (LY a) (ED a) (EC a) (λm=>YA a m) a (KE a) (AG (λm=>QU m a a m a a m a m))))) (AVQ l a) (zY a l k) (ALN a (CN l)) ARI))) (λl=>Wa l a (zY a l k) (Po a (CN l)) (EI (λm=>Xh (EN (DO AN AF (KE a) (xR a) (AJ m l) (LW a) (λn=>qV n a) (MD a) (Ti (LY a) (ED a) (EC a) (λn=>YA a n) a (KE a) (AG (λn=>QU n a a n a a n a n))))) m a (Po a m) k))) (iU (λl=>Wa (AU l) a (AEL a l k) (wL l a (yO l)) (VK (λm=>Xh (Aq (TP m l) a a (uC m (AU l)) a a a a (DO (ED a) (EC a) (KP a) (JH a) (KH a) (KE a) (λn=>QU n a a n a a n a n) (TP m l) (Wm m m l))) (AU m) a (Nn m a m) k)))) (And (Mz a) (Ag (Mz a) (LW a) (VR a) (MD a) (LY a) (ED a) (EC a) (KP a))))) (iU (λk=>Mb (GP (AU k) (KS a) (Nn k a k)) (AU k) (KS a) (UG (AFJ (AU k) (KS a) (Im k)) (FA (kL a k) (Si a a (Nl a k) (AK (Oj a k)) (Mu a k) (AK (Mh a k)) a (λl=>QZ l a (Nl a k) (Mu a k) (Oj a k) (Mh a k)))) (EP (kL a k) (Rr a (kY a (Im k)))) (U2 k) (VK (λl=>Wz (Aq (mP l k) a a (kD l k) a a a a (UQ (ED a) (EC a) (KP a) (JH a) (KH a) (KE a) (λm=>QU m a a m a a m a m) (mP l k) (λm=>OU m (HY l) (DK l) (OI m k (GQ (DK k) m) (Nl a k)) (OI m k (LO (DK k) m) (Oj a k)) (OI m k (IV (DK k) m) (Mu a k)) (OI m k (OE (DK k) m) (Mh a k))))) (Zd l a) (Np a l k) l (Zq a l))) (VK (λl=>Wz (Aq (TP l k) a a (kD l k) a a a a (DO (ED a) (EC a) (KP a) (JH a) (KH a) (KE a) (λm=>QU m a a m a a m a m) (TP l k) (Wm l l k))) (Zd l a) (Np a l k) l (Zq a l)))) (λl=>Wa l a (zY a l (AU k)) (Po a (CN l)) (EI (λm=>Xh (EN (DO AN AF (KE a) (xR a) (AJ m l) (LW a) (λn=>qV n a) (MD a) (Ti (LY a) (ED a) (EC a) (λn=>YA a n) a (KE a) (AG (λn=>QU n a a n a a n a n))))) m a (Po a m) (AU k)))) (iU (λl=>Wa (AU l) a (Np a l k) (wL l a (yO l)) (VK (λm=>Xh (Aq (TP m l) a a (uC m (AU l)) a a a a (DO (ED a) (EC a) (KP a) (JH a) (KH a) (KE a) (λn=>QU n a a n a a n a n) (TP m l) (Wm m m l))) (AU m) a (Nn m a m) (AU k))))) (Tl (ADX a (HY k)) (HY k) (Ag (AG (λl=>Zn l (CO (eH a)) (eH a) (Qq (DK k) l) (YO (DK k) l) (DK k) (AQ l))) (LW a) (VR a) (MD a) (LY a) (ED a) (EC a) (KP a))))))))))) (Ir (Hv (QY (QY (AY (VQ a)) (λi=>UA i (CG (VQ a)) (VQ a))) (λi=>BD (mQ (Zf (Aa a) (VQ a)) (Xv (Aa a) (VQ a)) (Aa a)) (EI (λj=>EE (AYS i (oF a (Aa a)) (Ld (AG (λk=>ZV k (HR a) (PU a k) (OY (Aa a) k) (SU a k) (Bg (Aa a) k))) (oF a (Aa a)) (xT (HR a) (Aa a)) (BX j) (Bl a) (Dt a) (Bd a) (Ro (L8 a) (Wb a) (Xx a) (λk=>ANP a k) (HQ (sB a) (VQ a)) (λk=>UA k (sB a) (VQ a)) AF AN))) j (HR a) (Mi a j))) (AG (λj=>Ee (AEV j a (Mi a j)) j (HR a) (AR (fG j a) (UW (PU a j)) (DR i) (Si a a (MG (RY a j)) (Su (RY a j)) (RU (RY a j)) (Sj (RY a j)) a (λk=>AEU k a (HX (RY a j)))) (Gj (Rr a (RY a j)) (cH De (YV (λk=>Fp (tD a (tL a (N9 k) i (Gp k j a k (PU a j) a (SU a j) 1 (λl=>UB l k k (MG (RY a j)) (QT (RY a j)) (RU (RY a j)) (SJ (RY a j)))))) (aF k) (HR a) (cY (PR k) a) (tC a k j) (I6 (Kh k) (vU a k)))) (uD (λk=>ZQ (OR k a k a k j a k) (BY k) a a (Ad a k a k a k a k) (Bo i (Ac a a (GO a k) (mW a k) (NZ a k) a (BY k) a (λl=>QZ l a (GO a k) (NZ a k) (LR a k) (Ar a k))) a (Ad a k a k a k a k) De (λl=>gG a l (BY k) i (Gp l (EB k) a l (GO a k) a (LR a k) 1 (λm=>UB m l l (GO a k) (LR a k) (NZ a k) (Ar a k))) j) (XJ (λl=>Bn (Bq a a a l k i (WS a a (UY l k) (ZH a l a k) (Bc a l a k) a (λm=>WG m a) a a)) (OR l a l a l j a l) a l k))) (XJ (λl=>Bn (Bq a a a l k i (WS a a (UY l k) (ZH a l a k) (Bc a l a k) a (λm=>WG m a) a a)) (OR l a l a l j a l) a l k)) (EI (λl=>Ak (rO i a (Ld (IK a) (OK a) (OT a) (iD l k) (Bl a) (Dt a) (Bd a) (cX a))) l a (Mi a l) a j)))) (ACF (λk=>ZQ (fD k a j) (PR k) a a (Av a k) (Bo i (Ac a a (MA a k) (oN a k) (NW a k) a (PR k) a (λl=>QZ l a (MA a k) (NW a k) (UF a k) (Aw a k))) a (Av a k) (mG k) (λl=>Jm a l k i (cT l k (OM a l k) a a k (kX k) (λm=>UB m l l (IF m k (qL k m) (MA a k)) (IF m k (kR k m) (UF a k)) (IF m k (lW k m) (NW a k)) (IF m k (pU k m) (Aw a k)))) j) (YV (λl=>Jm a l k i (YZ l k (OM a l k) a a k k (λm=>Ao m l l k)) j))) (YV (λl=>Jm a l k i (YZ l k (OM a l k) a a k k (λm=>Ao m l l k)) j)) (VK (λl=>Ak (sM (Aj i) (OK a) (IK a) (gV (IK a) (OT a) (kH l k) a a (kU l k) (λm=>dE m (HY l) (DK l) k))) (AU l) a (aO l a l) a j))))) (XJ (λk=>Fp (AYD a a a (BX (BY k)) i (WS a a (APC k j) (AVK a k (PU a j)) (AZJ a k (SU a j)) a (λl=>WG l a) a a)) (EB k) (HR a) (cY (BY k) a) (AUG a k j) (Xu (AYP a k)))) (Hv (uD (λk=>ZQ (OR k a k a k j a k) (BY k) a a (Ad a k a k a k a k) (Bo i (Ac a a (GO a k) (mW a k) (NZ a k) a (BY k) a (λl=>QZ l a (GO a k) (NZ a k) (LR a k) (Ar a k))) a (Ad a k a k a k a k) De (λl=>gG a l (BY k) i (Gp l (EB k) a l (GO a k) a (LR a k) 1 (λm=>UB m l l (GO a k) (LR a k) (NZ a k) (Ar a k))) j) (XJ (λl=>Bn (Bq a a a l k i (WS a a (UY l k) (ZH a l a k) (Bc a l a k) a (λm=>WG m a) a a)) (OR l a l a l j a l) a l k))) (XJ (λl=>Bn (Bq a a a l k i (WS a a (UY l k) (ZH a l a k) (Bc a l a k) a (λm=>WG m a) a a)) (OR l a l a l j a l) a l k)) (EI (λl=>Ak (rO i a (Ld (IK a) (OK a) (OT a) (iD l k) (Bl a) (Dt a) (Bd a) (cX a))) l a (Mi a l) a j)))) (ACF (λk=>ZQ (fD k a j) (PR k) a a (Av a k) (Bo i (Ac a a (MA a k) (oN a k) (NW a k) a (PR k) a (λl=>QZ l a (MA a k) (NW a k) (UF a k) (Aw a k))) a (Av a k) (mG k) (λl=>Jm a l k i (cT l k (OM a l k) a a k (kX k) (λm=>UB m l l (IF m k (qL k m) (MA a k)) (IF m k (kR k m) (UF a k)) (IF m k (lW k m) (NW a k)) (IF m k (pU k m) (Aw a k)))) j) (YV (λl=>Jm a l k i (YZ l k (OM a l k) a a k k (λm=>Ao m l l k)) j))) (YV (λl=>Jm a l k i (YZ l k (OM a l k) a a k k (λm=>Ao m l l k)) j)) (VK (λl=>Ak (sM (Aj i) (OK a) (IK a) (gV (IK a) (OT a) (kH l k) a a (kU l k) (λm=>dE m (HY l) (DK l) k))) (AU l) a (aO l a l) a j))))))) (KZ (AW (AK (Jt a)) (Hi a) (Bl a) (Dt a) (Bd a) (AWG a (vO a 0) (vO a 0)))))) (iU (λj=>Ee (AEV (AU j) a (aO j a j)) (AU j) (HR a) (AR (fG (AU j) a) (UW (PU a (AU j))) (DR i) (Si a a (MG (TS a j)) (Su (TS a j)) (RU (TS a j)) (Sj (TS a j)) a (λk=>AEU k a (HX (TS a j)))) (Gj (Rr a (TS a j)) (cH (U2 j) (YV (λk=>Fp (tD a (tL a (N9 k) i (Gp k (AU j) a k (PU a (AU j)) a (SU a (AU j)) (AUQ j) (λl=>UB l k k (OI l j (GQ (DK j) l) (MG (TS a j))) (OI l j (LO (DK j) l) (QT (TS a j))) (OI l j (IV (DK j) l) (RU (TS a j))) (OI l j (OE (DK j) l) (SJ (TS a j))))))) (aF k) (HR a) (cY (PR k) a) (tC a k (AU j)) (I6 (Kh k) (vU a k)))) (uD (λk=>ZQ (OR k a k a k (AU j) a k) (BY k) a a (Ad a k a k a k a k) (Bo i (Ac a a (GO a k) (mW a k) (NZ a k) a (BY k) a (λl=>QZ l a (GO a k) (NZ a k) (LR a k) (Ar a k))) a (Ad a k a k a k a k) De (λl=>gG a l (BY k) i (Gp l (EB k) a l (GO a k) a (LR a k) 1 (λm=>UB m l l (GO a k) (LR a k) (NZ a k) (Ar a k))) (AU j)) (XJ (λl=>Bn (Bq a a a l k i (WS a a (UY l k) (ZH a l a k) (Bc a l a k) a (λm=>WG m a) a a)) (OR l a l a l (AU j) a l) a l k))) (XJ (λl=>Bn (Bq a a a l k i (WS a a (UY l k) (ZH a l a k) (Bc a l a k) a (λm=>WG m a) a a)) (OR l a l a l (AU j) a l) a l k)) (EI (λl=>Ak (rO i a (Ld (IK a) (OK a) (OT a) (iD l k) (Bl a) (Dt a) (Bd a) (cX a))) l a (Mi a l) a (AU j))))) (ACF (λk=>ZQ (fD k a (AU j)) (PR k) a a (Av a k) (Bo i (Ac a a (MA a k) (oN a k) (NW a k) a (PR k) a (λl=>QZ l a (MA a k) (NW a k) (UF a k) (Aw a k))) a (Av a k) (mG k) (λl=>Mx a l k i (cT l k (OM a l k) a a k (kX k) (λm=>UB m l l (IF m k (qL k m) (MA a k)) (IF m k (kR k m) (UF a k)) (IF m k (lW k m) (NW a k)) (IF m k (pU k m) (Aw a k)))) j) (YV (λl=>Mx a l k i (YZ l k (OM a l k) a a k k (λm=>Ao m l l k)) j))) (YV (λl=>Mx a l k i (YZ l k (OM a l k) a a k k (λm=>Ao m l l k)) j)) (VK (λl=>Ak (sM (Aj i) (OK a) (IK a) (gV (IK a) (OT a) (kH l k) a a (kU l k) (λm=>dE m (HY l) (DK l) k))) (AU l) a (aO l a l) a (AU j)))))) (YV (λk=>Fp (tD a (tL a (N9 k) i (Gp k (AU j) a k (PU a (AU j)) a (SU a (AU j)) (HY j) (λl=>Sy l (dV k) (Kh k) (DK j))))) (aF k) (HR a) (cY (PR k) a) (tC a k (AU j)) (I6 (Kh k) (vU a k)))) (Hv (uD (λk=>ZQ (OR k a k a k (AU j) a k) (BY k) a a (Ad a k a k a k a k) (Bo i (Ac a a (GO a k) (mW a k) (NZ a k) a (BY k) a (λl=>QZ l a (GO a k) (NZ a k) (LR a k) (Ar a k))) a (Ad a k a k a k a k) De (λl=>gG a l (BY k) i (Gp l (EB k) a l (GO a k) a (LR a k) 1 (λm=>UB m l l (GO a k) (LR a k) (NZ a k) (Ar a k))) (AU j)) (XJ (λl=>Bn (Bq a a a l k i (WS a a (UY l k) (ZH a l a k) (Bc a l a k) a (λm=>WG m a) a a)) (OR l a l a l (AU j) a l) a l k))) (XJ (λl=>Bn (Bq a a a l k i (WS a a (UY l k) (ZH a l a k) (Bc a l a k) a (λm=>WG m a) a a)) (OR l a l a l (AU j) a l) a l k)) (EI (λl=>Ak (rO i a (Ld (IK a) (OK a) (OT a) (iD l k) (Bl a) (Dt a) (Bd a) (cX a))) l a (Mi a l) a (AU j))))) (ACF (λk=>ZQ (fD k a (AU j)) (PR k) a a (Av a k) (Bo i (Ac a a (MA a k) (oN a k) (NW a k) a (PR k) a (λl=>QZ l a (MA a k) (NW a k) (UF a k) (Aw a k))) a (Av a k) (mG k) (λl=>Mx a l k i (cT l k (OM a l k) a a k (kX k) (λm=>UB m l l (IF m k (qL k m) (MA a k)) (IF m k (kR k m) (UF a k)) (IF m k (lW k m) (NW a k)) (IF m k (pU k m) (Aw a k)))) j) (YV (λl=>Mx a l k i (YZ l k (OM a l k) a a k k (λm=>Ao m l l k)) j))) (YV (λl=>Mx a l k i (YZ l k (OM a l k) a a k k (λm=>Ao m l l k)) j)) (VK (λl=>Ak (sM (Aj i) (OK a) (IK a) (gV (IK a) (OT a) (kH l k) a a (kU l k) (λm=>dE m (HY l) (DK l) k))) (AU l) a (aO l a l) a (AU j)))))))) (KZ (AIA (Jt a) (UJ a) (AR (Bl a) (Dt a) (Bd a) (L8 a) (BK CZ (Wb a) (Xx a) (BAF a) (JH a) (KH a) (vO a (HY j)) (tT (HY j)) (AG (λk=>Zn k (WY a) (NH a) (Qq (DK j) k) (YO (DK j) k) (DK j) (AQ k))))))))))) (lN HO (KZ (AR (Hi a) (HQ (sH a) (Hq a)) (EK (sH a) (Hq a)) (BC (Zm a) (Ij a)) (Ti (BR (Zm a) (Ij a)) (EL (λi=>AYY (UP a) i (WA (bT (PM a)) (Jt a) i))) (EL (λi=>AXM (UP a) i (xG (bT (PM a)) (ACE (PM a)) (Jt a) i))) (λi=>Tv (Zl a i) (H4 (Ww i a) (WY a) (Fw a i)) (λj=>wC j (Zl a i) (UP a) i j (zW (Ww i a) (tH a j) (MG (Eg a i j))) (ARL (BA (UP a) i j) (zW (Ww i a) (LO (NH a) j) (mM a i j)) (AGP a i j) (zW (Ww i a) (IV (NH a) j) (RU (Eg a i j))) (BZ (UP a) i j) (zW (Ww i a) (OE (NH a) j) (qO a i j))))) a (DU 0 (WY a)) AF))))) (MO HO (Iv (CH (sB a)) (mN 0)) (Mz a) (Ag (Mz a) (LW a) (VR a) (MD a) (LY a) (ED a) (EC a) (KP a)) (BD (YE (UW (UJ a)) (UJ a) (VF (UJ a))) (mQ (AFS a) (AEO a) (VV a)) (EI (λi=>XV (DY AF (kV a i) (oF a (VV a)) (AG (λj=>ZV j (HR a) (PU a j) (OY (VV a) j) (SU a j) (Bg (VV a) j))) (xT (HR a) (VV a)) (BX i) (LW a) (IY (VR a) (MD a) (LY a) (ED a) (EC a) (λj=>YA a j) (JH a) (Qa (KH a) AF AN (Hi a) BB eJ (kV a i) (AG (λj=>OU j (TM a i) (JS a i) (ET j (MG (ZF a)) (MG (As a))) (ET j (QT (ZF a)) (QT (As a))) (ET j (RU (ZF a)) (RU (As a))) (ET j (SJ (ZF a)) (SJ (As a)))))))) i (HR a))) (AG (λi=>YH (nK i a) i (HR a) (fG i a) (gM (qK (TM a i)) (fF gR 2) (SA 2) (Ns a i) 32) (EI (λj=>yN (DY AF (eU a j (Ns a i)) (OK a) (IK a) (OT a) (AJ j i) (LW a) (IY (VR a) (MD a) (LY a) (ED a) (EC a) (λk=>YA a k) (JH a) (Qa (KH a) AF AN (Hi a) BB eJ (eU a j (Ns a i)) (AG (λk=>OU k (TM a j) (JS a j) (ZL k a i (GQ (JS a i) k) k a i (UJ a) (PU a i)) (ZL k a i (LO (JS a i) k) k a i 0 (SU a i)) (ZL k a i (IV (JS a i) k) k a i (PU a i) (UJ a)) (ZL k a i (OE (JS a i) k) k a i (SU a i) 200000)))))) (nK j a) a j i)) (BD (QY AF AKT) (EI (λj=>EE (EN (DO AN AF (lI a a i) (AI (KS a) (TM a i)) (BX j) (LW a) (λk=>qV k a) (MD a) (Ti (LY a) (ED a) (EC a) (λk=>YA a k) a (lI a a i) (RS (KS a) (YX a) (JS a i))))) j (KS a) (Po a j))) (AG (λj=>Mb (GP j (KS a) (Po a j)) j (KS a) (UG (dR j (KS a) j) (FA (AGK a (AQ j)) (Si a a (pH a (AQ j)) (AK (YO (YX a) j)) (wT (YX a) j) (AK (M7 a (AQ j))) a (λk=>QZ k a (pH a (AQ j)) (wT (YX a) j) (YO (YX a) j) (M7 a (AQ j))))) (EP (AGK a (AQ j)) (Rr a (kY a (AQ j)))) De (VK (λk=>Wz (Aq (Sq k 1) a a (BCV k j) a a a a (UQ (ED a) (EC a) (KP a) (JH a) (KH a) (KE a) (λl=>QU l a a l a a l a l) (Sq k 1) (λl=>Zn l (HY k) (DK k) (pH a (AQ j)) (YO (YX a) j) (YX a) (AQ j)))) (Zd k a) (AEL a k j) k (Zq a k))) (EI (λk=>AQH (EN (DO AN AF (KE a) (xR a) (AI k j) (LW a) (λl=>qV l a) (MD a) (Ti (LY a) (ED a) (EC a) (λl=>YA a l) a (KE a) (AG (λl=>QU l a a l a a l a l))))) (AVQ k a) (zY a k j) (ALN a (CN k)) ARI))) (λk=>Wa k a (zY a k j) (Po a (CN k)) (EI (λl=>Xh (EN (DO AN AF (KE a) (xR a) (AJ l k) (LW a) (λm=>qV m a) (MD a) (Ti (LY a) (ED a) (EC a) (λm=>YA a m) a (KE a) (AG (λm=>QU m a a m a a m a m))))) l a (Po a l) j))) (iU (λk=>Wa (AU k) a (AEL a k j) (wL k a (yO k)) (VK (λl=>Xh (Aq (TP l k) a a (uC l (AU k)) a a a a (DO (ED a) (EC a) (KP a) (JH a) (KH a) (KE a) (λm=>QU m a a m a a m a m) (TP l k) (Wm l l k))) (AU l) a (Nn l a l) j)))) (And (Mz a) (Ag (Mz a) (LW a) (VR a) (MD a) (LY a) (ED a) (EC a) (KP a))))) (iU (λj=>Mb (GP (AU j) (KS a) (Nn j a j)) (AU j) (KS a) (UG (AFJ (AU j) (KS a) (Im j)) (FA (kL a j) (Si a a (Nl a j) (AK (Oj a j)) (Mu a j) (AK (Mh a j)) a (λk=>QZ k a (Nl a j) (Mu a j) (Oj a j) (Mh a j)))) (EP (kL a j) (Rr a (kY a (Im j)))) (U2 j) (VK (λk=>Wz (Aq (mP k j) a a (kD k j) a a a a (UQ (ED a) (EC a) (KP a) (JH a) (KH a) (KE a) (λl=>QU l a a l a a l a l) (mP k j) (λl=>OU l (HY k) (DK k) (OI l j (GQ (DK j) l) (Nl a j)) (OI l j (LO (DK j) l) (Oj a j)) (OI l j (IV (DK j) l) (Mu a j)) (OI l j (OE (DK j) l) (Mh a j))))) (Zd k a) (Np a k j) k (Zq a k))) (VK (λk=>Wz (Aq (TP k j) a a (kD k j) a a a a (DO (ED a) (EC a) (KP a) (JH a) (KH a) (KE a) (λl=>QU l a a l a a l a l) (TP k j) (Wm k k j))) (Zd k a) (Np a k j) k (Zq a k)))) (λk=>Wa k a (zY a k (AU j)) (Po a (CN k)) (EI (λl=>Xh (EN (DO AN AF (KE a) (xR a) (AJ l k) (LW a) (λm=>qV m a) (MD a) (Ti (LY a) (ED a) (EC a) (λm=>YA a m) a (KE a) (AG (λm=>QU m a a m a a m a m))))) l a (Po a l) (AU j)))) (iU (λk=>Wa (AU k) a (Np a k j) (wL k a (yO k)) (VK (λl=>Xh (Aq (TP l k) a a (uC l (AU k)) a a a a (DO (ED a) (EC a) (KP a) (JH a) (KH a) (KE a) (λm=>QU m a a m a a m a m) (TP l k) (Wm l l k))) (AU l) a (Nn l a l) (AU j))))) (Tl (ADX a (HY j)) (HY j) (Ag (AG (λk=>Zn k (CO (eH a)) (eH a) (Qq (DK j) k) (YO (DK j) k) (DK j) (AQ k))) (LW a) (VR a) (MD a) (LY a) (ED a) (EC a) (KP a)))))))))))):=by kernel_rfl
theorem XS(w:Bk):Bk.mk w.g w.b w.has w.st=w:=rfl
theorem BGX(l:List Ln)(p:Ln)(i:Nat)(hi:i<(l ++ [p]).length):((gD (l ++ [p]) i).a0=bif decide (i<l.length) then (gD l i).a0 else p.a0)/\((gD (l ++ [p]) i).a1=bif decide (i<l.length) then (gD l i).a1 else p.a1)/\((gD (l ++ [p]) i).b0=bif decide (i<l.length) then (gD l i).b0 else p.b0)/\(gD (l ++ [p]) i).b1=bif decide (i<l.length) then (gD l i).b1 else p.b1:=by
 rw[D8 _ _ (by simpa using hi)]
 cases decide (i<l.length)<;>exact⟨rfl,rfl,rfl,rfl⟩
theorem oneL(p:Ln)(i:Nat)(hi:i<[p].length):(gD [p] i).a0=p.a0/\(gD [p] i).a1=p.a1/\(gD [p] i).b0=p.b0/\(gD [p] i).b1=p.b1:=by
 have:i=0:=by have hj:i<1:=hi;omega
 subst this;exact⟨rfl,rfl,rfl,rfl⟩
theorem BXC{s:List Gau}{i j:Nat}(h:j<(AC s).length)(h1:Kv (pI (gD (AC s) i) (gD (AC s) j))=true)(h2:Lh s (pI (gD (AC s) i) (gD (AC s) j))=true):(RE s i (j+1)).filter (Lh s)=(RE s i j).filter (Lh s) ++ [pI (gD (AC s) i) (gD (AC s) j)]:=by
 rw[Vy h,if_pos h1,List.filter_append,List.filter_cons_of_pos h2];rfl
theorem CEN{s:List Gau}{i j:Nat}(h:j<(AC s).length)(h1:Kv (pI (gD (AC s) i) (gD (AC s) j))=true)(h2:Lh s (pI (gD (AC s) i) (gD (AC s) j))=false):(RE s i (j+1)).filter (Lh s)=(RE s i j).filter (Lh s):=by
 rw[Vy h,if_pos h1,List.filter_append,List.filter_cons_of_neg (by rw[h2];simp)];simp
theorem BOH{s:List Gau}{i j:Nat}(h:j<(AC s).length)(h1:Kv (pI (gD (AC s) i) (gD (AC s) j))=false):(RE s i (j+1)).filter (Lh s)=(RE s i j).filter (Lh s):=by
 rw[Vy h,if_neg (by rw[h1];simp),List.append_nil]
theorem ABL{s:List Gau}{i:Nat}:(RE s i 0).filter (Lh s)=(Qz s i).filter (Lh s) ++ if Lh s (QB (gD (AC s) i))=true then [QB (gD (AC s) i)] else []:=by
 unfold RE
 rw[List.filter_append]
 congr 1
 simp[List.filter_cons]
theorem AUH{s:List Gau}{i j:Nat}(hN:(AC s).length<=48):((RE s i j).filter (Lh s)).length<=10000:=by
 refine Nat.le_trans (List.length_filter_le _ _) ?_
 have h1:∀a:Pt,(blk (AC s) a).length<=49:=λa=>by
  unfold blk
  have:=List.length_filter_le Kv ((AC s).map (pI a))
  simp only[List.length_cons,List.length_map] at *;omega
 have h2:∀l:List Pt,l.length<=48->(l.flatMap (blk (AC s))).length<=l.length*49:=λl _=>by
  induction l with
  |nil=>simp
  |cons a l ih=>
   rw[List.flatMap_cons,List.length_append,List.length_cons]
   have:=h1 a;have:=ih (by simp at *;omega);omega
 unfold RE Qz
 have h3:=h2 ((AC s).take i) (by simp;omega)
 have h4:=List.length_filter_le Kv (((AC s).take j).map (pI (gD (AC s) i)))
 simp only[List.length_append,List.length_cons,List.length_map,List.length_take] at *
 omega
theorem BAL{s:List Gau}{q:Nat}(hs:s.length<=24)(hN:(AC s).length<=48)(hg:∀g∈s,IT g)(x:IJ)(hx:x.i<(AC s).length/\x.j<=(AC s).length/\(AC s).length-x.i=q/\(RE s x.i x.j).filter (Lh s)=[]) :
  ((x.j:Int)<(AC s).length->(0<=(x.j:Int)/\(x.j:Int)<(AC s).length)/\(Kv ⟨(gD (AC s) x.i).st,(gD (AC s) x.i).fl,(gD (AC s) x.j).st,(gD (AC s) x.j).fl⟩=true->(s.length<4611686018427387904/\∀g:Gau,List.Mem g s->MI ⟨(gD (AC s) x.i).st,(gD (AC s) x.i).fl,(gD (AC s) x.j).st,(gD (AC s) x.j).fl⟩/\IT g)/\((s.all λg=>NJ ⟨(gD (AC s) x.i).st,(gD (AC s) x.i).fl,(gD (AC s) x.j).st,(gD (AC s) x.j).fl⟩ g)=true->((0<0->0=4)/\0<1/\0<1/\0<9223372036854775807/\31<140737488355328)/\∃y:LnJ,((y.j:Int)=IntKind.i64.wrap ((x.j:Int)+1)/\(y.i:Int)=x.i/\(gD (AC s) y.i).st=(gD (AC s) x.i).st/\(gD (AC s) y.i).fl=(gD (AC s) x.i).fl/\y.l.length=1/\y.l.length=1/\∀i:Nat,i<y.l.length->(gD y.l i).a0=(gD (AC s) x.i).st/\(gD y.l i).a1=(gD (AC s) x.i).fl/\(gD y.l i).b0=(gD (AC s) x.j).st/\(gD y.l i).b1=(gD (AC s) x.j).fl)/\(y.i<(AC s).length/\y.j<=(AC s).length/\(AC s).length-y.i=q/\y.l=(RE s y.i y.j).filter (Lh s))/\(AC s).length-y.j<(AC s).length-x.j)/\((s.all λg=>NJ ⟨(gD (AC s) x.i).st,(gD (AC s) x.i).fl,(gD (AC s) x.j).st,(gD (AC s) x.j).fl⟩ g)=false->∃y:IJ,((y.j:Int)=IntKind.i64.wrap ((x.j:Int)+1)/\(y.i:Int)=x.i/\(gD (AC s) y.i).st=(gD (AC s) x.i).st/\(gD (AC s) y.i).fl=(gD (AC s) x.i).fl)/\(y.i<(AC s).length/\y.j<=(AC s).length/\(AC s).length-y.i=q/\(RE s y.i y.j).filter (Lh s)=[])/\(AC s).length-y.j<(AC s).length-x.j))/\(Kv ⟨(gD (AC s) x.i).st,(gD (AC s) x.i).fl,(gD (AC s) x.j).st,(gD (AC s) x.j).fl⟩=false->∃y:IJ,((y.j:Int)=IntKind.i64.wrap ((x.j:Int)+1)/\(y.i:Int)=x.i/\(gD (AC s) y.i).st=(gD (AC s) x.i).st/\(gD (AC s) y.i).fl=(gD (AC s) x.i).fl)/\(y.i<(AC s).length/\y.j<=(AC s).length/\(AC s).length-y.i=q/\(RE s y.i y.j).filter (Lh s)=[])/\(AC s).length-y.j<(AC s).length-x.j))/\(¬(x.j:Int)<(AC s).length->∃y:Nat,(y:Int)=IntKind.i64.wrap ((x.i:Int)+1)/\(y<=(AC s).length/\(Qz s y).filter (Lh s)=[])/\(AC s).length-y<q):=by
 obtain⟨h1,h2,h3,h4⟩:=hx
 refine⟨λhj=>?_,λhj=>⟨x.i+1,(BF (by omega)).symm,⟨by omega,?_⟩,by omega⟩⟩
 ·have hj':x.j<(AC s).length:=Int.ofNat_lt.1 hj
  have step:(RE s x.i (x.j+1)).filter (Lh s)=[]->∃y:IJ,((y.j:Int)=IntKind.i64.wrap ((x.j:Int)+1)/\(y.i:Int)=x.i/\(gD (AC s) y.i).st=(gD (AC s) x.i).st/\(gD (AC s) y.i).fl=(gD (AC s) x.i).fl)/\(y.i<(AC s).length/\y.j<=(AC s).length/\(AC s).length-y.i=q/\(RE s y.i y.j).filter (Lh s)=[])/\(AC s).length-y.j<(AC s).length-x.j:=λh=>⟨⟨x.i,x.j+1⟩,⟨(BF (by omega)).symm,rfl,rfl,rfl⟩,⟨h1,hj',h3,h⟩,by show (AC s).length-(x.j+1)<_;omega⟩
  refine⟨⟨by omega,hj⟩,λhr=>⟨⟨by omega,λg hgs=>⟨aI.1 hr,hg g hgs⟩⟩,λhp=>⟨⟨by omega,by omega,by omega,by omega,by omega⟩,⟨x.i,x.j+1,[pI (gD (AC s) x.i) (gD (AC s) x.j)]⟩,⟨(BF (by omega)).symm,rfl,rfl,rfl,rfl,rfl,oneL _⟩,⟨h1,hj',h3,?_⟩,by show (AC s).length-(x.j+1)<_;omega⟩,λhp=>step ?_⟩,λhr=>step ?_⟩
  ·show _=(RE s x.i (x.j+1)).filter (Lh s)
   rw[BXC hj' hr hp,h4];rfl
  ·rw[CEN hj' hr hp,h4]
  ·rw[BOH hj' hr,h4]
 ·have:x.j=(AC s).length:=by omega
  rw[this] at h4;rw[<-vA h1];exact h4
theorem BAM{s:List Gau}{q:Nat}(hs:s.length<=24)(hN:(AC s).length<=48)(hg:∀g∈s,IT g)(x:LnJ)(hx:x.i<(AC s).length/\x.j<=(AC s).length/\(AC s).length-x.i=q/\x.l=(RE s x.i x.j).filter (Lh s)) :
  ((x.j:Int)<(AC s).length->(0<=(x.j:Int)/\(x.j:Int)<(AC s).length)/\(Kv ⟨(gD (AC s) x.i).st,(gD (AC s) x.i).fl,(gD (AC s) x.j).st,(gD (AC s) x.j).fl⟩=true->(s.length<4611686018427387904/\∀g:Gau,List.Mem g s->MI ⟨(gD (AC s) x.i).st,(gD (AC s) x.i).fl,(gD (AC s) x.j).st,(gD (AC s) x.j).fl⟩/\IT g)/\((s.all λg=>NJ ⟨(gD (AC s) x.i).st,(gD (AC s) x.i).fl,(gD (AC s) x.j).st,(gD (AC s) x.j).fl⟩ g)=true->(0<1/\(false=true->0<1)/\x.l.length<9223372036854775807/\(x.l.length+1)*32<=140737488355328)/\∃y:LnJ,((y.j:Int)=IntKind.i64.wrap ((x.j:Int)+1)/\(y.i:Int)=x.i/\(gD (AC s) y.i).st=(gD (AC s) x.i).st/\(gD (AC s) y.i).fl=(gD (AC s) x.i).fl/\y.l.length=x.l.length+1/\y.l.length=x.l.length+1/\∀i:Nat,i<y.l.length->((gD y.l i).a0=bif decide (i<x.l.length) then (gD x.l i).a0 else (gD (AC s) x.i).st)/\((gD y.l i).a1=bif decide (i<x.l.length) then (gD x.l i).a1 else (gD (AC s) x.i).fl)/\((gD y.l i).b0=bif decide (i<x.l.length) then (gD x.l i).b0 else (gD (AC s) x.j).st)/\(gD y.l i).b1=bif decide (i<x.l.length) then (gD x.l i).b1 else (gD (AC s) x.j).fl)/\(y.i<(AC s).length/\y.j<=(AC s).length/\(AC s).length-y.i=q/\y.l=(RE s y.i y.j).filter (Lh s))/\(AC s).length-y.j<(AC s).length-x.j)/\((s.all λg=>NJ ⟨(gD (AC s) x.i).st,(gD (AC s) x.i).fl,(gD (AC s) x.j).st,(gD (AC s) x.j).fl⟩ g)=false->(∃y:LnJ,((y.j:Int)=IntKind.i64.wrap ((x.j:Int)+1)/\(y.i:Int)=x.i/\(gD (AC s) y.i).st=(gD (AC s) x.i).st/\(gD (AC s) y.i).fl=(gD (AC s) x.i).fl/\y.l.length=x.l.length/\y.l.length=x.l.length/\∀i:Nat,i<y.l.length->(gD y.l i).a0=(gD x.l i).a0/\(gD y.l i).a1=(gD x.l i).a1/\(gD y.l i).b0=(gD x.l i).b0/\(gD y.l i).b1=(gD x.l i).b1)/\(y.i<(AC s).length/\y.j<=(AC s).length/\(AC s).length-y.i=q/\y.l=(RE s y.i y.j).filter (Lh s))/\(AC s).length-y.j<(AC s).length-x.j)))/\(Kv ⟨(gD (AC s) x.i).st,(gD (AC s) x.i).fl,(gD (AC s) x.j).st,(gD (AC s) x.j).fl⟩=false->(∃y:LnJ,((y.j:Int)=IntKind.i64.wrap ((x.j:Int)+1)/\(y.i:Int)=x.i/\(gD (AC s) y.i).st=(gD (AC s) x.i).st/\(gD (AC s) y.i).fl=(gD (AC s) x.i).fl/\y.l.length=x.l.length/\y.l.length=x.l.length/\∀i:Nat,i<y.l.length->(gD y.l i).a0=(gD x.l i).a0/\(gD y.l i).a1=(gD x.l i).a1/\(gD y.l i).b0=(gD x.l i).b0/\(gD y.l i).b1=(gD x.l i).b1)/\(y.i<(AC s).length/\y.j<=(AC s).length/\(AC s).length-y.i=q/\y.l=(RE s y.i y.j).filter (Lh s))/\(AC s).length-y.j<(AC s).length-x.j)))/\(¬(x.j:Int)<(AC s).length->∃y:LnK,((y.i:Int)=IntKind.i64.wrap ((x.i:Int)+1)/\y.l.length=x.l.length/\y.l.length=x.l.length/\∀i:Nat,i<y.l.length->(gD y.l i).a0=(gD x.l i).a0/\(gD y.l i).a1=(gD x.l i).a1/\(gD y.l i).b0=(gD x.l i).b0/\(gD y.l i).b1=(gD x.l i).b1)/\(y.i<=(AC s).length/\y.l=(Qz s y.i).filter (Lh s))/\(AC s).length-y.i<q):=by
 obtain⟨h1,h2,h3,h4⟩:=hx
 refine⟨λhj=>?_,λhj=>⟨⟨x.i+1,x.l⟩,⟨(BF (by omega)).symm,rfl,rfl,λ_ _=>⟨rfl,rfl,rfl,rfl⟩⟩,⟨h1,?_⟩,by show (AC s).length-(x.i+1)<_;omega⟩⟩
 ·have hj':x.j<(AC s).length:=Int.ofNat_lt.1 hj
  have hl:x.l.length<=10000:=h4 ▸ AUH hN
  have step:(RE s x.i (x.j+1)).filter (Lh s)=x.l->(∃y:LnJ,((y.j:Int)=IntKind.i64.wrap ((x.j:Int)+1)/\(y.i:Int)=x.i/\(gD (AC s) y.i).st=(gD (AC s) x.i).st/\(gD (AC s) y.i).fl=(gD (AC s) x.i).fl/\y.l.length=x.l.length/\y.l.length=x.l.length/\∀i:Nat,i<y.l.length->(gD y.l i).a0=(gD x.l i).a0/\(gD y.l i).a1=(gD x.l i).a1/\(gD y.l i).b0=(gD x.l i).b0/\(gD y.l i).b1=(gD x.l i).b1)/\(y.i<(AC s).length/\y.j<=(AC s).length/\(AC s).length-y.i=q/\y.l=(RE s y.i y.j).filter (Lh s))/\(AC s).length-y.j<(AC s).length-x.j):=λh=>⟨⟨x.i,x.j+1,x.l⟩,⟨(BF (by omega)).symm,rfl,rfl,rfl,rfl,rfl,λ_ _=>⟨rfl,rfl,rfl,rfl⟩⟩,⟨h1,hj',h3,h.symm⟩,by show (AC s).length-(x.j+1)<_;omega⟩
  refine⟨⟨by omega,hj⟩,λhr=>⟨⟨by omega,λg hgs=>⟨aI.1 hr,hg g hgs⟩⟩,λhp=>⟨⟨by omega,λ_=>by omega,by omega,by omega⟩,⟨x.i,x.j+1,x.l ++ [pI (gD (AC s) x.i) (gD (AC s) x.j)]⟩,⟨(BF (by omega)).symm,rfl,rfl,rfl,by simp,by simp,BGX _ _⟩,⟨h1,hj',h3,?_⟩,by show (AC s).length-(x.j+1)<_;omega⟩,λhp=>step ?_⟩,λhr=>step ?_⟩
  ·show _=(RE s x.i (x.j+1)).filter (Lh s)
   rw[BXC hj' hr hp,<-h4]
  ·rw[CEN hj' hr hp,h4]
  ·rw[BOH hj' hr,h4]
 ·have:x.j=(AC s).length:=by omega
  rw[this] at h4;show x.l=(Qz s (x.i+1)).filter (Lh s);rw[<-vA h1];exact h4
theorem CTC{α:Type}[Inhabited α](l m:List α)(j:Nat):gD (l ++ m) j=bif decide (j<l.length) then gD l j else gD m (j-l.length):=by
 rw[jC];by_cases h:j<l.length<;>simp[h]
theorem BZB{α:Type}[Inhabited α](x y:α){j:Nat}(h:j<2):gD [x,y] j=bif decide (j=0) then x else y:=by
 match j,h with
 |0,_=>rfl
 |1,_=>rfl
theorem ADN{s:List Gau}{t:Int}{i:Nat}(h:i<(AC s).length):cQ s t (i+1)=cQ s t i ++ [pI ⟨t,0⟩ (gD (AC s) i),pI (gD (AC s) i) ⟨t,200000⟩]:=by
 unfold cQ;rw[LG h,List.flatMap_append,<-List.append_assoc];simp
theorem BAT{s:List Gau}{t:Int}:∀i:Nat,i<=(AC s).length->(cQ s t i).length=2+2*i
 |0,_=>rfl
 |i+1,h=>by rw[ADN (by omega),List.length_append,BAT i (by omega)];simp;omega
theorem AUE{s:List Gau}{t:Int}:cQ s t (AC s).length=XD s t:=by unfold cQ XD;rw[List.take_length]
theorem CCV(s:List Gau)(t:Int):∃i:Nat,((cQ s t i).length=2/\(i:Int)=0/\(cQ s t i).length=2/\∀j:Nat,j<(cQ s t i).length->((gD (cQ s t i) j).a0=bif decide (j=0) then (QB ⟨t,0⟩).a0 else (QB ⟨t,200000⟩).a0)/\((gD (cQ s t i) j).a1=bif decide (j=0) then (QB ⟨t,0⟩).a1 else (QB ⟨t,200000⟩).a1)/\((gD (cQ s t i) j).b0=bif decide (j=0) then (QB ⟨t,0⟩).b0 else (QB ⟨t,200000⟩).b0)/\(gD (cQ s t i) j).b1=bif decide (j=0) then (QB ⟨t,0⟩).b1 else (QB ⟨t,200000⟩).b1)/\i<=(AC s).length:=by
 refine⟨0,⟨rfl,rfl,rfl,λj hj=>?_⟩,Nat.zero_le _⟩
 have hj:j<2:=hj
 rw[show cQ s t 0=[QB ⟨t,0⟩,QB ⟨t,200000⟩] from rfl,BZB _ _ hj]
 cases decide (j=0)<;>exact⟨rfl,rfl,rfl,rfl⟩
theorem CFG{s:List Gau}{t:Int}(hN:(AC s).length<=48){i:Nat}(h:(i:Int)<(AC s).length):(0<=(i:Int)/\(i:Int)<(AC s).length)/\(1<2/\(false=true->0<2)/\(cQ s t i).length+1<9223372036854775807/\((cQ s t i).length+2)*32<=140737488355328)/\∃k:Nat,((cQ s t k).length=(cQ s t i).length+2/\(k:Int)=IntKind.i64.wrap ((i:Int)+1)/\(cQ s t k).length=(cQ s t i).length+2/\∀j:Nat,j<(cQ s t k).length->((gD (cQ s t k) j).a0=bif decide (j<(cQ s t i).length) then (gD (cQ s t i) j).a0 else bif decide (j-(cQ s t i).length=0) then t else (gD (AC s) i).st)/\((gD (cQ s t k) j).a1=bif decide (j<(cQ s t i).length) then (gD (cQ s t i) j).a1 else bif decide (j-(cQ s t i).length=0) then 0 else (gD (AC s) i).fl)/\((gD (cQ s t k) j).b0=bif decide (j<(cQ s t i).length) then (gD (cQ s t i) j).b0 else bif decide (j-(cQ s t i).length=0) then (gD (AC s) i).st else t)/\(gD (cQ s t k) j).b1=bif decide (j<(cQ s t i).length) then (gD (cQ s t i) j).b1 else bif decide (j-(cQ s t i).length=0) then (gD (AC s) i).fl else 200000)/\k<=(AC s).length/\(AC s).length-k<(AC s).length-i:=by
 have h':i<(AC s).length:=Int.ofNat_lt.1 h
 have hl:=BAT (s:=s) (t:=t) i (by omega)
 refine⟨⟨by omega,h⟩,⟨by omega,λ_=>by omega,by omega,by omega⟩,i+1,⟨?_,(BF (by omega)).symm,?_,λj hj=>?_⟩,h',by omega⟩
 ·rw[ADN h',List.length_append];rfl
 ·rw[ADN h',List.length_append];rfl
 ·rw[ADN h'] at hj ⊢
  rw[CTC]
  by_cases h1:j<(cQ s t i).length
  ·simp[h1]
  ·rw[BZB _ _ (by simp at hj;omega)]
   simp only[h1,decide_false,cond_false]
   cases decide (j-(cQ s t i).length=0)<;>exact⟨rfl,rfl,rfl,rfl⟩
theorem AVI{s:List Gau}{l:List Ln}{i:Nat}(h:i<l.length):(l.take (i+1)).filter (okX s)=(l.take i).filter (okX s) ++ if okX s (gD l i)=true then [gD l i] else []:=by
 rw[LG h,List.filter_append];simp[List.filter_cons]
theorem ABY{s:List Gau}{t:Int}:(XD s t).length=2+2*(AC s).length:=by rw[<-AUE,BAT _ (Nat.le_refl _)]
theorem CEE{s:List Gau}{t:Int}{f:List Ln}(hs:s.length<=24)(hN:(AC s).length<=48)(hg:∀g∈s,IT g)(hf:f.length<=10000){x:LnK}(hx:x.i<=(XD s t).length/\x.l=f ++ ((XD s t).take x.i).filter (okX s))(h:(x.i:Int)<(XD s t).length) :
  ((0<=(x.i:Int)/\(x.i:Int)<(XD s t).length)/\x.i<(XD s t).length)/\(Kv (gD (XD s t) x.i)=true->(s.length<4611686018427387904/\∀g:Gau,List.Mem g s->MI (gD (XD s t) x.i)/\IT g))/\((bif Kv (gD (XD s t) x.i) then s.all λg=>NJ (gD (XD s t) x.i) g else false)=true->(0<1/\(false=true->0<1)/\x.l.length<9223372036854775807/\(x.l.length+1)*32<=140737488355328)/\∃y:LnK,(y.l.length=x.l.length+1/\(y.i:Int)=x.i/\y.l.length=x.l.length+1/\∀j:Nat,j<y.l.length->((gD y.l j).a0=bif decide (j<x.l.length) then (gD x.l j).a0 else (gD (XD s t) x.i).a0)/\((gD y.l j).a1=bif decide (j<x.l.length) then (gD x.l j).a1 else (gD (XD s t) x.i).a1)/\((gD y.l j).b0=bif decide (j<x.l.length) then (gD x.l j).b0 else (gD (XD s t) x.i).b0)/\(gD y.l j).b1=bif decide (j<x.l.length) then (gD x.l j).b1 else (gD (XD s t) x.i).b1)/\(y.i<(XD s t).length/\(XD s t).length-y.i=(XD s t).length-x.i/\y.l=f ++ (((XD s t).take (y.i+1)).filter (okX s))))/\((bif Kv (gD (XD s t) x.i) then s.all λg=>NJ (gD (XD s t) x.i) g else false)=false->∃y:LnK,(y.l.length=x.l.length/\(y.i:Int)=x.i/\y.l.length=x.l.length/\∀j:Nat,j<y.l.length->(gD y.l j).a0=(gD x.l j).a0/\(gD y.l j).a1=(gD x.l j).a1/\(gD y.l j).b0=(gD x.l j).b0/\(gD y.l j).b1=(gD x.l j).b1)/\(y.i<(XD s t).length/\(XD s t).length-y.i=(XD s t).length-x.i/\y.l=f ++ (((XD s t).take (y.i+1)).filter (okX s)))):=by
 obtain⟨h1,h2⟩:=hx
 have h':x.i<(XD s t).length:=Int.ofNat_lt.1 h
 have hl:x.l.length<=10098:=by
  rw[h2,List.length_append]
  have:=List.length_filter_le (okX s) ((XD s t).take x.i)
  rw[List.length_take] at this
  have:=ABY (s:=s) (t:=t)
  omega
 refine⟨⟨⟨by omega,h⟩,h'⟩,λhr=>⟨by omega,λg hgs=>⟨aI.1 hr,hg g hgs⟩⟩,λhp=>⟨⟨by omega,λ_=>by omega,by omega,by omega⟩,⟨x.i,x.l ++ [(gD (XD s t) x.i)]⟩,⟨by simp,rfl,by simp,BGX _ _⟩,h',rfl,?_⟩,λhp=>⟨⟨x.i,x.l⟩,⟨rfl,rfl,rfl,λ_ _=>⟨rfl,rfl,rfl,rfl⟩⟩,h',rfl,?_⟩⟩
 ·show x.l ++ _=_
  rw[AVI h',if_pos (show okX s (gD (XD s t) x.i)=true from hp),<-List.append_assoc,<-h2]
 ·show x.l=_
  rw[AVI h',if_neg (by intro hq;have hq:(bif Kv (gD (XD s t) x.i) then s.all λg=>NJ (gD (XD s t) x.i) g else false)=true:=hq;rw[hp] at hq;cases hq),List.append_nil,<-h2]
theorem BLO{s:List Gau}{t:Int}{f:List Ln}(hN:(AC s).length<=48){m:Nat}(x:LnK)(hx:x.i<(XD s t).length/\(XD s t).length-x.i=m/\x.l=f ++ ((XD s t).take (x.i+1)).filter (okX s)):∃y:LnK,(y.l.length=x.l.length/\(y.i:Int)=IntKind.i64.wrap ((x.i:Int)+1)/\y.l.length=x.l.length/\∀j:Nat,j<y.l.length->(gD y.l j).a0=(gD x.l j).a0/\(gD y.l j).a1=(gD x.l j).a1/\(gD y.l j).b0=(gD x.l j).b0/\(gD y.l j).b1=(gD x.l j).b1)/\(y.i<=(XD s t).length/\y.l=f ++ ((XD s t).take y.i).filter (okX s))/\(XD s t).length-y.i<m:=by
 have:=ABY (s:=s) (t:=t)
 exact⟨⟨x.i+1,x.l⟩,⟨rfl,(BF (by omega)).symm,rfl,λ_ _=>⟨rfl,rfl,rfl,rfl⟩⟩,⟨hx.1,hx.2.2⟩,by show (XD s t).length-(x.i+1)<m;omega⟩
theorem bA{w:Bk}{k:Int}(h:w.has k=true):C3 w k=w:=by
 obtain⟨g,b,has,st⟩:=w
 have h:has k=true:=h
 unfold C3;congr 1
 ·funext n;unfold WA;by_cases e:n=k
  ·subst e;simp[h]
  ·simp[e]
 ·funext n;unfold xG;simp[h]
theorem CVN{w:Bk}{k n:Int}:fdM (C3 w k) n=bif decide (n=k) then bG (Jp w k) else fdM w n:=by
 unfold fdM
 show (bif WA w.has k n then bG (Jp w n) else [])=_
 unfold WA
 by_cases e:n=k
 ·subst e;simp
 ·simp[e]
theorem CDN{w:Bk}{k:Int}(h:w.has k=true):fdM w k=bG (Jp w k):=by unfold fdM;rw[h];rfl
theorem CIW{s:List Gau}(h:s=[]):bG s=[]:=by subst h;rfl
theorem BPE{s:List Gau}(hN:(AC s).length<=48):(bG s).length<=10000:=by
 unfold bG
 rw[<-tX]
 by_cases h:(AC s).length=0
 ·rw[h];simp[Qz]
 ·obtain⟨i,hi⟩:∃i,(AC s).length=i+1:=⟨(AC s).length-1,by omega⟩
  rw[hi,<-vA (i:=i) (by omega)];exact AUH hN
theorem CBV{w:Bk}{k:Int}:∀n:Int,((fdM (C3 w k) n).length=bif decide (n=k) then (bG (Jp w k)).length else (fdM w n).length)/\∀j:Nat,j<(fdM (C3 w k) n).length->((gD (fdM (C3 w k) n) j).a0=bif decide (n=k) then (gD (bG (Jp w k)) j).a0 else (gD (fdM w n) j).a0)/\((gD (fdM (C3 w k) n) j).a1=bif decide (n=k) then (gD (bG (Jp w k)) j).a1 else (gD (fdM w n) j).a1)/\((gD (fdM (C3 w k) n) j).b0=bif decide (n=k) then (gD (bG (Jp w k)) j).b0 else (gD (fdM w n) j).b0)/\(gD (fdM (C3 w k) n) j).b1=bif decide (n=k) then (gD (bG (Jp w k)) j).b1 else (gD (fdM w n) j).b1:=λn=>by
 rw[CVN];cases decide (n=k)<;>exact⟨rfl,λ_ _=>⟨rfl,rfl,rfl,rfl⟩⟩
theorem CBY{a:BkS}(h:US a.w.g a.w.b):(sB a).length<=24/\(AC (sB a)).length<=48/\∀g∈sB a,IT g:=by
 have h1:(sB a).length<=24:=Nat.le_trans (List.length_filter_le _ _) h.1
 have he:=Vz (s:=sB a) (sB a).length (Nat.le_refl _)
 unfold Hx at he;rw[List.take_length] at he
 exact⟨h1,by unfold AC;omega,λg hg=>h.2.1 g (List.mem_filter.1 hg).1⟩
theorem Q5{s:List Gau}{t:Int}:PX s t=bif (bif decide ((s.length:Int)>0) then ((bG s).length:Int)==0 else false) then [] else bG s ++ (XD s t).filter (okX s):=by
 unfold PX
 rw[show decide (0<s.length)=decide ((s.length:Int)>0) by simp[Int.natCast_pos],show decide ((bG s).length=0)=(((bG s).length:Int)==0) by rw[Bool.eq_iff_iff];simp]
theorem CSK(a:BkS)(h:US a.w.g a.w.b)(h2:0<=a.st/\a.st<=2000)(h3:sB a≠[]):BYT a:=by
 rw[CKN]<;> dsimp only[go_sem];simp only[CC,CU,XS,show Jp a.w a.k=sB a from rfl,if_true]
 obtain⟨hs,hN,hg⟩:=CBY h
 have hf:=BPE (s:=sB a) hN
 have h0:0<(sB a).length:=List.length_pos_iff.2 h3
 have ok:∀x,MI x->(sB a).length<4611686018427387904/\∀g:Gau,List.Mem g (sB a)->MI x/\IT g:=λx hx=>⟨by omega,λg hgs=>⟨hx,hg g hgs⟩⟩
 have e_ok:∀i,i<(AC (sB a)).length->okP (gD (AC (sB a)) i):=λi hi=>bS hg (BU hi)
 refine⟨h,λhh=>⟨?a,?b1⟩,λhh=>⟨⟨⟨by omega,⟨0,rfl,Nat.zero_le _,rfl⟩,λi ⟨hi,hp⟩=>?c,λx ⟨hi,hp⟩=>?d⟩,?e⟩,?b2⟩⟩
 case a=>
  refine⟨default,?_⟩
  rw[bA hh,CDN hh]
  exact⟨rfl,λ_ _=>⟨rfl,rfl,rfl⟩,rfl,λ_ _=>rfl,λ_=>rfl,λ_=>rfl,λ_=>⟨rfl,λ_ _=>⟨rfl,rfl,rfl,rfl⟩⟩,rfl,λ_ _=>⟨rfl,rfl,rfl,rfl⟩⟩
 case e=>exact⟨default,rfl,λ_ _=>⟨rfl,rfl,rfl⟩,rfl,λ_ _=>rfl,λ_=>rfl,λ_=>rfl,CBV⟩
 case c=>
  refine⟨λhlt=>?_,λhge=>⟨default,?_⟩⟩
  ·have hlt':i<(AC (sB a)).length:=Int.ofNat_lt.1 hlt
   refine⟨⟨by omega,hlt⟩,⟨(e_ok i hlt').1,(e_ok i hlt').2.1⟩,ok _ (eG (e_ok i hlt')),λhpa=>⟨⟨by omega,by omega,by omega,by omega,by omega⟩,⟨⟨i,0,[QB (gD (AC (sB a)) i)]⟩,⟨rfl,rfl,rfl,rfl,rfl,rfl,oneL _⟩,hlt',Nat.zero_le _,rfl,?_⟩,λx hx=>BAL hs hN hg x hx,λx hx=>BAM hs hN hg x hx⟩,λhpa=>⟨⟨⟨i,0⟩,⟨rfl,rfl,rfl,rfl⟩,hlt',Nat.zero_le _,rfl,?_⟩,λx hx=>BAL hs hN hg x hx,λx hx=>BAM hs hN hg x hx⟩⟩
   ·show _=(RE (sB a) i 0).filter (Lh (sB a))
    rw[ABL,hp,if_pos (show Lh (sB a) _=true from hpa)];rfl
   ·show (RE (sB a) i 0).filter (Lh (sB a))=[]
    rw[ABL,hp,if_neg (by rw[show Lh (sB a) (QB (gD (AC (sB a)) i))=false from hpa];simp)];rfl
  ·have:i=(AC (sB a)).length:=by omega
   rw[this,tX] at hp;unfold bG;rw[hp];rfl
 case d=>
  refine⟨λhlt=>?_,λhge=>⟨default,?_⟩⟩
  ·have hlt':x.i<(AC (sB a)).length:=Int.ofNat_lt.1 hlt
   have hl:x.l.length<=10000:=by
    have:=AUH (s:=sB a) (i:=x.i) (j:=0) hN
    rw[ABL,<-hp,List.length_append] at this;omega
   refine⟨⟨by omega,hlt⟩,⟨(e_ok x.i hlt').1,(e_ok x.i hlt').2.1⟩,ok _ (eG (e_ok x.i hlt')),λhpa=>⟨⟨by omega,λ_=>by omega,by omega,by omega⟩,⟨⟨x.i,0,x.l ++ [QB (gD (AC (sB a)) x.i)]⟩,⟨rfl,rfl,rfl,rfl,by simp,by simp,BGX _ _⟩,hlt',Nat.zero_le _,rfl,?_⟩,λx hx=>BAL hs hN hg x hx,λx hx=>BAM hs hN hg x hx⟩,λhpa=>⟨⟨⟨x.i,0,x.l⟩,⟨rfl,rfl,rfl,rfl,rfl,rfl,λ_ _=>⟨rfl,rfl,rfl,rfl⟩⟩,hlt',Nat.zero_le _,rfl,?_⟩,λx hx=>BAL hs hN hg x hx,λx hx=>BAM hs hN hg x hx⟩⟩
   ·show _=(RE (sB a) x.i 0).filter (Lh (sB a))
    rw[ABL,<-hp,if_pos (show Lh (sB a) _=true from hpa)]
   ·show x.l=(RE (sB a) x.i 0).filter (Lh (sB a))
    rw[ABL,<-hp,if_neg (by rw[show Lh (sB a) (QB (gD (AC (sB a)) x.i))=false from hpa];simp),List.append_nil]
  ·have hx:x.l=bG (sB a):=by rw[hp,show x.i=(AC (sB a)).length by omega,tX];rfl
   rw[hx];exact⟨rfl,Nat.le_refl _,λ_ _=>⟨rfl,rfl,rfl,rfl⟩⟩
 all_goals
  ·have hmo:∀i:Nat,i<=(AC (sB a)).length->¬(i:Int)<(AC (sB a)).length->cQ (sB a) a.st i=XD (sB a) a.st:=λi h1 h2=>by
    rw[show i=(AC (sB a)).length by omega,AUE]
   refine⟨λhc=>by rw[Q5,hc];rfl,λhc=>⟨h2,by omega,CCV _ _,λi hi=>⟨λhlt=>CFG hN hlt,λhge=>⟨⟨?_,by omega⟩,⟨⟨0,bG (sB a)⟩,⟨rfl,by rw[hmo i hi hge],by rw[hmo i hi hge],rfl,by rw[hmo i hi hge],λj _=>by rw[hmo i hi hge];exact⟨rfl,rfl,rfl,rfl⟩,rfl,λ_ _=>⟨rfl,rfl,rfl,rfl⟩⟩,Nat.zero_le _,by simp⟩,λx hx=>⟨λhlt=>⟨CEE hs hN hg hf hx hlt,λy hy=>BLO hN y hy⟩,λhge=>?_⟩⟩⟩⟩⟩
   ·simp only[decide_eq_true (show ((sB a).length:Int)>0 by omega),cond_true,beq_eq_false_iff_ne,ne_eq] at hc
    omega
   ·have e:PX (sB a) a.st=x.l:=by rw[Q5,hc,hx.2,List.take_of_length_le (by omega)];rfl
    rw[e];exact⟨rfl,Nat.le_refl _,λ_ _=>⟨rfl,rfl,rfl,rfl⟩⟩
theorem BXA{s:List Gau}{t:Int}(hN:(AC s).length<=48){m:Nat}(i:Nat)(hx:i<(XD s t).length/\(XD s t).length-i=m/\((XD s t).take (i+1)).filter (okX s)=[]):∃y:Nat,(y:Int)=IntKind.i64.wrap ((i:Int)+1)/\(y<=(XD s t).length/\((XD s t).take y).filter (okX s)=[])/\(XD s t).length-y<m:=by
 have:=ABY (s:=s) (t:=t)
 exact⟨i+1,(BF (by omega)).symm,⟨hx.1,hx.2.2⟩,by omega⟩
theorem CRP(a:BkS)(h:US a.w.g a.w.b)(h2:0<=a.st/\a.st<=2000)(h3:sB a=[]):CDZ a:=by
 rw[CJS]<;> dsimp only[go_sem];simp only[CC,CU,XS,show Jp a.w a.k=sB a from rfl,if_true]
 obtain⟨hs,hN,hg⟩:=CBY h
 have hf:bG (sB a)=[]:=CIW h3
 have h0:(AC (sB a)).length=0:=by rw[h3];rfl
 have hS:(sB a).length=0:=by rw[h3];rfl
 have ok:∀x,MI x->(sB a).length<4611686018427387904/\∀g:Gau,List.Mem g (sB a)->MI x/\IT g:=λx hx=>⟨by omega,λg hgs=>⟨hx,hg g hgs⟩⟩
 have hc:(bif decide (((sB a).length:Int)>0) then ((bG (sB a)).length:Int)==0 else false)=false:=by rw[hS];rfl
 refine⟨h,λhh=>⟨?a,?b1⟩,λhh=>⟨⟨⟨by omega,⟨0,rfl,Nat.zero_le _,rfl⟩,λi ⟨hi,hp⟩=>?c,λx ⟨hi,hp⟩=>?d⟩,?e⟩,?b2⟩⟩
 case a=>
  refine⟨default,?_⟩
  rw[bA hh,CDN hh]
  exact⟨rfl,λ_ _=>⟨rfl,rfl,rfl⟩,rfl,λ_ _=>rfl,λ_=>rfl,λ_=>rfl,λ_=>⟨rfl,λ_ _=>⟨rfl,rfl,rfl,rfl⟩⟩,by show 0=(bG (sB a)).length;rw[hf];rfl⟩
 case e=>exact⟨default,rfl,λ_ _=>⟨rfl,rfl,rfl⟩,rfl,λ_ _=>rfl,λ_=>rfl,λ_=>rfl,CBV,by rw[hf];rfl⟩
 case c=>exact⟨λhlt=>absurd hlt (by omega),λhge=>⟨default,by rw[hf];rfl⟩⟩
 case d=>
  refine⟨λhlt=>absurd hlt (by omega),λhge=>⟨default,?_⟩⟩
  have hx:x.l=bG (sB a):=by rw[hp,show x.i=(AC (sB a)).length by omega,tX];rfl
  rw[hx];exact⟨rfl,Nat.le_refl _,λ_ _=>⟨rfl,rfl,rfl,rfl⟩⟩
 all_goals
  have hmo:∀i:Nat,i<=(AC (sB a)).length->cQ (sB a) a.st i=XD (sB a) a.st:=λi h1=>by
   rw[show i=(AC (sB a)).length by omega,AUE]
  have hML:=ABY (s:=sB a) (t:=a.st)
  refine⟨λhc=>?_,λ_=>⟨h2,by omega,CCV _ _,λi hi=>⟨λhlt=>CFG hN hlt,λhge=>⟨⟨0,⟨by rw[hmo i hi],by rw[hmo i hi],rfl,by rw[hmo i hi],λj _=>by rw[hmo i hi];exact⟨rfl,rfl,rfl,rfl⟩⟩,Nat.zero_le _,rfl⟩,λx ⟨hx,hy⟩=>⟨λhlt=>⟨?_,λy hy=>BXA hN y hy,λy hy=>BLO hN y hy⟩,λhge=>?_⟩,λx hx=>⟨λhlt=>⟨CEE hs hN hg (by rw[hf];exact Nat.zero_le _) hx hlt,λy hy=>BXA hN y hy,λy hy=>BLO hN y hy⟩,λhge=>?_⟩⟩⟩⟩⟩
  ·rw[hS] at hc;cases hc
  ·have h':x<(XD (sB a) a.st).length:=Int.ofNat_lt.1 hlt
   refine⟨⟨⟨by omega,hlt⟩,h'⟩,λhr=>ok _ (aI.1 hr),λhp=>⟨⟨by omega,by omega,by omega,by omega,by omega⟩,⟨x,[gD (XD (sB a) a.st) x]⟩,⟨rfl,rfl,rfl,oneL _⟩,h',rfl,?_⟩,λhp=>⟨x,rfl,h',rfl,?_⟩⟩
   ·show [_]=_
    rw[AVI h',if_pos (show okX (sB a) (gD (XD (sB a) a.st) x)=true from hp),hy,hf];rfl
   ·rw[AVI h',if_neg (by intro hq;have hq:(bif Kv (gD (XD (sB a) a.st) x) then (sB a).all λg=>NJ (gD (XD (sB a) a.st) x) g else false)=true:=hq;rw[hp] at hq;cases hq),hy];rfl
  ·have hz:(XD (sB a) a.st).filter (okX (sB a))=[]:=by rw[<-hy,List.take_of_length_le (by omega)]
   rw[Q5,hc,hf,hz];rfl
  ·have e:PX (sB a) a.st=x.l:=by rw[Q5,hc,hx.2,List.take_of_length_le (by omega)];rfl
   rw[e];exact⟨rfl,Nat.le_refl _,λ_ _=>⟨rfl,rfl,rfl,rfl⟩⟩
theorem AGW:AH ZP 88 (C_lns.spec dBkS):=Ctr.spec_ok (C:=C_lns) (λ(a:BkS) h=>by
 have h:US a.w.g a.w.b/\0<=a.st/\a.st<=2000:=h
 by_cases h3:sB a=[]
 ·exact WP (A:=BXQ a) (ren:=[]) (fz:=[403]) Tryz.func88 (by kernel_rfl) (AA C8 (AA W5 (AA M3 (AA Zv (AA ACO (AA K6 (AA CID AD))))))) (CRP a h.1 h.2 h3) (BZM 129 (BSP a) rfl rfl (AA ACO (AA Zv (AA K6 AD))) Tryz.func129 (by kernel_rfl) (by kernel_rfl))
 ·exact WP (A:=BYN a) (ren:=[]) (fz:=[403]) Tryz.func88 (by kernel_rfl) (AA C8 (AA W5 (AA M3 (AA Zv (AA ACO (AA K6 (AA CLA AD))))))) (CSK a h.1 h.2 h3) (BZM 129 (BSP a) rfl rfl (AA ACO (AA Zv (AA K6 AD))) Tryz.func129 (by kernel_rfl) (by kernel_rfl))) _
end Go.Bal
