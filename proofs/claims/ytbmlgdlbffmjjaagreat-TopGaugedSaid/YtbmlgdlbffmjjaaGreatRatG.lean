/- Package rating: lines of a part that bound its flows. -/
import Derived.Test.YtbmlgdlbffmjjaaGreatRatF
set_option linter.unusedVariables false
set_option linter.unusedSimpArgs false
namespace Go.Bal
open Go Go.Sym Go.Proofs
def rowL(l:List Ln):AObj:=.row 4 l.length λi=>eLn (gD l i)
def dLs1:List AVal->Heap->Option (List Ln×List (Nat×Nat)×List Nat)
 |[y],H=>match dLns y H with
  |some (l,f)=>some (l,[],f)
  |none=>none
 |_,_=>none
def C_cloN:Ctr:={ α:=List Ln,xs:=λl=>[.d (K4 l)],L:=λ_=>[],val:=λl=>.own 0 4 0 l.length,keep:=λl=>[(0,.live (rowL l))],pre:=λl=>[0<l.length/\l.length<1073741824] }
def BZB:Ann:={ ann 8 [] with mt:=λid=>id==3 }
def BZU(l:List Ln):Prop:=AX Try.prog BZB F1 (AF F1) (C_cloN.xs l) (AC []) (C_cloN.val l) (C_cloN.keep l) [(0,4032)] []
abbrev Tr a b c(d:Nat->Prop):=Iz a (AN b c) d
abbrev Wt a:=KE a 0
abbrev bR a:=FW UD (HW a)
attribute [go_sem] Tr Wt bR
theorem CCA(l:List Ln):(BZU l)=(And (Fx (HT l)) (Tr (KX (Bf AM 0 EK) (RB FT (HT l) 4) (bR (HT l)) (AP (HT l)) 9223372036854775807 (LO (Cw (AP (HT l)) 32))) (HT l) (AP (HT l)) (λi=>FH i (HT l) (XE l i l (Wt i)) (EU l i) (EU l (Wt i)) (EQ l i) (EQ l (Wt i)) (EP l i) (EP l (Wt i))))):=by kernel_rfl
def nilN:DVal:=.list 0 0 (λ_=>default) false
def C_cloE:Ctr:={ α:=One,xs:=λ_=>[.d nilN],L:=λ_=>[],val:=λ_=>.d gK,keep:=λ_=>[] }
def dNil:List AVal->Heap->Option (One×List (Nat×Nat)×List Nat)
 |[.d (.list 0 0 _ _)],_=>some (default,[],[])
 |_,_=>none
def BOI:Ann:={ ann 8 [] with md:=λid=>if id=3 then some (λk=>if k=0 then 4 else 0) else none }
def BSG(_x:One):Prop:=AX Try.prog BOI F1 (AF F1) (C_cloE.xs _x) (AC []) (C_cloE.val _x) [] [] []
abbrev UQ:=XA 4
abbrev RX a:=Uo a 0
attribute [go_sem] UQ RX
theorem CGJ(_x:One):(BSG _x)=(Qo (EX AM RX) (KX (Bf FT 0 EK) UQ (bR 0) 0 9223372036854775807 (LO 0)) AM):=by kernel_rfl
theorem CFN:AH Try.prog ADG (C_cloN.spec dLs1):=PU C_cloN (λ_=>BZB) [(0,4032)] [] AVE (λ_=>by kernel_rfl) (λ_=>AD) (λ(l:List Ln) h=>by
 show BZU l;rw[CCA]<;> delta LI UD LL HV GZ JJ HU AK AN AE BA BN CV KE FT HA NZ HT LH Cw AG AP AI AO AR Qv IG HC AM EP JO KC EQ GI EU UG FH HQ FW RB HW PL KX Sf LO Iz Tr Dr EK XE Bf Fx Wt bR;simp only[CC,CU]
 obtain⟨h1,h2⟩:0<l.length/\l.length<1073741824:=h
 exact⟨h1,⟨λ_=>h1,by omega,by omega⟩,λ_ _=>⟨rfl,rfl,rfl,rfl⟩⟩) (λ_=>RU rfl rfl) _
theorem CDU:AH Try.prog ADG (C_cloE.spec dNil):=PU C_cloE (λ_=>BOI) [] [] AVE (λ_=>by kernel_rfl) (λ_=>AD) (λ(x:One) _=>by
 show BSG x;rw[CGJ]<;> delta LI UD HU AN AE BA BN CV FT AG AI AO Rp AR DF AM EX GI lX Uo FW HW KX LO EK Bf XA RX UQ Qo bR;simp only[CC,CU]
 exact⟨by omega,by simp,by omega,by omega⟩) (λ_=>RU rfl rfl) _
structure BkS where
 w:Bk
 k:Int
 st:Int
def dBkS:List AVal->Heap->Option (BkS×List (Nat×Nat)×List Nat)
 |[.bptr id _,.d k,.d t],H=>match BIY H id with
  |some (w,q)=>some (⟨w,LR k,LR t⟩,[(100,id),(101,q)],[])
  |none=>none
 |_,_=>none
def O0(w:Bk)(k:Int):Bk:=⟨w.g,w.b,QD w.has k,tY w.has w.st k⟩
def moB(t:Int):List Ln:=[UC ⟨t,0⟩,UC ⟨t,200000⟩]
def hY(s:List Gau)(t:Int)(i:Nat):List Ln:=moB t ++ ((AB s).take i).flatMap λp=>[qS ⟨t,0⟩ p,qS p ⟨t,200000⟩]
def Cv(s:List Gau)(t:Int):List Ln:=moB t ++ (AB s).flatMap λp=>[qS ⟨t,0⟩ p,qS p ⟨t,200000⟩]
def Y3(s:List Gau)(x:Ln):Bool:=bif Ww x then Ru s x else false
def Nn(s:List Gau)(t:Int):List Ln:=bif (bif decide (0<s.length) then decide ((gV s).length=0) else false) then [] else gV s ++ (Cv s t).filter (Y3 s)
structure LnK where
 i:Nat
 l:List Ln
 deriving Inhabited
structure LnJ where
 i:Nat
 j:Nat
 l:List Ln
 deriving Inhabited
def sB(a:BkS):List Gau:=aE a.w a.k
def lsH(a:BkS)(c:AVal):List (Nat×HCell):=bkK a.w ++ [(2048,.live (.box [.d (KD (sB a))])),(3144,.live (.box [c]))]
def lsR(a:BkS)(l:List Ln):List (Nat×HCell):=lsH a (.own 401 4 0 l.length) ++ [(401,.live (rowL l))]
def lsPt(p:Pt):HCell:=.live (.box [.int p.st,.int p.fl])
def lsOn(a:BkS)(l:Nat):Shape:={ α:=Nat,dflt:=0,T:=λi=>⟨lnS (sB a) l i,lsH a (.d gK)⟩,inv:=λi=>i<=(AB (sB a)).length/\(Xm (sB a) i).filter (Ru (sB a))=[],meas:=λi=>(AB (sB a)).length-i }
def lsOo(a:BkS)(l:Nat):Shape:={ α:=LnK,dflt:=default,T:=λx=>⟨lnS (sB a) l x.i,lsR a x.l⟩,inv:=λx=>x.i<=(AB (sB a)).length/\x.l=(Xm (sB a) x.i).filter (Ru (sB a)),meas:=λx=>(AB (sB a)).length-x.i }
def lsIs(a:BkS)(l i j:Nat):List (Nat×AVal):=[(5,.bptr 205 0),(22,.d (ePts (AB (sB a)))),(23,.int (AB (sB a)).length),(24,.int j)] ++ lnS (sB a) l i
def lsIn(a:BkS)(q l:Nat):Shape:={ α:=IJ,dflt:=default,T:=λx=>⟨lsIs a l x.i x.j,(205,lsPt (gD (AB (sB a)) x.i)) :: lsH a (.d gK)⟩,inv:=λx=>x.i<(AB (sB a)).length/\x.j<=(AB (sB a)).length/\(AB (sB a)).length-x.i=q/\(TJ (sB a) x.i x.j).filter (Ru (sB a))=[],meas:=λx=>(AB (sB a)).length-x.j,first:=[(205,104032)] }
def lsIo(a:BkS)(q l:Nat)(r:List (Nat×Nat)):Shape:={ α:=LnJ,dflt:=default,T:=λx=>⟨lsIs a l x.i x.j,(205,lsPt (gD (AB (sB a)) x.i)) :: lsR a x.l⟩,inv:=λx=>x.i<(AB (sB a)).length/\x.j<=(AB (sB a)).length/\(AB (sB a)).length-x.i=q/\x.l=(TJ (sB a) x.i x.j).filter (Ru (sB a)),meas:=λx=>(AB (sB a)).length-x.j,first:=(205,104032) :: r,again:=r }
noncomputable def BGU(a:BkS):IterAnn:={ fn:=dC,code:=AF dC,live:=[0,1,2,7,8],ann:={ base:=λid=>100000+1000*(id+1),Γ:=Sym.look [(AKD,C_ends.spec A2),(oN,xN),(AIL,AVU)],E:=[100,101,2048,3144],n:=41,inner:=λgs id=>if id=2 then some [lsOn a (gs.getD 0 0),lsOo a (gs.getD 0 0)] else if id=6 then some [lsIn a (gs.getD 0 0) (gs.getD 1 0),lsIo a (gs.getD 0 0) (gs.getD 1 0) [],lsIo a (gs.getD 0 0) (gs.getD 1 0) [(401,8048)]] else none } }
def ls8s(a:BkS):List (Nat×AVal):=[(0,.bptr 100 0),(1,.int a.k),(2,.int a.st),(7,.bptr 2048 0),(8,.bptr 3144 0)]
def ls8n(a:BkS):Shape:={ α:=One,dflt:=default,T:=λ_=>⟨ls8s a,lsH a (.d (K4 (gV (sB a))))⟩,inv:=λ_=>True,meas:=λ_=>0 }
def ls8o(a:BkS):Shape:={ α:=One,dflt:=default,T:=λ_=>⟨ls8s a,lsH a (.d (K4 (gV (sB a))))⟩,inv:=λ_=>True,meas:=λ_=>0,ffz:=[401] }
def lsU(a:BkS)(z:DVal):List (Nat×HCell):=bkK (O0 a.w a.k) ++ [(2048,.live (.box [.d (KD (sB a))])),(3144,.live (.box [.d z]))]
def ls9(a:BkS)(z:DVal):Shape:={ α:=One,dflt:=default,T:=λ_=>⟨[(2,.int a.st),(7,.bptr 2048 0),(8,.bptr 3144 0)],lsU a z⟩,inv:=λ_=>True,meas:=λ_=>0 }
def ls14(a:BkS)(z:DVal):Shape:={ α:=Nat,dflt:=0,T:=λi=>⟨[(7,.bptr 2048 0),(8,.bptr 3144 0),(11,.bptr 12064 0),(12,.bptr 12080 0),(13,.own 402 4 0 (hY (sB a) a.st i).length),(67,.d (ePts (AB (sB a)))),(68,.int (AB (sB a)).length),(69,.int i)],lsU a z ++ [(12064,.live (.box [.int a.st,.int 0])),(12080,.live (.box [.int a.st,.int 200000])),(402,.live (rowL (hY (sB a) a.st i)))]⟩,inv:=λi=>i<=(AB (sB a)).length,meas:=λi=>(AB (sB a)).length-i,first:=[(402,13064)],again:=[(402,17128)] }
def BIA(a:BkS)(v:AVal)(i:Nat):List (Nat×AVal):=[(7,.bptr 2048 0),(16,v),(85,.own 402 4 0 (Cv (sB a) a.st).length),(86,.int (Cv (sB a) a.st).length),(87,.int i)]
def BFM(a:BkS):List (Nat×HCell):=bkK (O0 a.w a.k) ++ [(2048,.live (.box [.d (KD (sB a))])),(402,.live (rowL (Cv (sB a) a.st)))]
def CTF(a:BkS):Shape:={ α:=Nat,dflt:=0,T:=λi=>⟨BIA a (.d gK) i,BFM a⟩,inv:=λi=>i<=(Cv (sB a) a.st).length/\((Cv (sB a) a.st).take i).filter (Y3 (sB a))=[],meas:=λi=>(Cv (sB a) a.st).length-i }
def CIM(a:BkS):Shape:={ α:=LnK,dflt:=default,T:=λx=>⟨BIA a (.own 403 4 0 x.l.length) x.i,BFM a ++ [(403,.live (rowL x.l))]⟩,inv:=λx=>x.i<=(Cv (sB a) a.st).length/\x.l=gV (sB a) ++ ((Cv (sB a) a.st).take x.i).filter (Y3 (sB a)),meas:=λx=>(Cv (sB a) a.st).length-x.i,first:=[(403,19016)] }
def CTC(a:BkS)(m:Nat):Shape:={ α:=Nat,dflt:=0,T:=λi=>⟨BIA a (.d gK) i,BFM a⟩,inv:=λi=>i<(Cv (sB a) a.st).length/\(Cv (sB a) a.st).length-i=m/\((Cv (sB a) a.st).take (i+1)).filter (Y3 (sB a))=[],meas:=λ_=>0 }
def BGT(a:BkS)(m:Nat)(f:List (Nat×Nat)):Shape:={ α:=LnK,dflt:=default,T:=λx=>⟨BIA a (.own 403 4 0 x.l.length) x.i,BFM a ++ [(403,.live (rowL x.l))]⟩,inv:=λx=>x.i<(Cv (sB a) a.st).length/\(Cv (sB a) a.st).length-x.i=m/\x.l=gV (sB a) ++ ((Cv (sB a) a.st).take (x.i+1)).filter (Y3 (sB a)),meas:=λ_=>0,first:=f }
def C_lns:Ctr:={ ro:=[100],α:=BkS,xs:=λa=>[.bptr 100 0,.int a.k,.int a.st],L:=λa=>bkL a.w,val:=λa=>.d (K4 (Nn (sB a) a.st)),keep:=λa=>bkK (O0 a.w a.k),pre:=λa=>[gI a.w.g a.w.b/\0<=a.st/\a.st<=2000] }
def CKB(c:Sym.Spec):List (FuncId×Sym.Spec):=[(AIA,C_inside.spec dBkI),(xC,C_through.spec dGsK),(nH,C_passing.spec dGsL),(oN,xN),(AKD,C_ends.spec A2),(AIL,AVU),(ADG,c)]
noncomputable def BVE(a:BkS):Ann:={ ann 104 (CKB (C_cloN.spec dLs1)) with E:=[100,101],mt:=λid=>id==7||id==16||id==23,md:=λid=>if id=2 then some (λk=>if k=5 then 3 else 0) else none,iter:=λg=>if g=Fz then some (BGU a) else none,loops:=λid=>if id=14 then some [ls14 a (K4 (gV (sB a)))] else if id=20 then some [CIM a] else none,cut:=λid=>if id=8 then some [ls8n a,ls8o a] else if id=9 then some [ls9 a (K4 (gV (sB a)))] else none,cutIn:=λgs id=>if id=24 then some [BGT a (gs.getD 0 0) [(403,24048)],BGT a (gs.getD 0 0) []] else none }
noncomputable def BSS(a:BkS):Ann:={ ann 104 (CKB (C_cloE.spec dNil)) with E:=[100,101],mt:=λid=>id==7||id==16||id==23,md:=λid=>if id=2 then some (λk=>if k=5 then 3 else 0) else none,iter:=λg=>if g=Fz then some (BGU a) else none,loops:=λid=>if id=14 then some [ls14 a nilN] else if id=20 then some [CTF a,CIM a] else none,cut:=λid=>if id=8 then some [ls8n a,ls8o a] else if id=9 then some [ls9 a nilN] else none,cutIn:=λgs id=>if id=24 then some [CTC a (gs.getD 0 0),BGT a (gs.getD 0 0) [(403,24048)],BGT a (gs.getD 0 0) []] else none }
def BUM(a:BkS):Prop:=AX Try.prog (BVE a) I1 (AF I1) (C_lns.xs a) (AC (C_lns.L a)) (C_lns.val a) (C_lns.keep a) [] [403]
abbrev Ra:=BkS.k
abbrev PQ:=BkS.w
abbrev Og:=@List.Mem Int
abbrev UI:=BkS.st
abbrev VU:=@Exists LnK
abbrev ND:=LnK.l
abbrev BI:=LnK.i
abbrev mP:=@Eq (List Ln)
abbrev AXF:=@List.filter Ln
abbrev fI:=λ(f:LnK->Prop)=>∀(x:LnK),f x
abbrev AAC:=@List.nil Ln
abbrev ZO:=@Exists LnJ
abbrev IF:=LnJ.j
abbrev Cy:=LnJ.i
abbrev rK:=LnJ.l
abbrev uE:=λ(f:LnJ->Prop)=>∀(x:LnJ),f x
abbrev hJ:=@cond Nat
abbrev AWB a b:=O0 (PQ a) (Ra b)
abbrev Na a b c:=IT (AWB a a) b c
abbrev ZW a:=AWB a a
abbrev Tn a b:=RQ (ZW a) b
abbrev XV a b:=Ce (Tn a b) (λi=>Pv i (Tn a b) (Na a b i))
abbrev Qq a:=DJ (λi=>XV a i)
abbrev MV a:=Ga (ZW a)
abbrev MQ a:=eI (ZW a)
abbrev WC a:=Fc (ZW a)
abbrev Ny a:=EG (WC a)
abbrev MR a:=HS (WC a)
abbrev zM a b c d e:=wK a (Hh b) c d e
abbrev Wz a b c:=zM a b c c c
abbrev aX a b:=Dc (ZW a) b
abbrev QC a b:=Wz a (ZW b) (aX b a)
abbrev vB a:=AE (λi=>QC i a)
abbrev MS a:=yR (ZW a)
abbrev DX a b:=EP (ND a) b
abbrev zK a b:=Nn (sB a) b
abbrev YI a:=zK a (UI a)
abbrev DW a b:=EQ (ND a) b
abbrev DU a b:=EU (ND a) b
abbrev aQ a:=HT (YI a)
abbrev PT a:=HT (ND a)
abbrev M7 a:=Cv (sB a) (UI a)
abbrev IW a:=HT (M7 a)
abbrev QJ a b:=KE (IW a) b
abbrev FO a b:=QJ a (BI b)
abbrev AFA a b:=mP (ND a) b
abbrev zN a b:=AXF (Y3 (sB a)) ((@List.take Ln) b (M7 a))
abbrev Ka a:=gV (sB a)
abbrev AGX a b:=(@HAppend.hAppend (List Ln) (List Ln) (List Ln) (@instHAppendOfAppend (List Ln) (@List.instAppend Ln))) (Ka a) (zN a b)
abbrev jF a b c:=AFA a (AGX b c)
abbrev Ly a b c:=jF a b (BI c)
abbrev Yk a b:=ABE AM a b
abbrev Uj a b:=AN (PT a) b
abbrev Pd a b:=Uj a (PT b)
abbrev Td a b c:=Yk (Pd a b) c
abbrev O9 a b c d e f g h p:=AS a b c (MS d) (vB e) (MR f) (Ny g) h p
abbrev kM a:=EJ (IW a)
abbrev Hi a:=AR (IW a)
abbrev Cr a b c d e f g h:=O9 (Hi a) (kM b) c d e f g EO h
abbrev zT a b:=ZQ a (sB b) (sB b) a
abbrev Gu a:=AE (λi=>zT i a)
abbrev Zt a:=BW (sB a)
abbrev Y4 a b c d e f(g:Nat->Prop) h(p:Nat->Prop):=ZI (MQ a) (MV b) (Qq c) (Zt d) (Gu e) f g h p
abbrev Av a b c d e f(g:Nat->Prop) h(p:Nat->Prop):=Y4 a b c d e (Hi f) g h p
abbrev NJ a b c d e f g h p:=FH a (PT b) c d e f g h p
abbrev R8 a b c:=NS (ND a) b c
abbrev Sz a b c:=R8 a b (ND c)
abbrev Lm a b:=EP (M7 a) b
abbrev Lb a b:=EQ (M7 a) b
abbrev kO a b:=LH (M7 a) b
abbrev RG a b c d e f g h:=rN a (IW b) (kO c d) (Lb e f) (Lm g h)
abbrev jD a b:=AU (BI a) b
abbrev jB a:=CL (BI a)
abbrev kG a b:=BN a (IW b)
abbrev Ct a b:=kG (BI a) b
abbrev Jc a b c d:=Ns a 4 b c d
abbrev kS a b c d e f g h p:=Lw a b c (Jc d e f g) h p
abbrev Jq a b c d e f:=PF a b c d (mP e f)
abbrev Tj a b:=AGX a (jB b)
abbrev O4 a b:=BC (BI a) b
abbrev fR a b:=O4 a (BI b)
abbrev PG a b c d:=KB a (PT b) c d
abbrev dU a:=AP (BI a)
abbrev Le a b:=Lm a (dU b)
abbrev Ku a b:=Lb a (dU b)
abbrev Qz a b:=EU (M7 a) b
abbrev Lf a b:=Qz a (dU b)
abbrev XN a b c:=UG (LH a b) c
abbrev Sr a b:=kO a (dU b)
abbrev fZ a b:=LL (Sr a b)
abbrev Yb a:=CL (PT a)
abbrev dO a b:=Uj a (Yb b)
abbrev tW a:=SK a 32
abbrev oV a:=tW (PT a)
abbrev Zp a:=Lj a 4
abbrev qM a:=Zp (PT a)
abbrev Kk a:=BB (sB a)
abbrev Ph a b:=Zm (Kk a) b
abbrev fQ a b:=Ww (Sr a b)
abbrev wJ a:=BU (Kk a) (sB a)
abbrev tA a:=CI (Kk a) (sB a)
abbrev Pg a b c d e f:=HL (tA a) (wJ a) b (rC c d e (OE (Kk a)) (λi=>WH i (Kk a) (Kx f i)))
abbrev Aj a:=jA (Ka a)
abbrev Np a:=HT (Aj a)
abbrev Fp a b:=hY (sB a) (UI a) b
abbrev Ay a b c:=EP (Fp a b) c
abbrev Ax a b c:=EQ (Fp a b) c
abbrev Bw a b c:=EU (Fp a b) c
abbrev Ut a b c:=HQ a (LH b c)
abbrev SC a b:=HT (Fp a b)
abbrev gF a b c:=AN (IW a) (SC b c)
abbrev jM a b:=EP (Ka a) b
abbrev jI a b:=EQ (Ka a) b
abbrev jV a b:=EU (Ka a) b
abbrev OL a:=HT (Ka a)
abbrev MY a:=aS (AB (sB a))
abbrev aZ a b:=KE (MY a) b
abbrev jK a b c d e:=EV a b (aZ c d) (aZ c e)
abbrev Ls a b:=NZ a (MY b)
abbrev AAA a:=EJ (MY a)
abbrev AMJ a b:=Wm (AB (sB a)) b
abbrev TQ a b:=Qj (AMJ a b)
abbrev ANF a b:=AJ (TQ a b)
abbrev QR a b:=fD (AMJ a b)
abbrev VB a b:=PS a (MY b) (QR b a) (ANF b a)
abbrev sI a:=AE (λi=>VB i a)
abbrev Mf a b c d e:=AI (sI a) (AAA b) c d e
abbrev Yd(a:Nat->Prop) b c d e f(g:Int->Prop) h p:=cU a b c d e f g (Zt h) p
abbrev Bi a b c d e f g h p:=KB a (SC b c) d (SD (KE e (SC f g)) h p)
abbrev Yh a b c:=AN (SC a b) c
abbrev Cn a b:=qO (SC a b)
abbrev fC:=BO 200000
abbrev Gf a:=AJ (UI a)
abbrev mJ a:=AR (MY a)
abbrev Yx a b:=BE a (MY b)
abbrev AGK a b:=sA (X9 (UI a) b)
abbrev Bj a:=AGK a 200000
abbrev Ai a:=AGK a 0
abbrev bZ a b:=Yh a b 2
abbrev bV a:=EM (Kk a)
abbrev Mc a:=NT (aQ a)
abbrev fA a:=QG (BH a)
abbrev TR a:=aD a 0
abbrev Jt a b(c:Nat->Prop):=EX (AN a b) c
abbrev Ve a b c d e f g h p:=FH a b c (HV d) e f g h p
abbrev ZX a b c:=IT (PQ a) b c
abbrev Xx a b c:=JJ (ZX a b c)
abbrev Sp a b:=(λ(x0 x1:Int)=>decide (x0=x1)) a (Ra b)
abbrev Ye a b c:=GZ (ZX a b c)
abbrev Wn a b:=RQ (PQ a) b
abbrev eD a b c:=AK (Qa a b) c
abbrev Ig a b c:=LI (Df a b) c
abbrev SY a:=Fc (PQ a)
abbrev sO a b:=Dc (PQ a) b
abbrev eL a b:=JY (sO a b)
abbrev cJ a b:=LV (sO a b)
abbrev cK a b:=KA (sO a b)
abbrev Ha a b:=CI a (Hh b)
abbrev OP a b:=Ha (Hh a) b
abbrev tE a b:=CV (AP a) b
abbrev Ou a:=tE a a
abbrev dQ a b:=Ce (Wn a b) (λi=>tG i (Wn a b) (ZX a b i) (ZX a b i) (ZX a b i))
abbrev Kq a:=Ga (PQ a)
abbrev Mn a:=eI (PQ a)
abbrev iS a:=HS (SY a)
abbrev IZ a b:=zM a (PQ b) (sO b a) (sO b a) (sO b a)
abbrev Dv a:=yR (PQ a)
abbrev pQ a:=AJ (Ra a)
abbrev Al a b c d e f g h:=UO a b (MY c) (Yx b d) e f g h
abbrev Lu a b:=CV a (MY b)
abbrev vO a b c:=And (Lu a b) c
abbrev Cp a b c d e f:=jK a (vO b c d) e b f
abbrev AKL a b:=AXF (Ru a) b
abbrev AGD a b:=AKL (sB a) (Xm (sB a) b)
abbrev Tf a b c:=AFA a (AGD b (BI c))
abbrev yN a b c d:=AI a b c b d
abbrev Zz a b c:=yN (PD a) (mJ b) (sI b) c
abbrev Yf a b:=Yd (λi=>IZ i a) (iS a) (SY a) EO (Mn a) (Kq a) (λi=>dQ a i) a b
abbrev Yr a b c(d:Nat->Prop):=Tr (Gu a) b c d
abbrev DG a b:=LH (rK a) b
abbrev BS a b:=JJ (DG a b)
abbrev BR a b:=GZ (DG a b)
abbrev Am a b:=HV (DG a b)
abbrev To a b c:=Dr (ND a) b c
abbrev Pz a:=HT (rK a)
abbrev eJ a b:=jD a (Cy b)
abbrev AHR a b c d e f g:=Jq a (Lu b c) (aZ c d) (aZ c e) f g
abbrev AFC a b c:=AKL (sB a) (TJ (sB a) b c)
abbrev lM a b:=AFC a (Cy b) (IF b)
abbrev AFE a b:=BN a (MY b)
abbrev jO a b:=AFE (Cy a) b
abbrev Yi a b c d e:=AHR (jO a b) (IF c) d (Cy c) e (rK c) (lM d c)
abbrev Wx a b c d e:=jK a (Yi b c b c d) c (IF b) e
abbrev Ip a b c d e:=Wx a b c d (IF e)
abbrev Lr a b c d e:=Ip a b c (BI d) e
abbrev Xk a b:=KS (sI a) (mJ a) (AAA a) b
abbrev OT a b:=TQ a (Cy b)
abbrev EI a b:=QR a (Cy b)
abbrev Er a b c d e f g h:=FK (mJ a) (sI a) (AAA a) b (PD c) (mJ a) (Xk a (OR (BC (Cy d) e) (EI a d) f (OT a d) g (Dv a) h))
abbrev OW a b c d e f g h p:=Er a b c d (Cy e) f (OT g h) p
abbrev Gx a b c(d:Nat->Prop):=Yf a (Yr a (Pz b) c d)
abbrev Bc a b c(d:Nat->Prop):=Gx a b (Pz c) d
abbrev MG a b c d e f g h p:=Ve a b c d (HV e) f g h p
abbrev WJ a b c d e f g h p:=MG a (Pz b) c d e f g h p
abbrev sL a b c:=HQ (DG a b) c
abbrev Cd a b c d:=sL a b (DG c d)
abbrev AIN a b:=AU (IF a) b
abbrev OU a b:=AIN a (IF b)
abbrev Bn a b c d e f g(h:LnJ->Prop) p:=kS (AR a) b c d e f g (ZO h) p
abbrev TV a b c d e f g h p:=Ve a (Pz b) c d e f g h p
abbrev JM a b c d:=KB a (Pz b) c d
abbrev Cb a b:=TQ a (IF b)
abbrev GE a b:=QR a (IF b)
abbrev XG a b c:=UG (DG a b) c
abbrev fY a b:=LL (DG a b)
abbrev Ag a:=CL (Pz a)
abbrev fS a:=tW (Pz a)
abbrev cC a:=Zp (Pz a)
abbrev AGL a b c d e:=Ln.mk a b c (TQ d e)
abbrev Ck a b c d e f:=Ph a (AGL b c d e f)
abbrev Cc a b c d e f g h:=Pg a b (ANF c d) e (ANF f g) h
abbrev Cg a b c d e:=kY (Ww (AGL a b c d e))
abbrev Qh a:=mP a AAC
abbrev Ms a b:=Qh (AGD a b)
abbrev bP a b c:=AG (PD a) (mJ b) c
abbrev Tk a b(c:Nat->Prop) d e:=FQ a (Dv b) c (iS d) e
abbrev Zy a b c(d:Int->Prop) e f g:=Zq a b c d (Zt e) (λi=>zT i e) f g
abbrev Yl a:=Zy (SY a) (Mn a) (Kq a) (λi=>dQ a i) a AM CK
abbrev Bo a b c d e:=jK a b c (BM d) (BM e)
abbrev Q5 a b:=AFC a (DN b) (BM b)
abbrev T5 a b:=AFE (DN a) b
abbrev PE a b c d e f g h:=AHR (T5 a b) (BM c) d (DN e) f (Q5 g h) AAC
abbrev P5 a b c d e f g:=AI (mJ a) (sI b) (AAA c) d (Zz e f g)
abbrev Bb a b c d e f g h:=P5 a b c (yY d e) f g h
abbrev WK(a:Nat->Prop) b c d e f(g:Nat->Prop) h p:=FA a (AAA b) c d e (Dv f) g (iS h) (Yl p)
abbrev FJ a b:=TQ a (DN b)
abbrev T6 a b c:=AK (FJ a b) c
abbrev Au a b c d:=T6 a b (FJ c d)
abbrev DZ a b:=QR a (DN b)
abbrev T1 a b c:=AK (DZ a b) c
abbrev Ao a b c d:=T1 a b (DZ c d)
abbrev So a b(c:Nat->Prop):=Gx a b 1 c
abbrev Be a b:=TQ a (BM b)
abbrev GD a b:=QR a (BM b)
abbrev dM a b:=AIN a (BM b)
abbrev fU a b c:=AN a (aZ b c)
abbrev qJ a:=BD (IF a)
abbrev SJ a b:=sA (AMJ a b)
abbrev TX a b:=SJ a (BI b)
abbrev gQ a(b:Nat->Gau):=QM (Hh a) b
abbrev E4 a(b:Nat->Gau) c d e:=Bk.mk (gQ a b) c (Df d) (Qa e)
abbrev U9 a(b:Nat->Gau) c:=E4 a b (EL c) a a
abbrev PX a:=U9 (PQ a) (λi=>sO a i) (SY a)
abbrev Ju a:=aE (PX a) (Ra a)
abbrev sV a:=BB (Ju a)
abbrev kQ a:=BB (sV a)
abbrev oO a:=EM (kQ a)
abbrev YM a b c d:=eD a b (Qa c d)
abbrev TO a b c:=BA a (And b c)
abbrev eY a:=EL (SY a)
abbrev Me a:=CV a 24
abbrev QV a b c d e f:=WH a b (US (Ap c) (Cq d) (LV e) (LV e) (JY f))
abbrev Cf a:=gQ (PQ a) (λi=>sO a i)
abbrev Qu a:=Me (BP a)
abbrev QA a b c(d:Nat->Prop):=Jt a (RQ b c) d
abbrev FY a b c:=JJ (IT a b c)
abbrev GF a b c:=GZ (IT a b c)
abbrev QO a b c d:=HQ a (IT b c d)
attribute [go_sem] Ra PQ Og UI VU ND BI mP AXF fI AAC ZO IF Cy rK uE hJ AWB Na ZW Tn XV Qq MV MQ WC Ny MR zM Wz aX QC vB MS DX zK YI DW DU aQ PT M7 IW QJ FO AFA zN Ka AGX jF Ly Yk Uj Pd Td O9 kM Hi Cr zT Gu Zt Y4 Av NJ R8 Sz Lm Lb kO RG jD jB kG Ct Jc kS Jq Tj O4 fR PG dU Le Ku Qz Lf XN Sr fZ Yb dO tW oV Zp qM Kk Ph fQ wJ tA Pg Aj Np Fp Ay Ax Bw Ut SC gF jM jI jV OL MY aZ jK Ls AAA AMJ TQ ANF QR VB sI Mf Yd Bi Yh Cn fC Gf mJ Yx AGK Bj Ai bZ bV Mc fA TR Jt Ve ZX Xx Sp Ye Wn eD Ig SY sO eL cJ cK Ha OP tE Ou dQ Kq Mn iS IZ Dv pQ Al Lu vO Cp AKL AGD Tf yN Zz Yf Yr DG BS BR Am To Pz eJ AHR AFC lM AFE jO Yi Wx Ip Lr Xk OT EI Er OW Gx Bc MG WJ sL Cd AIN OU Bn TV JM Cb GE XG fY Ag fS cC AGL Ck Cc Cg Qh Ms bP Tk Zy Yl Bo Q5 T5 PE P5 Bb WK FJ T6 Au DZ T1 Ao So Be GD dM fU qJ SJ TX gQ E4 U9 PX Ju sV kQ oO YM TO eY Me QV Cf Qu QA FY GF QO
theorem CET(a:BkS):(BUM a)=(Lw (AG (pQ a) (Ha (Cf a) (PQ a)) (pZ (λi=>DV i (Cf a) (cK a i) (cJ a i) (eL a i)) (HJ (SY a)) (GX (SY a)) EO (Mn a) (Kq a) (λi=>Jt (RQ (PX a) i) (Wn a i) (λj=>MG j (RQ (PX a) i) (HQ (IT (PX a) i j) (ZX a i j)) (IT (PX a) i j) (ZX a i j) (GF (PX a) i j) (Ye a i j) (FY (PX a) i j) (Xx a i j))) (CI (Hh (PQ a)) (Cf a)) (pZ (λi=>KV i (PQ a) (cK a i) (DY (Cf a) i) (cJ a i) (DO (Cf a) i) (eL a i) (DI (Cf a) i)) (BK (SY a) (eY a)) (BQ (SY a) (eY a)) EO (Mn a) (Kq a) (λi=>QA (Wn a i) (PX a) i (λj=>MG j (Wn a i) (QO (ZX a i j) (PX a) i j) (ZX a i j) (IT (PX a) i j) (Ye a i j) (GF (PX a) i j) (Xx a i j) (FY (PX a) i j))) (AI (Qu (Cf a)) (TA (λi=>QV i (Cf a) i i i i)) (Me (JR (SY a))) (Ft ER (eY a)) (DJ (λi=>TO (Og i (eY a)) (Ej i) (HI i)))) FT))) EO (Df (PQ a) (Ra a)) (NM (FQ (Gf a) (OP (ZW a) (PQ a)) (λi=>KV i (ZW a) (KA (aX a i)) (cK a i) (LV (aX a i)) (cJ a i) (JY (aX a i)) (eL a i)) (BK (WC a) (SY a)) (oD (λi=>IA i (WC a) (SY a)) (DJ (λi=>Ig (ZW a) i (Df (PQ a) i))) (DJ (λi=>YM (ZW a) i (PQ a) i)) (λi=>Jt (Tn a i) (Wn a i) (λj=>MG j (Tn a i) (HQ (Na a i j) (ZX a i j)) (Na a i j) (ZX a i j) (GZ (Na a i j)) (Ye a i j) (JJ (Na a i j)) (Xx a i j))) (CI (sB a) (Ju a)) (λi=>EF i (sB a) (Ju a)) (AN (OL a) (Wn a (Ra a))) (AE (λi=>FH i (OL a) (Dr (Ka a) i (ZX a (Ra a) i)) (jV a i) (HV (ZX a (Ra a) i)) (jI a i) (Ye a (Ra a) i) (jM a i) (Xx a (Ra a) i)))))) (ZV (λi=>HH FT (BY (TR (QB (sB a))) (fA (OL a))) (Mc a) (RL (Mc a) (MS a) (λj=>QC j a) (MR a) (Ny a) (MQ a) (MV a) (Qq a)) (AQ (Br (WS (UI a)) (UI a) (HI (UI a))) (QL (tA a) (wJ a) (TH (Kk a))) (CG (λj=>And (PF AM (bZ a j) (MY a) (bV a) (Cl (λk=>TL k (MY a) (QR a k) (NQ (Kk a) k) (TQ a k) (WI (Kk a) k)) (BC (MY a) (bV a)) (BD j) (MS a) (Yd (λk=>QC k a) (MR a) (WC a) EO (MQ a) (MV a) (λk=>XV a k) a (Ib (Gu a) (AR (OL a)) (YB (OL a) (Ka a)) (Gf a) AL fC (bZ a j) (AE (λk=>FH k (SC a j) (XN (Fp a j) k (HG k (LL (Ai a)) (LL (Bj a)))) (Bw a j k) (HG k (HV (Ai a)) (HV (Bj a))) (Ax a j k) (HG k (GZ (Ai a)) (GZ (Bj a))) (Ay a j k) (HG k (JJ (Ai a)) (JJ (Bj a))))))))) (Ls j a))) (AE (λj=>MU (Ls j a) j (MY a) (AG (Yx j a) (KX (Zp (SC a j)) (Eh 2 4) (bR 2) (Cn a j) 9223372036854775807 (LO (Cw (Cn a j) 32))) (CG (λk=>jK (SP (Yh a k (Cn a j)) (mJ a) (Mf a a (AU k j) (MS a) (Yd (λl=>QC l a) (MR a) (WC a) EO (MQ a) (MV a) (λl=>XV a l) a (Ib (Gu a) (AR (OL a)) (YB (OL a) (Ka a)) (Gf a) AL fC (Yh a k (Cn a j)) (AE (λl=>FH l (SC a k) (XN (Fp a k) l (Bi l a j (XU (Fp a j) l) l a j (UI a) (QR a j))) (Bw a k l) (Bi l a j (Bw a j l) l a j 0 (TQ a j)) (Ax a k l) (Bi l a j (Ax a j l) l a j (QR a j) (UI a)) (Ay a k l) (Bi l a j (Ay a j l) l a j (TQ a j) 200000))))))) (Ls k a) a k j))) (AG (AQ (AN (Np a) (OL a)) (AE (λk=>FH k (Np a) (NS (Aj a) k (Ka a)) (EU (Aj a) k) (jV a k) (EQ (Aj a) k) (jI a k) (EP (Aj a) k) (jM a k))) (HW (Np a)) (Ar (Np a))) (VU (λk=>FG (Yk (Uj k (Np a)) (O9 (gF a a j) (BC (IW a) (SC a j)) (BD (BI k)) a a a a EO (Y4 a a a a a (gF a a j) (λl=>FH l (IW a) (Ut (kO a l) (Fp a j) l) (Qz a l) (Bw a j l) (Lb a l) (Ax a j l) (Lm a l) (Ay a j l)) (Uj k (Np a)) (λl=>NJ l k (R8 k l (Aj a)) (DU k l) (EU (Aj a) l) (DW k l) (EQ (Aj a) l) (DX k l) (EP (Aj a) l))))) (BI k) (IW a) (Ly k a k))) (fI (λk=>MU (CJ (BI k) (IW a) (Ly k a k)) (BI k) (IW a) (Rp (kS (Mq (BI k) (IW a) (dU k)) (FW (fQ a k) (Pg a (fZ a k) (AJ (Lf a k)) (Ku a k) (AJ (Le a k)) (PK (Sr a k) (Ku a k) (Lf a k) (Le a k)))) (BY (fQ a k) (Ph a (Sr a k))) (qM k) JE (Yb k) (oV k) (VU (λl=>Jq (Yk (dO l k) (Cr a a (fR l k) a a a a (Av a a a a a a (λm=>RG m a a m a m a m) (dO l k) (λm=>NJ m l (XN (ND l) m (PG m k (XU (ND k) m) (fZ a k))) (DU l m) (PG m k (DU k m) (Lf a k)) (DW l m) (PG m k (DW k m) (Ku a k)) (DX l m) (PG m k (DX k m) (Le a k)))))) (Ct l a) (FO a l) (FO a k) (ND l) (Tj a l))) (VU (λl=>Jq (Td l k (Cr a a (fR l k) a a a a (Av a a a a a a (λm=>RG m a a m a m a m) (Pd l k) (λm=>NJ m l (Sz l m k) (DU l m) (DU k m) (DW l m) (DW k m) (DX l m) (DX k m))))) (Ct l a) (FO a l) (FO a k) (ND l) (Tj a l)))) (fI (λl=>Es (Ct l a) (FO a l) (FO a k) (jF l a (jB l)) (VU (λm=>NL (Td m l (Cr a a (jD m (BI l)) a a a a (Av a a a a a a (λn=>RG n a a n a n a n) (Pd m l) (λn=>NJ n m (Sz m n l) (DU m n) (DU l n) (DW m n) (DW l n) (DX m n) (DX l n))))) (BI m) (IW a) (Ly m a m) (FO a m) (FO a k)))))) (FG (AN (aQ a) (PT k)) (AP (PT k)) (PT k) (LP (λl=>FH l (aQ a) (XE (YI a) l (ND k) (AP l)) (EU (YI a) l) (DU k (AP l)) (EQ (YI a) l) (DW k (AP l)) (EP (YI a) l) (DX k (AP l))) (MS a) (vB a) (MR a) (Ny a) EO (MQ a) (MV a) (Qq a))))))))))) (And (Rp (EX (EX (CN (Ju a)) (λi=>EF i (sV a) (Ju a))) (λi=>SI (SS (sV a) (TH (kQ a))) (CG (λj=>AG (zZ (PD i) (MY a) (oO a) (KS (AE (λk=>TL k (MY a) (QR a k) (NQ (kQ a) k) (TQ a k) (WI (kQ a) k))) (AN (MY a) (oO a)) (BC (MY a) (oO a)) (Tk (BD j) a (λk=>IZ k a) a (Zq (SY a) (Mn a) (Kq a) (λk=>dQ a k) (CI (sB a) (Ju a)) (λk=>EF k (sB a) (Ju a)) AM CK)))) (Lu j a) (Ms a j))) (λj=>MU (vO j a (Ms a j)) j (MY a) (AI (Yx j a) (WS (QR a j)) (AR i) (Pg a (LL (SJ a j)) (Hb (SJ a j)) (GZ (SJ a j)) (Fw (SJ a j)) (LU (SJ a j))) (EZ (Ph a (SJ a j)) (Fl (Jc UQ GV 1 32) (ZO (λk=>AI (Er a (qJ k) i k j (QR a j) (TQ a j) (So a k (λl=>WJ l k (sL k l (SJ a j)) (DG k l) (SJ a j) (BR k l) (GZ (SJ a j)) (BS k l) (JJ (SJ a j))))) (jO k a) (Lu (IF k) a) (fU (aZ a (Cy k)) a j) (mP (rK k) (lM a k)))) (cP (λk=>Al (PE k a k a k j a k) (BM k) a a (Cg (DZ a k) (FJ a k) (GD a k) a (BM k)) (Bn i (Cc a (DZ a k) a (DN k) (GD a k) a (BM k) (KM (DZ a k) (GD a k) (FJ a k) (Be a k))) (Ck a (DZ a k) (FJ a k) (GD a k) a (BM k)) UQ GV 1 32 (λl=>Wx (Er a (dM l k) i l (DN k) (DZ a k) (FJ a k) (So a l (λm=>TV m l (XG l m (DZ a k)) (DG l m) (FJ a k) (BR l m) (GD a k) (BS l m) (Be a k)))) l a j (BM k)) (VZ (λl=>Bo (Bb a a a l k i a (WK (λm=>VB m a) a (SB l k) (Ao a l a k) (Au a l a k) a (λm=>IZ m a) a a)) (PE l a l a l j a l) a l k))) (VZ (λl=>Bo (Bb a a a l k i a (WK (λm=>VB m a) a (SB l k) (Ao a l a k) (Au a l a k) a (λm=>IZ m a) a a)) (PE l a l a l j a l) a l k)) (CG (λl=>Cp (bP i a (Xk a (Tk (Tp l k) a (λm=>IZ m a) a (Yl a)))) l a (Ms a l) a j)))) (uE (λk=>Al (Yi k a k a j) (IF k) a a (Cg (EI a k) (OT a k) (GE a k) a (IF k)) (Bn i (Cc a (EI a k) a (Cy k) (GE a k) a (IF k) (KM (EI a k) (GE a k) (OT a k) (Cb a k))) (Ck a (EI a k) (OT a k) (GE a k) a (IF k)) (cC k) JE (Ag k) (fS k) (λl=>Ip (OW a (OU l k) i l k (EI a k) a k (Gx a l (Ag k) (λm=>TV m l (XG l m (JM m k (fY k m) (EI a k))) (DG l m) (JM m k (Am k m) (OT a k)) (BR l m) (JM m k (BR k m) (GE a k)) (BS l m) (JM m k (BS k m) (Cb a k))))) l a j k) (ZO (λl=>Ip (OW a (OU l k) i l k (EI a k) a k (Bc a l k (λm=>WJ m l (Cd l m k m) (DG l m) (DG k m) (BR l m) (BR k m) (BS l m) (BS k m)))) l a j k))) (ZO (λl=>Ip (OW a (OU l k) i l k (EI a k) a k (Bc a l k (λm=>WJ m l (Cd l m k m) (DG l m) (DG k m) (BR l m) (BR k m) (BS l m) (BS k m)))) l a j k)) (VU (λl=>Cp (Zz i a (Mf a a (eJ l k) (Dv a) (Yf a (Yr a (PT l) (Pz k) (λm=>NJ m l (To l m (DG k m)) (DU l m) (Am k m) (DW l m) (BR k m) (DX l m) (BS k m)))))) (BI l) a (Tf l a l) a j))))) (Qo (VZ (λk=>AI (P5 a a a (BD (BM k)) i a (WK (λl=>VB l a) a (oM k j) (T1 a k (QR a j)) (T6 a k (TQ a j)) a (λl=>IZ l a) a a)) (T5 k a) (Lu (BM k) a) (fU (aZ a (DN k)) a j) (Qh (Q5 a k)))) (cP (λk=>Al (PE k a k a k j a k) (BM k) a a (Cg (DZ a k) (FJ a k) (GD a k) a (BM k)) (Bn i (Cc a (DZ a k) a (DN k) (GD a k) a (BM k) (KM (DZ a k) (GD a k) (FJ a k) (Be a k))) (Ck a (DZ a k) (FJ a k) (GD a k) a (BM k)) UQ GV 1 32 (λl=>Wx (Er a (dM l k) i l (DN k) (DZ a k) (FJ a k) (So a l (λm=>TV m l (XG l m (DZ a k)) (DG l m) (FJ a k) (BR l m) (GD a k) (BS l m) (Be a k)))) l a j (BM k)) (VZ (λl=>Bo (Bb a a a l k i a (WK (λm=>VB m a) a (SB l k) (Ao a l a k) (Au a l a k) a (λm=>IZ m a) a a)) (PE l a l a l j a l) a l k))) (VZ (λl=>Bo (Bb a a a l k i a (WK (λm=>VB m a) a (SB l k) (Ao a l a k) (Au a l a k) a (λm=>IZ m a) a a)) (PE l a l a l j a l) a l k)) (CG (λl=>Cp (bP i a (Xk a (Tk (Tp l k) a (λm=>IZ m a) a (Yl a)))) l a (Ms a l) a j)))) (uE (λk=>Al (Yi k a k a j) (IF k) a a (Cg (EI a k) (OT a k) (GE a k) a (IF k)) (Bn i (Cc a (EI a k) a (Cy k) (GE a k) a (IF k) (KM (EI a k) (GE a k) (OT a k) (Cb a k))) (Ck a (EI a k) (OT a k) (GE a k) a (IF k)) (cC k) JE (Ag k) (fS k) (λl=>Ip (OW a (OU l k) i l k (EI a k) a k (Gx a l (Ag k) (λm=>TV m l (XG l m (JM m k (fY k m) (EI a k))) (DG l m) (JM m k (Am k m) (OT a k)) (BR l m) (JM m k (BR k m) (GE a k)) (BS l m) (JM m k (BS k m) (Cb a k))))) l a j k) (ZO (λl=>Ip (OW a (OU l k) i l k (EI a k) a k (Bc a l k (λm=>WJ m l (Cd l m k m) (DG l m) (DG k m) (BR l m) (BR k m) (BS l m) (BS k m)))) l a j k))) (ZO (λl=>Ip (OW a (OU l k) i l k (EI a k) a k (Bc a l k (λm=>WJ m l (Cd l m k m) (DG l m) (DG k m) (BR l m) (BR k m) (BS l m) (BS k m)))) l a j k)) (VU (λl=>Cp (Zz i a (Mf a a (eJ l k) (Dv a) (Yf a (Yr a (PT l) (Pz k) (λm=>NJ m l (To l m (DG k m)) (DU l m) (Am k m) (DW l m) (BR k m) (DX l m) (BS k m)))))) (BI l) a (Tf l a l) a j))))))) (NM (And (pQ a) (RL (Gf a) (Dv a) (λk=>IZ k a) (iS a) (EG (SY a)) (Mn a) (Kq a) (Fl (DJ (λk=>dQ a k)) (Zt a) (Gu a) (NT (OL a))))))) (fI (λj=>MU (vO (BI j) a (Tf j a j)) (BI j) (MY a) (AI (Yx (BI j) a) (WS (QR a (BI j))) (AR i) (Pg a (LL (TX a j)) (Hb (TX a j)) (GZ (TX a j)) (Fw (TX a j)) (LU (TX a j))) (EZ (Ph a (TX a j)) (Fl (Jc (qM j) JE (Yb j) (oV j)) (ZO (λk=>AI (Er a (qJ k) i k (BI j) (QR a (BI j)) (TQ a (BI j)) (Gx a k (Yb j) (λl=>TV l k (XG k l (PG l j (XU (ND j) l) (LL (TX a j)))) (DG k l) (PG l j (DU j l) (HV (TX a j))) (BR k l) (PG l j (DW j l) (GZ (TX a j))) (BS k l) (PG l j (DX j l) (JJ (TX a j)))))) (jO k a) (Lu (IF k) a) (fU (aZ a (Cy k)) a (BI j)) (mP (rK k) (lM a k)))) (cP (λk=>Al (PE k a k a k (BI j) a k) (BM k) a a (Cg (DZ a k) (FJ a k) (GD a k) a (BM k)) (Bn i (Cc a (DZ a k) a (DN k) (GD a k) a (BM k) (KM (DZ a k) (GD a k) (FJ a k) (Be a k))) (Ck a (DZ a k) (FJ a k) (GD a k) a (BM k)) UQ GV 1 32 (λl=>Wx (Er a (dM l k) i l (DN k) (DZ a k) (FJ a k) (So a l (λm=>TV m l (XG l m (DZ a k)) (DG l m) (FJ a k) (BR l m) (GD a k) (BS l m) (Be a k)))) l a (BI j) (BM k)) (VZ (λl=>Bo (Bb a a a l k i a (WK (λm=>VB m a) a (SB l k) (Ao a l a k) (Au a l a k) a (λm=>IZ m a) a a)) (PE l a l a l (BI j) a l) a l k))) (VZ (λl=>Bo (Bb a a a l k i a (WK (λm=>VB m a) a (SB l k) (Ao a l a k) (Au a l a k) a (λm=>IZ m a) a a)) (PE l a l a l (BI j) a l) a l k)) (CG (λl=>Cp (bP i a (Xk a (Tk (Tp l k) a (λm=>IZ m a) a (Yl a)))) l a (Ms a l) a (BI j))))) (uE (λk=>Al (Yi k a k a (BI j)) (IF k) a a (Cg (EI a k) (OT a k) (GE a k) a (IF k)) (Bn i (Cc a (EI a k) a (Cy k) (GE a k) a (IF k) (KM (EI a k) (GE a k) (OT a k) (Cb a k))) (Ck a (EI a k) (OT a k) (GE a k) a (IF k)) (cC k) JE (Ag k) (fS k) (λl=>Lr (OW a (OU l k) i l k (EI a k) a k (Gx a l (Ag k) (λm=>TV m l (XG l m (JM m k (fY k m) (EI a k))) (DG l m) (JM m k (Am k m) (OT a k)) (BR l m) (JM m k (BR k m) (GE a k)) (BS l m) (JM m k (BS k m) (Cb a k))))) l a j k) (ZO (λl=>Lr (OW a (OU l k) i l k (EI a k) a k (Bc a l k (λm=>WJ m l (Cd l m k m) (DG l m) (DG k m) (BR l m) (BR k m) (BS l m) (BS k m)))) l a j k))) (ZO (λl=>Lr (OW a (OU l k) i l k (EI a k) a k (Bc a l k (λm=>WJ m l (Cd l m k m) (DG l m) (DG k m) (BR l m) (BR k m) (BS l m) (BS k m)))) l a j k)) (VU (λl=>Cp (Zz i a (Mf a a (eJ l k) (Dv a) (Yf a (Yr a (PT l) (Pz k) (λm=>NJ m l (To l m (DG k m)) (DU l m) (Am k m) (DW l m) (BR k m) (DX l m) (BS k m)))))) (BI l) a (Tf l a l) a (BI j)))))) (Qo (ZO (λk=>AI (Er a (qJ k) i k (BI j) (QR a (BI j)) (TQ a (BI j)) (Gx a k (PT j) (λl=>TV l k (sL k l (LH (ND j) l)) (DG k l) (DU j l) (BR k l) (DW j l) (BS k l) (DX j l)))) (jO k a) (Lu (IF k) a) (fU (aZ a (Cy k)) a (BI j)) (mP (rK k) (lM a k)))) (cP (λk=>Al (PE k a k a k (BI j) a k) (BM k) a a (Cg (DZ a k) (FJ a k) (GD a k) a (BM k)) (Bn i (Cc a (DZ a k) a (DN k) (GD a k) a (BM k) (KM (DZ a k) (GD a k) (FJ a k) (Be a k))) (Ck a (DZ a k) (FJ a k) (GD a k) a (BM k)) UQ GV 1 32 (λl=>Wx (Er a (dM l k) i l (DN k) (DZ a k) (FJ a k) (So a l (λm=>TV m l (XG l m (DZ a k)) (DG l m) (FJ a k) (BR l m) (GD a k) (BS l m) (Be a k)))) l a (BI j) (BM k)) (VZ (λl=>Bo (Bb a a a l k i a (WK (λm=>VB m a) a (SB l k) (Ao a l a k) (Au a l a k) a (λm=>IZ m a) a a)) (PE l a l a l (BI j) a l) a l k))) (VZ (λl=>Bo (Bb a a a l k i a (WK (λm=>VB m a) a (SB l k) (Ao a l a k) (Au a l a k) a (λm=>IZ m a) a a)) (PE l a l a l (BI j) a l) a l k)) (CG (λl=>Cp (bP i a (Xk a (Tk (Tp l k) a (λm=>IZ m a) a (Yl a)))) l a (Ms a l) a (BI j))))) (uE (λk=>Al (Yi k a k a (BI j)) (IF k) a a (Cg (EI a k) (OT a k) (GE a k) a (IF k)) (Bn i (Cc a (EI a k) a (Cy k) (GE a k) a (IF k) (KM (EI a k) (GE a k) (OT a k) (Cb a k))) (Ck a (EI a k) (OT a k) (GE a k) a (IF k)) (cC k) JE (Ag k) (fS k) (λl=>Lr (OW a (OU l k) i l k (EI a k) a k (Gx a l (Ag k) (λm=>TV m l (XG l m (JM m k (fY k m) (EI a k))) (DG l m) (JM m k (Am k m) (OT a k)) (BR l m) (JM m k (BR k m) (GE a k)) (BS l m) (JM m k (BS k m) (Cb a k))))) l a j k) (ZO (λl=>Lr (OW a (OU l k) i l k (EI a k) a k (Bc a l k (λm=>WJ m l (Cd l m k m) (DG l m) (DG k m) (BR l m) (BR k m) (BS l m) (BS k m)))) l a j k))) (ZO (λl=>Lr (OW a (OU l k) i l k (EI a k) a k (Bc a l k (λm=>WJ m l (Cd l m k m) (DG l m) (DG k m) (BR l m) (BR k m) (BS l m) (BS k m)))) l a j k)) (VU (λl=>Cp (Zz i a (Mf a a (eJ l k) (Dv a) (Yf a (Yr a (PT l) (Pz k) (λm=>NJ m l (To l m (DG k m)) (DU l m) (Am k m) (DW l m) (BR k m) (DX l m) (BS k m)))))) (BI l) a (Tf l a l) a (BI j)))))))) (NM (CM (pQ a) (UI a) (AI (Dv a) (AE (λk=>IZ k a)) (iS a) (EG (SY a)) (JQ EO (Mn a) (Kq a) (DJ (λk=>dQ a k)) (Zt a) (Gu a) (AN (OL a) (PT j)) (Ou (PT j)) (λk=>FH k (OL a) (XE (Ka a) k (ND j) (AP k)) (jV a k) (DU j (AP k)) (jI a k) (DW j (AP k)) (jM a k) (DX j (AP k))))))))))) (Ma FT (NM (FQ (Gf a) (OP (ZW a) (PQ a)) (λi=>KV i (ZW a) (KA (aX a i)) (cK a i) (LV (aX a i)) (cJ a i) (JY (aX a i)) (eL a i)) (BK (WC a) (SY a)) (oD (λi=>IA i (WC a) (SY a)) (DJ (λi=>Ig (ZW a) i (QD (Df (PQ a)) (Ra a) i))) (DJ (λi=>eD (ZW a) i (tY (Df (PQ a)) (Qa (PQ a)) (Ra a) i))) (λi=>Jt (Tn a i) (hJ (Sp i a) (OL a) (Wn a i)) (λj=>Ve j (Tn a i) (UG (Na a i j) (HR (Sp i a) (XU (Ka a) j) (LL (ZX a i j)))) (Na a i j) (HR (Sp i a) (jV a j) (HV (ZX a i j))) (GZ (Na a i j)) (HR (Sp i a) (jI a j) (Ye a i j)) (JJ (Na a i j)) (HR (Sp i a) (jM a j) (Xx a i j)))) (Zt a) (λi=>zT i a) (AR (OL a)) (YB (OL a) (Ka a))))))) (ZV (λi=>HH FT (BY (TR (QB (sB a))) (fA (OL a))) (Mc a) (RL (Mc a) (MS a) (λj=>QC j a) (MR a) (Ny a) (MQ a) (MV a) (Qq a)) (AQ (Br (WS (UI a)) (UI a) (HI (UI a))) (QL (tA a) (wJ a) (TH (Kk a))) (CG (λj=>And (PF AM (bZ a j) (MY a) (bV a) (Cl (λk=>TL k (MY a) (QR a k) (NQ (Kk a) k) (TQ a k) (WI (Kk a) k)) (BC (MY a) (bV a)) (BD j) (MS a) (Yd (λk=>QC k a) (MR a) (WC a) EO (MQ a) (MV a) (λk=>XV a k) a (Ib (Gu a) (AR (OL a)) (YB (OL a) (Ka a)) (Gf a) AL fC (bZ a j) (AE (λk=>FH k (SC a j) (XN (Fp a j) k (HG k (LL (Ai a)) (LL (Bj a)))) (Bw a j k) (HG k (HV (Ai a)) (HV (Bj a))) (Ax a j k) (HG k (GZ (Ai a)) (GZ (Bj a))) (Ay a j k) (HG k (JJ (Ai a)) (JJ (Bj a))))))))) (Ls j a))) (AE (λj=>MU (Ls j a) j (MY a) (AG (Yx j a) (KX (Zp (SC a j)) (Eh 2 4) (bR 2) (Cn a j) 9223372036854775807 (LO (Cw (Cn a j) 32))) (CG (λk=>jK (SP (Yh a k (Cn a j)) (mJ a) (Mf a a (AU k j) (MS a) (Yd (λl=>QC l a) (MR a) (WC a) EO (MQ a) (MV a) (λl=>XV a l) a (Ib (Gu a) (AR (OL a)) (YB (OL a) (Ka a)) (Gf a) AL fC (Yh a k (Cn a j)) (AE (λl=>FH l (SC a k) (XN (Fp a k) l (Bi l a j (XU (Fp a j) l) l a j (UI a) (QR a j))) (Bw a k l) (Bi l a j (Bw a j l) l a j 0 (TQ a j)) (Ax a k l) (Bi l a j (Ax a j l) l a j (QR a j) (UI a)) (Ay a k l) (Bi l a j (Ay a j l) l a j (TQ a j) 200000))))))) (Ls k a) a k j))) (AG (AQ (AN (Np a) (OL a)) (AE (λk=>FH k (Np a) (NS (Aj a) k (Ka a)) (EU (Aj a) k) (jV a k) (EQ (Aj a) k) (jI a k) (EP (Aj a) k) (jM a k))) (HW (Np a)) (Ar (Np a))) (VU (λk=>FG (Yk (Uj k (Np a)) (O9 (gF a a j) (BC (IW a) (SC a j)) (BD (BI k)) a a a a EO (Y4 a a a a a (gF a a j) (λl=>FH l (IW a) (Ut (kO a l) (Fp a j) l) (Qz a l) (Bw a j l) (Lb a l) (Ax a j l) (Lm a l) (Ay a j l)) (Uj k (Np a)) (λl=>NJ l k (R8 k l (Aj a)) (DU k l) (EU (Aj a) l) (DW k l) (EQ (Aj a) l) (DX k l) (EP (Aj a) l))))) (BI k) (IW a) (Ly k a k))) (fI (λk=>MU (CJ (BI k) (IW a) (Ly k a k)) (BI k) (IW a) (Rp (kS (Mq (BI k) (IW a) (dU k)) (FW (fQ a k) (Pg a (fZ a k) (AJ (Lf a k)) (Ku a k) (AJ (Le a k)) (PK (Sr a k) (Ku a k) (Lf a k) (Le a k)))) (BY (fQ a k) (Ph a (Sr a k))) (qM k) JE (Yb k) (oV k) (VU (λl=>Jq (Yk (dO l k) (Cr a a (fR l k) a a a a (Av a a a a a a (λm=>RG m a a m a m a m) (dO l k) (λm=>NJ m l (XN (ND l) m (PG m k (XU (ND k) m) (fZ a k))) (DU l m) (PG m k (DU k m) (Lf a k)) (DW l m) (PG m k (DW k m) (Ku a k)) (DX l m) (PG m k (DX k m) (Le a k)))))) (Ct l a) (FO a l) (FO a k) (ND l) (Tj a l))) (VU (λl=>Jq (Td l k (Cr a a (fR l k) a a a a (Av a a a a a a (λm=>RG m a a m a m a m) (Pd l k) (λm=>NJ m l (Sz l m k) (DU l m) (DU k m) (DW l m) (DW k m) (DX l m) (DX k m))))) (Ct l a) (FO a l) (FO a k) (ND l) (Tj a l)))) (fI (λl=>Es (Ct l a) (FO a l) (FO a k) (jF l a (jB l)) (VU (λm=>NL (Td m l (Cr a a (jD m (BI l)) a a a a (Av a a a a a a (λn=>RG n a a n a n a n) (Pd m l) (λn=>NJ n m (Sz m n l) (DU m n) (DU l n) (DW m n) (DW l n) (DX m n) (DX l n))))) (BI m) (IW a) (Ly m a m) (FO a m) (FO a k)))))) (FG (AN (aQ a) (PT k)) (AP (PT k)) (PT k) (LP (λl=>FH l (aQ a) (XE (YI a) l (ND k) (AP l)) (EU (YI a) l) (DU k (AP l)) (EQ (YI a) l) (DW k (AP l)) (EP (YI a) l) (DX k (AP l))) (MS a) (vB a) (MR a) (Ny a) EO (MQ a) (MV a) (Qq a))))))))))))):=by kernel_rfl
def BWE(a:BkS):Prop:=AX Try.prog (BSS a) I1 (AF I1) (C_lns.xs a) (AC (C_lns.L a)) (C_lns.val a) (C_lns.keep a) [] [403]
abbrev Qt a b:=Qh (zN a b)
abbrev Oo a b:=kO a (AP b)
attribute [go_sem] Qt Oo
theorem CGD(a:BkS):(BWE a)=(Lw (AG (pQ a) (Ha (Cf a) (PQ a)) (pZ (λi=>DV i (Cf a) (cK a i) (cJ a i) (eL a i)) (HJ (SY a)) (GX (SY a)) EO (Mn a) (Kq a) (λi=>Jt (RQ (PX a) i) (Wn a i) (λj=>MG j (RQ (PX a) i) (HQ (IT (PX a) i j) (ZX a i j)) (IT (PX a) i j) (ZX a i j) (GF (PX a) i j) (Ye a i j) (FY (PX a) i j) (Xx a i j))) (CI (Hh (PQ a)) (Cf a)) (pZ (λi=>KV i (PQ a) (cK a i) (DY (Cf a) i) (cJ a i) (DO (Cf a) i) (eL a i) (DI (Cf a) i)) (BK (SY a) (eY a)) (BQ (SY a) (eY a)) EO (Mn a) (Kq a) (λi=>QA (Wn a i) (PX a) i (λj=>MG j (Wn a i) (QO (ZX a i j) (PX a) i j) (ZX a i j) (IT (PX a) i j) (Ye a i j) (GF (PX a) i j) (Xx a i j) (FY (PX a) i j))) (AI (Qu (Cf a)) (TA (λi=>QV i (Cf a) i i i i)) (Me (JR (SY a))) (Ft ER (eY a)) (DJ (λi=>TO (Og i (eY a)) (Ej i) (HI i)))) FT))) EO (Df (PQ a) (Ra a)) (NM (FQ (Gf a) (OP (ZW a) (PQ a)) (λi=>KV i (ZW a) (KA (aX a i)) (cK a i) (LV (aX a i)) (cJ a i) (JY (aX a i)) (eL a i)) (BK (WC a) (SY a)) (oD (λi=>IA i (WC a) (SY a)) (DJ (λi=>Ig (ZW a) i (Df (PQ a) i))) (DJ (λi=>YM (ZW a) i (PQ a) i)) (λi=>Jt (Tn a i) (Wn a i) (λj=>MG j (Tn a i) (HQ (Na a i j) (ZX a i j)) (Na a i j) (ZX a i j) (GZ (Na a i j)) (Ye a i j) (JJ (Na a i j)) (Xx a i j))) (CI (sB a) (Ju a)) (λi=>EF i (sB a) (Ju a)) (AN 0 (Wn a (Ra a))) AM))) (ZV (λi=>HH FT (BY (TR (QB (sB a))) (fA 0)) (Mc a) (RL (Mc a) (MS a) (λj=>QC j a) (MR a) (Ny a) (MQ a) (MV a) (Qq a)) (AQ (Br (WS (UI a)) (UI a) (HI (UI a))) (QL (tA a) (wJ a) (TH (Kk a))) (CG (λj=>And (PF AM (bZ a j) (MY a) (bV a) (Cl (λk=>TL k (MY a) (QR a k) (NQ (Kk a) k) (TQ a k) (WI (Kk a) k)) (BC (MY a) (bV a)) (BD j) (MS a) (Yd (λk=>QC k a) (MR a) (WC a) EO (MQ a) (MV a) (λk=>XV a k) a (Ib (Gu a) AM CK (Gf a) AL fC (bZ a j) (AE (λk=>FH k (SC a j) (XN (Fp a j) k (HG k (LL (Ai a)) (LL (Bj a)))) (Bw a j k) (HG k (HV (Ai a)) (HV (Bj a))) (Ax a j k) (HG k (GZ (Ai a)) (GZ (Bj a))) (Ay a j k) (HG k (JJ (Ai a)) (JJ (Bj a))))))))) (Ls j a))) (AE (λj=>MU (Ls j a) j (MY a) (AG (Yx j a) (KX (Zp (SC a j)) (Eh 2 4) (bR 2) (Cn a j) 9223372036854775807 (LO (Cw (Cn a j) 32))) (CG (λk=>jK (SP (Yh a k (Cn a j)) (mJ a) (Mf a a (AU k j) (MS a) (Yd (λl=>QC l a) (MR a) (WC a) EO (MQ a) (MV a) (λl=>XV a l) a (Ib (Gu a) AM CK (Gf a) AL fC (Yh a k (Cn a j)) (AE (λl=>FH l (SC a k) (XN (Fp a k) l (Bi l a j (XU (Fp a j) l) l a j (UI a) (QR a j))) (Bw a k l) (Bi l a j (Bw a j l) l a j 0 (TQ a j)) (Ax a k l) (Bi l a j (Ax a j l) l a j (QR a j) (UI a)) (Ay a k l) (Bi l a j (Ay a j l) l a j (TQ a j) 200000))))))) (Ls k a) a k j))) (SI (EX AM RX) (CG (λk=>FG (LB (FA RX AM (gF a a j) (BC (IW a) (SC a j)) (BD k) (MS a) (λl=>QC l a) (MR a) (Zy (WC a) (MQ a) (MV a) (λl=>XV a l) a (gF a a j) (AE (λl=>FH l (IW a) (Ut (kO a l) (Fp a j) l) (Qz a l) (Bw a j l) (Lb a l) (Ax a j l) (Lm a l) (Ay a j l)))))) k (IW a) (Qt a k))) (λk=>HF (CJ k (IW a) (Qt a k)) k (IW a) (kS (Mq k (IW a) (AP k)) (FW (Ww (Oo a k)) (Pg a (LL (Oo a k)) (AJ (Qz a (AP k))) (Lb a (AP k)) (AJ (Lm a (AP k))) (PK (Oo a k) (Lb a (AP k)) (Qz a (AP k)) (Lm a (AP k))))) (BY (Ww (Oo a k)) (Ph a (Oo a k))) UQ GV 1 32 (VU (λl=>Jq (Yk (Uj l 1) (Cr a a (O4 l k) a a a a (Av a a a a a a (λm=>RG m a a m a m a m) (Uj l 1) (λm=>NJ m l (To l m (Oo a k)) (DU l m) (Qz a (AP k)) (DW l m) (Lb a (AP k)) (DX l m) (Lm a (AP k)))))) (Ct l a) (FO a l) (QJ a k) (ND l) (Tj a l))) (CG (λl=>Jq (LB (FA RX AM (Hi a) (kM a) (BC l k) (MS a) (λm=>QC m a) (MR a) (Zy (WC a) (MQ a) (MV a) (λm=>XV a m) a (Hi a) (AE (λm=>RG m a a m a m a m))))) (kG l a) (QJ a l) (QJ a k) (zN a (CL l)) AAC))) (Xu (λl=>Es (kG l a) (QJ a l) (QJ a k) (Qt a (CL l)) (CG (λm=>NL (LB (FA RX AM (Hi a) (kM a) (AU m l) (MS a) (λn=>QC n a) (MR a) (Zy (WC a) (MQ a) (MV a) (λn=>XV a n) a (Hi a) (AE (λn=>RG n a a n a n a n))))) m (IW a) (Qt a m) (QJ a m) (QJ a k)))) (fI (λl=>Es (Ct l a) (FO a l) (QJ a k) (jF l a (jB l)) (VU (λm=>NL (Td m l (Cr a a (jD m (BI l)) a a a a (Av a a a a a a (λn=>RG n a a n a n a n) (Pd m l) (λn=>NJ n m (Sz m n l) (DU m n) (DU l n) (DW m n) (DW l n) (DX m n) (DX l n))))) (BI m) (IW a) (Ly m a m) (FO a m) (QJ a k)))))) (And (Mc a) (RL (Mc a) (MS a) (λl=>QC l a) (MR a) (Ny a) (MQ a) (MV a) (Qq a)))) (fI (λk=>HF (CJ (BI k) (IW a) (Ly k a k)) (BI k) (IW a) (kS (Mq (BI k) (IW a) (dU k)) (FW (fQ a k) (Pg a (fZ a k) (AJ (Lf a k)) (Ku a k) (AJ (Le a k)) (PK (Sr a k) (Ku a k) (Lf a k) (Le a k)))) (BY (fQ a k) (Ph a (Sr a k))) (qM k) JE (Yb k) (oV k) (VU (λl=>Jq (Yk (dO l k) (Cr a a (fR l k) a a a a (Av a a a a a a (λm=>RG m a a m a m a m) (dO l k) (λm=>NJ m l (XN (ND l) m (PG m k (XU (ND k) m) (fZ a k))) (DU l m) (PG m k (DU k m) (Lf a k)) (DW l m) (PG m k (DW k m) (Ku a k)) (DX l m) (PG m k (DX k m) (Le a k)))))) (Ct l a) (FO a l) (FO a k) (ND l) (Tj a l))) (VU (λl=>Jq (Td l k (Cr a a (fR l k) a a a a (Av a a a a a a (λm=>RG m a a m a m a m) (Pd l k) (λm=>NJ m l (Sz l m k) (DU l m) (DU k m) (DW l m) (DW k m) (DX l m) (DX k m))))) (Ct l a) (FO a l) (FO a k) (ND l) (Tj a l)))) (Xu (λl=>Es (kG l a) (QJ a l) (FO a k) (Qt a (CL l)) (CG (λm=>NL (LB (FA RX AM (Hi a) (kM a) (AU m l) (MS a) (λn=>QC n a) (MR a) (Zy (WC a) (MQ a) (MV a) (λn=>XV a n) a (Hi a) (AE (λn=>RG n a a n a n a n))))) m (IW a) (Qt a m) (QJ a m) (FO a k)))) (fI (λl=>Es (Ct l a) (FO a l) (FO a k) (jF l a (jB l)) (VU (λm=>NL (Td m l (Cr a a (jD m (BI l)) a a a a (Av a a a a a a (λn=>RG n a a n a n a n) (Pd m l) (λn=>NJ n m (Sz m n l) (DU m n) (DU l n) (DW m n) (DW l n) (DX m n) (DX l n))))) (BI m) (IW a) (Ly m a m) (FO a m) (FO a k)))))) (FG (AN (aQ a) (PT k)) (AP (PT k)) (PT k) (LP (λl=>FH l (aQ a) (XE (YI a) l (ND k) (AP l)) (EU (YI a) l) (DU k (AP l)) (EQ (YI a) l) (DW k (AP l)) (EP (YI a) l) (DX k (AP l))) (MS a) (vB a) (MR a) (Ny a) EO (MQ a) (MV a) (Qq a))))))))))) (And (Rp (EX (EX (CN (Ju a)) (λi=>EF i (sV a) (Ju a))) (λi=>SI (SS (sV a) (TH (kQ a))) (CG (λj=>AG (zZ (PD i) (MY a) (oO a) (KS (AE (λk=>TL k (MY a) (QR a k) (NQ (kQ a) k) (TQ a k) (WI (kQ a) k))) (AN (MY a) (oO a)) (BC (MY a) (oO a)) (Tk (BD j) a (λk=>IZ k a) a (Zq (SY a) (Mn a) (Kq a) (λk=>dQ a k) (CI (sB a) (Ju a)) (λk=>EF k (sB a) (Ju a)) AM CK)))) (Lu j a) (Ms a j))) (λj=>MU (vO j a (Ms a j)) j (MY a) (AI (Yx j a) (WS (QR a j)) (AR i) (Pg a (LL (SJ a j)) (Hb (SJ a j)) (GZ (SJ a j)) (Fw (SJ a j)) (LU (SJ a j))) (EZ (Ph a (SJ a j)) (Fl (Jc UQ GV 1 32) (ZO (λk=>AI (Er a (qJ k) i k j (QR a j) (TQ a j) (So a k (λl=>WJ l k (sL k l (SJ a j)) (DG k l) (SJ a j) (BR k l) (GZ (SJ a j)) (BS k l) (JJ (SJ a j))))) (jO k a) (Lu (IF k) a) (fU (aZ a (Cy k)) a j) (mP (rK k) (lM a k)))) (cP (λk=>Al (PE k a k a k j a k) (BM k) a a (Cg (DZ a k) (FJ a k) (GD a k) a (BM k)) (Bn i (Cc a (DZ a k) a (DN k) (GD a k) a (BM k) (KM (DZ a k) (GD a k) (FJ a k) (Be a k))) (Ck a (DZ a k) (FJ a k) (GD a k) a (BM k)) UQ GV 1 32 (λl=>Wx (Er a (dM l k) i l (DN k) (DZ a k) (FJ a k) (So a l (λm=>TV m l (XG l m (DZ a k)) (DG l m) (FJ a k) (BR l m) (GD a k) (BS l m) (Be a k)))) l a j (BM k)) (VZ (λl=>Bo (Bb a a a l k i a (WK (λm=>VB m a) a (SB l k) (Ao a l a k) (Au a l a k) a (λm=>IZ m a) a a)) (PE l a l a l j a l) a l k))) (VZ (λl=>Bo (Bb a a a l k i a (WK (λm=>VB m a) a (SB l k) (Ao a l a k) (Au a l a k) a (λm=>IZ m a) a a)) (PE l a l a l j a l) a l k)) (CG (λl=>Cp (bP i a (Xk a (Tk (Tp l k) a (λm=>IZ m a) a (Yl a)))) l a (Ms a l) a j)))) (uE (λk=>Al (Yi k a k a j) (IF k) a a (Cg (EI a k) (OT a k) (GE a k) a (IF k)) (Bn i (Cc a (EI a k) a (Cy k) (GE a k) a (IF k) (KM (EI a k) (GE a k) (OT a k) (Cb a k))) (Ck a (EI a k) (OT a k) (GE a k) a (IF k)) (cC k) JE (Ag k) (fS k) (λl=>Ip (OW a (OU l k) i l k (EI a k) a k (Gx a l (Ag k) (λm=>TV m l (XG l m (JM m k (fY k m) (EI a k))) (DG l m) (JM m k (Am k m) (OT a k)) (BR l m) (JM m k (BR k m) (GE a k)) (BS l m) (JM m k (BS k m) (Cb a k))))) l a j k) (ZO (λl=>Ip (OW a (OU l k) i l k (EI a k) a k (Bc a l k (λm=>WJ m l (Cd l m k m) (DG l m) (DG k m) (BR l m) (BR k m) (BS l m) (BS k m)))) l a j k))) (ZO (λl=>Ip (OW a (OU l k) i l k (EI a k) a k (Bc a l k (λm=>WJ m l (Cd l m k m) (DG l m) (DG k m) (BR l m) (BR k m) (BS l m) (BS k m)))) l a j k)) (VU (λl=>Cp (Zz i a (Mf a a (eJ l k) (Dv a) (Yf a (Yr a (PT l) (Pz k) (λm=>NJ m l (To l m (DG k m)) (DU l m) (Am k m) (DW l m) (BR k m) (DX l m) (BS k m)))))) (BI l) a (Tf l a l) a j))))) (Qo (VZ (λk=>AI (P5 a a a (BD (BM k)) i a (WK (λl=>VB l a) a (oM k j) (T1 a k (QR a j)) (T6 a k (TQ a j)) a (λl=>IZ l a) a a)) (T5 k a) (Lu (BM k) a) (fU (aZ a (DN k)) a j) (Qh (Q5 a k)))) (cP (λk=>Al (PE k a k a k j a k) (BM k) a a (Cg (DZ a k) (FJ a k) (GD a k) a (BM k)) (Bn i (Cc a (DZ a k) a (DN k) (GD a k) a (BM k) (KM (DZ a k) (GD a k) (FJ a k) (Be a k))) (Ck a (DZ a k) (FJ a k) (GD a k) a (BM k)) UQ GV 1 32 (λl=>Wx (Er a (dM l k) i l (DN k) (DZ a k) (FJ a k) (So a l (λm=>TV m l (XG l m (DZ a k)) (DG l m) (FJ a k) (BR l m) (GD a k) (BS l m) (Be a k)))) l a j (BM k)) (VZ (λl=>Bo (Bb a a a l k i a (WK (λm=>VB m a) a (SB l k) (Ao a l a k) (Au a l a k) a (λm=>IZ m a) a a)) (PE l a l a l j a l) a l k))) (VZ (λl=>Bo (Bb a a a l k i a (WK (λm=>VB m a) a (SB l k) (Ao a l a k) (Au a l a k) a (λm=>IZ m a) a a)) (PE l a l a l j a l) a l k)) (CG (λl=>Cp (bP i a (Xk a (Tk (Tp l k) a (λm=>IZ m a) a (Yl a)))) l a (Ms a l) a j)))) (uE (λk=>Al (Yi k a k a j) (IF k) a a (Cg (EI a k) (OT a k) (GE a k) a (IF k)) (Bn i (Cc a (EI a k) a (Cy k) (GE a k) a (IF k) (KM (EI a k) (GE a k) (OT a k) (Cb a k))) (Ck a (EI a k) (OT a k) (GE a k) a (IF k)) (cC k) JE (Ag k) (fS k) (λl=>Ip (OW a (OU l k) i l k (EI a k) a k (Gx a l (Ag k) (λm=>TV m l (XG l m (JM m k (fY k m) (EI a k))) (DG l m) (JM m k (Am k m) (OT a k)) (BR l m) (JM m k (BR k m) (GE a k)) (BS l m) (JM m k (BS k m) (Cb a k))))) l a j k) (ZO (λl=>Ip (OW a (OU l k) i l k (EI a k) a k (Bc a l k (λm=>WJ m l (Cd l m k m) (DG l m) (DG k m) (BR l m) (BR k m) (BS l m) (BS k m)))) l a j k))) (ZO (λl=>Ip (OW a (OU l k) i l k (EI a k) a k (Bc a l k (λm=>WJ m l (Cd l m k m) (DG l m) (DG k m) (BR l m) (BR k m) (BS l m) (BS k m)))) l a j k)) (VU (λl=>Cp (Zz i a (Mf a a (eJ l k) (Dv a) (Yf a (Yr a (PT l) (Pz k) (λm=>NJ m l (To l m (DG k m)) (DU l m) (Am k m) (DW l m) (BR k m) (DX l m) (BS k m)))))) (BI l) a (Tf l a l) a j))))))) (NM (And (pQ a) (RL (Gf a) (Dv a) (λk=>IZ k a) (iS a) (EG (SY a)) (Mn a) (Kq a) (Fl (DJ (λk=>dQ a k)) (Zt a) (Gu a) (NT (OL a))))))) (fI (λj=>MU (vO (BI j) a (Tf j a j)) (BI j) (MY a) (AI (Yx (BI j) a) (WS (QR a (BI j))) (AR i) (Pg a (LL (TX a j)) (Hb (TX a j)) (GZ (TX a j)) (Fw (TX a j)) (LU (TX a j))) (EZ (Ph a (TX a j)) (Fl (Jc (qM j) JE (Yb j) (oV j)) (ZO (λk=>AI (Er a (qJ k) i k (BI j) (QR a (BI j)) (TQ a (BI j)) (Gx a k (Yb j) (λl=>TV l k (XG k l (PG l j (XU (ND j) l) (LL (TX a j)))) (DG k l) (PG l j (DU j l) (HV (TX a j))) (BR k l) (PG l j (DW j l) (GZ (TX a j))) (BS k l) (PG l j (DX j l) (JJ (TX a j)))))) (jO k a) (Lu (IF k) a) (fU (aZ a (Cy k)) a (BI j)) (mP (rK k) (lM a k)))) (cP (λk=>Al (PE k a k a k (BI j) a k) (BM k) a a (Cg (DZ a k) (FJ a k) (GD a k) a (BM k)) (Bn i (Cc a (DZ a k) a (DN k) (GD a k) a (BM k) (KM (DZ a k) (GD a k) (FJ a k) (Be a k))) (Ck a (DZ a k) (FJ a k) (GD a k) a (BM k)) UQ GV 1 32 (λl=>Wx (Er a (dM l k) i l (DN k) (DZ a k) (FJ a k) (So a l (λm=>TV m l (XG l m (DZ a k)) (DG l m) (FJ a k) (BR l m) (GD a k) (BS l m) (Be a k)))) l a (BI j) (BM k)) (VZ (λl=>Bo (Bb a a a l k i a (WK (λm=>VB m a) a (SB l k) (Ao a l a k) (Au a l a k) a (λm=>IZ m a) a a)) (PE l a l a l (BI j) a l) a l k))) (VZ (λl=>Bo (Bb a a a l k i a (WK (λm=>VB m a) a (SB l k) (Ao a l a k) (Au a l a k) a (λm=>IZ m a) a a)) (PE l a l a l (BI j) a l) a l k)) (CG (λl=>Cp (bP i a (Xk a (Tk (Tp l k) a (λm=>IZ m a) a (Yl a)))) l a (Ms a l) a (BI j))))) (uE (λk=>Al (Yi k a k a (BI j)) (IF k) a a (Cg (EI a k) (OT a k) (GE a k) a (IF k)) (Bn i (Cc a (EI a k) a (Cy k) (GE a k) a (IF k) (KM (EI a k) (GE a k) (OT a k) (Cb a k))) (Ck a (EI a k) (OT a k) (GE a k) a (IF k)) (cC k) JE (Ag k) (fS k) (λl=>Lr (OW a (OU l k) i l k (EI a k) a k (Gx a l (Ag k) (λm=>TV m l (XG l m (JM m k (fY k m) (EI a k))) (DG l m) (JM m k (Am k m) (OT a k)) (BR l m) (JM m k (BR k m) (GE a k)) (BS l m) (JM m k (BS k m) (Cb a k))))) l a j k) (ZO (λl=>Lr (OW a (OU l k) i l k (EI a k) a k (Bc a l k (λm=>WJ m l (Cd l m k m) (DG l m) (DG k m) (BR l m) (BR k m) (BS l m) (BS k m)))) l a j k))) (ZO (λl=>Lr (OW a (OU l k) i l k (EI a k) a k (Bc a l k (λm=>WJ m l (Cd l m k m) (DG l m) (DG k m) (BR l m) (BR k m) (BS l m) (BS k m)))) l a j k)) (VU (λl=>Cp (Zz i a (Mf a a (eJ l k) (Dv a) (Yf a (Yr a (PT l) (Pz k) (λm=>NJ m l (To l m (DG k m)) (DU l m) (Am k m) (DW l m) (BR k m) (DX l m) (BS k m)))))) (BI l) a (Tf l a l) a (BI j)))))) (Qo (ZO (λk=>AI (Er a (qJ k) i k (BI j) (QR a (BI j)) (TQ a (BI j)) (Gx a k (PT j) (λl=>TV l k (sL k l (LH (ND j) l)) (DG k l) (DU j l) (BR k l) (DW j l) (BS k l) (DX j l)))) (jO k a) (Lu (IF k) a) (fU (aZ a (Cy k)) a (BI j)) (mP (rK k) (lM a k)))) (cP (λk=>Al (PE k a k a k (BI j) a k) (BM k) a a (Cg (DZ a k) (FJ a k) (GD a k) a (BM k)) (Bn i (Cc a (DZ a k) a (DN k) (GD a k) a (BM k) (KM (DZ a k) (GD a k) (FJ a k) (Be a k))) (Ck a (DZ a k) (FJ a k) (GD a k) a (BM k)) UQ GV 1 32 (λl=>Wx (Er a (dM l k) i l (DN k) (DZ a k) (FJ a k) (So a l (λm=>TV m l (XG l m (DZ a k)) (DG l m) (FJ a k) (BR l m) (GD a k) (BS l m) (Be a k)))) l a (BI j) (BM k)) (VZ (λl=>Bo (Bb a a a l k i a (WK (λm=>VB m a) a (SB l k) (Ao a l a k) (Au a l a k) a (λm=>IZ m a) a a)) (PE l a l a l (BI j) a l) a l k))) (VZ (λl=>Bo (Bb a a a l k i a (WK (λm=>VB m a) a (SB l k) (Ao a l a k) (Au a l a k) a (λm=>IZ m a) a a)) (PE l a l a l (BI j) a l) a l k)) (CG (λl=>Cp (bP i a (Xk a (Tk (Tp l k) a (λm=>IZ m a) a (Yl a)))) l a (Ms a l) a (BI j))))) (uE (λk=>Al (Yi k a k a (BI j)) (IF k) a a (Cg (EI a k) (OT a k) (GE a k) a (IF k)) (Bn i (Cc a (EI a k) a (Cy k) (GE a k) a (IF k) (KM (EI a k) (GE a k) (OT a k) (Cb a k))) (Ck a (EI a k) (OT a k) (GE a k) a (IF k)) (cC k) JE (Ag k) (fS k) (λl=>Lr (OW a (OU l k) i l k (EI a k) a k (Gx a l (Ag k) (λm=>TV m l (XG l m (JM m k (fY k m) (EI a k))) (DG l m) (JM m k (Am k m) (OT a k)) (BR l m) (JM m k (BR k m) (GE a k)) (BS l m) (JM m k (BS k m) (Cb a k))))) l a j k) (ZO (λl=>Lr (OW a (OU l k) i l k (EI a k) a k (Bc a l k (λm=>WJ m l (Cd l m k m) (DG l m) (DG k m) (BR l m) (BR k m) (BS l m) (BS k m)))) l a j k))) (ZO (λl=>Lr (OW a (OU l k) i l k (EI a k) a k (Bc a l k (λm=>WJ m l (Cd l m k m) (DG l m) (DG k m) (BR l m) (BR k m) (BS l m) (BS k m)))) l a j k)) (VU (λl=>Cp (Zz i a (Mf a a (eJ l k) (Dv a) (Yf a (Yr a (PT l) (Pz k) (λm=>NJ m l (To l m (DG k m)) (DU l m) (Am k m) (DW l m) (BR k m) (DX l m) (BS k m)))))) (BI l) a (Tf l a l) a (BI j)))))))) (NM (CM (pQ a) (UI a) (AI (Dv a) (AE (λk=>IZ k a)) (iS a) (EG (SY a)) (JQ EO (Mn a) (Kq a) (DJ (λk=>dQ a k)) (Zt a) (Gu a) (AN (OL a) (PT j)) (Ou (PT j)) (λk=>FH k (OL a) (XE (Ka a) k (ND j) (AP k)) (jV a k) (DU j (AP k)) (jI a k) (DW j (AP k)) (jM a k) (DX j (AP k))))))))))) (Ma FT (NM (FQ (Gf a) (OP (ZW a) (PQ a)) (λi=>KV i (ZW a) (KA (aX a i)) (cK a i) (LV (aX a i)) (cJ a i) (JY (aX a i)) (eL a i)) (BK (WC a) (SY a)) (oD (λi=>IA i (WC a) (SY a)) (DJ (λi=>Ig (ZW a) i (QD (Df (PQ a)) (Ra a) i))) (DJ (λi=>eD (ZW a) i (tY (Df (PQ a)) (Qa (PQ a)) (Ra a) i))) (λi=>Jt (Tn a i) (hJ (Sp i a) (OL a) (Wn a i)) (λj=>Ve j (Tn a i) (UG (Na a i j) (HR (Sp i a) (XU (Ka a) j) (LL (ZX a i j)))) (Na a i j) (HR (Sp i a) (jV a j) (HV (ZX a i j))) (GZ (Na a i j)) (HR (Sp i a) (jI a j) (Ye a i j)) (JJ (Na a i j)) (HR (Sp i a) (jM a j) (Xx a i j)))) (Zt a) (λi=>zT i a) (AN 0 (OL a)) AM))))) (ZV (λi=>HH FT (BY (TR (QB (sB a))) (fA 0)) (Mc a) (RL (Mc a) (MS a) (λj=>QC j a) (MR a) (Ny a) (MQ a) (MV a) (Qq a)) (AQ (Br (WS (UI a)) (UI a) (HI (UI a))) (QL (tA a) (wJ a) (TH (Kk a))) (CG (λj=>And (PF AM (bZ a j) (MY a) (bV a) (Cl (λk=>TL k (MY a) (QR a k) (NQ (Kk a) k) (TQ a k) (WI (Kk a) k)) (BC (MY a) (bV a)) (BD j) (MS a) (Yd (λk=>QC k a) (MR a) (WC a) EO (MQ a) (MV a) (λk=>XV a k) a (Ib (Gu a) AM CK (Gf a) AL fC (bZ a j) (AE (λk=>FH k (SC a j) (XN (Fp a j) k (HG k (LL (Ai a)) (LL (Bj a)))) (Bw a j k) (HG k (HV (Ai a)) (HV (Bj a))) (Ax a j k) (HG k (GZ (Ai a)) (GZ (Bj a))) (Ay a j k) (HG k (JJ (Ai a)) (JJ (Bj a))))))))) (Ls j a))) (AE (λj=>MU (Ls j a) j (MY a) (AG (Yx j a) (KX (Zp (SC a j)) (Eh 2 4) (bR 2) (Cn a j) 9223372036854775807 (LO (Cw (Cn a j) 32))) (CG (λk=>jK (SP (Yh a k (Cn a j)) (mJ a) (Mf a a (AU k j) (MS a) (Yd (λl=>QC l a) (MR a) (WC a) EO (MQ a) (MV a) (λl=>XV a l) a (Ib (Gu a) AM CK (Gf a) AL fC (Yh a k (Cn a j)) (AE (λl=>FH l (SC a k) (XN (Fp a k) l (Bi l a j (XU (Fp a j) l) l a j (UI a) (QR a j))) (Bw a k l) (Bi l a j (Bw a j l) l a j 0 (TQ a j)) (Ax a k l) (Bi l a j (Ax a j l) l a j (QR a j) (UI a)) (Ay a k l) (Bi l a j (Ay a j l) l a j (TQ a j) 200000))))))) (Ls k a) a k j))) (SI (EX AM RX) (CG (λk=>FG (LB (FA RX AM (gF a a j) (BC (IW a) (SC a j)) (BD k) (MS a) (λl=>QC l a) (MR a) (Zy (WC a) (MQ a) (MV a) (λl=>XV a l) a (gF a a j) (AE (λl=>FH l (IW a) (Ut (kO a l) (Fp a j) l) (Qz a l) (Bw a j l) (Lb a l) (Ax a j l) (Lm a l) (Ay a j l)))))) k (IW a) (Qt a k))) (λk=>HF (CJ k (IW a) (Qt a k)) k (IW a) (kS (Mq k (IW a) (AP k)) (FW (Ww (Oo a k)) (Pg a (LL (Oo a k)) (AJ (Qz a (AP k))) (Lb a (AP k)) (AJ (Lm a (AP k))) (PK (Oo a k) (Lb a (AP k)) (Qz a (AP k)) (Lm a (AP k))))) (BY (Ww (Oo a k)) (Ph a (Oo a k))) UQ GV 1 32 (VU (λl=>Jq (Yk (Uj l 1) (Cr a a (O4 l k) a a a a (Av a a a a a a (λm=>RG m a a m a m a m) (Uj l 1) (λm=>NJ m l (To l m (Oo a k)) (DU l m) (Qz a (AP k)) (DW l m) (Lb a (AP k)) (DX l m) (Lm a (AP k)))))) (Ct l a) (FO a l) (QJ a k) (ND l) (Tj a l))) (CG (λl=>Jq (LB (FA RX AM (Hi a) (kM a) (BC l k) (MS a) (λm=>QC m a) (MR a) (Zy (WC a) (MQ a) (MV a) (λm=>XV a m) a (Hi a) (AE (λm=>RG m a a m a m a m))))) (kG l a) (QJ a l) (QJ a k) (zN a (CL l)) AAC))) (Xu (λl=>Es (kG l a) (QJ a l) (QJ a k) (Qt a (CL l)) (CG (λm=>NL (LB (FA RX AM (Hi a) (kM a) (AU m l) (MS a) (λn=>QC n a) (MR a) (Zy (WC a) (MQ a) (MV a) (λn=>XV a n) a (Hi a) (AE (λn=>RG n a a n a n a n))))) m (IW a) (Qt a m) (QJ a m) (QJ a k)))) (fI (λl=>Es (Ct l a) (FO a l) (QJ a k) (jF l a (jB l)) (VU (λm=>NL (Td m l (Cr a a (jD m (BI l)) a a a a (Av a a a a a a (λn=>RG n a a n a n a n) (Pd m l) (λn=>NJ n m (Sz m n l) (DU m n) (DU l n) (DW m n) (DW l n) (DX m n) (DX l n))))) (BI m) (IW a) (Ly m a m) (FO a m) (QJ a k)))))) (And (Mc a) (RL (Mc a) (MS a) (λl=>QC l a) (MR a) (Ny a) (MQ a) (MV a) (Qq a)))) (fI (λk=>HF (CJ (BI k) (IW a) (Ly k a k)) (BI k) (IW a) (kS (Mq (BI k) (IW a) (dU k)) (FW (fQ a k) (Pg a (fZ a k) (AJ (Lf a k)) (Ku a k) (AJ (Le a k)) (PK (Sr a k) (Ku a k) (Lf a k) (Le a k)))) (BY (fQ a k) (Ph a (Sr a k))) (qM k) JE (Yb k) (oV k) (VU (λl=>Jq (Yk (dO l k) (Cr a a (fR l k) a a a a (Av a a a a a a (λm=>RG m a a m a m a m) (dO l k) (λm=>NJ m l (XN (ND l) m (PG m k (XU (ND k) m) (fZ a k))) (DU l m) (PG m k (DU k m) (Lf a k)) (DW l m) (PG m k (DW k m) (Ku a k)) (DX l m) (PG m k (DX k m) (Le a k)))))) (Ct l a) (FO a l) (FO a k) (ND l) (Tj a l))) (VU (λl=>Jq (Td l k (Cr a a (fR l k) a a a a (Av a a a a a a (λm=>RG m a a m a m a m) (Pd l k) (λm=>NJ m l (Sz l m k) (DU l m) (DU k m) (DW l m) (DW k m) (DX l m) (DX k m))))) (Ct l a) (FO a l) (FO a k) (ND l) (Tj a l)))) (Xu (λl=>Es (kG l a) (QJ a l) (FO a k) (Qt a (CL l)) (CG (λm=>NL (LB (FA RX AM (Hi a) (kM a) (AU m l) (MS a) (λn=>QC n a) (MR a) (Zy (WC a) (MQ a) (MV a) (λn=>XV a n) a (Hi a) (AE (λn=>RG n a a n a n a n))))) m (IW a) (Qt a m) (QJ a m) (FO a k)))) (fI (λl=>Es (Ct l a) (FO a l) (FO a k) (jF l a (jB l)) (VU (λm=>NL (Td m l (Cr a a (jD m (BI l)) a a a a (Av a a a a a a (λn=>RG n a a n a n a n) (Pd m l) (λn=>NJ n m (Sz m n l) (DU m n) (DU l n) (DW m n) (DW l n) (DX m n) (DX l n))))) (BI m) (IW a) (Ly m a m) (FO a m) (FO a k)))))) (FG (AN (aQ a) (PT k)) (AP (PT k)) (PT k) (LP (λl=>FH l (aQ a) (XE (YI a) l (ND k) (AP l)) (EU (YI a) l) (DU k (AP l)) (EQ (YI a) l) (DW k (AP l)) (EP (YI a) l) (DX k (AP l))) (MS a) (vB a) (MR a) (Ny a) EO (MQ a) (MV a) (Qq a))))))))))))):=by kernel_rfl
theorem P3(w:Bk):Bk.mk w.g w.b w.has w.st=w:=rfl
theorem AXV(l:List Ln)(p:Ln)(i:Nat)(hi:i<(l ++ [p]).length):((gD (l ++ [p]) i).a0=bif decide (i<l.length) then (gD l i).a0 else p.a0)/\((gD (l ++ [p]) i).a1=bif decide (i<l.length) then (gD l i).a1 else p.a1)/\((gD (l ++ [p]) i).b0=bif decide (i<l.length) then (gD l i).b0 else p.b0)/\(gD (l ++ [p]) i).b1=bif decide (i<l.length) then (gD l i).b1 else p.b1:=by
 rw[F0 _ _ (by simpa using hi)]
 cases decide (i<l.length)<;>exact⟨rfl,rfl,rfl,rfl⟩
theorem oneL(p:Ln)(i:Nat)(hi:i<[p].length):(gD [p] i).a0=p.a0/\(gD [p] i).a1=p.a1/\(gD [p] i).b0=p.b0/\(gD [p] i).b1=p.b1:=by
 have:i=0:=by have hj:i<1:=hi;omega
 subst this;exact⟨rfl,rfl,rfl,rfl⟩
theorem BNE{s:List Gau}{i j:Nat}(h:j<(AB s).length)(h1:Ww (qS (gD (AB s) i) (gD (AB s) j))=true)(h2:Ru s (qS (gD (AB s) i) (gD (AB s) j))=true):(TJ s i (j+1)).filter (Ru s)=(TJ s i j).filter (Ru s) ++ [qS (gD (AB s) i) (gD (AB s) j)]:=by
 rw[bL h,if_pos h1,List.filter_append,List.filter_cons_of_pos h2];rfl
theorem BNU{s:List Gau}{i j:Nat}(h:j<(AB s).length)(h1:Ww (qS (gD (AB s) i) (gD (AB s) j))=true)(h2:Ru s (qS (gD (AB s) i) (gD (AB s) j))=false):(TJ s i (j+1)).filter (Ru s)=(TJ s i j).filter (Ru s):=by
 rw[bL h,if_pos h1,List.filter_append,List.filter_cons_of_neg (by rw[h2];simp)];simp
theorem BFA{s:List Gau}{i j:Nat}(h:j<(AB s).length)(h1:Ww (qS (gD (AB s) i) (gD (AB s) j))=false):(TJ s i (j+1)).filter (Ru s)=(TJ s i j).filter (Ru s):=by
 rw[bL h,if_neg (by rw[h1];simp),List.append_nil]
theorem M5{s:List Gau}{i:Nat}:(TJ s i 0).filter (Ru s)=(Xm s i).filter (Ru s) ++ if Ru s (UC (gD (AB s) i))=true then [UC (gD (AB s) i)] else []:=by
 unfold TJ
 rw[List.filter_append]
 congr 1
 simp[List.filter_cons]
theorem ASK{s:List Gau}{i j:Nat}(hN:(AB s).length<=48):((TJ s i j).filter (Ru s)).length<=10000:=by
 refine Nat.le_trans (List.length_filter_le _ _) ?_
 have h1:∀a:Pt,(blk (AB s) a).length<=49:=λa=>by
  unfold blk
  have:=List.length_filter_le Ww ((AB s).map (qS a))
  simp only[List.length_cons,List.length_map] at *;omega
 have h2:∀l:List Pt,l.length<=48->(l.flatMap (blk (AB s))).length<=l.length*49:=λl _=>by
  induction l with
  |nil=>simp
  |cons a l ih=>
   rw[List.flatMap_cons,List.length_append,List.length_cons]
   have:=h1 a;have:=ih (by simp at *;omega);omega
 unfold TJ Xm
 have h3:=h2 ((AB s).take i) (by simp;omega)
 have h4:=List.length_filter_le Ww (((AB s).take j).map (qS (gD (AB s) i)))
 simp only[List.length_append,List.length_cons,List.length_map,List.length_take] at *
 omega
theorem ATC{s:List Gau}{q:Nat}(hs:s.length<=24)(hN:(AB s).length<=48)(hg:∀g∈s,Ht g)(x:IJ)(hx:x.i<(AB s).length/\x.j<=(AB s).length/\(AB s).length-x.i=q/\(TJ s x.i x.j).filter (Ru s)=[]) :
  ((x.j:Int)<(AB s).length->(0<=(x.j:Int)/\(x.j:Int)<(AB s).length)/\(Ww ⟨(gD (AB s) x.i).st,(gD (AB s) x.i).fl,(gD (AB s) x.j).st,(gD (AB s) x.j).fl⟩=true->(s.length<4611686018427387904/\∀g:Gau,List.Mem g s->PO ⟨(gD (AB s) x.i).st,(gD (AB s) x.i).fl,(gD (AB s) x.j).st,(gD (AB s) x.j).fl⟩/\Ht g)/\((s.all λg=>WE ⟨(gD (AB s) x.i).st,(gD (AB s) x.i).fl,(gD (AB s) x.j).st,(gD (AB s) x.j).fl⟩ g)=true->((0<0->0=4)/\0<1/\0<1/\0<9223372036854775807/\31<140737488355328)/\∃y:LnJ,((y.j:Int)=IntKind.i64.wrap ((x.j:Int)+1)/\(y.i:Int)=x.i/\(gD (AB s) y.i).st=(gD (AB s) x.i).st/\(gD (AB s) y.i).fl=(gD (AB s) x.i).fl/\y.l.length=1/\y.l.length=1/\∀i:Nat,i<y.l.length->(gD y.l i).a0=(gD (AB s) x.i).st/\(gD y.l i).a1=(gD (AB s) x.i).fl/\(gD y.l i).b0=(gD (AB s) x.j).st/\(gD y.l i).b1=(gD (AB s) x.j).fl)/\(y.i<(AB s).length/\y.j<=(AB s).length/\(AB s).length-y.i=q/\y.l=(TJ s y.i y.j).filter (Ru s))/\(AB s).length-y.j<(AB s).length-x.j)/\((s.all λg=>WE ⟨(gD (AB s) x.i).st,(gD (AB s) x.i).fl,(gD (AB s) x.j).st,(gD (AB s) x.j).fl⟩ g)=false->∃y:IJ,((y.j:Int)=IntKind.i64.wrap ((x.j:Int)+1)/\(y.i:Int)=x.i/\(gD (AB s) y.i).st=(gD (AB s) x.i).st/\(gD (AB s) y.i).fl=(gD (AB s) x.i).fl)/\(y.i<(AB s).length/\y.j<=(AB s).length/\(AB s).length-y.i=q/\(TJ s y.i y.j).filter (Ru s)=[])/\(AB s).length-y.j<(AB s).length-x.j))/\(Ww ⟨(gD (AB s) x.i).st,(gD (AB s) x.i).fl,(gD (AB s) x.j).st,(gD (AB s) x.j).fl⟩=false->∃y:IJ,((y.j:Int)=IntKind.i64.wrap ((x.j:Int)+1)/\(y.i:Int)=x.i/\(gD (AB s) y.i).st=(gD (AB s) x.i).st/\(gD (AB s) y.i).fl=(gD (AB s) x.i).fl)/\(y.i<(AB s).length/\y.j<=(AB s).length/\(AB s).length-y.i=q/\(TJ s y.i y.j).filter (Ru s)=[])/\(AB s).length-y.j<(AB s).length-x.j))/\(¬(x.j:Int)<(AB s).length->∃y:Nat,(y:Int)=IntKind.i64.wrap ((x.i:Int)+1)/\(y<=(AB s).length/\(Xm s y).filter (Ru s)=[])/\(AB s).length-y<q):=by
 obtain⟨h1,h2,h3,h4⟩:=hx
 refine⟨λhj=>?_,λhj=>⟨x.i+1,(GH (by omega)).symm,⟨by omega,?_⟩,by omega⟩⟩
 ·have hj':x.j<(AB s).length:=Int.ofNat_lt.1 hj
  have step:(TJ s x.i (x.j+1)).filter (Ru s)=[]->∃y:IJ,((y.j:Int)=IntKind.i64.wrap ((x.j:Int)+1)/\(y.i:Int)=x.i/\(gD (AB s) y.i).st=(gD (AB s) x.i).st/\(gD (AB s) y.i).fl=(gD (AB s) x.i).fl)/\(y.i<(AB s).length/\y.j<=(AB s).length/\(AB s).length-y.i=q/\(TJ s y.i y.j).filter (Ru s)=[])/\(AB s).length-y.j<(AB s).length-x.j:=λh=>⟨⟨x.i,x.j+1⟩,⟨(GH (by omega)).symm,rfl,rfl,rfl⟩,⟨h1,hj',h3,h⟩,by show (AB s).length-(x.j+1)<_;omega⟩
  refine⟨⟨by omega,hj⟩,λhr=>⟨⟨by omega,λg hgs=>⟨dG.1 hr,hg g hgs⟩⟩,λhp=>⟨⟨by omega,by omega,by omega,by omega,by omega⟩,⟨x.i,x.j+1,[qS (gD (AB s) x.i) (gD (AB s) x.j)]⟩,⟨(GH (by omega)).symm,rfl,rfl,rfl,rfl,rfl,oneL _⟩,⟨h1,hj',h3,?_⟩,by show (AB s).length-(x.j+1)<_;omega⟩,λhp=>step ?_⟩,λhr=>step ?_⟩
  ·show _=(TJ s x.i (x.j+1)).filter (Ru s)
   rw[BNE hj' hr hp,h4];rfl
  ·rw[BNU hj' hr hp,h4]
  ·rw[BFA hj' hr,h4]
 ·have:x.j=(AB s).length:=by omega
  rw[this] at h4;rw[<-uL h1];exact h4
theorem AQJ{s:List Gau}{q:Nat}(hs:s.length<=24)(hN:(AB s).length<=48)(hg:∀g∈s,Ht g)(x:LnJ)(hx:x.i<(AB s).length/\x.j<=(AB s).length/\(AB s).length-x.i=q/\x.l=(TJ s x.i x.j).filter (Ru s)) :
  ((x.j:Int)<(AB s).length->(0<=(x.j:Int)/\(x.j:Int)<(AB s).length)/\(Ww ⟨(gD (AB s) x.i).st,(gD (AB s) x.i).fl,(gD (AB s) x.j).st,(gD (AB s) x.j).fl⟩=true->(s.length<4611686018427387904/\∀g:Gau,List.Mem g s->PO ⟨(gD (AB s) x.i).st,(gD (AB s) x.i).fl,(gD (AB s) x.j).st,(gD (AB s) x.j).fl⟩/\Ht g)/\((s.all λg=>WE ⟨(gD (AB s) x.i).st,(gD (AB s) x.i).fl,(gD (AB s) x.j).st,(gD (AB s) x.j).fl⟩ g)=true->(0<1/\(false=true->0<1)/\x.l.length<9223372036854775807/\(x.l.length+1)*32<=140737488355328)/\∃y:LnJ,((y.j:Int)=IntKind.i64.wrap ((x.j:Int)+1)/\(y.i:Int)=x.i/\(gD (AB s) y.i).st=(gD (AB s) x.i).st/\(gD (AB s) y.i).fl=(gD (AB s) x.i).fl/\y.l.length=x.l.length+1/\y.l.length=x.l.length+1/\∀i:Nat,i<y.l.length->((gD y.l i).a0=bif decide (i<x.l.length) then (gD x.l i).a0 else (gD (AB s) x.i).st)/\((gD y.l i).a1=bif decide (i<x.l.length) then (gD x.l i).a1 else (gD (AB s) x.i).fl)/\((gD y.l i).b0=bif decide (i<x.l.length) then (gD x.l i).b0 else (gD (AB s) x.j).st)/\(gD y.l i).b1=bif decide (i<x.l.length) then (gD x.l i).b1 else (gD (AB s) x.j).fl)/\(y.i<(AB s).length/\y.j<=(AB s).length/\(AB s).length-y.i=q/\y.l=(TJ s y.i y.j).filter (Ru s))/\(AB s).length-y.j<(AB s).length-x.j)/\((s.all λg=>WE ⟨(gD (AB s) x.i).st,(gD (AB s) x.i).fl,(gD (AB s) x.j).st,(gD (AB s) x.j).fl⟩ g)=false->(∃y:LnJ,((y.j:Int)=IntKind.i64.wrap ((x.j:Int)+1)/\(y.i:Int)=x.i/\(gD (AB s) y.i).st=(gD (AB s) x.i).st/\(gD (AB s) y.i).fl=(gD (AB s) x.i).fl/\y.l.length=x.l.length/\y.l.length=x.l.length/\∀i:Nat,i<y.l.length->(gD y.l i).a0=(gD x.l i).a0/\(gD y.l i).a1=(gD x.l i).a1/\(gD y.l i).b0=(gD x.l i).b0/\(gD y.l i).b1=(gD x.l i).b1)/\(y.i<(AB s).length/\y.j<=(AB s).length/\(AB s).length-y.i=q/\y.l=(TJ s y.i y.j).filter (Ru s))/\(AB s).length-y.j<(AB s).length-x.j)))/\(Ww ⟨(gD (AB s) x.i).st,(gD (AB s) x.i).fl,(gD (AB s) x.j).st,(gD (AB s) x.j).fl⟩=false->(∃y:LnJ,((y.j:Int)=IntKind.i64.wrap ((x.j:Int)+1)/\(y.i:Int)=x.i/\(gD (AB s) y.i).st=(gD (AB s) x.i).st/\(gD (AB s) y.i).fl=(gD (AB s) x.i).fl/\y.l.length=x.l.length/\y.l.length=x.l.length/\∀i:Nat,i<y.l.length->(gD y.l i).a0=(gD x.l i).a0/\(gD y.l i).a1=(gD x.l i).a1/\(gD y.l i).b0=(gD x.l i).b0/\(gD y.l i).b1=(gD x.l i).b1)/\(y.i<(AB s).length/\y.j<=(AB s).length/\(AB s).length-y.i=q/\y.l=(TJ s y.i y.j).filter (Ru s))/\(AB s).length-y.j<(AB s).length-x.j)))/\(¬(x.j:Int)<(AB s).length->∃y:LnK,((y.i:Int)=IntKind.i64.wrap ((x.i:Int)+1)/\y.l.length=x.l.length/\y.l.length=x.l.length/\∀i:Nat,i<y.l.length->(gD y.l i).a0=(gD x.l i).a0/\(gD y.l i).a1=(gD x.l i).a1/\(gD y.l i).b0=(gD x.l i).b0/\(gD y.l i).b1=(gD x.l i).b1)/\(y.i<=(AB s).length/\y.l=(Xm s y.i).filter (Ru s))/\(AB s).length-y.i<q):=by
 obtain⟨h1,h2,h3,h4⟩:=hx
 refine⟨λhj=>?_,λhj=>⟨⟨x.i+1,x.l⟩,⟨(GH (by omega)).symm,rfl,rfl,λ_ _=>⟨rfl,rfl,rfl,rfl⟩⟩,⟨h1,?_⟩,by show (AB s).length-(x.i+1)<_;omega⟩⟩
 ·have hj':x.j<(AB s).length:=Int.ofNat_lt.1 hj
  have hl:x.l.length<=10000:=h4 ▸ ASK hN
  have step:(TJ s x.i (x.j+1)).filter (Ru s)=x.l->(∃y:LnJ,((y.j:Int)=IntKind.i64.wrap ((x.j:Int)+1)/\(y.i:Int)=x.i/\(gD (AB s) y.i).st=(gD (AB s) x.i).st/\(gD (AB s) y.i).fl=(gD (AB s) x.i).fl/\y.l.length=x.l.length/\y.l.length=x.l.length/\∀i:Nat,i<y.l.length->(gD y.l i).a0=(gD x.l i).a0/\(gD y.l i).a1=(gD x.l i).a1/\(gD y.l i).b0=(gD x.l i).b0/\(gD y.l i).b1=(gD x.l i).b1)/\(y.i<(AB s).length/\y.j<=(AB s).length/\(AB s).length-y.i=q/\y.l=(TJ s y.i y.j).filter (Ru s))/\(AB s).length-y.j<(AB s).length-x.j):=λh=>⟨⟨x.i,x.j+1,x.l⟩,⟨(GH (by omega)).symm,rfl,rfl,rfl,rfl,rfl,λ_ _=>⟨rfl,rfl,rfl,rfl⟩⟩,⟨h1,hj',h3,h.symm⟩,by show (AB s).length-(x.j+1)<_;omega⟩
  refine⟨⟨by omega,hj⟩,λhr=>⟨⟨by omega,λg hgs=>⟨dG.1 hr,hg g hgs⟩⟩,λhp=>⟨⟨by omega,λ_=>by omega,by omega,by omega⟩,⟨x.i,x.j+1,x.l ++ [qS (gD (AB s) x.i) (gD (AB s) x.j)]⟩,⟨(GH (by omega)).symm,rfl,rfl,rfl,by simp,by simp,AXV _ _⟩,⟨h1,hj',h3,?_⟩,by show (AB s).length-(x.j+1)<_;omega⟩,λhp=>step ?_⟩,λhr=>step ?_⟩
  ·show _=(TJ s x.i (x.j+1)).filter (Ru s)
   rw[BNE hj' hr hp,<-h4]
  ·rw[BNU hj' hr hp,h4]
  ·rw[BFA hj' hr,h4]
 ·have:x.j=(AB s).length:=by omega
  rw[this] at h4;show x.l=(Xm s (x.i+1)).filter (Ru s);rw[<-uL h1];exact h4
theorem AUP{α:Type}[Inhabited α](l m:List α)(j:Nat):gD (l ++ m) j=bif decide (j<l.length) then gD l j else gD m (j-l.length):=by
 rw[wV];by_cases h:j<l.length<;>simp[h]
theorem BPM{α:Type}[Inhabited α](x y:α){j:Nat}(h:j<2):gD [x,y] j=bif decide (j=0) then x else y:=by
 match j,h with
 |0,_=>rfl
 |1,_=>rfl
theorem E5{s:List Gau}{t:Int}{i:Nat}(h:i<(AB s).length):hY s t (i+1)=hY s t i ++ [qS ⟨t,0⟩ (gD (AB s) i),qS (gD (AB s) i) ⟨t,200000⟩]:=by
 unfold hY;rw[VP h,List.flatMap_append,<-List.append_assoc];simp
theorem AQC{s:List Gau}{t:Int}:∀i:Nat,i<=(AB s).length->(hY s t i).length=2+2*i
 |0,_=>rfl
 |i+1,h=>by rw[E5 (by omega),List.length_append,AQC i (by omega)];simp;omega
theorem AOU{s:List Gau}{t:Int}:hY s t (AB s).length=Cv s t:=by unfold hY Cv;rw[List.take_length]
theorem BOG(s:List Gau)(t:Int):∃i:Nat,((hY s t i).length=2/\(i:Int)=0/\(hY s t i).length=2/\∀j:Nat,j<(hY s t i).length->((gD (hY s t i) j).a0=bif decide (j=0) then (UC ⟨t,0⟩).a0 else (UC ⟨t,200000⟩).a0)/\((gD (hY s t i) j).a1=bif decide (j=0) then (UC ⟨t,0⟩).a1 else (UC ⟨t,200000⟩).a1)/\((gD (hY s t i) j).b0=bif decide (j=0) then (UC ⟨t,0⟩).b0 else (UC ⟨t,200000⟩).b0)/\(gD (hY s t i) j).b1=bif decide (j=0) then (UC ⟨t,0⟩).b1 else (UC ⟨t,200000⟩).b1)/\i<=(AB s).length:=by
 refine⟨0,⟨rfl,rfl,rfl,λj hj=>?_⟩,Nat.zero_le _⟩
 have hj:j<2:=hj
 rw[show hY s t 0=[UC ⟨t,0⟩,UC ⟨t,200000⟩] from rfl,BPM _ _ hj]
 cases decide (j=0)<;>exact⟨rfl,rfl,rfl,rfl⟩
theorem BVD{s:List Gau}{t:Int}(hN:(AB s).length<=48){i:Nat}(h:(i:Int)<(AB s).length):(0<=(i:Int)/\(i:Int)<(AB s).length)/\(1<2/\(false=true->0<2)/\(hY s t i).length+1<9223372036854775807/\((hY s t i).length+2)*32<=140737488355328)/\∃k:Nat,((hY s t k).length=(hY s t i).length+2/\(k:Int)=IntKind.i64.wrap ((i:Int)+1)/\(hY s t k).length=(hY s t i).length+2/\∀j:Nat,j<(hY s t k).length->((gD (hY s t k) j).a0=bif decide (j<(hY s t i).length) then (gD (hY s t i) j).a0 else bif decide (j-(hY s t i).length=0) then t else (gD (AB s) i).st)/\((gD (hY s t k) j).a1=bif decide (j<(hY s t i).length) then (gD (hY s t i) j).a1 else bif decide (j-(hY s t i).length=0) then 0 else (gD (AB s) i).fl)/\((gD (hY s t k) j).b0=bif decide (j<(hY s t i).length) then (gD (hY s t i) j).b0 else bif decide (j-(hY s t i).length=0) then (gD (AB s) i).st else t)/\(gD (hY s t k) j).b1=bif decide (j<(hY s t i).length) then (gD (hY s t i) j).b1 else bif decide (j-(hY s t i).length=0) then (gD (AB s) i).fl else 200000)/\k<=(AB s).length/\(AB s).length-k<(AB s).length-i:=by
 have h':i<(AB s).length:=Int.ofNat_lt.1 h
 have hl:=AQC (s:=s) (t:=t) i (by omega)
 refine⟨⟨by omega,h⟩,⟨by omega,λ_=>by omega,by omega,by omega⟩,i+1,⟨?_,(GH (by omega)).symm,?_,λj hj=>?_⟩,h',by omega⟩
 ·rw[E5 h',List.length_append];rfl
 ·rw[E5 h',List.length_append];rfl
 ·rw[E5 h'] at hj ⊢
  rw[AUP]
  by_cases h1:j<(hY s t i).length
  ·simp[h1]
  ·rw[BPM _ _ (by simp at hj;omega)]
   simp only[h1,decide_false,cond_false]
   cases decide (j-(hY s t i).length=0)<;>exact⟨rfl,rfl,rfl,rfl⟩
theorem AOX{s:List Gau}{l:List Ln}{i:Nat}(h:i<l.length):(l.take (i+1)).filter (Y3 s)=(l.take i).filter (Y3 s) ++ if Y3 s (gD l i)=true then [gD l i] else []:=by
 rw[VP h,List.filter_append];simp[List.filter_cons]
theorem L8{s:List Gau}{t:Int}:(Cv s t).length=2+2*(AB s).length:=by rw[<-AOU,AQC _ (Nat.le_refl _)]
theorem BUT{s:List Gau}{t:Int}{f:List Ln}(hs:s.length<=24)(hN:(AB s).length<=48)(hg:∀g∈s,Ht g)(hf:f.length<=10000){x:LnK}(hx:x.i<=(Cv s t).length/\x.l=f ++ ((Cv s t).take x.i).filter (Y3 s))(h:(x.i:Int)<(Cv s t).length) :
  ((0<=(x.i:Int)/\(x.i:Int)<(Cv s t).length)/\x.i<(Cv s t).length)/\(Ww (gD (Cv s t) x.i)=true->(s.length<4611686018427387904/\∀g:Gau,List.Mem g s->PO (gD (Cv s t) x.i)/\Ht g))/\((bif Ww (gD (Cv s t) x.i) then s.all λg=>WE (gD (Cv s t) x.i) g else false)=true->(0<1/\(false=true->0<1)/\x.l.length<9223372036854775807/\(x.l.length+1)*32<=140737488355328)/\∃y:LnK,(y.l.length=x.l.length+1/\(y.i:Int)=x.i/\y.l.length=x.l.length+1/\∀j:Nat,j<y.l.length->((gD y.l j).a0=bif decide (j<x.l.length) then (gD x.l j).a0 else (gD (Cv s t) x.i).a0)/\((gD y.l j).a1=bif decide (j<x.l.length) then (gD x.l j).a1 else (gD (Cv s t) x.i).a1)/\((gD y.l j).b0=bif decide (j<x.l.length) then (gD x.l j).b0 else (gD (Cv s t) x.i).b0)/\(gD y.l j).b1=bif decide (j<x.l.length) then (gD x.l j).b1 else (gD (Cv s t) x.i).b1)/\(y.i<(Cv s t).length/\(Cv s t).length-y.i=(Cv s t).length-x.i/\y.l=f ++ (((Cv s t).take (y.i+1)).filter (Y3 s))))/\((bif Ww (gD (Cv s t) x.i) then s.all λg=>WE (gD (Cv s t) x.i) g else false)=false->∃y:LnK,(y.l.length=x.l.length/\(y.i:Int)=x.i/\y.l.length=x.l.length/\∀j:Nat,j<y.l.length->(gD y.l j).a0=(gD x.l j).a0/\(gD y.l j).a1=(gD x.l j).a1/\(gD y.l j).b0=(gD x.l j).b0/\(gD y.l j).b1=(gD x.l j).b1)/\(y.i<(Cv s t).length/\(Cv s t).length-y.i=(Cv s t).length-x.i/\y.l=f ++ (((Cv s t).take (y.i+1)).filter (Y3 s)))):=by
 obtain⟨h1,h2⟩:=hx
 have h':x.i<(Cv s t).length:=Int.ofNat_lt.1 h
 have hl:x.l.length<=10098:=by
  rw[h2,List.length_append]
  have:=List.length_filter_le (Y3 s) ((Cv s t).take x.i)
  rw[List.length_take] at this
  have:=L8 (s:=s) (t:=t)
  omega
 refine⟨⟨⟨by omega,h⟩,h'⟩,λhr=>⟨by omega,λg hgs=>⟨dG.1 hr,hg g hgs⟩⟩,λhp=>⟨⟨by omega,λ_=>by omega,by omega,by omega⟩,⟨x.i,x.l ++ [(gD (Cv s t) x.i)]⟩,⟨by simp,rfl,by simp,AXV _ _⟩,h',rfl,?_⟩,λhp=>⟨⟨x.i,x.l⟩,⟨rfl,rfl,rfl,λ_ _=>⟨rfl,rfl,rfl,rfl⟩⟩,h',rfl,?_⟩⟩
 ·show x.l ++ _=_
  rw[AOX h',if_pos (show Y3 s (gD (Cv s t) x.i)=true from hp),<-List.append_assoc,<-h2]
 ·show x.l=_
  rw[AOX h',if_neg (by intro hq;have hq:(bif Ww (gD (Cv s t) x.i) then s.all λg=>WE (gD (Cv s t) x.i) g else false)=true:=hq;rw[hp] at hq;cases hq),List.append_nil,<-h2]
theorem BEW{s:List Gau}{t:Int}{f:List Ln}(hN:(AB s).length<=48){m:Nat}(x:LnK)(hx:x.i<(Cv s t).length/\(Cv s t).length-x.i=m/\x.l=f ++ ((Cv s t).take (x.i+1)).filter (Y3 s)):∃y:LnK,(y.l.length=x.l.length/\(y.i:Int)=IntKind.i64.wrap ((x.i:Int)+1)/\y.l.length=x.l.length/\∀j:Nat,j<y.l.length->(gD y.l j).a0=(gD x.l j).a0/\(gD y.l j).a1=(gD x.l j).a1/\(gD y.l j).b0=(gD x.l j).b0/\(gD y.l j).b1=(gD x.l j).b1)/\(y.i<=(Cv s t).length/\y.l=f ++ ((Cv s t).take y.i).filter (Y3 s))/\(Cv s t).length-y.i<m:=by
 have:=L8 (s:=s) (t:=t)
 exact⟨⟨x.i+1,x.l⟩,⟨rfl,(GH (by omega)).symm,rfl,λ_ _=>⟨rfl,rfl,rfl,rfl⟩⟩,⟨hx.1,hx.2.2⟩,by show (Cv s t).length-(x.i+1)<m;omega⟩
theorem AHH{w:Bk}{k:Int}(h:w.has k=true):O0 w k=w:=by
 obtain⟨g,b,has,st⟩:=w
 have h:has k=true:=h
 unfold O0;congr 1
 ·funext n;unfold QD;by_cases e:n=k
  ·subst e;simp[h]
  ·simp[e]
 ·funext n;unfold tY;simp[h]
theorem CLR{w:Bk}{k n:Int}:fdM (O0 w k) n=bif decide (n=k) then gV (aE w k) else fdM w n:=by
 unfold fdM
 show (bif QD w.has k n then gV (aE w n) else [])=_
 unfold QD
 by_cases e:n=k
 ·subst e;simp
 ·simp[e]
theorem BQL{w:Bk}{k:Int}(h:w.has k=true):fdM w k=gV (aE w k):=by unfold fdM;rw[h];rfl
theorem CBH{s:List Gau}(h:s=[]):gV s=[]:=by subst h;rfl
theorem BHL{s:List Gau}(hN:(AB s).length<=48):(gV s).length<=10000:=by
 unfold gV
 rw[<-vV]
 by_cases h:(AB s).length=0
 ·rw[h];simp[Xm]
 ·obtain⟨i,hi⟩:∃i,(AB s).length=i+1:=⟨(AB s).length-1,by omega⟩
  rw[hi,<-uL (i:=i) (by omega)];exact ASK hN
theorem BOV{w:Bk}{k:Int}:∀n:Int,((fdM (O0 w k) n).length=bif decide (n=k) then (gV (aE w k)).length else (fdM w n).length)/\∀j:Nat,j<(fdM (O0 w k) n).length->((gD (fdM (O0 w k) n) j).a0=bif decide (n=k) then (gD (gV (aE w k)) j).a0 else (gD (fdM w n) j).a0)/\((gD (fdM (O0 w k) n) j).a1=bif decide (n=k) then (gD (gV (aE w k)) j).a1 else (gD (fdM w n) j).a1)/\((gD (fdM (O0 w k) n) j).b0=bif decide (n=k) then (gD (gV (aE w k)) j).b0 else (gD (fdM w n) j).b0)/\(gD (fdM (O0 w k) n) j).b1=bif decide (n=k) then (gD (gV (aE w k)) j).b1 else (gD (fdM w n) j).b1:=λn=>by
 rw[CLR];cases decide (n=k)<;>exact⟨rfl,λ_ _=>⟨rfl,rfl,rfl,rfl⟩⟩
theorem BSD{a:BkS}(h:gI a.w.g a.w.b):(sB a).length<=24/\(AB (sB a)).length<=48/\∀g∈sB a,Ht g:=by
 have h1:(sB a).length<=24:=Nat.le_trans (List.length_filter_le _ _) h.1
 have he:=bK (s:=sB a) (sB a).length (Nat.le_refl _)
 unfold Nb at he;rw[List.take_length] at he
 exact⟨h1,by unfold AB;omega,λg hg=>h.2.1 g (List.mem_filter.1 hg).1⟩
theorem yU{s:List Gau}{t:Int}:Nn s t=bif (bif decide ((s.length:Int)>0) then ((gV s).length:Int)==0 else false) then [] else gV s ++ (Cv s t).filter (Y3 s):=by
 unfold Nn
 rw[show decide (0<s.length)=decide ((s.length:Int)>0) by simp[Int.natCast_pos],show decide ((gV s).length=0)=(((gV s).length:Int)==0) by rw[Bool.eq_iff_iff];simp]
theorem COF(a:BkS)(h:gI a.w.g a.w.b)(h2:0<=a.st/\a.st<=2000)(h3:sB a≠[]):BUM a:=by
 rw[CET]<;> delta LI Wo UD KA LV JY fD Qj X9 LL HV GZ JJ NX HU EZ AK aD AN FI AE BA BN IQ BH CV DC ER NC TD KE Ff FD ZN sA FT HA CG NZ BP GU TA G5 HT LH HR ZP We ZV Cw VZ DN BM cP Ft aS Wm Hh Fc Ro DJ Df Qa Ra PQ Og UI VU ND BI mP AXF fI AAC ZO IF Cy rK uE hJ CS AG AP AI AO AMJ AJ Rp Fl AR DF Ri VR KS Qv yN VW QM Dc MY IT AS CM SY EL BB Ib AWB gQ DY HZ IG QR BG HC RQ BW DK DG aZ Kk DI E4 MK JH TQ DO BO GJ sO VT HD AM AQ JI EP CL LP PS ZX JO ZW M7 Na ABE KC EJ EB MM DR IW EQ EX HS CI ANF OS XJ Wn FP Ka yR EV WC AAA KB EI GI NK BC mJ Pz EU UG GM aX AV Qk FH lX OT rN DT RR Fp eI ZQ Mz PT Ce JD EO HQ BK Zt wK tG AU IY U9 HI AL EY Tn AKL Lu FA SC uA PD Uo FJ FW Mn Ga zM DZ PF Kq dU FK RJ AFE BS kO SJ SD Pv Wz PI zT IA VB DV BE RB Dv iS FE pW EM sI EG HX CK Jq AFC HW CJ BR QJ PL pZ BY UA GE Ve Eh KL IZ EF BQ jA LA BU KX ON zK GD cU HH Sf UY HL DU Lb OR Cq Gu jK PX dQ LO US Iz DW DX Tr Ap Yd Dr jO BD AGL WH MV MR FQ MQ Hi Yr Lm JQ FO Ns GQ HG HF CN CW lM AHR MS NT NQ FG OE Uj WI JR XE FY MG AIN Dk GF MD oD JE JM TX QB VD SK Zm AGK Bf PY Aj Ny Sr AFA HJ Xk QC zN YI wJ tA Ju NS KM Zq Yi Co Qh Lw rC T5 Ha PK Lj Yf XV Wx Ph OL Qq Un GV OU Yx Jc kM XA ZI PG Jt Qz oM kG Ip TO GX Gx AGX Er Q5 Zy Kx Zz aQ Pd NJ UO sL OP vB AGD vO SB sV Hb TL As qO OW KV Zp NM jF XG Yl Pg Gg yY Yb QL kY TH TR RG NL MU Cn Ct Cb Ag Fw jB Be Am RL kS QA QO Bw XU Gf T1 Ax Yh UQ QG Yk Cd Bc XN YB T6 Ay Au Ao zZ jD Bj tW Ar PE TV Cf LU Ai P5 Cg eD Mc kQ Bo Me Ck SI Lf Ms Ls Np Le SP WJ Ku Es Ly R8 WS Cp QV Cc Bb Cl O9 WK YM Tj Sp Y4 O4 Bi Al SS Bn Mf Lr Sz Td Tf Br Ig Tp fS Av To tE cC bV eY fC Ou Ej Xx fR eJ dM dO Ye Ma fZ eL Qu fY fQ cJ Mq cK So gF Ut Qo fU Tk bP jV oV fA bR qJ oO jI qM pQ Cr bZ jM;simp only[CC,CU,P3,show aE a.w a.k=sB a from rfl,if_true]
 obtain⟨hs,hN,hg⟩:=BSD h
 have hf:=BHL (s:=sB a) hN
 have h0:0<(sB a).length:=List.length_pos_iff.2 h3
 have ok:∀x,PO x->(sB a).length<4611686018427387904/\∀g:Gau,List.Mem g (sB a)->PO x/\Ht g:=λx hx=>⟨by omega,λg hgs=>⟨hx,hg g hgs⟩⟩
 have e_ok:∀i,i<(AB (sB a)).length->okP (gD (AB (sB a)) i):=λi hi=>gU hg (MF hi)
 refine⟨h,λhh=>⟨?a,?b1⟩,λhh=>⟨⟨⟨by omega,⟨0,rfl,Nat.zero_le _,rfl⟩,λi ⟨hi,hp⟩=>?c,λx ⟨hi,hp⟩=>?d⟩,?e⟩,?b2⟩⟩
 case a=>
  refine⟨default,?_⟩
  rw[AHH hh,BQL hh]
  exact⟨rfl,λ_ _=>⟨rfl,rfl,rfl⟩,rfl,λ_ _=>rfl,λ_=>rfl,λ_=>rfl,λ_=>⟨rfl,λ_ _=>⟨rfl,rfl,rfl,rfl⟩⟩,rfl,λ_ _=>⟨rfl,rfl,rfl,rfl⟩⟩
 case e=>exact⟨default,rfl,λ_ _=>⟨rfl,rfl,rfl⟩,rfl,λ_ _=>rfl,λ_=>rfl,λ_=>rfl,BOV⟩
 case c=>
  refine⟨λhlt=>?_,λhge=>⟨default,?_⟩⟩
  ·have hlt':i<(AB (sB a)).length:=Int.ofNat_lt.1 hlt
   refine⟨⟨by omega,hlt⟩,⟨(e_ok i hlt').1,(e_ok i hlt').2.1⟩,ok _ (pS (e_ok i hlt')),λhpa=>⟨⟨by omega,by omega,by omega,by omega,by omega⟩,⟨⟨i,0,[UC (gD (AB (sB a)) i)]⟩,⟨rfl,rfl,rfl,rfl,rfl,rfl,oneL _⟩,hlt',Nat.zero_le _,rfl,?_⟩,λx hx=>ATC hs hN hg x hx,λx hx=>AQJ hs hN hg x hx⟩,λhpa=>⟨⟨⟨i,0⟩,⟨rfl,rfl,rfl,rfl⟩,hlt',Nat.zero_le _,rfl,?_⟩,λx hx=>ATC hs hN hg x hx,λx hx=>AQJ hs hN hg x hx⟩⟩
   ·show _=(TJ (sB a) i 0).filter (Ru (sB a))
    rw[M5,hp,if_pos (show Ru (sB a) _=true from hpa)];rfl
   ·show (TJ (sB a) i 0).filter (Ru (sB a))=[]
    rw[M5,hp,if_neg (by rw[show Ru (sB a) (UC (gD (AB (sB a)) i))=false from hpa];simp)];rfl
  ·have:i=(AB (sB a)).length:=by omega
   rw[this,vV] at hp;unfold gV;rw[hp];rfl
 case d=>
  refine⟨λhlt=>?_,λhge=>⟨default,?_⟩⟩
  ·have hlt':x.i<(AB (sB a)).length:=Int.ofNat_lt.1 hlt
   have hl:x.l.length<=10000:=by
    have:=ASK (s:=sB a) (i:=x.i) (j:=0) hN
    rw[M5,<-hp,List.length_append] at this;omega
   refine⟨⟨by omega,hlt⟩,⟨(e_ok x.i hlt').1,(e_ok x.i hlt').2.1⟩,ok _ (pS (e_ok x.i hlt')),λhpa=>⟨⟨by omega,λ_=>by omega,by omega,by omega⟩,⟨⟨x.i,0,x.l ++ [UC (gD (AB (sB a)) x.i)]⟩,⟨rfl,rfl,rfl,rfl,by simp,by simp,AXV _ _⟩,hlt',Nat.zero_le _,rfl,?_⟩,λx hx=>ATC hs hN hg x hx,λx hx=>AQJ hs hN hg x hx⟩,λhpa=>⟨⟨⟨x.i,0,x.l⟩,⟨rfl,rfl,rfl,rfl,rfl,rfl,λ_ _=>⟨rfl,rfl,rfl,rfl⟩⟩,hlt',Nat.zero_le _,rfl,?_⟩,λx hx=>ATC hs hN hg x hx,λx hx=>AQJ hs hN hg x hx⟩⟩
   ·show _=(TJ (sB a) x.i 0).filter (Ru (sB a))
    rw[M5,<-hp,if_pos (show Ru (sB a) _=true from hpa)]
   ·show x.l=(TJ (sB a) x.i 0).filter (Ru (sB a))
    rw[M5,<-hp,if_neg (by rw[show Ru (sB a) (UC (gD (AB (sB a)) x.i))=false from hpa];simp),List.append_nil]
  ·have hx:x.l=gV (sB a):=by rw[hp,show x.i=(AB (sB a)).length by omega,vV];rfl
   rw[hx];exact⟨rfl,Nat.le_refl _,λ_ _=>⟨rfl,rfl,rfl,rfl⟩⟩
 all_goals
  ·have hmo:∀i:Nat,i<=(AB (sB a)).length->¬(i:Int)<(AB (sB a)).length->hY (sB a) a.st i=Cv (sB a) a.st:=λi h1 h2=>by
    rw[show i=(AB (sB a)).length by omega,AOU]
   refine⟨λhc=>by rw[yU,hc];rfl,λhc=>⟨h2,by omega,BOG _ _,λi hi=>⟨λhlt=>BVD hN hlt,λhge=>⟨⟨?_,by omega⟩,⟨⟨0,gV (sB a)⟩,⟨rfl,by rw[hmo i hi hge],by rw[hmo i hi hge],rfl,by rw[hmo i hi hge],λj _=>by rw[hmo i hi hge];exact⟨rfl,rfl,rfl,rfl⟩,rfl,λ_ _=>⟨rfl,rfl,rfl,rfl⟩⟩,Nat.zero_le _,by simp⟩,λx hx=>⟨λhlt=>⟨BUT hs hN hg hf hx hlt,λy hy=>BEW hN y hy⟩,λhge=>?_⟩⟩⟩⟩⟩
   ·simp only[decide_eq_true (show ((sB a).length:Int)>0 by omega),cond_true,beq_eq_false_iff_ne,ne_eq] at hc
    omega
   ·have e:Nn (sB a) a.st=x.l:=by rw[yU,hc,hx.2,List.take_of_length_le (by omega)];rfl
    rw[e];exact⟨rfl,Nat.le_refl _,λ_ _=>⟨rfl,rfl,rfl,rfl⟩⟩
theorem BNN{s:List Gau}{t:Int}(hN:(AB s).length<=48){m:Nat}(i:Nat)(hx:i<(Cv s t).length/\(Cv s t).length-i=m/\((Cv s t).take (i+1)).filter (Y3 s)=[]):∃y:Nat,(y:Int)=IntKind.i64.wrap ((i:Int)+1)/\(y<=(Cv s t).length/\((Cv s t).take y).filter (Y3 s)=[])/\(Cv s t).length-y<m:=by
 have:=L8 (s:=s) (t:=t)
 exact⟨i+1,(GH (by omega)).symm,⟨hx.1,hx.2.2⟩,by omega⟩
theorem CPC(a:BkS)(h:gI a.w.g a.w.b)(h2:0<=a.st/\a.st<=2000)(h3:sB a=[]):BWE a:=by
 rw[CGD]<;> delta LI Wo UD KA LV JY fD Qj X9 LL HV GZ JJ NX HU EZ AK aD AN FI AE BA BN IQ BH CV DC ER NC TD KE Ff FD ZN sA FT HA CG NZ BP GU TA G5 HT LH HR ZP We ZV Cw VZ DN BM cP Ft aS Wm Hh Fc Ro DJ Df Qa Ra PQ Og UI VU ND BI mP AXF fI AAC ZO IF Cy rK uE hJ CS AG AP AI AO AMJ AJ Rp Fl AR DF Ri VR KS Qv yN VW QM Dc MY IT AS CM SY EL BB Ib AWB gQ DY HZ IG QR BG HC RQ BW DK DG aZ Kk DI E4 MK JH TQ DO BO GJ sO VT HD AM AQ JI EP CL LP PS ZX JO ZW M7 Na ABE KC EJ EB MM DR IW EQ EX HS CI ANF OS XJ Wn FP Ka yR EV WC AAA KB EI GI NK BC mJ Pz EU UG GM aX AV Qk FH lX OT rN DT RR Fp eI ZQ Mz PT Ce JD EO HQ BK Zt wK tG AU IY U9 HI AL EY Tn AKL Lu FA SC uA PD Uo FJ FW Mn Ga zM DZ PF Kq dU FK RJ AFE BS kO SJ SD Pv Wz PI zT IA VB DV BE RB Dv iS FE EM sI EG HX CK Jq AFC HW CJ BR QJ PL pZ BY UA GE Ve Eh KL IZ EF BQ LA BU KX ON zK GD cU HH Sf UY HL DU Lb OR Cq Gu jK PX dQ LO US Iz DW DX Tr Ap Yd Dr jO BD AGL WH MV MR FQ MQ Hi Yr Lm JQ FO Ns GQ HG HF CN CW lM AHR MS NT NQ FG OE Uj WI JR XE FY MG AIN Dk GF MD oD JE JM TX QB VD SK Zm AGK Bf PY Ny Sr AFA HJ Xk QC zN YI wJ tA Ju NS KM Zq Yi Co Qh Lw rC T5 Ha PK Lj Yf XV Wx Ph OL Qq Un GV OU Yx Jc kM XA ZI PG Jt Qz oM kG Ip TO GX Gx AGX Er Q5 Zy Kx Zz aQ Pd LB NJ UO sL OP vB AGD vO SB sV Hb TL As qO OW KV Zp NM jF XG Yl Pg yY Yb QL kY TH TR RG NL MU Cn Ct Cb Ag Fw jB Be Am RL RX kS QA QO Bw XU Gf T1 Ax Yh UQ QG Yk Cd Bc XN T6 Ay Au Ao zZ jD Bj tW PE TV Cf LU Ai P5 Cg eD Mc kQ Bo Me Ck SI Lf Ms Oo Ls Qt Le SP WJ Ku Es Ly R8 WS Cp QV Cc Bb Cl O9 WK YM Tj Sp Y4 O4 Bi Al SS Bn Mf Lr Sz Td Tf Br Ig Tp fS Av To tE cC bV eY fC Ou Ej Xx fR eJ dM dO Xu Ye Ma fZ eL Qu fY fQ cJ Mq cK So gF Ut Qo fU Tk bP jV oV fA bR qJ oO jI qM pQ Cr bZ jM;simp only[CC,CU,P3,show aE a.w a.k=sB a from rfl,if_true]
 obtain⟨hs,hN,hg⟩:=BSD h
 have hf:gV (sB a)=[]:=CBH h3
 have h0:(AB (sB a)).length=0:=by rw[h3];rfl
 have hS:(sB a).length=0:=by rw[h3];rfl
 have ok:∀x,PO x->(sB a).length<4611686018427387904/\∀g:Gau,List.Mem g (sB a)->PO x/\Ht g:=λx hx=>⟨by omega,λg hgs=>⟨hx,hg g hgs⟩⟩
 have hc:(bif decide (((sB a).length:Int)>0) then ((gV (sB a)).length:Int)==0 else false)=false:=by rw[hS];rfl
 refine⟨h,λhh=>⟨?a,?b1⟩,λhh=>⟨⟨⟨by omega,⟨0,rfl,Nat.zero_le _,rfl⟩,λi ⟨hi,hp⟩=>?c,λx ⟨hi,hp⟩=>?d⟩,?e⟩,?b2⟩⟩
 case a=>
  refine⟨default,?_⟩
  rw[AHH hh,BQL hh]
  exact⟨rfl,λ_ _=>⟨rfl,rfl,rfl⟩,rfl,λ_ _=>rfl,λ_=>rfl,λ_=>rfl,λ_=>⟨rfl,λ_ _=>⟨rfl,rfl,rfl,rfl⟩⟩,by show 0=(gV (sB a)).length;rw[hf];rfl⟩
 case e=>exact⟨default,rfl,λ_ _=>⟨rfl,rfl,rfl⟩,rfl,λ_ _=>rfl,λ_=>rfl,λ_=>rfl,BOV,by rw[hf];rfl⟩
 case c=>exact⟨λhlt=>absurd hlt (by omega),λhge=>⟨default,by rw[hf];rfl⟩⟩
 case d=>
  refine⟨λhlt=>absurd hlt (by omega),λhge=>⟨default,?_⟩⟩
  have hx:x.l=gV (sB a):=by rw[hp,show x.i=(AB (sB a)).length by omega,vV];rfl
  rw[hx];exact⟨rfl,Nat.le_refl _,λ_ _=>⟨rfl,rfl,rfl,rfl⟩⟩
 all_goals
  have hmo:∀i:Nat,i<=(AB (sB a)).length->hY (sB a) a.st i=Cv (sB a) a.st:=λi h1=>by
   rw[show i=(AB (sB a)).length by omega,AOU]
  have hML:=L8 (s:=sB a) (t:=a.st)
  refine⟨λhc=>?_,λ_=>⟨h2,by omega,BOG _ _,λi hi=>⟨λhlt=>BVD hN hlt,λhge=>⟨⟨0,⟨by rw[hmo i hi],by rw[hmo i hi],rfl,by rw[hmo i hi],λj _=>by rw[hmo i hi];exact⟨rfl,rfl,rfl,rfl⟩⟩,Nat.zero_le _,rfl⟩,λx ⟨hx,hy⟩=>⟨λhlt=>⟨?_,λy hy=>BNN hN y hy,λy hy=>BEW hN y hy⟩,λhge=>?_⟩,λx hx=>⟨λhlt=>⟨BUT hs hN hg (by rw[hf];exact Nat.zero_le _) hx hlt,λy hy=>BNN hN y hy,λy hy=>BEW hN y hy⟩,λhge=>?_⟩⟩⟩⟩⟩
  ·rw[hS] at hc;cases hc
  ·have h':x<(Cv (sB a) a.st).length:=Int.ofNat_lt.1 hlt
   refine⟨⟨⟨by omega,hlt⟩,h'⟩,λhr=>ok _ (dG.1 hr),λhp=>⟨⟨by omega,by omega,by omega,by omega,by omega⟩,⟨x,[gD (Cv (sB a) a.st) x]⟩,⟨rfl,rfl,rfl,oneL _⟩,h',rfl,?_⟩,λhp=>⟨x,rfl,h',rfl,?_⟩⟩
   ·show [_]=_
    rw[AOX h',if_pos (show Y3 (sB a) (gD (Cv (sB a) a.st) x)=true from hp),hy,hf];rfl
   ·rw[AOX h',if_neg (by intro hq;have hq:(bif Ww (gD (Cv (sB a) a.st) x) then (sB a).all λg=>WE (gD (Cv (sB a) a.st) x) g else false)=true:=hq;rw[hp] at hq;cases hq),hy];rfl
  ·have hz:(Cv (sB a) a.st).filter (Y3 (sB a))=[]:=by rw[<-hy,List.take_of_length_le (by omega)]
   rw[yU,hc,hf,hz];rfl
  ·have e:Nn (sB a) a.st=x.l:=by rw[yU,hc,hx.2,List.take_of_length_le (by omega)];rfl
   rw[e];exact⟨rfl,Nat.le_refl _,λ_ _=>⟨rfl,rfl,rfl,rfl⟩⟩
theorem BZR:AH Try.prog ASP (C_lns.spec dBkS):=Ctr.spec_ok (C:=C_lns) (λ(a:BkS) h=>by
 have h:gI a.w.g a.w.b/\0<=a.st/\a.st<=2000:=h
 by_cases h3:sB a=[]
 ·exact Dy (A:=BSS a) (ren:=[]) (fz:=[403]) AZN (by kernel_rfl) (AA AME (AA C2 (AA B6 (AA bS (AA F3 (AA X2 (AA CDU AD))))))) (CPC a h.1 h.2 h3) (K2 Fz (BGU a) rfl rfl (AA F3 (AA bS (AA X2 AD))) sM (by kernel_rfl) (by kernel_rfl))
 ·exact Dy (A:=BVE a) (ren:=[]) (fz:=[403]) AZN (by kernel_rfl) (AA AME (AA C2 (AA B6 (AA bS (AA F3 (AA X2 (AA CFN AD))))))) (COF a h.1 h.2 h3) (K2 Fz (BGU a) rfl rfl (AA F3 (AA bS (AA X2 AD))) sM (by kernel_rfl) (by kernel_rfl))) _
end Go.Bal
