/- Package rating: lines of a part that bound its flows. -/
import Derived.Test.YtbmlgdlbffmjjaaGreatRatF
set_option linter.unusedVariables false
set_option linter.unusedSimpArgs false
namespace Go.Bal
open Go Go.Sym Go.Proofs
def rowL(l:List Ln):AObj:=.row 4 l.length λi=>eLn (gD l i)
def dLs1:List AVal->Heap->Option (List Ln×List (Nat×Nat)×List Nat)
 |[y],H=>match dLns y H with
  |some (l,f)=>some (l,[],f)
  |none=>none
 |_,_=>none
def C_cloN:Ctr:={ α:=List Ln,xs:=λl=>[.d (N8 l)],L:=λ_=>[],val:=λl=>.own 0 4 0 l.length,keep:=λl=>[(0,.live (rowL l))],pre:=λl=>[0<l.length/\l.length<1073741824] }
def BUY:Ann:={ ann 8 [] with mt:=λid=>id==3 }
def BUJ(l:List Ln):Prop:=AX Try.prog BUY L3 (AF L3) (C_cloN.xs l) (AC []) (C_cloN.val l) (C_cloN.keep l) [(0,4032)] []
abbrev Uy a b c(d:Nat->Prop):=Jw a (AN b c) d
abbrev Xc a:=KJ a 0
abbrev cD a:=FV UD (IC a)
attribute [go_sem] Uy Xc cD
theorem CDO(l:List Ln):(BUJ l)=(And (Ga (HR l)) (Uy (KY (Ay AM 0 EK) (RF FW (HR l) 4) (cD (HR l)) (AP (HR l)) 9223372036854775807 (LS (Df (AP (HR l)) 32))) (HR l) (AP (HR l)) (λi=>FH i (HR l) (WI l i l (Xc i)) (EU l i) (EU l (Xc i)) (EQ l i) (EQ l (Xc i)) (ES l i) (ES l (Xc i))))):=by kernel_rfl
def nilN:DVal:=.list 0 0 (λ_=>default) false
def C_cloE:Ctr:={ α:=One,xs:=λ_=>[.d nilN],L:=λ_=>[],val:=λ_=>.d gK,keep:=λ_=>[] }
def dNil:List AVal->Heap->Option (One×List (Nat×Nat)×List Nat)
 |[.d (.list 0 0 _ _)],_=>some (default,[],[])
 |_,_=>none
def BZS:Ann:={ ann 8 [] with md:=λid=>if id=3 then some (λk=>if k=0 then 4 else 0) else none }
def BZO(_x:One):Prop:=AX Try.prog BZS L3 (AF L3) (C_cloE.xs _x) (AC []) (C_cloE.val _x) [] [] []
abbrev UM:=XD 4
abbrev SH a:=Sc a 0
attribute [go_sem] UM SH
theorem CGB(_x:One):(BZO _x)=(Nr (FB AM SH) (KY (Ay FW 0 EK) UM (cD 0) 0 9223372036854775807 (LS 0)) AM):=by kernel_rfl
theorem CAW:AH Try.prog ADP (C_cloN.spec dLs1):=PU C_cloN (λ_=>BUY) [(0,4032)] [] AVQ (λ_=>by kernel_rfl) (λ_=>AD) (λ(l:List Ln) h=>by
 show BUJ l;rw[CDO]<;> delta LI UD LQ HV GZ JJ HU AK AN AE BA BM CW KJ FW HD NZ HR LF Df AG AP AI AO AR Rc IF HB AM ES JK KD EQ GI EU UH FH HQ FV RF IC PK KY Tr LS Jw Uy Em EK WI Ay Ga Xc cD;simp only[CC,CU]
 obtain⟨h1,h2⟩:0<l.length/\l.length<1073741824:=h
 exact⟨h1,⟨λ_=>h1,by omega,by omega⟩,λ_ _=>⟨rfl,rfl,rfl,rfl⟩⟩) (λ_=>RR rfl rfl) _
theorem CGO:AH Try.prog ADP (C_cloE.spec dNil):=PU C_cloE (λ_=>BZS) [] [] AVQ (λ_=>by kernel_rfl) (λ_=>AD) (λ(x:One) _=>by
 show BZO x;rw[CGB]<;> delta LI UD HU AN AE BA BM CW FW AG AI AO Rn AR DR AM FB GI nE Sc FV IC KY LS EK Ay XD SH UM Nr cD;simp only[CC,CU]
 exact⟨by omega,by simp,by omega,by omega⟩) (λ_=>RR rfl rfl) _
structure BkS where
 w:Bk
 k:Int
 st:Int
def dBkS:List AVal->Heap->Option (BkS×List (Nat×Nat)×List Nat)
 |[.bptr id _,.d k,.d t],H=>match BFI H id with
  |some (w,q)=>some (⟨w,LO k,LO t⟩,[(100,id),(101,q)],[])
  |none=>none
 |_,_=>none
def N9(w:Bk)(k:Int):Bk:=⟨w.g,w.b,QH w.has k,wJ w.has w.st k⟩
def moB(t:Int):List Ln:=[TG ⟨t,0⟩,TG ⟨t,200000⟩]
def gU(s:List Gau)(t:Int)(i:Nat):List Ln:=moB t ++ ((AB s).take i).flatMap λp=>[pT ⟨t,0⟩ p,pT p ⟨t,200000⟩]
def Cv(s:List Gau)(t:Int):List Ln:=moB t ++ (AB s).flatMap λp=>[pT ⟨t,0⟩ p,pT p ⟨t,200000⟩]
def S4(s:List Gau)(x:Ln):Bool:=bif Zc x then Rp s x else false
def No(s:List Gau)(t:Int):List Ln:=bif (bif decide (0<s.length) then decide ((hU s).length=0) else false) then [] else hU s ++ (Cv s t).filter (S4 s)
structure LnK where
 i:Nat
 l:List Ln
 deriving Inhabited
structure LnJ where
 i:Nat
 j:Nat
 l:List Ln
 deriving Inhabited
def sB(a:BkS):List Gau:=Zt a.w a.k
def lsH(a:BkS)(c:AVal):List (Nat×HCell):=bkK a.w ++ [(2048,.live (.box [.d (KB (sB a))])),(3144,.live (.box [c]))]
def lsR(a:BkS)(l:List Ln):List (Nat×HCell):=lsH a (.own 401 4 0 l.length) ++ [(401,.live (rowL l))]
def lsPt(p:Pt):HCell:=.live (.box [.int p.st,.int p.fl])
def lsOn(a:BkS)(l:Nat):Shape:={ α:=Nat,dflt:=0,T:=λi=>⟨lnS (sB a) l i,lsH a (.d gK)⟩,inv:=λi=>i<=(AB (sB a)).length/\(Xq (sB a) i).filter (Rp (sB a))=[],meas:=λi=>(AB (sB a)).length-i }
def lsOo(a:BkS)(l:Nat):Shape:={ α:=LnK,dflt:=default,T:=λx=>⟨lnS (sB a) l x.i,lsR a x.l⟩,inv:=λx=>x.i<=(AB (sB a)).length/\x.l=(Xq (sB a) x.i).filter (Rp (sB a)),meas:=λx=>(AB (sB a)).length-x.i }
def lsIs(a:BkS)(l i j:Nat):List (Nat×AVal):=[(5,.bptr 205 0),(22,.d (ePts (AB (sB a)))),(23,.int (AB (sB a)).length),(24,.int j)] ++ lnS (sB a) l i
def lsIn(a:BkS)(q l:Nat):Shape:={ α:=IJ,dflt:=default,T:=λx=>⟨lsIs a l x.i x.j,(205,lsPt (gD (AB (sB a)) x.i)) :: lsH a (.d gK)⟩,inv:=λx=>x.i<(AB (sB a)).length/\x.j<=(AB (sB a)).length/\(AB (sB a)).length-x.i=q/\(TN (sB a) x.i x.j).filter (Rp (sB a))=[],meas:=λx=>(AB (sB a)).length-x.j,first:=[(205,104032)] }
def lsIo(a:BkS)(q l:Nat)(r:List (Nat×Nat)):Shape:={ α:=LnJ,dflt:=default,T:=λx=>⟨lsIs a l x.i x.j,(205,lsPt (gD (AB (sB a)) x.i)) :: lsR a x.l⟩,inv:=λx=>x.i<(AB (sB a)).length/\x.j<=(AB (sB a)).length/\(AB (sB a)).length-x.i=q/\x.l=(TN (sB a) x.i x.j).filter (Rp (sB a)),meas:=λx=>(AB (sB a)).length-x.j,first:=(205,104032) :: r,again:=r }
noncomputable def BJL(a:BkS):IterAnn:={ fn:=fN,code:=AF fN,live:=[0,1,2,7,8],ann:={ base:=λid=>100000+1000*(id+1),Γ:=Sym.look [(ALA,C_ends.spec A5),(nM,xE),(AJF,AYK)],E:=[100,101,2048,3144],n:=41,inner:=λgs id=>if id=2 then some [lsOn a (gs.getD 0 0),lsOo a (gs.getD 0 0)] else if id=6 then some [lsIn a (gs.getD 0 0) (gs.getD 1 0),lsIo a (gs.getD 0 0) (gs.getD 1 0) [],lsIo a (gs.getD 0 0) (gs.getD 1 0) [(401,8048)]] else none } }
def ls8s(a:BkS):List (Nat×AVal):=[(0,.bptr 100 0),(1,.int a.k),(2,.int a.st),(7,.bptr 2048 0),(8,.bptr 3144 0)]
def ls8n(a:BkS):Shape:={ α:=One,dflt:=default,T:=λ_=>⟨ls8s a,lsH a (.d (N8 (hU (sB a))))⟩,inv:=λ_=>True,meas:=λ_=>0 }
def ls8o(a:BkS):Shape:={ α:=One,dflt:=default,T:=λ_=>⟨ls8s a,lsH a (.d (N8 (hU (sB a))))⟩,inv:=λ_=>True,meas:=λ_=>0,ffz:=[401] }
def lsU(a:BkS)(z:DVal):List (Nat×HCell):=bkK (N9 a.w a.k) ++ [(2048,.live (.box [.d (KB (sB a))])),(3144,.live (.box [.d z]))]
def ls9(a:BkS)(z:DVal):Shape:={ α:=One,dflt:=default,T:=λ_=>⟨[(2,.int a.st),(7,.bptr 2048 0),(8,.bptr 3144 0)],lsU a z⟩,inv:=λ_=>True,meas:=λ_=>0 }
def ls14(a:BkS)(z:DVal):Shape:={ α:=Nat,dflt:=0,T:=λi=>⟨[(7,.bptr 2048 0),(8,.bptr 3144 0),(11,.bptr 12064 0),(12,.bptr 12080 0),(13,.own 402 4 0 (gU (sB a) a.st i).length),(67,.d (ePts (AB (sB a)))),(68,.int (AB (sB a)).length),(69,.int i)],lsU a z ++ [(12064,.live (.box [.int a.st,.int 0])),(12080,.live (.box [.int a.st,.int 200000])),(402,.live (rowL (gU (sB a) a.st i)))]⟩,inv:=λi=>i<=(AB (sB a)).length,meas:=λi=>(AB (sB a)).length-i,first:=[(402,13064)],again:=[(402,17128)] }
def BFN(a:BkS)(v:AVal)(i:Nat):List (Nat×AVal):=[(7,.bptr 2048 0),(16,v),(85,.own 402 4 0 (Cv (sB a) a.st).length),(86,.int (Cv (sB a) a.st).length),(87,.int i)]
def BGZ(a:BkS):List (Nat×HCell):=bkK (N9 a.w a.k) ++ [(2048,.live (.box [.d (KB (sB a))])),(402,.live (rowL (Cv (sB a) a.st)))]
def CSC(a:BkS):Shape:={ α:=Nat,dflt:=0,T:=λi=>⟨BFN a (.d gK) i,BGZ a⟩,inv:=λi=>i<=(Cv (sB a) a.st).length/\((Cv (sB a) a.st).take i).filter (S4 (sB a))=[],meas:=λi=>(Cv (sB a) a.st).length-i }
def CJX(a:BkS):Shape:={ α:=LnK,dflt:=default,T:=λx=>⟨BFN a (.own 403 4 0 x.l.length) x.i,BGZ a ++ [(403,.live (rowL x.l))]⟩,inv:=λx=>x.i<=(Cv (sB a) a.st).length/\x.l=hU (sB a) ++ ((Cv (sB a) a.st).take x.i).filter (S4 (sB a)),meas:=λx=>(Cv (sB a) a.st).length-x.i,first:=[(403,19016)] }
def CTI(a:BkS)(m:Nat):Shape:={ α:=Nat,dflt:=0,T:=λi=>⟨BFN a (.d gK) i,BGZ a⟩,inv:=λi=>i<(Cv (sB a) a.st).length/\(Cv (sB a) a.st).length-i=m/\((Cv (sB a) a.st).take (i+1)).filter (S4 (sB a))=[],meas:=λ_=>0 }
def BHD(a:BkS)(m:Nat)(f:List (Nat×Nat)):Shape:={ α:=LnK,dflt:=default,T:=λx=>⟨BFN a (.own 403 4 0 x.l.length) x.i,BGZ a ++ [(403,.live (rowL x.l))]⟩,inv:=λx=>x.i<(Cv (sB a) a.st).length/\(Cv (sB a) a.st).length-x.i=m/\x.l=hU (sB a) ++ ((Cv (sB a) a.st).take (x.i+1)).filter (S4 (sB a)),meas:=λ_=>0,first:=f }
def C_lns:Ctr:={ ro:=[100],α:=BkS,xs:=λa=>[.bptr 100 0,.int a.k,.int a.st],L:=λa=>bkL a.w,val:=λa=>.d (N8 (No (sB a) a.st)),keep:=λa=>bkK (N9 a.w a.k),pre:=λa=>[gJ a.w.g a.w.b/\0<=a.st/\a.st<=2000] }
def CHM(c:Sym.Spec):List (FuncId×Sym.Spec):=[(AFL,C_inside.spec dBkI),(xS,C_through.spec dGsK),(mN,C_passing.spec dGsL),(nM,xE),(ALA,C_ends.spec A5),(AJF,AYK),(ADP,c)]
noncomputable def BRA(a:BkS):Ann:={ ann 104 (CHM (C_cloN.spec dLs1)) with E:=[100,101],mt:=λid=>id==7||id==16||id==23,md:=λid=>if id=2 then some (λk=>if k=5 then 3 else 0) else none,iter:=λg=>if g=Fj then some (BJL a) else none,loops:=λid=>if id=14 then some [ls14 a (N8 (hU (sB a)))] else if id=20 then some [CJX a] else none,cut:=λid=>if id=8 then some [ls8n a,ls8o a] else if id=9 then some [ls9 a (N8 (hU (sB a)))] else none,cutIn:=λgs id=>if id=24 then some [BHD a (gs.getD 0 0) [(403,24048)],BHD a (gs.getD 0 0) []] else none }
noncomputable def BSE(a:BkS):Ann:={ ann 104 (CHM (C_cloE.spec dNil)) with E:=[100,101],mt:=λid=>id==7||id==16||id==23,md:=λid=>if id=2 then some (λk=>if k=5 then 3 else 0) else none,iter:=λg=>if g=Fj then some (BJL a) else none,loops:=λid=>if id=14 then some [ls14 a nilN] else if id=20 then some [CSC a,CJX a] else none,cut:=λid=>if id=8 then some [ls8n a,ls8o a] else if id=9 then some [ls9 a nilN] else none,cutIn:=λgs id=>if id=24 then some [CTI a (gs.getD 0 0),BHD a (gs.getD 0 0) [(403,24048)],BHD a (gs.getD 0 0) []] else none }
def BVV(a:BkS):Prop:=AX Try.prog (BRA a) L8 (AF L8) (C_lns.xs a) (AC (C_lns.L a)) (C_lns.val a) (C_lns.keep a) [] [403]
abbrev Pm:=BkS.k
abbrev PQ:=BkS.w
abbrev Rb:=@List.Mem Int
abbrev UF:=BkS.st
abbrev VV:=@Exists LnK
abbrev NP:=LnK.l
abbrev BJ:=LnK.i
abbrev mR:=@Eq (List Ln)
abbrev AXT:=@List.filter Ln
abbrev fQ:=λ(f:LnK->Prop)=>∀(x:LnK),f x
abbrev AAD:=@List.nil Ln
abbrev Ad:=@Exists LnJ
abbrev IG:=LnJ.j
abbrev Cw:=LnJ.i
abbrev rT:=LnJ.l
abbrev vR:=λ(f:LnJ->Prop)=>∀(x:LnJ),f x
abbrev hJ:=@cond Nat
abbrev AVW a b:=N9 (PQ a) (Pm b)
abbrev Nb a b c:=IU (AVW a a) b c
abbrev ZP a:=AVW a a
abbrev Ub a b:=RU (ZP a) b
abbrev ZH a b:=Cs (Ub a b) (λi=>Px i (Ub a b) (Nb a b i))
abbrev Pe a:=DJ (λi=>ZH a i)
abbrev MR a:=Hg (ZP a)
abbrev MU a:=dR (ZP a)
abbrev VX a:=Fe (ZP a)
abbrev Qh a:=EF (VX a)
abbrev MO a:=HT (VX a)
abbrev D2 a b c d e:=uA a (Fw b) c d e
abbrev Xr a b c:=D2 a b c c c
abbrev aZ a b:=Dd (ZP a) b
abbrev PY a b:=Xr a (ZP b) (aZ b a)
abbrev wE a:=AE (λi=>PY i a)
abbrev MS a:=yN (ZP a)
abbrev DX a b:=ES (NP a) b
abbrev zC a b:=No (sB a) b
abbrev YS a:=zC a (UF a)
abbrev DV a b:=EQ (NP a) b
abbrev DU a b:=EU (NP a) b
abbrev Xw a:=HR (YS a)
abbrev PN a:=HR (NP a)
abbrev N4 a:=Cv (sB a) (UF a)
abbrev IS a:=HR (N4 a)
abbrev PV a b:=KJ (IS a) b
abbrev FO a b:=PV a (BJ b)
abbrev AKF a b:=mR (NP a) b
abbrev C8 a b:=AXT (S4 (sB a)) ((@List.take Ln) b (N4 a))
abbrev Kl a:=hU (sB a)
abbrev AHR a b:=(@HAppend.hAppend (List Ln) (List Ln) (List Ln) (@instHAppendOfAppend (List Ln) (@List.instAppend Ln))) (Kl a) (C8 a b)
abbrev jN a b c:=AKF a (AHR b c)
abbrev Li a b c:=jN a b (BJ c)
abbrev Ws a b:=ABC AM a b
abbrev To a b:=AN (PN a) b
abbrev Pg a b:=To a (PN b)
abbrev Tj a b c:=Ws (Pg a b) c
abbrev R5 a b c d e f g h p:=AS a b c (MS d) (wE e) (MO f) (Qh g) h p
abbrev kM a:=EI (IS a)
abbrev Gj a:=AR (IS a)
abbrev Bh a b c d e f g h:=R5 (Gj a) (kM b) c d e f g EO h
abbrev B9 a b:=Ab a (sB b) (sB b) a
abbrev Fu a:=AE (λi=>B9 i a)
abbrev Zn a:=BW (sB a)
abbrev S0 a b c d e f(g:Nat->Prop) h(p:Nat->Prop):=ZF (MU a) (MR b) (Pe c) (Zn d) (Fu e) f g h p
abbrev Bb a b c d e f(g:Nat->Prop) h(p:Nat->Prop):=S0 a b c d e (Gj f) g h p
abbrev NT a b c d e f g h p:=FH a (PN b) c d e f g h p
abbrev P4 a b c:=NR (NP a) b c
abbrev Un a b c:=P4 a b (NP c)
abbrev Lm a b:=ES (N4 a) b
abbrev Lv a b:=EQ (N4 a) b
abbrev jY a b:=LF (N4 a) b
abbrev QV a b c d e f g h:=rF a (IS b) (jY c d) (Lv e f) (Lm g h)
abbrev iH a b:=AU (BJ a) b
abbrev lI a:=CL (BJ a)
abbrev iZ a b:=BM a (IS b)
abbrev Cu a b:=iZ (BJ a) b
abbrev It a b c d:=Om a 4 b c d
abbrev lO a b c d e f g h p:=Ks a b c (It d e f g) h p
abbrev Je a b c d e f:=PI a b c d (mR e f)
abbrev Ve a b:=AHR a (lI b)
abbrev R0 a b:=BC (BJ a) b
abbrev eX a b:=R0 a (BJ b)
abbrev OZ a b c d:=KC a (PN b) c d
abbrev gC a:=AP (BJ a)
abbrev Lr a b:=Lm a (gC b)
abbrev Mg a b:=Lv a (gC b)
abbrev Py a b:=EU (N4 a) b
abbrev Lk a b:=Py a (gC b)
abbrev ZD a b c:=UH (LF a b) c
abbrev Tl a b:=jY a (gC b)
abbrev bV a b:=LQ (Tl a b)
abbrev Yb a:=CL (PN a)
abbrev dQ a b:=To a (Yb b)
abbrev uM a:=RX a 32
abbrev oW a:=uM (PN a)
abbrev Zo a:=Ku a 4
abbrev qK a:=Zo (PN a)
abbrev Ka a:=BB (sB a)
abbrev Pp a b:=Yc (Ka a) b
abbrev fI a b:=Zc (Tl a b)
abbrev uJ a:=BU (Ka a) (sB a)
abbrev uX a:=CI (Ka a) (sB a)
abbrev Nz a b c d e f:=HF (uX a) (uJ a) b (pH c d e (OP (Ka a)) (λi=>XB i (Ka a) (Lj f i)))
abbrev Ar a:=iX (Kl a)
abbrev Pk a:=HR (Ar a)
abbrev Gu a b:=gU (sB a) (UF a) b
abbrev Al a b c:=ES (Gu a b) c
abbrev Cg a b c:=EQ (Gu a b) c
abbrev Bj a b c:=EU (Gu a b) c
abbrev Ti a b c:=HQ a (LF b c)
abbrev SD a b:=HR (Gu a b)
abbrev fA a b c:=AN (IS a) (SD b c)
abbrev iJ a b:=ES (Kl a) b
abbrev kD a b:=EQ (Kl a) b
abbrev kT a b:=EU (Kl a) b
abbrev OJ a:=HR (Kl a)
abbrev MY a:=aV (AB (sB a))
abbrev aY a b:=KJ (MY a) b
abbrev iL a b c d e:=EV a b (aY c d) (aY c e)
abbrev Mn a b:=NZ a (MY b)
abbrev AAT a:=EI (MY a)
abbrev AON a b:=Wk (AB (sB a)) b
abbrev TI a b:=Qe (AON a b)
abbrev AMG a b:=AJ (TI a b)
abbrev QS a b:=dO (AON a b)
abbrev UO a b:=PS a (MY b) (QS b a) (AMG b a)
abbrev uO a:=AE (λi=>UO i a)
abbrev Ll a b c d e:=AI (uO a) (AAT b) c d e
abbrev Yo(a:Nat->Prop) b c d e f(g:Int->Prop) h p:=cG a b c d e f g (Zn h) p
abbrev Cp a b c d e f g h p:=KC a (SD b c) d (RV (KJ e (SD f g)) h p)
abbrev Xh a b c:=AN (SD a b) c
abbrev Co a b:=nY (SD a b)
abbrev bY:=BO 200000
abbrev Hl a:=AJ (UF a)
abbrev mK a:=AR (MY a)
abbrev Yt a b:=BE a (MY b)
abbrev AFR a b:=rZ (T6 (UF a) b)
abbrev Bm a:=AFR a 200000
abbrev Ba a:=AFR a 0
abbrev dJ a b:=Xh a b 2
abbrev cV a:=EM (Ka a)
abbrev Lx a:=NS (Xw a)
abbrev eY a:=QI (BH a)
abbrev TM a:=Xi a 0
abbrev Iy a b(c:Nat->Prop):=FB (AN a b) c
abbrev Sr a b c d e f g h p:=FH a b c (HV d) e f g h p
abbrev Aa a b c:=IU (PQ a) b c
abbrev Zk a b c:=JJ (Aa a b c)
abbrev Sp a b:=(λ(x0 x1:Int)=>decide (x0=x1)) a (Pm b)
abbrev aE a b c:=GZ (Aa a b c)
abbrev Vx a b:=RU (PQ a) b
abbrev cI a b c:=AK (Pz a b) c
abbrev Ix a b c:=LI (De a b) c
abbrev TB a:=Fe (PQ a)
abbrev tI a b:=Dd (PQ a) b
abbrev dI a b:=JZ (tI a b)
abbrev fG a b:=LX (tI a b)
abbrev gA a b:=KA (tI a b)
abbrev Fy a b:=CI a (Fw b)
abbrev OK a b:=Fy (Fw a) b
abbrev wG a b:=CW (AP a) b
abbrev Nw a:=wG a a
abbrev dE a b:=Cs (Vx a b) (λi=>tK i (Vx a b) (Aa a b i) (Aa a b i) (Aa a b i))
abbrev Mc a:=Hg (PQ a)
abbrev Ms a:=dR (PQ a)
abbrev iP a:=HT (TB a)
abbrev IZ a b:=D2 a (PQ b) (tI b a) (tI b a) (tI b a)
abbrev Dp a:=yN (PQ a)
abbrev oI a:=AJ (Pm a)
abbrev Ag a b c d e f g h:=UT a b (MY c) (Yt b d) e f g h
abbrev Lq a b:=CW a (MY b)
abbrev tP a b c:=And (Lq a b) c
abbrev Ci a b c d e f:=iL a (tP b c d) e b f
abbrev AJO a b:=AXT (Rp a) b
abbrev AGR a b:=AJO (sB a) (Xq (sB a) b)
abbrev Vd a b c:=AKF a (AGR b (BJ c))
abbrev yS a b c d:=AI a b c b d
abbrev Wu a b c:=yS (PG a) (mK b) (uO b) c
abbrev Yv a b:=Yo (λi=>IZ i a) (iP a) (TB a) EO (Ms a) (Mc a) (λi=>dE a i) a b
abbrev Xn a b c(d:Nat->Prop):=Uy (Fu a) b c d
abbrev DI a b:=LF (rT a) b
abbrev BS a b:=JJ (DI a b)
abbrev BQ a b:=GZ (DI a b)
abbrev Cb a b:=HV (DI a b)
abbrev Tt a b c:=Em (NP a) b c
abbrev Po a:=HR (rT a)
abbrev dU a b:=iH a (Cw b)
abbrev AKB a b c d e f g:=Je a (Lq b c) (aY c d) (aY c e) f g
abbrev AFZ a b c:=AJO (sB a) (TN (sB a) b c)
abbrev iE a b:=AFZ a (Cw b) (IG b)
abbrev ADV a b:=BM a (MY b)
abbrev lJ a b:=ADV (Cw a) b
abbrev Yz a b c d e:=AKB (lJ a b) (IG c) d (Cw c) e (rT c) (iE d c)
abbrev Wr a b c d e:=iL a (Yz b c b c d) c (IG b) e
abbrev Jr a b c d e:=Wr a b c d (IG e)
abbrev Mq a b c d e:=Jr a b c (BJ d) e
abbrev Xu a b:=KQ (uO a) (mK a) (AAT a) b
abbrev OS a b:=TI a (Cw b)
abbrev EJ a b:=QS a (Cw b)
abbrev Dm a b c d e f g h:=FJ (mK a) (uO a) (AAT a) b (PG c) (mK a) (Xu a (OD (BC (Cw d) e) (EJ a d) f (OS a d) g (Dp a) h))
abbrev OY a b c d e f g h p:=Dm a b c d (Cw e) f (OS g h) p
abbrev Fq a b c(d:Nat->Prop):=Yv a (Xn a (Po b) c d)
abbrev Aj a b c(d:Nat->Prop):=Fq a b (Po c) d
abbrev ME a b c d e f g h p:=Sr a b c d (HV e) f g h p
abbrev XH a b c d e f g h p:=ME a (Po b) c d e f g h p
abbrev vZ a b c:=HQ (DI a b) c
abbrev Cm a b c d:=vZ a b (DI c d)
abbrev AFD a b:=AU (IG a) b
abbrev OU a b:=AFD a (IG b)
abbrev Az a b c d e f g(h:LnJ->Prop) p:=lO (AR a) b c d e f g (Ad h) p
abbrev TW a b c d e f g h p:=Sr a (Po b) c d e f g h p
abbrev JU a b c d:=KC a (Po b) c d
abbrev Ap a b:=TI a (IG b)
abbrev FZ a b:=QS a (IG b)
abbrev WW a b c:=UH (DI a b) c
abbrev fL a b:=LQ (DI a b)
abbrev Ah a:=CL (Po a)
abbrev cL a:=uM (Po a)
abbrev eO a:=Zo (Po a)
abbrev AIX a b c d e:=Ln.mk a b c (TI d e)
abbrev Ai a b c d e f:=Pp a (AIX b c d e f)
abbrev Bs a b c d e f g h:=Nz a b (AMG c d) e (AMG f g) h
abbrev Bo a b c d e:=kZ (Zc (AIX a b c d e))
abbrev Ol a:=mR a AAD
abbrev Lp a b:=Ol (AGR a b)
abbrev eG a b c:=AG (PG a) (mK b) c
abbrev Sw a b(c:Nat->Prop) d e:=FU a (Dp b) c (iP d) e
abbrev Yf a b c(d:Int->Prop) e f g:=Zd a b c d (Zn e) (λi=>B9 i e) f g
abbrev Xz a:=Yf (TB a) (Ms a) (Mc a) (λi=>dE a i) a AM CK
abbrev Ck a b c d e:=iL a b c (BN d) (BN e)
abbrev T4 a b:=AFZ a (DO b) (BN b)
abbrev W0 a b:=ADV (DO a) b
abbrev PM a b c d e f g h:=AKB (W0 a b) (BN c) d (DO e) f (T4 g h) AAD
abbrev O3 a b c d e f g:=AI (mK a) (uO b) (AAT c) d (Wu e f g)
abbrev An a b c d e f g h:=O3 a b c (C7 d e) f g h
abbrev WT(a:Nat->Prop) b c d e f(g:Nat->Prop) h p:=EX a (AAT b) c d e (Dp f) g (iP h) (Xz p)
abbrev FK a b:=TI a (DO b)
abbrev P1 a b c:=AK (FK a b) c
abbrev Cn a b c d:=P1 a b (FK c d)
abbrev DY a b:=QS a (DO b)
abbrev U0 a b c:=AK (DY a b) c
abbrev Bn a b c d:=U0 a b (DY c d)
abbrev Sz a b(c:Nat->Prop):=Fq a b 1 c
abbrev Av a b:=TI a (BN b)
abbrev GC a b:=QS a (BN b)
abbrev eU a b:=AFD a (BN b)
abbrev bU a b c:=AN a (aY b c)
abbrev qI a:=BD (IG a)
abbrev SR a b:=rZ (AON a b)
abbrev TR a b:=SR a (BJ b)
abbrev gQ a(b:Nat->Gau):=QG (Fw a) b
abbrev J1 a(b:Nat->Gau) c d e:=Bk.mk (gQ a b) c (De d) (Pz e)
abbrev T7 a(b:Nat->Gau) c:=J1 a b (EL c) a a
abbrev QF a:=T7 (PQ a) (λi=>tI a i) (TB a)
abbrev Ig a:=Zt (QF a) (Pm a)
abbrev tD a:=BB (Ig a)
abbrev jH a:=BB (tD a)
abbrev nL a:=EM (jH a)
abbrev YJ a b c d:=cI a b (Pz c d)
abbrev TL a b c:=BA a (And b c)
abbrev fC a:=EL (TB a)
abbrev Kq a:=CW a 24
abbrev RA a b c d e f:=XB a b (UZ (Ch c) (Bf d) (LX e) (LX e) (JZ f))
abbrev Ak a:=gQ (PQ a) (λi=>tI a i)
abbrev Qx a:=Kq (BP a)
abbrev PW a b c(d:Nat->Prop):=Iy a (RU b c) d
abbrev GE a b c:=JJ (IU a b c)
abbrev FY a b c:=GZ (IU a b c)
abbrev QB a b c d:=HQ a (IU b c d)
attribute [go_sem] Pm PQ Rb UF VV NP BJ mR AXT fQ AAD Ad IG Cw rT vR hJ AVW Nb ZP Ub ZH Pe MR MU VX Qh MO D2 Xr aZ PY wE MS DX zC YS DV DU Xw PN N4 IS PV FO AKF C8 Kl AHR jN Li Ws To Pg Tj R5 kM Gj Bh B9 Fu Zn S0 Bb NT P4 Un Lm Lv jY QV iH lI iZ Cu It lO Je Ve R0 eX OZ gC Lr Mg Py Lk ZD Tl bV Yb dQ uM oW Zo qK Ka Pp fI uJ uX Nz Ar Pk Gu Al Cg Bj Ti SD fA iJ kD kT OJ MY aY iL Mn AAT AON TI AMG QS UO uO Ll Yo Cp Xh Co bY Hl mK Yt AFR Bm Ba dJ cV Lx eY TM Iy Sr Aa Zk Sp aE Vx cI Ix TB tI dI fG gA Fy OK wG Nw dE Mc Ms iP IZ Dp oI Ag Lq tP Ci AJO AGR Vd yS Wu Yv Xn DI BS BQ Cb Tt Po dU AKB AFZ iE ADV lJ Yz Wr Jr Mq Xu OS EJ Dm OY Fq Aj ME XH vZ Cm AFD OU Az TW JU Ap FZ WW fL Ah cL eO AIX Ai Bs Bo Ol Lp eG Sw Yf Xz Ck T4 W0 PM O3 An WT FK P1 Cn DY U0 Bn Sz Av GC eU bU qI SR TR gQ J1 T7 QF Ig tD jH nL YJ TL fC Kq RA Ak Qx PW GE FY QB
theorem CDA(a:BkS):(BVV a)=(Ks (AG (oI a) (Fy (Ak a) (PQ a)) (qO (λi=>DZ i (Ak a) (gA a i) (fG a i) (dI a i)) (HI (TB a)) (GQ (TB a)) EO (Ms a) (Mc a) (λi=>Iy (RU (QF a) i) (Vx a i) (λj=>ME j (RU (QF a) i) (HQ (IU (QF a) i j) (Aa a i j)) (IU (QF a) i j) (Aa a i j) (FY (QF a) i j) (aE a i j) (GE (QF a) i j) (Zk a i j))) (CI (Fw (PQ a)) (Ak a)) (qO (λi=>KZ i (PQ a) (gA a i) (DW (Ak a) i) (fG a i) (DK (Ak a) i) (dI a i) (DF (Ak a) i)) (BK (TB a) (fC a)) (BR (TB a) (fC a)) EO (Ms a) (Mc a) (λi=>PW (Vx a i) (QF a) i (λj=>ME j (Vx a i) (QB (Aa a i j) (QF a) i j) (Aa a i j) (IU (QF a) i j) (aE a i j) (FY (QF a) i j) (Zk a i j) (GE (QF a) i j))) (AI (Qx (Ak a)) (SX (λi=>RA i (Ak a) i i i i)) (Kq (JO (TB a))) (Gm ER (fC a)) (DJ (λi=>TL (Rb i (fC a)) (Dt i) (HJ i)))) FW))) EO (De (PQ a) (Pm a)) (NF (FU (Hl a) (OK (ZP a) (PQ a)) (λi=>KZ i (ZP a) (KA (aZ a i)) (gA a i) (LX (aZ a i)) (fG a i) (JZ (aZ a i)) (dI a i)) (BK (VX a) (TB a)) (qL (λi=>HZ i (VX a) (TB a)) (DJ (λi=>Ix (ZP a) i (De (PQ a) i))) (DJ (λi=>YJ (ZP a) i (PQ a) i)) (λi=>Iy (Ub a i) (Vx a i) (λj=>ME j (Ub a i) (HQ (Nb a i j) (Aa a i j)) (Nb a i j) (Aa a i j) (GZ (Nb a i j)) (aE a i j) (JJ (Nb a i j)) (Zk a i j))) (CI (sB a) (Ig a)) (λi=>EH i (sB a) (Ig a)) (AN (OJ a) (Vx a (Pm a))) (AE (λi=>FH i (OJ a) (Em (Kl a) i (Aa a (Pm a) i)) (kT a i) (HV (Aa a (Pm a) i)) (kD a i) (aE a (Pm a) i) (iJ a i) (Zk a (Pm a) i)))))) (Ac (λi=>HK FW (BZ (TM (QA (sB a))) (eY (OJ a))) (Lx a) (QY (Lx a) (MS a) (λj=>PY j a) (MO a) (Qh a) (MU a) (MR a) (Pe a)) (AQ (Bi (WF (UF a)) (UF a) (HJ (UF a))) (PZ (uX a) (uJ a) (UA (Ka a))) (CG (λj=>And (PI AM (dJ a j) (MY a) (cV a) (Af (λk=>TH k (MY a) (QS a k) (NU (Ka a) k) (TI a k) (XI (Ka a) k)) (BC (MY a) (cV a)) (BD j) (MS a) (Yo (λk=>PY k a) (MO a) (VX a) EO (MU a) (MR a) (λk=>ZH a k) a (Hy (Fu a) (AR (OJ a)) (ZG (OJ a) (Kl a)) (Hl a) AL bY (dJ a j) (AE (λk=>FH k (SD a j) (ZD (Gu a j) k (HG k (LQ (Ba a)) (LQ (Bm a)))) (Bj a j k) (HG k (HV (Ba a)) (HV (Bm a))) (Cg a j k) (HG k (GZ (Ba a)) (GZ (Bm a))) (Al a j k) (HG k (JJ (Ba a)) (JJ (Bm a))))))))) (Mn j a))) (AE (λj=>MQ (Mn j a) j (MY a) (AG (Yt j a) (KY (Zo (SD a j)) (Ei 2 4) (cD 2) (Co a j) 9223372036854775807 (LS (Df (Co a j) 32))) (CG (λk=>iL (SU (Xh a k (Co a j)) (mK a) (Ll a a (AU k j) (MS a) (Yo (λl=>PY l a) (MO a) (VX a) EO (MU a) (MR a) (λl=>ZH a l) a (Hy (Fu a) (AR (OJ a)) (ZG (OJ a) (Kl a)) (Hl a) AL bY (Xh a k (Co a j)) (AE (λl=>FH l (SD a k) (ZD (Gu a k) l (Cp l a j (YX (Gu a j) l) l a j (UF a) (QS a j))) (Bj a k l) (Cp l a j (Bj a j l) l a j 0 (TI a j)) (Cg a k l) (Cp l a j (Cg a j l) l a j (QS a j) (UF a)) (Al a k l) (Cp l a j (Al a j l) l a j (TI a j) 200000))))))) (Mn k a) a k j))) (AG (AQ (AN (Pk a) (OJ a)) (AE (λk=>FH k (Pk a) (NR (Ar a) k (Kl a)) (EU (Ar a) k) (kT a k) (EQ (Ar a) k) (kD a k) (ES (Ar a) k) (iJ a k))) (IC (Pk a)) (Bc (Pk a))) (VV (λk=>FD (Ws (To k (Pk a)) (R5 (fA a a j) (BC (IS a) (SD a j)) (BD (BJ k)) a a a a EO (S0 a a a a a (fA a a j) (λl=>FH l (IS a) (Ti (jY a l) (Gu a j) l) (Py a l) (Bj a j l) (Lv a l) (Cg a j l) (Lm a l) (Al a j l)) (To k (Pk a)) (λl=>NT l k (P4 k l (Ar a)) (DU k l) (EU (Ar a) l) (DV k l) (EQ (Ar a) l) (DX k l) (ES (Ar a) l))))) (BJ k) (IS a) (Li k a k))) (fQ (λk=>MQ (CJ (BJ k) (IS a) (Li k a k)) (BJ k) (IS a) (Rn (lO (La (BJ k) (IS a) (gC k)) (FV (fI a k) (Nz a (bV a k) (AJ (Lk a k)) (Mg a k) (AJ (Lr a k)) (PC (Tl a k) (Mg a k) (Lk a k) (Lr a k)))) (BZ (fI a k) (Pp a (Tl a k))) (qK k) JE (Yb k) (oW k) (VV (λl=>Je (Ws (dQ l k) (Bh a a (eX l k) a a a a (Bb a a a a a a (λm=>QV m a a m a m a m) (dQ l k) (λm=>NT m l (ZD (NP l) m (OZ m k (YX (NP k) m) (bV a k))) (DU l m) (OZ m k (DU k m) (Lk a k)) (DV l m) (OZ m k (DV k m) (Mg a k)) (DX l m) (OZ m k (DX k m) (Lr a k)))))) (Cu l a) (FO a l) (FO a k) (NP l) (Ve a l))) (VV (λl=>Je (Tj l k (Bh a a (eX l k) a a a a (Bb a a a a a a (λm=>QV m a a m a m a m) (Pg l k) (λm=>NT m l (Un l m k) (DU l m) (DU k m) (DV l m) (DV k m) (DX l m) (DX k m))))) (Cu l a) (FO a l) (FO a k) (NP l) (Ve a l)))) (fQ (λl=>El (Cu l a) (FO a l) (FO a k) (jN l a (lI l)) (VV (λm=>NM (Tj m l (Bh a a (iH m (BJ l)) a a a a (Bb a a a a a a (λn=>QV n a a n a n a n) (Pg m l) (λn=>NT n m (Un m n l) (DU m n) (DU l n) (DV m n) (DV l n) (DX m n) (DX l n))))) (BJ m) (IS a) (Li m a m) (FO a m) (FO a k)))))) (FD (AN (Xw a) (PN k)) (AP (PN k)) (PN k) (LN (λl=>FH l (Xw a) (WI (YS a) l (NP k) (AP l)) (EU (YS a) l) (DU k (AP l)) (EQ (YS a) l) (DV k (AP l)) (ES (YS a) l) (DX k (AP l))) (MS a) (wE a) (MO a) (Qh a) EO (MU a) (MR a) (Pe a))))))))))) (And (Rn (FB (FB (CN (Ig a)) (λi=>EH i (tD a) (Ig a))) (λi=>RY (SE (tD a) (UA (jH a))) (CG (λj=>AG (zY (PG i) (MY a) (nL a) (KQ (AE (λk=>TH k (MY a) (QS a k) (NU (jH a) k) (TI a k) (XI (jH a) k))) (AN (MY a) (nL a)) (BC (MY a) (nL a)) (Sw (BD j) a (λk=>IZ k a) a (Zd (TB a) (Ms a) (Mc a) (λk=>dE a k) (CI (sB a) (Ig a)) (λk=>EH k (sB a) (Ig a)) AM CK)))) (Lq j a) (Lp a j))) (λj=>MQ (tP j a (Lp a j)) j (MY a) (AI (Yt j a) (WF (QS a j)) (AR i) (Nz a (LQ (SR a j)) (Fv (SR a j)) (GZ (SR a j)) (Hk (SR a j)) (LU (SR a j))) (FA (Pp a (SR a j)) (Gh (It UM GO 1 32) (Ad (λk=>AI (Dm a (qI k) i k j (QS a j) (TI a j) (Sz a k (λl=>XH l k (vZ k l (SR a j)) (DI k l) (SR a j) (BQ k l) (GZ (SR a j)) (BS k l) (JJ (SR a j))))) (lJ k a) (Lq (IG k) a) (bU (aY a (Cw k)) a j) (mR (rT k) (iE a k)))) (fE (λk=>Ag (PM k a k a k j a k) (BN k) a a (Bo (DY a k) (FK a k) (GC a k) a (BN k)) (Az i (Bs a (DY a k) a (DO k) (GC a k) a (BN k) (KG (DY a k) (GC a k) (FK a k) (Av a k))) (Ai a (DY a k) (FK a k) (GC a k) a (BN k)) UM GO 1 32 (λl=>Wr (Dm a (eU l k) i l (DO k) (DY a k) (FK a k) (Sz a l (λm=>TW m l (WW l m (DY a k)) (DI l m) (FK a k) (BQ l m) (GC a k) (BS l m) (Av a k)))) l a j (BN k)) (WB (λl=>Ck (An a a a l k i a (WT (λm=>UO m a) a (SJ l k) (Bn a l a k) (Cn a l a k) a (λm=>IZ m a) a a)) (PM l a l a l j a l) a l k))) (WB (λl=>Ck (An a a a l k i a (WT (λm=>UO m a) a (SJ l k) (Bn a l a k) (Cn a l a k) a (λm=>IZ m a) a a)) (PM l a l a l j a l) a l k)) (CG (λl=>Ci (eG i a (Xu a (Sw (Tp l k) a (λm=>IZ m a) a (Xz a)))) l a (Lp a l) a j)))) (vR (λk=>Ag (Yz k a k a j) (IG k) a a (Bo (EJ a k) (OS a k) (FZ a k) a (IG k)) (Az i (Bs a (EJ a k) a (Cw k) (FZ a k) a (IG k) (KG (EJ a k) (FZ a k) (OS a k) (Ap a k))) (Ai a (EJ a k) (OS a k) (FZ a k) a (IG k)) (eO k) JE (Ah k) (cL k) (λl=>Jr (OY a (OU l k) i l k (EJ a k) a k (Fq a l (Ah k) (λm=>TW m l (WW l m (JU m k (fL k m) (EJ a k))) (DI l m) (JU m k (Cb k m) (OS a k)) (BQ l m) (JU m k (BQ k m) (FZ a k)) (BS l m) (JU m k (BS k m) (Ap a k))))) l a j k) (Ad (λl=>Jr (OY a (OU l k) i l k (EJ a k) a k (Aj a l k (λm=>XH m l (Cm l m k m) (DI l m) (DI k m) (BQ l m) (BQ k m) (BS l m) (BS k m)))) l a j k))) (Ad (λl=>Jr (OY a (OU l k) i l k (EJ a k) a k (Aj a l k (λm=>XH m l (Cm l m k m) (DI l m) (DI k m) (BQ l m) (BQ k m) (BS l m) (BS k m)))) l a j k)) (VV (λl=>Ci (Wu i a (Ll a a (dU l k) (Dp a) (Yv a (Xn a (PN l) (Po k) (λm=>NT m l (Tt l m (DI k m)) (DU l m) (Cb k m) (DV l m) (BQ k m) (DX l m) (BS k m)))))) (BJ l) a (Vd l a l) a j))))) (Nr (WB (λk=>AI (O3 a a a (BD (BN k)) i a (WT (λl=>UO l a) a (rC k j) (U0 a k (QS a j)) (P1 a k (TI a j)) a (λl=>IZ l a) a a)) (W0 k a) (Lq (BN k) a) (bU (aY a (DO k)) a j) (Ol (T4 a k)))) (fE (λk=>Ag (PM k a k a k j a k) (BN k) a a (Bo (DY a k) (FK a k) (GC a k) a (BN k)) (Az i (Bs a (DY a k) a (DO k) (GC a k) a (BN k) (KG (DY a k) (GC a k) (FK a k) (Av a k))) (Ai a (DY a k) (FK a k) (GC a k) a (BN k)) UM GO 1 32 (λl=>Wr (Dm a (eU l k) i l (DO k) (DY a k) (FK a k) (Sz a l (λm=>TW m l (WW l m (DY a k)) (DI l m) (FK a k) (BQ l m) (GC a k) (BS l m) (Av a k)))) l a j (BN k)) (WB (λl=>Ck (An a a a l k i a (WT (λm=>UO m a) a (SJ l k) (Bn a l a k) (Cn a l a k) a (λm=>IZ m a) a a)) (PM l a l a l j a l) a l k))) (WB (λl=>Ck (An a a a l k i a (WT (λm=>UO m a) a (SJ l k) (Bn a l a k) (Cn a l a k) a (λm=>IZ m a) a a)) (PM l a l a l j a l) a l k)) (CG (λl=>Ci (eG i a (Xu a (Sw (Tp l k) a (λm=>IZ m a) a (Xz a)))) l a (Lp a l) a j)))) (vR (λk=>Ag (Yz k a k a j) (IG k) a a (Bo (EJ a k) (OS a k) (FZ a k) a (IG k)) (Az i (Bs a (EJ a k) a (Cw k) (FZ a k) a (IG k) (KG (EJ a k) (FZ a k) (OS a k) (Ap a k))) (Ai a (EJ a k) (OS a k) (FZ a k) a (IG k)) (eO k) JE (Ah k) (cL k) (λl=>Jr (OY a (OU l k) i l k (EJ a k) a k (Fq a l (Ah k) (λm=>TW m l (WW l m (JU m k (fL k m) (EJ a k))) (DI l m) (JU m k (Cb k m) (OS a k)) (BQ l m) (JU m k (BQ k m) (FZ a k)) (BS l m) (JU m k (BS k m) (Ap a k))))) l a j k) (Ad (λl=>Jr (OY a (OU l k) i l k (EJ a k) a k (Aj a l k (λm=>XH m l (Cm l m k m) (DI l m) (DI k m) (BQ l m) (BQ k m) (BS l m) (BS k m)))) l a j k))) (Ad (λl=>Jr (OY a (OU l k) i l k (EJ a k) a k (Aj a l k (λm=>XH m l (Cm l m k m) (DI l m) (DI k m) (BQ l m) (BQ k m) (BS l m) (BS k m)))) l a j k)) (VV (λl=>Ci (Wu i a (Ll a a (dU l k) (Dp a) (Yv a (Xn a (PN l) (Po k) (λm=>NT m l (Tt l m (DI k m)) (DU l m) (Cb k m) (DV l m) (BQ k m) (DX l m) (BS k m)))))) (BJ l) a (Vd l a l) a j))))))) (NF (And (oI a) (QY (Hl a) (Dp a) (λk=>IZ k a) (iP a) (EF (TB a)) (Ms a) (Mc a) (Gh (DJ (λk=>dE a k)) (Zn a) (Fu a) (NS (OJ a))))))) (fQ (λj=>MQ (tP (BJ j) a (Vd j a j)) (BJ j) (MY a) (AI (Yt (BJ j) a) (WF (QS a (BJ j))) (AR i) (Nz a (LQ (TR a j)) (Fv (TR a j)) (GZ (TR a j)) (Hk (TR a j)) (LU (TR a j))) (FA (Pp a (TR a j)) (Gh (It (qK j) JE (Yb j) (oW j)) (Ad (λk=>AI (Dm a (qI k) i k (BJ j) (QS a (BJ j)) (TI a (BJ j)) (Fq a k (Yb j) (λl=>TW l k (WW k l (OZ l j (YX (NP j) l) (LQ (TR a j)))) (DI k l) (OZ l j (DU j l) (HV (TR a j))) (BQ k l) (OZ l j (DV j l) (GZ (TR a j))) (BS k l) (OZ l j (DX j l) (JJ (TR a j)))))) (lJ k a) (Lq (IG k) a) (bU (aY a (Cw k)) a (BJ j)) (mR (rT k) (iE a k)))) (fE (λk=>Ag (PM k a k a k (BJ j) a k) (BN k) a a (Bo (DY a k) (FK a k) (GC a k) a (BN k)) (Az i (Bs a (DY a k) a (DO k) (GC a k) a (BN k) (KG (DY a k) (GC a k) (FK a k) (Av a k))) (Ai a (DY a k) (FK a k) (GC a k) a (BN k)) UM GO 1 32 (λl=>Wr (Dm a (eU l k) i l (DO k) (DY a k) (FK a k) (Sz a l (λm=>TW m l (WW l m (DY a k)) (DI l m) (FK a k) (BQ l m) (GC a k) (BS l m) (Av a k)))) l a (BJ j) (BN k)) (WB (λl=>Ck (An a a a l k i a (WT (λm=>UO m a) a (SJ l k) (Bn a l a k) (Cn a l a k) a (λm=>IZ m a) a a)) (PM l a l a l (BJ j) a l) a l k))) (WB (λl=>Ck (An a a a l k i a (WT (λm=>UO m a) a (SJ l k) (Bn a l a k) (Cn a l a k) a (λm=>IZ m a) a a)) (PM l a l a l (BJ j) a l) a l k)) (CG (λl=>Ci (eG i a (Xu a (Sw (Tp l k) a (λm=>IZ m a) a (Xz a)))) l a (Lp a l) a (BJ j))))) (vR (λk=>Ag (Yz k a k a (BJ j)) (IG k) a a (Bo (EJ a k) (OS a k) (FZ a k) a (IG k)) (Az i (Bs a (EJ a k) a (Cw k) (FZ a k) a (IG k) (KG (EJ a k) (FZ a k) (OS a k) (Ap a k))) (Ai a (EJ a k) (OS a k) (FZ a k) a (IG k)) (eO k) JE (Ah k) (cL k) (λl=>Mq (OY a (OU l k) i l k (EJ a k) a k (Fq a l (Ah k) (λm=>TW m l (WW l m (JU m k (fL k m) (EJ a k))) (DI l m) (JU m k (Cb k m) (OS a k)) (BQ l m) (JU m k (BQ k m) (FZ a k)) (BS l m) (JU m k (BS k m) (Ap a k))))) l a j k) (Ad (λl=>Mq (OY a (OU l k) i l k (EJ a k) a k (Aj a l k (λm=>XH m l (Cm l m k m) (DI l m) (DI k m) (BQ l m) (BQ k m) (BS l m) (BS k m)))) l a j k))) (Ad (λl=>Mq (OY a (OU l k) i l k (EJ a k) a k (Aj a l k (λm=>XH m l (Cm l m k m) (DI l m) (DI k m) (BQ l m) (BQ k m) (BS l m) (BS k m)))) l a j k)) (VV (λl=>Ci (Wu i a (Ll a a (dU l k) (Dp a) (Yv a (Xn a (PN l) (Po k) (λm=>NT m l (Tt l m (DI k m)) (DU l m) (Cb k m) (DV l m) (BQ k m) (DX l m) (BS k m)))))) (BJ l) a (Vd l a l) a (BJ j)))))) (Nr (Ad (λk=>AI (Dm a (qI k) i k (BJ j) (QS a (BJ j)) (TI a (BJ j)) (Fq a k (PN j) (λl=>TW l k (vZ k l (LF (NP j) l)) (DI k l) (DU j l) (BQ k l) (DV j l) (BS k l) (DX j l)))) (lJ k a) (Lq (IG k) a) (bU (aY a (Cw k)) a (BJ j)) (mR (rT k) (iE a k)))) (fE (λk=>Ag (PM k a k a k (BJ j) a k) (BN k) a a (Bo (DY a k) (FK a k) (GC a k) a (BN k)) (Az i (Bs a (DY a k) a (DO k) (GC a k) a (BN k) (KG (DY a k) (GC a k) (FK a k) (Av a k))) (Ai a (DY a k) (FK a k) (GC a k) a (BN k)) UM GO 1 32 (λl=>Wr (Dm a (eU l k) i l (DO k) (DY a k) (FK a k) (Sz a l (λm=>TW m l (WW l m (DY a k)) (DI l m) (FK a k) (BQ l m) (GC a k) (BS l m) (Av a k)))) l a (BJ j) (BN k)) (WB (λl=>Ck (An a a a l k i a (WT (λm=>UO m a) a (SJ l k) (Bn a l a k) (Cn a l a k) a (λm=>IZ m a) a a)) (PM l a l a l (BJ j) a l) a l k))) (WB (λl=>Ck (An a a a l k i a (WT (λm=>UO m a) a (SJ l k) (Bn a l a k) (Cn a l a k) a (λm=>IZ m a) a a)) (PM l a l a l (BJ j) a l) a l k)) (CG (λl=>Ci (eG i a (Xu a (Sw (Tp l k) a (λm=>IZ m a) a (Xz a)))) l a (Lp a l) a (BJ j))))) (vR (λk=>Ag (Yz k a k a (BJ j)) (IG k) a a (Bo (EJ a k) (OS a k) (FZ a k) a (IG k)) (Az i (Bs a (EJ a k) a (Cw k) (FZ a k) a (IG k) (KG (EJ a k) (FZ a k) (OS a k) (Ap a k))) (Ai a (EJ a k) (OS a k) (FZ a k) a (IG k)) (eO k) JE (Ah k) (cL k) (λl=>Mq (OY a (OU l k) i l k (EJ a k) a k (Fq a l (Ah k) (λm=>TW m l (WW l m (JU m k (fL k m) (EJ a k))) (DI l m) (JU m k (Cb k m) (OS a k)) (BQ l m) (JU m k (BQ k m) (FZ a k)) (BS l m) (JU m k (BS k m) (Ap a k))))) l a j k) (Ad (λl=>Mq (OY a (OU l k) i l k (EJ a k) a k (Aj a l k (λm=>XH m l (Cm l m k m) (DI l m) (DI k m) (BQ l m) (BQ k m) (BS l m) (BS k m)))) l a j k))) (Ad (λl=>Mq (OY a (OU l k) i l k (EJ a k) a k (Aj a l k (λm=>XH m l (Cm l m k m) (DI l m) (DI k m) (BQ l m) (BQ k m) (BS l m) (BS k m)))) l a j k)) (VV (λl=>Ci (Wu i a (Ll a a (dU l k) (Dp a) (Yv a (Xn a (PN l) (Po k) (λm=>NT m l (Tt l m (DI k m)) (DU l m) (Cb k m) (DV l m) (BQ k m) (DX l m) (BS k m)))))) (BJ l) a (Vd l a l) a (BJ j)))))))) (NF (CM (oI a) (UF a) (AI (Dp a) (AE (λk=>IZ k a)) (iP a) (EF (TB a)) (JS EO (Ms a) (Mc a) (DJ (λk=>dE a k)) (Zn a) (Fu a) (AN (OJ a) (PN j)) (Nw (PN j)) (λk=>FH k (OJ a) (WI (Kl a) k (NP j) (AP k)) (kT a k) (DU j (AP k)) (kD a k) (DV j (AP k)) (iJ a k) (DX j (AP k))))))))))) (Mp FW (NF (FU (Hl a) (OK (ZP a) (PQ a)) (λi=>KZ i (ZP a) (KA (aZ a i)) (gA a i) (LX (aZ a i)) (fG a i) (JZ (aZ a i)) (dI a i)) (BK (VX a) (TB a)) (qL (λi=>HZ i (VX a) (TB a)) (DJ (λi=>Ix (ZP a) i (QH (De (PQ a)) (Pm a) i))) (DJ (λi=>cI (ZP a) i (wJ (De (PQ a)) (Pz (PQ a)) (Pm a) i))) (λi=>Iy (Ub a i) (hJ (Sp i a) (OJ a) (Vx a i)) (λj=>Sr j (Ub a i) (UH (Nb a i j) (HS (Sp i a) (YX (Kl a) j) (LQ (Aa a i j)))) (Nb a i j) (HS (Sp i a) (kT a j) (HV (Aa a i j))) (GZ (Nb a i j)) (HS (Sp i a) (kD a j) (aE a i j)) (JJ (Nb a i j)) (HS (Sp i a) (iJ a j) (Zk a i j)))) (Zn a) (λi=>B9 i a) (AR (OJ a)) (ZG (OJ a) (Kl a))))))) (Ac (λi=>HK FW (BZ (TM (QA (sB a))) (eY (OJ a))) (Lx a) (QY (Lx a) (MS a) (λj=>PY j a) (MO a) (Qh a) (MU a) (MR a) (Pe a)) (AQ (Bi (WF (UF a)) (UF a) (HJ (UF a))) (PZ (uX a) (uJ a) (UA (Ka a))) (CG (λj=>And (PI AM (dJ a j) (MY a) (cV a) (Af (λk=>TH k (MY a) (QS a k) (NU (Ka a) k) (TI a k) (XI (Ka a) k)) (BC (MY a) (cV a)) (BD j) (MS a) (Yo (λk=>PY k a) (MO a) (VX a) EO (MU a) (MR a) (λk=>ZH a k) a (Hy (Fu a) (AR (OJ a)) (ZG (OJ a) (Kl a)) (Hl a) AL bY (dJ a j) (AE (λk=>FH k (SD a j) (ZD (Gu a j) k (HG k (LQ (Ba a)) (LQ (Bm a)))) (Bj a j k) (HG k (HV (Ba a)) (HV (Bm a))) (Cg a j k) (HG k (GZ (Ba a)) (GZ (Bm a))) (Al a j k) (HG k (JJ (Ba a)) (JJ (Bm a))))))))) (Mn j a))) (AE (λj=>MQ (Mn j a) j (MY a) (AG (Yt j a) (KY (Zo (SD a j)) (Ei 2 4) (cD 2) (Co a j) 9223372036854775807 (LS (Df (Co a j) 32))) (CG (λk=>iL (SU (Xh a k (Co a j)) (mK a) (Ll a a (AU k j) (MS a) (Yo (λl=>PY l a) (MO a) (VX a) EO (MU a) (MR a) (λl=>ZH a l) a (Hy (Fu a) (AR (OJ a)) (ZG (OJ a) (Kl a)) (Hl a) AL bY (Xh a k (Co a j)) (AE (λl=>FH l (SD a k) (ZD (Gu a k) l (Cp l a j (YX (Gu a j) l) l a j (UF a) (QS a j))) (Bj a k l) (Cp l a j (Bj a j l) l a j 0 (TI a j)) (Cg a k l) (Cp l a j (Cg a j l) l a j (QS a j) (UF a)) (Al a k l) (Cp l a j (Al a j l) l a j (TI a j) 200000))))))) (Mn k a) a k j))) (AG (AQ (AN (Pk a) (OJ a)) (AE (λk=>FH k (Pk a) (NR (Ar a) k (Kl a)) (EU (Ar a) k) (kT a k) (EQ (Ar a) k) (kD a k) (ES (Ar a) k) (iJ a k))) (IC (Pk a)) (Bc (Pk a))) (VV (λk=>FD (Ws (To k (Pk a)) (R5 (fA a a j) (BC (IS a) (SD a j)) (BD (BJ k)) a a a a EO (S0 a a a a a (fA a a j) (λl=>FH l (IS a) (Ti (jY a l) (Gu a j) l) (Py a l) (Bj a j l) (Lv a l) (Cg a j l) (Lm a l) (Al a j l)) (To k (Pk a)) (λl=>NT l k (P4 k l (Ar a)) (DU k l) (EU (Ar a) l) (DV k l) (EQ (Ar a) l) (DX k l) (ES (Ar a) l))))) (BJ k) (IS a) (Li k a k))) (fQ (λk=>MQ (CJ (BJ k) (IS a) (Li k a k)) (BJ k) (IS a) (Rn (lO (La (BJ k) (IS a) (gC k)) (FV (fI a k) (Nz a (bV a k) (AJ (Lk a k)) (Mg a k) (AJ (Lr a k)) (PC (Tl a k) (Mg a k) (Lk a k) (Lr a k)))) (BZ (fI a k) (Pp a (Tl a k))) (qK k) JE (Yb k) (oW k) (VV (λl=>Je (Ws (dQ l k) (Bh a a (eX l k) a a a a (Bb a a a a a a (λm=>QV m a a m a m a m) (dQ l k) (λm=>NT m l (ZD (NP l) m (OZ m k (YX (NP k) m) (bV a k))) (DU l m) (OZ m k (DU k m) (Lk a k)) (DV l m) (OZ m k (DV k m) (Mg a k)) (DX l m) (OZ m k (DX k m) (Lr a k)))))) (Cu l a) (FO a l) (FO a k) (NP l) (Ve a l))) (VV (λl=>Je (Tj l k (Bh a a (eX l k) a a a a (Bb a a a a a a (λm=>QV m a a m a m a m) (Pg l k) (λm=>NT m l (Un l m k) (DU l m) (DU k m) (DV l m) (DV k m) (DX l m) (DX k m))))) (Cu l a) (FO a l) (FO a k) (NP l) (Ve a l)))) (fQ (λl=>El (Cu l a) (FO a l) (FO a k) (jN l a (lI l)) (VV (λm=>NM (Tj m l (Bh a a (iH m (BJ l)) a a a a (Bb a a a a a a (λn=>QV n a a n a n a n) (Pg m l) (λn=>NT n m (Un m n l) (DU m n) (DU l n) (DV m n) (DV l n) (DX m n) (DX l n))))) (BJ m) (IS a) (Li m a m) (FO a m) (FO a k)))))) (FD (AN (Xw a) (PN k)) (AP (PN k)) (PN k) (LN (λl=>FH l (Xw a) (WI (YS a) l (NP k) (AP l)) (EU (YS a) l) (DU k (AP l)) (EQ (YS a) l) (DV k (AP l)) (ES (YS a) l) (DX k (AP l))) (MS a) (wE a) (MO a) (Qh a) EO (MU a) (MR a) (Pe a))))))))))))):=by kernel_rfl
def BXE(a:BkS):Prop:=AX Try.prog (BSE a) L8 (AF L8) (C_lns.xs a) (AC (C_lns.L a)) (C_lns.val a) (C_lns.keep a) [] [403]
abbrev Oc a b:=Ol (C8 a b)
abbrev Qt a b:=jY a (AP b)
attribute [go_sem] Oc Qt
theorem CCI(a:BkS):(BXE a)=(Ks (AG (oI a) (Fy (Ak a) (PQ a)) (qO (λi=>DZ i (Ak a) (gA a i) (fG a i) (dI a i)) (HI (TB a)) (GQ (TB a)) EO (Ms a) (Mc a) (λi=>Iy (RU (QF a) i) (Vx a i) (λj=>ME j (RU (QF a) i) (HQ (IU (QF a) i j) (Aa a i j)) (IU (QF a) i j) (Aa a i j) (FY (QF a) i j) (aE a i j) (GE (QF a) i j) (Zk a i j))) (CI (Fw (PQ a)) (Ak a)) (qO (λi=>KZ i (PQ a) (gA a i) (DW (Ak a) i) (fG a i) (DK (Ak a) i) (dI a i) (DF (Ak a) i)) (BK (TB a) (fC a)) (BR (TB a) (fC a)) EO (Ms a) (Mc a) (λi=>PW (Vx a i) (QF a) i (λj=>ME j (Vx a i) (QB (Aa a i j) (QF a) i j) (Aa a i j) (IU (QF a) i j) (aE a i j) (FY (QF a) i j) (Zk a i j) (GE (QF a) i j))) (AI (Qx (Ak a)) (SX (λi=>RA i (Ak a) i i i i)) (Kq (JO (TB a))) (Gm ER (fC a)) (DJ (λi=>TL (Rb i (fC a)) (Dt i) (HJ i)))) FW))) EO (De (PQ a) (Pm a)) (NF (FU (Hl a) (OK (ZP a) (PQ a)) (λi=>KZ i (ZP a) (KA (aZ a i)) (gA a i) (LX (aZ a i)) (fG a i) (JZ (aZ a i)) (dI a i)) (BK (VX a) (TB a)) (qL (λi=>HZ i (VX a) (TB a)) (DJ (λi=>Ix (ZP a) i (De (PQ a) i))) (DJ (λi=>YJ (ZP a) i (PQ a) i)) (λi=>Iy (Ub a i) (Vx a i) (λj=>ME j (Ub a i) (HQ (Nb a i j) (Aa a i j)) (Nb a i j) (Aa a i j) (GZ (Nb a i j)) (aE a i j) (JJ (Nb a i j)) (Zk a i j))) (CI (sB a) (Ig a)) (λi=>EH i (sB a) (Ig a)) (AN 0 (Vx a (Pm a))) AM))) (Ac (λi=>HK FW (BZ (TM (QA (sB a))) (eY 0)) (Lx a) (QY (Lx a) (MS a) (λj=>PY j a) (MO a) (Qh a) (MU a) (MR a) (Pe a)) (AQ (Bi (WF (UF a)) (UF a) (HJ (UF a))) (PZ (uX a) (uJ a) (UA (Ka a))) (CG (λj=>And (PI AM (dJ a j) (MY a) (cV a) (Af (λk=>TH k (MY a) (QS a k) (NU (Ka a) k) (TI a k) (XI (Ka a) k)) (BC (MY a) (cV a)) (BD j) (MS a) (Yo (λk=>PY k a) (MO a) (VX a) EO (MU a) (MR a) (λk=>ZH a k) a (Hy (Fu a) AM CK (Hl a) AL bY (dJ a j) (AE (λk=>FH k (SD a j) (ZD (Gu a j) k (HG k (LQ (Ba a)) (LQ (Bm a)))) (Bj a j k) (HG k (HV (Ba a)) (HV (Bm a))) (Cg a j k) (HG k (GZ (Ba a)) (GZ (Bm a))) (Al a j k) (HG k (JJ (Ba a)) (JJ (Bm a))))))))) (Mn j a))) (AE (λj=>MQ (Mn j a) j (MY a) (AG (Yt j a) (KY (Zo (SD a j)) (Ei 2 4) (cD 2) (Co a j) 9223372036854775807 (LS (Df (Co a j) 32))) (CG (λk=>iL (SU (Xh a k (Co a j)) (mK a) (Ll a a (AU k j) (MS a) (Yo (λl=>PY l a) (MO a) (VX a) EO (MU a) (MR a) (λl=>ZH a l) a (Hy (Fu a) AM CK (Hl a) AL bY (Xh a k (Co a j)) (AE (λl=>FH l (SD a k) (ZD (Gu a k) l (Cp l a j (YX (Gu a j) l) l a j (UF a) (QS a j))) (Bj a k l) (Cp l a j (Bj a j l) l a j 0 (TI a j)) (Cg a k l) (Cp l a j (Cg a j l) l a j (QS a j) (UF a)) (Al a k l) (Cp l a j (Al a j l) l a j (TI a j) 200000))))))) (Mn k a) a k j))) (RY (FB AM SH) (CG (λk=>FD (KU (EX SH AM (fA a a j) (BC (IS a) (SD a j)) (BD k) (MS a) (λl=>PY l a) (MO a) (Yf (VX a) (MU a) (MR a) (λl=>ZH a l) a (fA a a j) (AE (λl=>FH l (IS a) (Ti (jY a l) (Gu a j) l) (Py a l) (Bj a j l) (Lv a l) (Cg a j l) (Lm a l) (Al a j l)))))) k (IS a) (Oc a k))) (λk=>HE (CJ k (IS a) (Oc a k)) k (IS a) (lO (La k (IS a) (AP k)) (FV (Zc (Qt a k)) (Nz a (LQ (Qt a k)) (AJ (Py a (AP k))) (Lv a (AP k)) (AJ (Lm a (AP k))) (PC (Qt a k) (Lv a (AP k)) (Py a (AP k)) (Lm a (AP k))))) (BZ (Zc (Qt a k)) (Pp a (Qt a k))) UM GO 1 32 (VV (λl=>Je (Ws (To l 1) (Bh a a (R0 l k) a a a a (Bb a a a a a a (λm=>QV m a a m a m a m) (To l 1) (λm=>NT m l (Tt l m (Qt a k)) (DU l m) (Py a (AP k)) (DV l m) (Lv a (AP k)) (DX l m) (Lm a (AP k)))))) (Cu l a) (FO a l) (PV a k) (NP l) (Ve a l))) (CG (λl=>Je (KU (EX SH AM (Gj a) (kM a) (BC l k) (MS a) (λm=>PY m a) (MO a) (Yf (VX a) (MU a) (MR a) (λm=>ZH a m) a (Gj a) (AE (λm=>QV m a a m a m a m))))) (iZ l a) (PV a l) (PV a k) (C8 a (CL l)) AAD))) (Zl (λl=>El (iZ l a) (PV a l) (PV a k) (Oc a (CL l)) (CG (λm=>NM (KU (EX SH AM (Gj a) (kM a) (AU m l) (MS a) (λn=>PY n a) (MO a) (Yf (VX a) (MU a) (MR a) (λn=>ZH a n) a (Gj a) (AE (λn=>QV n a a n a n a n))))) m (IS a) (Oc a m) (PV a m) (PV a k)))) (fQ (λl=>El (Cu l a) (FO a l) (PV a k) (jN l a (lI l)) (VV (λm=>NM (Tj m l (Bh a a (iH m (BJ l)) a a a a (Bb a a a a a a (λn=>QV n a a n a n a n) (Pg m l) (λn=>NT n m (Un m n l) (DU m n) (DU l n) (DV m n) (DV l n) (DX m n) (DX l n))))) (BJ m) (IS a) (Li m a m) (FO a m) (PV a k)))))) (And (Lx a) (QY (Lx a) (MS a) (λl=>PY l a) (MO a) (Qh a) (MU a) (MR a) (Pe a)))) (fQ (λk=>HE (CJ (BJ k) (IS a) (Li k a k)) (BJ k) (IS a) (lO (La (BJ k) (IS a) (gC k)) (FV (fI a k) (Nz a (bV a k) (AJ (Lk a k)) (Mg a k) (AJ (Lr a k)) (PC (Tl a k) (Mg a k) (Lk a k) (Lr a k)))) (BZ (fI a k) (Pp a (Tl a k))) (qK k) JE (Yb k) (oW k) (VV (λl=>Je (Ws (dQ l k) (Bh a a (eX l k) a a a a (Bb a a a a a a (λm=>QV m a a m a m a m) (dQ l k) (λm=>NT m l (ZD (NP l) m (OZ m k (YX (NP k) m) (bV a k))) (DU l m) (OZ m k (DU k m) (Lk a k)) (DV l m) (OZ m k (DV k m) (Mg a k)) (DX l m) (OZ m k (DX k m) (Lr a k)))))) (Cu l a) (FO a l) (FO a k) (NP l) (Ve a l))) (VV (λl=>Je (Tj l k (Bh a a (eX l k) a a a a (Bb a a a a a a (λm=>QV m a a m a m a m) (Pg l k) (λm=>NT m l (Un l m k) (DU l m) (DU k m) (DV l m) (DV k m) (DX l m) (DX k m))))) (Cu l a) (FO a l) (FO a k) (NP l) (Ve a l)))) (Zl (λl=>El (iZ l a) (PV a l) (FO a k) (Oc a (CL l)) (CG (λm=>NM (KU (EX SH AM (Gj a) (kM a) (AU m l) (MS a) (λn=>PY n a) (MO a) (Yf (VX a) (MU a) (MR a) (λn=>ZH a n) a (Gj a) (AE (λn=>QV n a a n a n a n))))) m (IS a) (Oc a m) (PV a m) (FO a k)))) (fQ (λl=>El (Cu l a) (FO a l) (FO a k) (jN l a (lI l)) (VV (λm=>NM (Tj m l (Bh a a (iH m (BJ l)) a a a a (Bb a a a a a a (λn=>QV n a a n a n a n) (Pg m l) (λn=>NT n m (Un m n l) (DU m n) (DU l n) (DV m n) (DV l n) (DX m n) (DX l n))))) (BJ m) (IS a) (Li m a m) (FO a m) (FO a k)))))) (FD (AN (Xw a) (PN k)) (AP (PN k)) (PN k) (LN (λl=>FH l (Xw a) (WI (YS a) l (NP k) (AP l)) (EU (YS a) l) (DU k (AP l)) (EQ (YS a) l) (DV k (AP l)) (ES (YS a) l) (DX k (AP l))) (MS a) (wE a) (MO a) (Qh a) EO (MU a) (MR a) (Pe a))))))))))) (And (Rn (FB (FB (CN (Ig a)) (λi=>EH i (tD a) (Ig a))) (λi=>RY (SE (tD a) (UA (jH a))) (CG (λj=>AG (zY (PG i) (MY a) (nL a) (KQ (AE (λk=>TH k (MY a) (QS a k) (NU (jH a) k) (TI a k) (XI (jH a) k))) (AN (MY a) (nL a)) (BC (MY a) (nL a)) (Sw (BD j) a (λk=>IZ k a) a (Zd (TB a) (Ms a) (Mc a) (λk=>dE a k) (CI (sB a) (Ig a)) (λk=>EH k (sB a) (Ig a)) AM CK)))) (Lq j a) (Lp a j))) (λj=>MQ (tP j a (Lp a j)) j (MY a) (AI (Yt j a) (WF (QS a j)) (AR i) (Nz a (LQ (SR a j)) (Fv (SR a j)) (GZ (SR a j)) (Hk (SR a j)) (LU (SR a j))) (FA (Pp a (SR a j)) (Gh (It UM GO 1 32) (Ad (λk=>AI (Dm a (qI k) i k j (QS a j) (TI a j) (Sz a k (λl=>XH l k (vZ k l (SR a j)) (DI k l) (SR a j) (BQ k l) (GZ (SR a j)) (BS k l) (JJ (SR a j))))) (lJ k a) (Lq (IG k) a) (bU (aY a (Cw k)) a j) (mR (rT k) (iE a k)))) (fE (λk=>Ag (PM k a k a k j a k) (BN k) a a (Bo (DY a k) (FK a k) (GC a k) a (BN k)) (Az i (Bs a (DY a k) a (DO k) (GC a k) a (BN k) (KG (DY a k) (GC a k) (FK a k) (Av a k))) (Ai a (DY a k) (FK a k) (GC a k) a (BN k)) UM GO 1 32 (λl=>Wr (Dm a (eU l k) i l (DO k) (DY a k) (FK a k) (Sz a l (λm=>TW m l (WW l m (DY a k)) (DI l m) (FK a k) (BQ l m) (GC a k) (BS l m) (Av a k)))) l a j (BN k)) (WB (λl=>Ck (An a a a l k i a (WT (λm=>UO m a) a (SJ l k) (Bn a l a k) (Cn a l a k) a (λm=>IZ m a) a a)) (PM l a l a l j a l) a l k))) (WB (λl=>Ck (An a a a l k i a (WT (λm=>UO m a) a (SJ l k) (Bn a l a k) (Cn a l a k) a (λm=>IZ m a) a a)) (PM l a l a l j a l) a l k)) (CG (λl=>Ci (eG i a (Xu a (Sw (Tp l k) a (λm=>IZ m a) a (Xz a)))) l a (Lp a l) a j)))) (vR (λk=>Ag (Yz k a k a j) (IG k) a a (Bo (EJ a k) (OS a k) (FZ a k) a (IG k)) (Az i (Bs a (EJ a k) a (Cw k) (FZ a k) a (IG k) (KG (EJ a k) (FZ a k) (OS a k) (Ap a k))) (Ai a (EJ a k) (OS a k) (FZ a k) a (IG k)) (eO k) JE (Ah k) (cL k) (λl=>Jr (OY a (OU l k) i l k (EJ a k) a k (Fq a l (Ah k) (λm=>TW m l (WW l m (JU m k (fL k m) (EJ a k))) (DI l m) (JU m k (Cb k m) (OS a k)) (BQ l m) (JU m k (BQ k m) (FZ a k)) (BS l m) (JU m k (BS k m) (Ap a k))))) l a j k) (Ad (λl=>Jr (OY a (OU l k) i l k (EJ a k) a k (Aj a l k (λm=>XH m l (Cm l m k m) (DI l m) (DI k m) (BQ l m) (BQ k m) (BS l m) (BS k m)))) l a j k))) (Ad (λl=>Jr (OY a (OU l k) i l k (EJ a k) a k (Aj a l k (λm=>XH m l (Cm l m k m) (DI l m) (DI k m) (BQ l m) (BQ k m) (BS l m) (BS k m)))) l a j k)) (VV (λl=>Ci (Wu i a (Ll a a (dU l k) (Dp a) (Yv a (Xn a (PN l) (Po k) (λm=>NT m l (Tt l m (DI k m)) (DU l m) (Cb k m) (DV l m) (BQ k m) (DX l m) (BS k m)))))) (BJ l) a (Vd l a l) a j))))) (Nr (WB (λk=>AI (O3 a a a (BD (BN k)) i a (WT (λl=>UO l a) a (rC k j) (U0 a k (QS a j)) (P1 a k (TI a j)) a (λl=>IZ l a) a a)) (W0 k a) (Lq (BN k) a) (bU (aY a (DO k)) a j) (Ol (T4 a k)))) (fE (λk=>Ag (PM k a k a k j a k) (BN k) a a (Bo (DY a k) (FK a k) (GC a k) a (BN k)) (Az i (Bs a (DY a k) a (DO k) (GC a k) a (BN k) (KG (DY a k) (GC a k) (FK a k) (Av a k))) (Ai a (DY a k) (FK a k) (GC a k) a (BN k)) UM GO 1 32 (λl=>Wr (Dm a (eU l k) i l (DO k) (DY a k) (FK a k) (Sz a l (λm=>TW m l (WW l m (DY a k)) (DI l m) (FK a k) (BQ l m) (GC a k) (BS l m) (Av a k)))) l a j (BN k)) (WB (λl=>Ck (An a a a l k i a (WT (λm=>UO m a) a (SJ l k) (Bn a l a k) (Cn a l a k) a (λm=>IZ m a) a a)) (PM l a l a l j a l) a l k))) (WB (λl=>Ck (An a a a l k i a (WT (λm=>UO m a) a (SJ l k) (Bn a l a k) (Cn a l a k) a (λm=>IZ m a) a a)) (PM l a l a l j a l) a l k)) (CG (λl=>Ci (eG i a (Xu a (Sw (Tp l k) a (λm=>IZ m a) a (Xz a)))) l a (Lp a l) a j)))) (vR (λk=>Ag (Yz k a k a j) (IG k) a a (Bo (EJ a k) (OS a k) (FZ a k) a (IG k)) (Az i (Bs a (EJ a k) a (Cw k) (FZ a k) a (IG k) (KG (EJ a k) (FZ a k) (OS a k) (Ap a k))) (Ai a (EJ a k) (OS a k) (FZ a k) a (IG k)) (eO k) JE (Ah k) (cL k) (λl=>Jr (OY a (OU l k) i l k (EJ a k) a k (Fq a l (Ah k) (λm=>TW m l (WW l m (JU m k (fL k m) (EJ a k))) (DI l m) (JU m k (Cb k m) (OS a k)) (BQ l m) (JU m k (BQ k m) (FZ a k)) (BS l m) (JU m k (BS k m) (Ap a k))))) l a j k) (Ad (λl=>Jr (OY a (OU l k) i l k (EJ a k) a k (Aj a l k (λm=>XH m l (Cm l m k m) (DI l m) (DI k m) (BQ l m) (BQ k m) (BS l m) (BS k m)))) l a j k))) (Ad (λl=>Jr (OY a (OU l k) i l k (EJ a k) a k (Aj a l k (λm=>XH m l (Cm l m k m) (DI l m) (DI k m) (BQ l m) (BQ k m) (BS l m) (BS k m)))) l a j k)) (VV (λl=>Ci (Wu i a (Ll a a (dU l k) (Dp a) (Yv a (Xn a (PN l) (Po k) (λm=>NT m l (Tt l m (DI k m)) (DU l m) (Cb k m) (DV l m) (BQ k m) (DX l m) (BS k m)))))) (BJ l) a (Vd l a l) a j))))))) (NF (And (oI a) (QY (Hl a) (Dp a) (λk=>IZ k a) (iP a) (EF (TB a)) (Ms a) (Mc a) (Gh (DJ (λk=>dE a k)) (Zn a) (Fu a) (NS (OJ a))))))) (fQ (λj=>MQ (tP (BJ j) a (Vd j a j)) (BJ j) (MY a) (AI (Yt (BJ j) a) (WF (QS a (BJ j))) (AR i) (Nz a (LQ (TR a j)) (Fv (TR a j)) (GZ (TR a j)) (Hk (TR a j)) (LU (TR a j))) (FA (Pp a (TR a j)) (Gh (It (qK j) JE (Yb j) (oW j)) (Ad (λk=>AI (Dm a (qI k) i k (BJ j) (QS a (BJ j)) (TI a (BJ j)) (Fq a k (Yb j) (λl=>TW l k (WW k l (OZ l j (YX (NP j) l) (LQ (TR a j)))) (DI k l) (OZ l j (DU j l) (HV (TR a j))) (BQ k l) (OZ l j (DV j l) (GZ (TR a j))) (BS k l) (OZ l j (DX j l) (JJ (TR a j)))))) (lJ k a) (Lq (IG k) a) (bU (aY a (Cw k)) a (BJ j)) (mR (rT k) (iE a k)))) (fE (λk=>Ag (PM k a k a k (BJ j) a k) (BN k) a a (Bo (DY a k) (FK a k) (GC a k) a (BN k)) (Az i (Bs a (DY a k) a (DO k) (GC a k) a (BN k) (KG (DY a k) (GC a k) (FK a k) (Av a k))) (Ai a (DY a k) (FK a k) (GC a k) a (BN k)) UM GO 1 32 (λl=>Wr (Dm a (eU l k) i l (DO k) (DY a k) (FK a k) (Sz a l (λm=>TW m l (WW l m (DY a k)) (DI l m) (FK a k) (BQ l m) (GC a k) (BS l m) (Av a k)))) l a (BJ j) (BN k)) (WB (λl=>Ck (An a a a l k i a (WT (λm=>UO m a) a (SJ l k) (Bn a l a k) (Cn a l a k) a (λm=>IZ m a) a a)) (PM l a l a l (BJ j) a l) a l k))) (WB (λl=>Ck (An a a a l k i a (WT (λm=>UO m a) a (SJ l k) (Bn a l a k) (Cn a l a k) a (λm=>IZ m a) a a)) (PM l a l a l (BJ j) a l) a l k)) (CG (λl=>Ci (eG i a (Xu a (Sw (Tp l k) a (λm=>IZ m a) a (Xz a)))) l a (Lp a l) a (BJ j))))) (vR (λk=>Ag (Yz k a k a (BJ j)) (IG k) a a (Bo (EJ a k) (OS a k) (FZ a k) a (IG k)) (Az i (Bs a (EJ a k) a (Cw k) (FZ a k) a (IG k) (KG (EJ a k) (FZ a k) (OS a k) (Ap a k))) (Ai a (EJ a k) (OS a k) (FZ a k) a (IG k)) (eO k) JE (Ah k) (cL k) (λl=>Mq (OY a (OU l k) i l k (EJ a k) a k (Fq a l (Ah k) (λm=>TW m l (WW l m (JU m k (fL k m) (EJ a k))) (DI l m) (JU m k (Cb k m) (OS a k)) (BQ l m) (JU m k (BQ k m) (FZ a k)) (BS l m) (JU m k (BS k m) (Ap a k))))) l a j k) (Ad (λl=>Mq (OY a (OU l k) i l k (EJ a k) a k (Aj a l k (λm=>XH m l (Cm l m k m) (DI l m) (DI k m) (BQ l m) (BQ k m) (BS l m) (BS k m)))) l a j k))) (Ad (λl=>Mq (OY a (OU l k) i l k (EJ a k) a k (Aj a l k (λm=>XH m l (Cm l m k m) (DI l m) (DI k m) (BQ l m) (BQ k m) (BS l m) (BS k m)))) l a j k)) (VV (λl=>Ci (Wu i a (Ll a a (dU l k) (Dp a) (Yv a (Xn a (PN l) (Po k) (λm=>NT m l (Tt l m (DI k m)) (DU l m) (Cb k m) (DV l m) (BQ k m) (DX l m) (BS k m)))))) (BJ l) a (Vd l a l) a (BJ j)))))) (Nr (Ad (λk=>AI (Dm a (qI k) i k (BJ j) (QS a (BJ j)) (TI a (BJ j)) (Fq a k (PN j) (λl=>TW l k (vZ k l (LF (NP j) l)) (DI k l) (DU j l) (BQ k l) (DV j l) (BS k l) (DX j l)))) (lJ k a) (Lq (IG k) a) (bU (aY a (Cw k)) a (BJ j)) (mR (rT k) (iE a k)))) (fE (λk=>Ag (PM k a k a k (BJ j) a k) (BN k) a a (Bo (DY a k) (FK a k) (GC a k) a (BN k)) (Az i (Bs a (DY a k) a (DO k) (GC a k) a (BN k) (KG (DY a k) (GC a k) (FK a k) (Av a k))) (Ai a (DY a k) (FK a k) (GC a k) a (BN k)) UM GO 1 32 (λl=>Wr (Dm a (eU l k) i l (DO k) (DY a k) (FK a k) (Sz a l (λm=>TW m l (WW l m (DY a k)) (DI l m) (FK a k) (BQ l m) (GC a k) (BS l m) (Av a k)))) l a (BJ j) (BN k)) (WB (λl=>Ck (An a a a l k i a (WT (λm=>UO m a) a (SJ l k) (Bn a l a k) (Cn a l a k) a (λm=>IZ m a) a a)) (PM l a l a l (BJ j) a l) a l k))) (WB (λl=>Ck (An a a a l k i a (WT (λm=>UO m a) a (SJ l k) (Bn a l a k) (Cn a l a k) a (λm=>IZ m a) a a)) (PM l a l a l (BJ j) a l) a l k)) (CG (λl=>Ci (eG i a (Xu a (Sw (Tp l k) a (λm=>IZ m a) a (Xz a)))) l a (Lp a l) a (BJ j))))) (vR (λk=>Ag (Yz k a k a (BJ j)) (IG k) a a (Bo (EJ a k) (OS a k) (FZ a k) a (IG k)) (Az i (Bs a (EJ a k) a (Cw k) (FZ a k) a (IG k) (KG (EJ a k) (FZ a k) (OS a k) (Ap a k))) (Ai a (EJ a k) (OS a k) (FZ a k) a (IG k)) (eO k) JE (Ah k) (cL k) (λl=>Mq (OY a (OU l k) i l k (EJ a k) a k (Fq a l (Ah k) (λm=>TW m l (WW l m (JU m k (fL k m) (EJ a k))) (DI l m) (JU m k (Cb k m) (OS a k)) (BQ l m) (JU m k (BQ k m) (FZ a k)) (BS l m) (JU m k (BS k m) (Ap a k))))) l a j k) (Ad (λl=>Mq (OY a (OU l k) i l k (EJ a k) a k (Aj a l k (λm=>XH m l (Cm l m k m) (DI l m) (DI k m) (BQ l m) (BQ k m) (BS l m) (BS k m)))) l a j k))) (Ad (λl=>Mq (OY a (OU l k) i l k (EJ a k) a k (Aj a l k (λm=>XH m l (Cm l m k m) (DI l m) (DI k m) (BQ l m) (BQ k m) (BS l m) (BS k m)))) l a j k)) (VV (λl=>Ci (Wu i a (Ll a a (dU l k) (Dp a) (Yv a (Xn a (PN l) (Po k) (λm=>NT m l (Tt l m (DI k m)) (DU l m) (Cb k m) (DV l m) (BQ k m) (DX l m) (BS k m)))))) (BJ l) a (Vd l a l) a (BJ j)))))))) (NF (CM (oI a) (UF a) (AI (Dp a) (AE (λk=>IZ k a)) (iP a) (EF (TB a)) (JS EO (Ms a) (Mc a) (DJ (λk=>dE a k)) (Zn a) (Fu a) (AN (OJ a) (PN j)) (Nw (PN j)) (λk=>FH k (OJ a) (WI (Kl a) k (NP j) (AP k)) (kT a k) (DU j (AP k)) (kD a k) (DV j (AP k)) (iJ a k) (DX j (AP k))))))))))) (Mp FW (NF (FU (Hl a) (OK (ZP a) (PQ a)) (λi=>KZ i (ZP a) (KA (aZ a i)) (gA a i) (LX (aZ a i)) (fG a i) (JZ (aZ a i)) (dI a i)) (BK (VX a) (TB a)) (qL (λi=>HZ i (VX a) (TB a)) (DJ (λi=>Ix (ZP a) i (QH (De (PQ a)) (Pm a) i))) (DJ (λi=>cI (ZP a) i (wJ (De (PQ a)) (Pz (PQ a)) (Pm a) i))) (λi=>Iy (Ub a i) (hJ (Sp i a) (OJ a) (Vx a i)) (λj=>Sr j (Ub a i) (UH (Nb a i j) (HS (Sp i a) (YX (Kl a) j) (LQ (Aa a i j)))) (Nb a i j) (HS (Sp i a) (kT a j) (HV (Aa a i j))) (GZ (Nb a i j)) (HS (Sp i a) (kD a j) (aE a i j)) (JJ (Nb a i j)) (HS (Sp i a) (iJ a j) (Zk a i j)))) (Zn a) (λi=>B9 i a) (AN 0 (OJ a)) AM))))) (Ac (λi=>HK FW (BZ (TM (QA (sB a))) (eY 0)) (Lx a) (QY (Lx a) (MS a) (λj=>PY j a) (MO a) (Qh a) (MU a) (MR a) (Pe a)) (AQ (Bi (WF (UF a)) (UF a) (HJ (UF a))) (PZ (uX a) (uJ a) (UA (Ka a))) (CG (λj=>And (PI AM (dJ a j) (MY a) (cV a) (Af (λk=>TH k (MY a) (QS a k) (NU (Ka a) k) (TI a k) (XI (Ka a) k)) (BC (MY a) (cV a)) (BD j) (MS a) (Yo (λk=>PY k a) (MO a) (VX a) EO (MU a) (MR a) (λk=>ZH a k) a (Hy (Fu a) AM CK (Hl a) AL bY (dJ a j) (AE (λk=>FH k (SD a j) (ZD (Gu a j) k (HG k (LQ (Ba a)) (LQ (Bm a)))) (Bj a j k) (HG k (HV (Ba a)) (HV (Bm a))) (Cg a j k) (HG k (GZ (Ba a)) (GZ (Bm a))) (Al a j k) (HG k (JJ (Ba a)) (JJ (Bm a))))))))) (Mn j a))) (AE (λj=>MQ (Mn j a) j (MY a) (AG (Yt j a) (KY (Zo (SD a j)) (Ei 2 4) (cD 2) (Co a j) 9223372036854775807 (LS (Df (Co a j) 32))) (CG (λk=>iL (SU (Xh a k (Co a j)) (mK a) (Ll a a (AU k j) (MS a) (Yo (λl=>PY l a) (MO a) (VX a) EO (MU a) (MR a) (λl=>ZH a l) a (Hy (Fu a) AM CK (Hl a) AL bY (Xh a k (Co a j)) (AE (λl=>FH l (SD a k) (ZD (Gu a k) l (Cp l a j (YX (Gu a j) l) l a j (UF a) (QS a j))) (Bj a k l) (Cp l a j (Bj a j l) l a j 0 (TI a j)) (Cg a k l) (Cp l a j (Cg a j l) l a j (QS a j) (UF a)) (Al a k l) (Cp l a j (Al a j l) l a j (TI a j) 200000))))))) (Mn k a) a k j))) (RY (FB AM SH) (CG (λk=>FD (KU (EX SH AM (fA a a j) (BC (IS a) (SD a j)) (BD k) (MS a) (λl=>PY l a) (MO a) (Yf (VX a) (MU a) (MR a) (λl=>ZH a l) a (fA a a j) (AE (λl=>FH l (IS a) (Ti (jY a l) (Gu a j) l) (Py a l) (Bj a j l) (Lv a l) (Cg a j l) (Lm a l) (Al a j l)))))) k (IS a) (Oc a k))) (λk=>HE (CJ k (IS a) (Oc a k)) k (IS a) (lO (La k (IS a) (AP k)) (FV (Zc (Qt a k)) (Nz a (LQ (Qt a k)) (AJ (Py a (AP k))) (Lv a (AP k)) (AJ (Lm a (AP k))) (PC (Qt a k) (Lv a (AP k)) (Py a (AP k)) (Lm a (AP k))))) (BZ (Zc (Qt a k)) (Pp a (Qt a k))) UM GO 1 32 (VV (λl=>Je (Ws (To l 1) (Bh a a (R0 l k) a a a a (Bb a a a a a a (λm=>QV m a a m a m a m) (To l 1) (λm=>NT m l (Tt l m (Qt a k)) (DU l m) (Py a (AP k)) (DV l m) (Lv a (AP k)) (DX l m) (Lm a (AP k)))))) (Cu l a) (FO a l) (PV a k) (NP l) (Ve a l))) (CG (λl=>Je (KU (EX SH AM (Gj a) (kM a) (BC l k) (MS a) (λm=>PY m a) (MO a) (Yf (VX a) (MU a) (MR a) (λm=>ZH a m) a (Gj a) (AE (λm=>QV m a a m a m a m))))) (iZ l a) (PV a l) (PV a k) (C8 a (CL l)) AAD))) (Zl (λl=>El (iZ l a) (PV a l) (PV a k) (Oc a (CL l)) (CG (λm=>NM (KU (EX SH AM (Gj a) (kM a) (AU m l) (MS a) (λn=>PY n a) (MO a) (Yf (VX a) (MU a) (MR a) (λn=>ZH a n) a (Gj a) (AE (λn=>QV n a a n a n a n))))) m (IS a) (Oc a m) (PV a m) (PV a k)))) (fQ (λl=>El (Cu l a) (FO a l) (PV a k) (jN l a (lI l)) (VV (λm=>NM (Tj m l (Bh a a (iH m (BJ l)) a a a a (Bb a a a a a a (λn=>QV n a a n a n a n) (Pg m l) (λn=>NT n m (Un m n l) (DU m n) (DU l n) (DV m n) (DV l n) (DX m n) (DX l n))))) (BJ m) (IS a) (Li m a m) (FO a m) (PV a k)))))) (And (Lx a) (QY (Lx a) (MS a) (λl=>PY l a) (MO a) (Qh a) (MU a) (MR a) (Pe a)))) (fQ (λk=>HE (CJ (BJ k) (IS a) (Li k a k)) (BJ k) (IS a) (lO (La (BJ k) (IS a) (gC k)) (FV (fI a k) (Nz a (bV a k) (AJ (Lk a k)) (Mg a k) (AJ (Lr a k)) (PC (Tl a k) (Mg a k) (Lk a k) (Lr a k)))) (BZ (fI a k) (Pp a (Tl a k))) (qK k) JE (Yb k) (oW k) (VV (λl=>Je (Ws (dQ l k) (Bh a a (eX l k) a a a a (Bb a a a a a a (λm=>QV m a a m a m a m) (dQ l k) (λm=>NT m l (ZD (NP l) m (OZ m k (YX (NP k) m) (bV a k))) (DU l m) (OZ m k (DU k m) (Lk a k)) (DV l m) (OZ m k (DV k m) (Mg a k)) (DX l m) (OZ m k (DX k m) (Lr a k)))))) (Cu l a) (FO a l) (FO a k) (NP l) (Ve a l))) (VV (λl=>Je (Tj l k (Bh a a (eX l k) a a a a (Bb a a a a a a (λm=>QV m a a m a m a m) (Pg l k) (λm=>NT m l (Un l m k) (DU l m) (DU k m) (DV l m) (DV k m) (DX l m) (DX k m))))) (Cu l a) (FO a l) (FO a k) (NP l) (Ve a l)))) (Zl (λl=>El (iZ l a) (PV a l) (FO a k) (Oc a (CL l)) (CG (λm=>NM (KU (EX SH AM (Gj a) (kM a) (AU m l) (MS a) (λn=>PY n a) (MO a) (Yf (VX a) (MU a) (MR a) (λn=>ZH a n) a (Gj a) (AE (λn=>QV n a a n a n a n))))) m (IS a) (Oc a m) (PV a m) (FO a k)))) (fQ (λl=>El (Cu l a) (FO a l) (FO a k) (jN l a (lI l)) (VV (λm=>NM (Tj m l (Bh a a (iH m (BJ l)) a a a a (Bb a a a a a a (λn=>QV n a a n a n a n) (Pg m l) (λn=>NT n m (Un m n l) (DU m n) (DU l n) (DV m n) (DV l n) (DX m n) (DX l n))))) (BJ m) (IS a) (Li m a m) (FO a m) (FO a k)))))) (FD (AN (Xw a) (PN k)) (AP (PN k)) (PN k) (LN (λl=>FH l (Xw a) (WI (YS a) l (NP k) (AP l)) (EU (YS a) l) (DU k (AP l)) (EQ (YS a) l) (DV k (AP l)) (ES (YS a) l) (DX k (AP l))) (MS a) (wE a) (MO a) (Qh a) EO (MU a) (MR a) (Pe a))))))))))))):=by kernel_rfl
theorem V4(w:Bk):Bk.mk w.g w.b w.has w.st=w:=rfl
theorem AWD(l:List Ln)(p:Ln)(i:Nat)(hi:i<(l ++ [p]).length):((gD (l ++ [p]) i).a0=bif decide (i<l.length) then (gD l i).a0 else p.a0)/\((gD (l ++ [p]) i).a1=bif decide (i<l.length) then (gD l i).a1 else p.a1)/\((gD (l ++ [p]) i).b0=bif decide (i<l.length) then (gD l i).b0 else p.b0)/\(gD (l ++ [p]) i).b1=bif decide (i<l.length) then (gD l i).b1 else p.b1:=by
 rw[G3 _ _ (by simpa using hi)]
 cases decide (i<l.length)<;>exact⟨rfl,rfl,rfl,rfl⟩
theorem oneL(p:Ln)(i:Nat)(hi:i<[p].length):(gD [p] i).a0=p.a0/\(gD [p] i).a1=p.a1/\(gD [p] i).b0=p.b0/\(gD [p] i).b1=p.b1:=by
 have:i=0:=by have hj:i<1:=hi;omega
 subst this;exact⟨rfl,rfl,rfl,rfl⟩
theorem BWO{s:List Gau}{i j:Nat}(h:j<(AB s).length)(h1:Zc (pT (gD (AB s) i) (gD (AB s) j))=true)(h2:Rp s (pT (gD (AB s) i) (gD (AB s) j))=true):(TN s i (j+1)).filter (Rp s)=(TN s i j).filter (Rp s) ++ [pT (gD (AB s) i) (gD (AB s) j)]:=by
 rw[bK h,if_pos h1,List.filter_append,List.filter_cons_of_pos h2];rfl
theorem BQC{s:List Gau}{i j:Nat}(h:j<(AB s).length)(h1:Zc (pT (gD (AB s) i) (gD (AB s) j))=true)(h2:Rp s (pT (gD (AB s) i) (gD (AB s) j))=false):(TN s i (j+1)).filter (Rp s)=(TN s i j).filter (Rp s):=by
 rw[bK h,if_pos h1,List.filter_append,List.filter_cons_of_neg (by rw[h2];simp)];simp
theorem BHS{s:List Gau}{i j:Nat}(h:j<(AB s).length)(h1:Zc (pT (gD (AB s) i) (gD (AB s) j))=false):(TN s i (j+1)).filter (Rp s)=(TN s i j).filter (Rp s):=by
 rw[bK h,if_neg (by rw[h1];simp),List.append_nil]
theorem I9{s:List Gau}{i:Nat}:(TN s i 0).filter (Rp s)=(Xq s i).filter (Rp s) ++ if Rp s (TG (gD (AB s) i))=true then [TG (gD (AB s) i)] else []:=by
 unfold TN
 rw[List.filter_append]
 congr 1
 simp[List.filter_cons]
theorem ART{s:List Gau}{i j:Nat}(hN:(AB s).length<=48):((TN s i j).filter (Rp s)).length<=10000:=by
 refine Nat.le_trans (List.length_filter_le _ _) ?_
 have h1:∀a:Pt,(blk (AB s) a).length<=49:=λa=>by
  unfold blk
  have:=List.length_filter_le Zc ((AB s).map (pT a))
  simp only[List.length_cons,List.length_map] at *;omega
 have h2:∀l:List Pt,l.length<=48->(l.flatMap (blk (AB s))).length<=l.length*49:=λl _=>by
  induction l with
  |nil=>simp
  |cons a l ih=>
   rw[List.flatMap_cons,List.length_append,List.length_cons]
   have:=h1 a;have:=ih (by simp at *;omega);omega
 unfold TN Xq
 have h3:=h2 ((AB s).take i) (by simp;omega)
 have h4:=List.length_filter_le Zc (((AB s).take j).map (pT (gD (AB s) i)))
 simp only[List.length_append,List.length_cons,List.length_map,List.length_take] at *
 omega
theorem APL{s:List Gau}{q:Nat}(hs:s.length<=24)(hN:(AB s).length<=48)(hg:∀g∈s,Ho g)(x:IJ)(hx:x.i<(AB s).length/\x.j<=(AB s).length/\(AB s).length-x.i=q/\(TN s x.i x.j).filter (Rp s)=[]) :
  ((x.j:Int)<(AB s).length->(0<=(x.j:Int)/\(x.j:Int)<(AB s).length)/\(Zc ⟨(gD (AB s) x.i).st,(gD (AB s) x.i).fl,(gD (AB s) x.j).st,(gD (AB s) x.j).fl⟩=true->(s.length<4611686018427387904/\∀g:Gau,List.Mem g s->PT ⟨(gD (AB s) x.i).st,(gD (AB s) x.i).fl,(gD (AB s) x.j).st,(gD (AB s) x.j).fl⟩/\Ho g)/\((s.all λg=>VW ⟨(gD (AB s) x.i).st,(gD (AB s) x.i).fl,(gD (AB s) x.j).st,(gD (AB s) x.j).fl⟩ g)=true->((0<0->0=4)/\0<1/\0<1/\0<9223372036854775807/\31<140737488355328)/\∃y:LnJ,((y.j:Int)=IntKind.i64.wrap ((x.j:Int)+1)/\(y.i:Int)=x.i/\(gD (AB s) y.i).st=(gD (AB s) x.i).st/\(gD (AB s) y.i).fl=(gD (AB s) x.i).fl/\y.l.length=1/\y.l.length=1/\∀i:Nat,i<y.l.length->(gD y.l i).a0=(gD (AB s) x.i).st/\(gD y.l i).a1=(gD (AB s) x.i).fl/\(gD y.l i).b0=(gD (AB s) x.j).st/\(gD y.l i).b1=(gD (AB s) x.j).fl)/\(y.i<(AB s).length/\y.j<=(AB s).length/\(AB s).length-y.i=q/\y.l=(TN s y.i y.j).filter (Rp s))/\(AB s).length-y.j<(AB s).length-x.j)/\((s.all λg=>VW ⟨(gD (AB s) x.i).st,(gD (AB s) x.i).fl,(gD (AB s) x.j).st,(gD (AB s) x.j).fl⟩ g)=false->∃y:IJ,((y.j:Int)=IntKind.i64.wrap ((x.j:Int)+1)/\(y.i:Int)=x.i/\(gD (AB s) y.i).st=(gD (AB s) x.i).st/\(gD (AB s) y.i).fl=(gD (AB s) x.i).fl)/\(y.i<(AB s).length/\y.j<=(AB s).length/\(AB s).length-y.i=q/\(TN s y.i y.j).filter (Rp s)=[])/\(AB s).length-y.j<(AB s).length-x.j))/\(Zc ⟨(gD (AB s) x.i).st,(gD (AB s) x.i).fl,(gD (AB s) x.j).st,(gD (AB s) x.j).fl⟩=false->∃y:IJ,((y.j:Int)=IntKind.i64.wrap ((x.j:Int)+1)/\(y.i:Int)=x.i/\(gD (AB s) y.i).st=(gD (AB s) x.i).st/\(gD (AB s) y.i).fl=(gD (AB s) x.i).fl)/\(y.i<(AB s).length/\y.j<=(AB s).length/\(AB s).length-y.i=q/\(TN s y.i y.j).filter (Rp s)=[])/\(AB s).length-y.j<(AB s).length-x.j))/\(¬(x.j:Int)<(AB s).length->∃y:Nat,(y:Int)=IntKind.i64.wrap ((x.i:Int)+1)/\(y<=(AB s).length/\(Xq s y).filter (Rp s)=[])/\(AB s).length-y<q):=by
 obtain⟨h1,h2,h3,h4⟩:=hx
 refine⟨λhj=>?_,λhj=>⟨x.i+1,(GJ (by omega)).symm,⟨by omega,?_⟩,by omega⟩⟩
 ·have hj':x.j<(AB s).length:=Int.ofNat_lt.1 hj
  have step:(TN s x.i (x.j+1)).filter (Rp s)=[]->∃y:IJ,((y.j:Int)=IntKind.i64.wrap ((x.j:Int)+1)/\(y.i:Int)=x.i/\(gD (AB s) y.i).st=(gD (AB s) x.i).st/\(gD (AB s) y.i).fl=(gD (AB s) x.i).fl)/\(y.i<(AB s).length/\y.j<=(AB s).length/\(AB s).length-y.i=q/\(TN s y.i y.j).filter (Rp s)=[])/\(AB s).length-y.j<(AB s).length-x.j:=λh=>⟨⟨x.i,x.j+1⟩,⟨(GJ (by omega)).symm,rfl,rfl,rfl⟩,⟨h1,hj',h3,h⟩,by show (AB s).length-(x.j+1)<_;omega⟩
  refine⟨⟨by omega,hj⟩,λhr=>⟨⟨by omega,λg hgs=>⟨cP.1 hr,hg g hgs⟩⟩,λhp=>⟨⟨by omega,by omega,by omega,by omega,by omega⟩,⟨x.i,x.j+1,[pT (gD (AB s) x.i) (gD (AB s) x.j)]⟩,⟨(GJ (by omega)).symm,rfl,rfl,rfl,rfl,rfl,oneL _⟩,⟨h1,hj',h3,?_⟩,by show (AB s).length-(x.j+1)<_;omega⟩,λhp=>step ?_⟩,λhr=>step ?_⟩
  ·show _=(TN s x.i (x.j+1)).filter (Rp s)
   rw[BWO hj' hr hp,h4];rfl
  ·rw[BQC hj' hr hp,h4]
  ·rw[BHS hj' hr,h4]
 ·have:x.j=(AB s).length:=by omega
  rw[this] at h4;rw[<-sP h1];exact h4
theorem AUV{s:List Gau}{q:Nat}(hs:s.length<=24)(hN:(AB s).length<=48)(hg:∀g∈s,Ho g)(x:LnJ)(hx:x.i<(AB s).length/\x.j<=(AB s).length/\(AB s).length-x.i=q/\x.l=(TN s x.i x.j).filter (Rp s)) :
  ((x.j:Int)<(AB s).length->(0<=(x.j:Int)/\(x.j:Int)<(AB s).length)/\(Zc ⟨(gD (AB s) x.i).st,(gD (AB s) x.i).fl,(gD (AB s) x.j).st,(gD (AB s) x.j).fl⟩=true->(s.length<4611686018427387904/\∀g:Gau,List.Mem g s->PT ⟨(gD (AB s) x.i).st,(gD (AB s) x.i).fl,(gD (AB s) x.j).st,(gD (AB s) x.j).fl⟩/\Ho g)/\((s.all λg=>VW ⟨(gD (AB s) x.i).st,(gD (AB s) x.i).fl,(gD (AB s) x.j).st,(gD (AB s) x.j).fl⟩ g)=true->(0<1/\(false=true->0<1)/\x.l.length<9223372036854775807/\(x.l.length+1)*32<=140737488355328)/\∃y:LnJ,((y.j:Int)=IntKind.i64.wrap ((x.j:Int)+1)/\(y.i:Int)=x.i/\(gD (AB s) y.i).st=(gD (AB s) x.i).st/\(gD (AB s) y.i).fl=(gD (AB s) x.i).fl/\y.l.length=x.l.length+1/\y.l.length=x.l.length+1/\∀i:Nat,i<y.l.length->((gD y.l i).a0=bif decide (i<x.l.length) then (gD x.l i).a0 else (gD (AB s) x.i).st)/\((gD y.l i).a1=bif decide (i<x.l.length) then (gD x.l i).a1 else (gD (AB s) x.i).fl)/\((gD y.l i).b0=bif decide (i<x.l.length) then (gD x.l i).b0 else (gD (AB s) x.j).st)/\(gD y.l i).b1=bif decide (i<x.l.length) then (gD x.l i).b1 else (gD (AB s) x.j).fl)/\(y.i<(AB s).length/\y.j<=(AB s).length/\(AB s).length-y.i=q/\y.l=(TN s y.i y.j).filter (Rp s))/\(AB s).length-y.j<(AB s).length-x.j)/\((s.all λg=>VW ⟨(gD (AB s) x.i).st,(gD (AB s) x.i).fl,(gD (AB s) x.j).st,(gD (AB s) x.j).fl⟩ g)=false->(∃y:LnJ,((y.j:Int)=IntKind.i64.wrap ((x.j:Int)+1)/\(y.i:Int)=x.i/\(gD (AB s) y.i).st=(gD (AB s) x.i).st/\(gD (AB s) y.i).fl=(gD (AB s) x.i).fl/\y.l.length=x.l.length/\y.l.length=x.l.length/\∀i:Nat,i<y.l.length->(gD y.l i).a0=(gD x.l i).a0/\(gD y.l i).a1=(gD x.l i).a1/\(gD y.l i).b0=(gD x.l i).b0/\(gD y.l i).b1=(gD x.l i).b1)/\(y.i<(AB s).length/\y.j<=(AB s).length/\(AB s).length-y.i=q/\y.l=(TN s y.i y.j).filter (Rp s))/\(AB s).length-y.j<(AB s).length-x.j)))/\(Zc ⟨(gD (AB s) x.i).st,(gD (AB s) x.i).fl,(gD (AB s) x.j).st,(gD (AB s) x.j).fl⟩=false->(∃y:LnJ,((y.j:Int)=IntKind.i64.wrap ((x.j:Int)+1)/\(y.i:Int)=x.i/\(gD (AB s) y.i).st=(gD (AB s) x.i).st/\(gD (AB s) y.i).fl=(gD (AB s) x.i).fl/\y.l.length=x.l.length/\y.l.length=x.l.length/\∀i:Nat,i<y.l.length->(gD y.l i).a0=(gD x.l i).a0/\(gD y.l i).a1=(gD x.l i).a1/\(gD y.l i).b0=(gD x.l i).b0/\(gD y.l i).b1=(gD x.l i).b1)/\(y.i<(AB s).length/\y.j<=(AB s).length/\(AB s).length-y.i=q/\y.l=(TN s y.i y.j).filter (Rp s))/\(AB s).length-y.j<(AB s).length-x.j)))/\(¬(x.j:Int)<(AB s).length->∃y:LnK,((y.i:Int)=IntKind.i64.wrap ((x.i:Int)+1)/\y.l.length=x.l.length/\y.l.length=x.l.length/\∀i:Nat,i<y.l.length->(gD y.l i).a0=(gD x.l i).a0/\(gD y.l i).a1=(gD x.l i).a1/\(gD y.l i).b0=(gD x.l i).b0/\(gD y.l i).b1=(gD x.l i).b1)/\(y.i<=(AB s).length/\y.l=(Xq s y.i).filter (Rp s))/\(AB s).length-y.i<q):=by
 obtain⟨h1,h2,h3,h4⟩:=hx
 refine⟨λhj=>?_,λhj=>⟨⟨x.i+1,x.l⟩,⟨(GJ (by omega)).symm,rfl,rfl,λ_ _=>⟨rfl,rfl,rfl,rfl⟩⟩,⟨h1,?_⟩,by show (AB s).length-(x.i+1)<_;omega⟩⟩
 ·have hj':x.j<(AB s).length:=Int.ofNat_lt.1 hj
  have hl:x.l.length<=10000:=h4 ▸ ART hN
  have step:(TN s x.i (x.j+1)).filter (Rp s)=x.l->(∃y:LnJ,((y.j:Int)=IntKind.i64.wrap ((x.j:Int)+1)/\(y.i:Int)=x.i/\(gD (AB s) y.i).st=(gD (AB s) x.i).st/\(gD (AB s) y.i).fl=(gD (AB s) x.i).fl/\y.l.length=x.l.length/\y.l.length=x.l.length/\∀i:Nat,i<y.l.length->(gD y.l i).a0=(gD x.l i).a0/\(gD y.l i).a1=(gD x.l i).a1/\(gD y.l i).b0=(gD x.l i).b0/\(gD y.l i).b1=(gD x.l i).b1)/\(y.i<(AB s).length/\y.j<=(AB s).length/\(AB s).length-y.i=q/\y.l=(TN s y.i y.j).filter (Rp s))/\(AB s).length-y.j<(AB s).length-x.j):=λh=>⟨⟨x.i,x.j+1,x.l⟩,⟨(GJ (by omega)).symm,rfl,rfl,rfl,rfl,rfl,λ_ _=>⟨rfl,rfl,rfl,rfl⟩⟩,⟨h1,hj',h3,h.symm⟩,by show (AB s).length-(x.j+1)<_;omega⟩
  refine⟨⟨by omega,hj⟩,λhr=>⟨⟨by omega,λg hgs=>⟨cP.1 hr,hg g hgs⟩⟩,λhp=>⟨⟨by omega,λ_=>by omega,by omega,by omega⟩,⟨x.i,x.j+1,x.l ++ [pT (gD (AB s) x.i) (gD (AB s) x.j)]⟩,⟨(GJ (by omega)).symm,rfl,rfl,rfl,by simp,by simp,AWD _ _⟩,⟨h1,hj',h3,?_⟩,by show (AB s).length-(x.j+1)<_;omega⟩,λhp=>step ?_⟩,λhr=>step ?_⟩
  ·show _=(TN s x.i (x.j+1)).filter (Rp s)
   rw[BWO hj' hr hp,<-h4]
  ·rw[BQC hj' hr hp,h4]
  ·rw[BHS hj' hr,h4]
 ·have:x.j=(AB s).length:=by omega
  rw[this] at h4;show x.l=(Xq s (x.i+1)).filter (Rp s);rw[<-sP h1];exact h4
theorem ARJ{α:Type}[Inhabited α](l m:List α)(j:Nat):gD (l ++ m) j=bif decide (j<l.length) then gD l j else gD m (j-l.length):=by
 rw[xP];by_cases h:j<l.length<;>simp[h]
theorem BWX{α:Type}[Inhabited α](x y:α){j:Nat}(h:j<2):gD [x,y] j=bif decide (j=0) then x else y:=by
 match j,h with
 |0,_=>rfl
 |1,_=>rfl
theorem H6{s:List Gau}{t:Int}{i:Nat}(h:i<(AB s).length):gU s t (i+1)=gU s t i ++ [pT ⟨t,0⟩ (gD (AB s) i),pT (gD (AB s) i) ⟨t,200000⟩]:=by
 unfold gU;rw[VQ h,List.flatMap_append,<-List.append_assoc];simp
theorem ASJ{s:List Gau}{t:Int}:∀i:Nat,i<=(AB s).length->(gU s t i).length=2+2*i
 |0,_=>rfl
 |i+1,h=>by rw[H6 (by omega),List.length_append,ASJ i (by omega)];simp;omega
theorem AQR{s:List Gau}{t:Int}:gU s t (AB s).length=Cv s t:=by unfold gU Cv;rw[List.take_length]
theorem BVN(s:List Gau)(t:Int):∃i:Nat,((gU s t i).length=2/\(i:Int)=0/\(gU s t i).length=2/\∀j:Nat,j<(gU s t i).length->((gD (gU s t i) j).a0=bif decide (j=0) then (TG ⟨t,0⟩).a0 else (TG ⟨t,200000⟩).a0)/\((gD (gU s t i) j).a1=bif decide (j=0) then (TG ⟨t,0⟩).a1 else (TG ⟨t,200000⟩).a1)/\((gD (gU s t i) j).b0=bif decide (j=0) then (TG ⟨t,0⟩).b0 else (TG ⟨t,200000⟩).b0)/\(gD (gU s t i) j).b1=bif decide (j=0) then (TG ⟨t,0⟩).b1 else (TG ⟨t,200000⟩).b1)/\i<=(AB s).length:=by
 refine⟨0,⟨rfl,rfl,rfl,λj hj=>?_⟩,Nat.zero_le _⟩
 have hj:j<2:=hj
 rw[show gU s t 0=[TG ⟨t,0⟩,TG ⟨t,200000⟩] from rfl,BWX _ _ hj]
 cases decide (j=0)<;>exact⟨rfl,rfl,rfl,rfl⟩
theorem BOC{s:List Gau}{t:Int}(hN:(AB s).length<=48){i:Nat}(h:(i:Int)<(AB s).length):(0<=(i:Int)/\(i:Int)<(AB s).length)/\(1<2/\(false=true->0<2)/\(gU s t i).length+1<9223372036854775807/\((gU s t i).length+2)*32<=140737488355328)/\∃k:Nat,((gU s t k).length=(gU s t i).length+2/\(k:Int)=IntKind.i64.wrap ((i:Int)+1)/\(gU s t k).length=(gU s t i).length+2/\∀j:Nat,j<(gU s t k).length->((gD (gU s t k) j).a0=bif decide (j<(gU s t i).length) then (gD (gU s t i) j).a0 else bif decide (j-(gU s t i).length=0) then t else (gD (AB s) i).st)/\((gD (gU s t k) j).a1=bif decide (j<(gU s t i).length) then (gD (gU s t i) j).a1 else bif decide (j-(gU s t i).length=0) then 0 else (gD (AB s) i).fl)/\((gD (gU s t k) j).b0=bif decide (j<(gU s t i).length) then (gD (gU s t i) j).b0 else bif decide (j-(gU s t i).length=0) then (gD (AB s) i).st else t)/\(gD (gU s t k) j).b1=bif decide (j<(gU s t i).length) then (gD (gU s t i) j).b1 else bif decide (j-(gU s t i).length=0) then (gD (AB s) i).fl else 200000)/\k<=(AB s).length/\(AB s).length-k<(AB s).length-i:=by
 have h':i<(AB s).length:=Int.ofNat_lt.1 h
 have hl:=ASJ (s:=s) (t:=t) i (by omega)
 refine⟨⟨by omega,h⟩,⟨by omega,λ_=>by omega,by omega,by omega⟩,i+1,⟨?_,(GJ (by omega)).symm,?_,λj hj=>?_⟩,h',by omega⟩
 ·rw[H6 h',List.length_append];rfl
 ·rw[H6 h',List.length_append];rfl
 ·rw[H6 h'] at hj ⊢
  rw[ARJ]
  by_cases h1:j<(gU s t i).length
  ·simp[h1]
  ·rw[BWX _ _ (by simp at hj;omega)]
   simp only[h1,decide_false,cond_false]
   cases decide (j-(gU s t i).length=0)<;>exact⟨rfl,rfl,rfl,rfl⟩
theorem AQM{s:List Gau}{l:List Ln}{i:Nat}(h:i<l.length):(l.take (i+1)).filter (S4 s)=(l.take i).filter (S4 s) ++ if S4 s (gD l i)=true then [gD l i] else []:=by
 rw[VQ h,List.filter_append];simp[List.filter_cons]
theorem G1{s:List Gau}{t:Int}:(Cv s t).length=2+2*(AB s).length:=by rw[<-AQR,ASJ _ (Nat.le_refl _)]
theorem BVF{s:List Gau}{t:Int}{f:List Ln}(hs:s.length<=24)(hN:(AB s).length<=48)(hg:∀g∈s,Ho g)(hf:f.length<=10000){x:LnK}(hx:x.i<=(Cv s t).length/\x.l=f ++ ((Cv s t).take x.i).filter (S4 s))(h:(x.i:Int)<(Cv s t).length) :
  ((0<=(x.i:Int)/\(x.i:Int)<(Cv s t).length)/\x.i<(Cv s t).length)/\(Zc (gD (Cv s t) x.i)=true->(s.length<4611686018427387904/\∀g:Gau,List.Mem g s->PT (gD (Cv s t) x.i)/\Ho g))/\((bif Zc (gD (Cv s t) x.i) then s.all λg=>VW (gD (Cv s t) x.i) g else false)=true->(0<1/\(false=true->0<1)/\x.l.length<9223372036854775807/\(x.l.length+1)*32<=140737488355328)/\∃y:LnK,(y.l.length=x.l.length+1/\(y.i:Int)=x.i/\y.l.length=x.l.length+1/\∀j:Nat,j<y.l.length->((gD y.l j).a0=bif decide (j<x.l.length) then (gD x.l j).a0 else (gD (Cv s t) x.i).a0)/\((gD y.l j).a1=bif decide (j<x.l.length) then (gD x.l j).a1 else (gD (Cv s t) x.i).a1)/\((gD y.l j).b0=bif decide (j<x.l.length) then (gD x.l j).b0 else (gD (Cv s t) x.i).b0)/\(gD y.l j).b1=bif decide (j<x.l.length) then (gD x.l j).b1 else (gD (Cv s t) x.i).b1)/\(y.i<(Cv s t).length/\(Cv s t).length-y.i=(Cv s t).length-x.i/\y.l=f ++ (((Cv s t).take (y.i+1)).filter (S4 s))))/\((bif Zc (gD (Cv s t) x.i) then s.all λg=>VW (gD (Cv s t) x.i) g else false)=false->∃y:LnK,(y.l.length=x.l.length/\(y.i:Int)=x.i/\y.l.length=x.l.length/\∀j:Nat,j<y.l.length->(gD y.l j).a0=(gD x.l j).a0/\(gD y.l j).a1=(gD x.l j).a1/\(gD y.l j).b0=(gD x.l j).b0/\(gD y.l j).b1=(gD x.l j).b1)/\(y.i<(Cv s t).length/\(Cv s t).length-y.i=(Cv s t).length-x.i/\y.l=f ++ (((Cv s t).take (y.i+1)).filter (S4 s)))):=by
 obtain⟨h1,h2⟩:=hx
 have h':x.i<(Cv s t).length:=Int.ofNat_lt.1 h
 have hl:x.l.length<=10098:=by
  rw[h2,List.length_append]
  have:=List.length_filter_le (S4 s) ((Cv s t).take x.i)
  rw[List.length_take] at this
  have:=G1 (s:=s) (t:=t)
  omega
 refine⟨⟨⟨by omega,h⟩,h'⟩,λhr=>⟨by omega,λg hgs=>⟨cP.1 hr,hg g hgs⟩⟩,λhp=>⟨⟨by omega,λ_=>by omega,by omega,by omega⟩,⟨x.i,x.l ++ [(gD (Cv s t) x.i)]⟩,⟨by simp,rfl,by simp,AWD _ _⟩,h',rfl,?_⟩,λhp=>⟨⟨x.i,x.l⟩,⟨rfl,rfl,rfl,λ_ _=>⟨rfl,rfl,rfl,rfl⟩⟩,h',rfl,?_⟩⟩
 ·show x.l ++ _=_
  rw[AQM h',if_pos (show S4 s (gD (Cv s t) x.i)=true from hp),<-List.append_assoc,<-h2]
 ·show x.l=_
  rw[AQM h',if_neg (by intro hq;have hq:(bif Zc (gD (Cv s t) x.i) then s.all λg=>VW (gD (Cv s t) x.i) g else false)=true:=hq;rw[hp] at hq;cases hq),List.append_nil,<-h2]
theorem BBU{s:List Gau}{t:Int}{f:List Ln}(hN:(AB s).length<=48){m:Nat}(x:LnK)(hx:x.i<(Cv s t).length/\(Cv s t).length-x.i=m/\x.l=f ++ ((Cv s t).take (x.i+1)).filter (S4 s)):∃y:LnK,(y.l.length=x.l.length/\(y.i:Int)=IntKind.i64.wrap ((x.i:Int)+1)/\y.l.length=x.l.length/\∀j:Nat,j<y.l.length->(gD y.l j).a0=(gD x.l j).a0/\(gD y.l j).a1=(gD x.l j).a1/\(gD y.l j).b0=(gD x.l j).b0/\(gD y.l j).b1=(gD x.l j).b1)/\(y.i<=(Cv s t).length/\y.l=f ++ ((Cv s t).take y.i).filter (S4 s))/\(Cv s t).length-y.i<m:=by
 have:=G1 (s:=s) (t:=t)
 exact⟨⟨x.i+1,x.l⟩,⟨rfl,(GJ (by omega)).symm,rfl,λ_ _=>⟨rfl,rfl,rfl,rfl⟩⟩,⟨hx.1,hx.2.2⟩,by show (Cv s t).length-(x.i+1)<m;omega⟩
theorem ALJ{w:Bk}{k:Int}(h:w.has k=true):N9 w k=w:=by
 obtain⟨g,b,has,st⟩:=w
 have h:has k=true:=h
 unfold N9;congr 1
 ·funext n;unfold QH;by_cases e:n=k
  ·subst e;simp[h]
  ·simp[e]
 ·funext n;unfold wJ;simp[h]
theorem CPV{w:Bk}{k n:Int}:fdM (N9 w k) n=bif decide (n=k) then hU (Zt w k) else fdM w n:=by
 unfold fdM
 show (bif QH w.has k n then hU (Zt w n) else [])=_
 unfold QH
 by_cases e:n=k
 ·subst e;simp
 ·simp[e]
theorem BXB{w:Bk}{k:Int}(h:w.has k=true):fdM w k=hU (Zt w k):=by unfold fdM;rw[h];rfl
theorem CDR{s:List Gau}(h:s=[]):hU s=[]:=by subst h;rfl
theorem BIS{s:List Gau}(hN:(AB s).length<=48):(hU s).length<=10000:=by
 unfold hU
 rw[<-uE]
 by_cases h:(AB s).length=0
 ·rw[h];simp[Xq]
 ·obtain⟨i,hi⟩:∃i,(AB s).length=i+1:=⟨(AB s).length-1,by omega⟩
  rw[hi,<-sP (i:=i) (by omega)];exact ART hN
theorem BYD{w:Bk}{k:Int}:∀n:Int,((fdM (N9 w k) n).length=bif decide (n=k) then (hU (Zt w k)).length else (fdM w n).length)/\∀j:Nat,j<(fdM (N9 w k) n).length->((gD (fdM (N9 w k) n) j).a0=bif decide (n=k) then (gD (hU (Zt w k)) j).a0 else (gD (fdM w n) j).a0)/\((gD (fdM (N9 w k) n) j).a1=bif decide (n=k) then (gD (hU (Zt w k)) j).a1 else (gD (fdM w n) j).a1)/\((gD (fdM (N9 w k) n) j).b0=bif decide (n=k) then (gD (hU (Zt w k)) j).b0 else (gD (fdM w n) j).b0)/\(gD (fdM (N9 w k) n) j).b1=bif decide (n=k) then (gD (hU (Zt w k)) j).b1 else (gD (fdM w n) j).b1:=λn=>by
 rw[CPV];cases decide (n=k)<;>exact⟨rfl,λ_ _=>⟨rfl,rfl,rfl,rfl⟩⟩
theorem BTV{a:BkS}(h:gJ a.w.g a.w.b):(sB a).length<=24/\(AB (sB a)).length<=48/\∀g∈sB a,Ho g:=by
 have h1:(sB a).length<=24:=Nat.le_trans (List.length_filter_le _ _) h.1
 have he:=bL (s:=sB a) (sB a).length (Nat.le_refl _)
 unfold Nj at he;rw[List.take_length] at he
 exact⟨h1,by unfold AB;omega,λg hg=>h.2.1 g (List.mem_filter.1 hg).1⟩
theorem zW{s:List Gau}{t:Int}:No s t=bif (bif decide ((s.length:Int)>0) then ((hU s).length:Int)==0 else false) then [] else hU s ++ (Cv s t).filter (S4 s):=by
 unfold No
 rw[show decide (0<s.length)=decide ((s.length:Int)>0) by simp[Int.natCast_pos],show decide ((hU s).length=0)=(((hU s).length:Int)==0) by rw[Bool.eq_iff_iff];simp]
theorem CPL(a:BkS)(h:gJ a.w.g a.w.b)(h2:0<=a.st/\a.st<=2000)(h3:sB a≠[]):BVV a:=by
 rw[CDA]<;> delta LI Wo UD KA LX JZ dO Qe T6 LQ HV GZ JJ NL HU FA AK Xi AN FI AE BA BM IR BH CW DC ER NE TD KJ Ff FF ZJ rZ FW HD CG NZ BP GU SX L9 HR LF HS ZU Wm Ac Df WB DO BN fE Gm aV Wk Fw Fe Ro DJ De Pz Pm PQ Rb UF VV NP BJ mR AXT fQ AAD Ad IG Cw rT vR hJ CS AG AP AI AO AON AJ Rn Gh AR DR Ri VS KQ Rc yS VY QG Dd MY IU AS CM TB EL BB Hy AVW gQ DW HY IF QS BF HB RU BW DN DI aY Ka DF J1 MM JG TI DK BO GH tI VT HA AM AQ JH ES CL LN PS Aa JK ZP N4 Nb ABC KD EI EA ML DG IS EQ FB HT CI AMG OT XJ Vx FP Kl yN EV VX AAT KC EJ GI NQ BC mK Po EU UH GM aZ AV Pj FH nE OS rF DT RO Gu dR Ab Mw PN Cs JA EO HQ BK Zn uA tK AU IY T7 HJ AL EW Ub AJO Lq EX SD tU PG Sc FK FV Ms Hg D2 DY PI Mc gC FJ RB ADV BS jY SR RV Px Xr OV B9 HZ UO DZ BE RF Dp iP FG oJ EM uO EF IA CK Je AFZ IC CJ BQ PV PK qO BZ UC FZ Sr Ei KH IZ EH BR iX LB BU KY OC zC GC cG HK Tr VF HF DU Lv OD Bf Fu iL QF dE LS UZ Jw DV DX Uy Ch Yo Em lJ BD AIX XB MR MO FU MU Gj Xn Lm JS FO Om GW HG HE CN CV iE AKB MS NS NU FD OP To XI JO WI GE ME AFD Di FY MI qL JE JU TR QA VC RX Yc AFR Ay QM Ar Qh Tl AKF HI Xu PY C8 YS uJ uX Ig NR KG Zd Yz Cr Ol Ks pH W0 Fy PC Ku Yv ZH Wr Pp OJ Pe Ty GO OU Yt It kM XD ZF OZ Iy Py rC iZ Jr TL GQ Fq AHR Dm T4 Yf Lj Wu Xw Pg NT UT vZ OK wE AGR tP SJ tD Fv TH Ax nY OY KZ Zo NF jN WW Xz Nz Hf C7 Yb PZ kZ UA TM QV NM MQ Co Cu Ap Ah Hk lI Av Cb QY lO PW QB Bj YX Hl U0 Cg Xh UM QI Ws Cm Aj ZD ZG P1 Al Cn Bn zY iH Bm uM Bc PM TW Ak LU Ba O3 Bo cI Lx jH Ck Kq Ai RY Lk Lp Mn Pk Lr SU XH Mg El Li P4 WF Ci RA Bs An Af R5 WT YJ Ve Sp S0 R0 Cp Ag SE Az Ll Mq Un Tj Vd Bi Ix Tp cL Bb Tt wG eO cV fC bY Nw Dt Zk eX dU eU dQ aE Mp bV dI Qx fL fI fG La gA Sz fA Ti Nr bU Sw eG kT oW eY cD qI nL kD qK oI Bh dJ iJ;simp only[CC,CU,V4,show Zt a.w a.k=sB a from rfl,if_true]
 obtain⟨hs,hN,hg⟩:=BTV h
 have hf:=BIS (s:=sB a) hN
 have h0:0<(sB a).length:=List.length_pos_iff.2 h3
 have ok:∀x,PT x->(sB a).length<4611686018427387904/\∀g:Gau,List.Mem g (sB a)->PT x/\Ho g:=λx hx=>⟨by omega,λg hgs=>⟨hx,hg g hgs⟩⟩
 have e_ok:∀i,i<(AB (sB a)).length->okP (gD (AB (sB a)) i):=λi hi=>gR hg (MH hi)
 refine⟨h,λhh=>⟨?a,?b1⟩,λhh=>⟨⟨⟨by omega,⟨0,rfl,Nat.zero_le _,rfl⟩,λi ⟨hi,hp⟩=>?c,λx ⟨hi,hp⟩=>?d⟩,?e⟩,?b2⟩⟩
 case a=>
  refine⟨default,?_⟩
  rw[ALJ hh,BXB hh]
  exact⟨rfl,λ_ _=>⟨rfl,rfl,rfl⟩,rfl,λ_ _=>rfl,λ_=>rfl,λ_=>rfl,λ_=>⟨rfl,λ_ _=>⟨rfl,rfl,rfl,rfl⟩⟩,rfl,λ_ _=>⟨rfl,rfl,rfl,rfl⟩⟩
 case e=>exact⟨default,rfl,λ_ _=>⟨rfl,rfl,rfl⟩,rfl,λ_ _=>rfl,λ_=>rfl,λ_=>rfl,BYD⟩
 case c=>
  refine⟨λhlt=>?_,λhge=>⟨default,?_⟩⟩
  ·have hlt':i<(AB (sB a)).length:=Int.ofNat_lt.1 hlt
   refine⟨⟨by omega,hlt⟩,⟨(e_ok i hlt').1,(e_ok i hlt').2.1⟩,ok _ (oR (e_ok i hlt')),λhpa=>⟨⟨by omega,by omega,by omega,by omega,by omega⟩,⟨⟨i,0,[TG (gD (AB (sB a)) i)]⟩,⟨rfl,rfl,rfl,rfl,rfl,rfl,oneL _⟩,hlt',Nat.zero_le _,rfl,?_⟩,λx hx=>APL hs hN hg x hx,λx hx=>AUV hs hN hg x hx⟩,λhpa=>⟨⟨⟨i,0⟩,⟨rfl,rfl,rfl,rfl⟩,hlt',Nat.zero_le _,rfl,?_⟩,λx hx=>APL hs hN hg x hx,λx hx=>AUV hs hN hg x hx⟩⟩
   ·show _=(TN (sB a) i 0).filter (Rp (sB a))
    rw[I9,hp,if_pos (show Rp (sB a) _=true from hpa)];rfl
   ·show (TN (sB a) i 0).filter (Rp (sB a))=[]
    rw[I9,hp,if_neg (by rw[show Rp (sB a) (TG (gD (AB (sB a)) i))=false from hpa];simp)];rfl
  ·have:i=(AB (sB a)).length:=by omega
   rw[this,uE] at hp;unfold hU;rw[hp];rfl
 case d=>
  refine⟨λhlt=>?_,λhge=>⟨default,?_⟩⟩
  ·have hlt':x.i<(AB (sB a)).length:=Int.ofNat_lt.1 hlt
   have hl:x.l.length<=10000:=by
    have:=ART (s:=sB a) (i:=x.i) (j:=0) hN
    rw[I9,<-hp,List.length_append] at this;omega
   refine⟨⟨by omega,hlt⟩,⟨(e_ok x.i hlt').1,(e_ok x.i hlt').2.1⟩,ok _ (oR (e_ok x.i hlt')),λhpa=>⟨⟨by omega,λ_=>by omega,by omega,by omega⟩,⟨⟨x.i,0,x.l ++ [TG (gD (AB (sB a)) x.i)]⟩,⟨rfl,rfl,rfl,rfl,by simp,by simp,AWD _ _⟩,hlt',Nat.zero_le _,rfl,?_⟩,λx hx=>APL hs hN hg x hx,λx hx=>AUV hs hN hg x hx⟩,λhpa=>⟨⟨⟨x.i,0,x.l⟩,⟨rfl,rfl,rfl,rfl,rfl,rfl,λ_ _=>⟨rfl,rfl,rfl,rfl⟩⟩,hlt',Nat.zero_le _,rfl,?_⟩,λx hx=>APL hs hN hg x hx,λx hx=>AUV hs hN hg x hx⟩⟩
   ·show _=(TN (sB a) x.i 0).filter (Rp (sB a))
    rw[I9,<-hp,if_pos (show Rp (sB a) _=true from hpa)]
   ·show x.l=(TN (sB a) x.i 0).filter (Rp (sB a))
    rw[I9,<-hp,if_neg (by rw[show Rp (sB a) (TG (gD (AB (sB a)) x.i))=false from hpa];simp),List.append_nil]
  ·have hx:x.l=hU (sB a):=by rw[hp,show x.i=(AB (sB a)).length by omega,uE];rfl
   rw[hx];exact⟨rfl,Nat.le_refl _,λ_ _=>⟨rfl,rfl,rfl,rfl⟩⟩
 all_goals
  ·have hmo:∀i:Nat,i<=(AB (sB a)).length->¬(i:Int)<(AB (sB a)).length->gU (sB a) a.st i=Cv (sB a) a.st:=λi h1 h2=>by
    rw[show i=(AB (sB a)).length by omega,AQR]
   refine⟨λhc=>by rw[zW,hc];rfl,λhc=>⟨h2,by omega,BVN _ _,λi hi=>⟨λhlt=>BOC hN hlt,λhge=>⟨⟨?_,by omega⟩,⟨⟨0,hU (sB a)⟩,⟨rfl,by rw[hmo i hi hge],by rw[hmo i hi hge],rfl,by rw[hmo i hi hge],λj _=>by rw[hmo i hi hge];exact⟨rfl,rfl,rfl,rfl⟩,rfl,λ_ _=>⟨rfl,rfl,rfl,rfl⟩⟩,Nat.zero_le _,by simp⟩,λx hx=>⟨λhlt=>⟨BVF hs hN hg hf hx hlt,λy hy=>BBU hN y hy⟩,λhge=>?_⟩⟩⟩⟩⟩
   ·simp only[decide_eq_true (show ((sB a).length:Int)>0 by omega),cond_true,beq_eq_false_iff_ne,ne_eq] at hc
    omega
   ·have e:No (sB a) a.st=x.l:=by rw[zW,hc,hx.2,List.take_of_length_le (by omega)];rfl
    rw[e];exact⟨rfl,Nat.le_refl _,λ_ _=>⟨rfl,rfl,rfl,rfl⟩⟩
theorem BZJ{s:List Gau}{t:Int}(hN:(AB s).length<=48){m:Nat}(i:Nat)(hx:i<(Cv s t).length/\(Cv s t).length-i=m/\((Cv s t).take (i+1)).filter (S4 s)=[]):∃y:Nat,(y:Int)=IntKind.i64.wrap ((i:Int)+1)/\(y<=(Cv s t).length/\((Cv s t).take y).filter (S4 s)=[])/\(Cv s t).length-y<m:=by
 have:=G1 (s:=s) (t:=t)
 exact⟨i+1,(GJ (by omega)).symm,⟨hx.1,hx.2.2⟩,by omega⟩
theorem CKX(a:BkS)(h:gJ a.w.g a.w.b)(h2:0<=a.st/\a.st<=2000)(h3:sB a=[]):BXE a:=by
 rw[CCI]<;> delta LI Wo UD KA LX JZ dO Qe T6 LQ HV GZ JJ NL HU FA AK Xi AN FI AE BA BM IR BH CW DC ER NE TD KJ Ff FF ZJ rZ FW HD CG NZ BP GU SX L9 HR LF HS ZU Wm Ac Df WB DO BN fE Gm aV Wk Fw Fe Ro DJ De Pz Pm PQ Rb UF VV NP BJ mR AXT fQ AAD Ad IG Cw rT vR hJ CS AG AP AI AO AON AJ Rn Gh AR DR Ri VS KQ Rc yS VY QG Dd MY IU AS CM TB EL BB Hy AVW gQ DW HY IF QS BF HB RU BW DN DI aY Ka DF J1 MM JG TI DK BO GH tI VT HA AM AQ JH ES CL LN PS Aa JK ZP N4 Nb ABC KD EI EA ML DG IS EQ FB HT CI AMG OT XJ Vx FP Kl yN EV VX AAT KC EJ GI NQ BC mK Po EU UH GM aZ AV Pj FH nE OS rF DT RO Gu dR Ab Mw PN Cs JA EO HQ BK Zn uA tK AU IY T7 HJ AL EW Ub AJO Lq EX SD tU PG Sc FK FV Ms Hg D2 DY PI Mc gC FJ RB ADV BS jY SR RV Px Xr OV B9 HZ UO DZ BE RF Dp iP FG EM uO EF IA CK Je AFZ IC CJ BQ PV PK qO BZ UC FZ Sr Ei KH IZ EH BR LB BU KY OC zC GC cG HK Tr VF HF DU Lv OD Bf Fu iL QF dE LS UZ Jw DV DX Uy Ch Yo Em lJ BD AIX XB MR MO FU MU Gj Xn Lm JS FO Om GW HG HE CN CV iE AKB MS NS NU FD OP To XI JO WI GE ME AFD Di FY MI qL JE JU TR QA VC RX Yc AFR Ay QM Qh Tl AKF HI Xu PY C8 YS uJ uX Ig NR KG Zd Yz Cr Ol Ks pH W0 Fy PC Ku Yv ZH Wr Pp OJ Pe Ty GO OU Yt It kM XD ZF OZ Iy Py rC iZ Jr TL GQ Fq AHR Dm T4 Yf Lj Wu Xw Pg KU NT UT vZ OK wE AGR tP SJ tD Fv TH Ax nY OY KZ Zo NF jN WW Xz Nz C7 Yb PZ kZ UA TM QV NM MQ Co Cu Ap Ah Hk lI Av Cb QY SH lO PW QB Bj YX Hl U0 Cg Xh UM QI Ws Cm Aj ZD P1 Al Cn Bn zY iH Bm uM PM TW Ak LU Ba O3 Bo cI Lx jH Ck Kq Ai RY Lk Lp Qt Mn Oc Lr SU XH Mg El Li P4 WF Ci RA Bs An Af R5 WT YJ Ve Sp S0 R0 Cp Ag SE Az Ll Mq Un Tj Vd Bi Ix Tp cL Bb Tt wG eO cV fC bY Nw Dt Zk eX dU eU dQ Zl aE Mp bV dI Qx fL fI fG La gA Sz fA Ti Nr bU Sw eG kT oW eY cD qI nL kD qK oI Bh dJ iJ;simp only[CC,CU,V4,show Zt a.w a.k=sB a from rfl,if_true]
 obtain⟨hs,hN,hg⟩:=BTV h
 have hf:hU (sB a)=[]:=CDR h3
 have h0:(AB (sB a)).length=0:=by rw[h3];rfl
 have hS:(sB a).length=0:=by rw[h3];rfl
 have ok:∀x,PT x->(sB a).length<4611686018427387904/\∀g:Gau,List.Mem g (sB a)->PT x/\Ho g:=λx hx=>⟨by omega,λg hgs=>⟨hx,hg g hgs⟩⟩
 have hc:(bif decide (((sB a).length:Int)>0) then ((hU (sB a)).length:Int)==0 else false)=false:=by rw[hS];rfl
 refine⟨h,λhh=>⟨?a,?b1⟩,λhh=>⟨⟨⟨by omega,⟨0,rfl,Nat.zero_le _,rfl⟩,λi ⟨hi,hp⟩=>?c,λx ⟨hi,hp⟩=>?d⟩,?e⟩,?b2⟩⟩
 case a=>
  refine⟨default,?_⟩
  rw[ALJ hh,BXB hh]
  exact⟨rfl,λ_ _=>⟨rfl,rfl,rfl⟩,rfl,λ_ _=>rfl,λ_=>rfl,λ_=>rfl,λ_=>⟨rfl,λ_ _=>⟨rfl,rfl,rfl,rfl⟩⟩,by show 0=(hU (sB a)).length;rw[hf];rfl⟩
 case e=>exact⟨default,rfl,λ_ _=>⟨rfl,rfl,rfl⟩,rfl,λ_ _=>rfl,λ_=>rfl,λ_=>rfl,BYD,by rw[hf];rfl⟩
 case c=>exact⟨λhlt=>absurd hlt (by omega),λhge=>⟨default,by rw[hf];rfl⟩⟩
 case d=>
  refine⟨λhlt=>absurd hlt (by omega),λhge=>⟨default,?_⟩⟩
  have hx:x.l=hU (sB a):=by rw[hp,show x.i=(AB (sB a)).length by omega,uE];rfl
  rw[hx];exact⟨rfl,Nat.le_refl _,λ_ _=>⟨rfl,rfl,rfl,rfl⟩⟩
 all_goals
  have hmo:∀i:Nat,i<=(AB (sB a)).length->gU (sB a) a.st i=Cv (sB a) a.st:=λi h1=>by
   rw[show i=(AB (sB a)).length by omega,AQR]
  have hML:=G1 (s:=sB a) (t:=a.st)
  refine⟨λhc=>?_,λ_=>⟨h2,by omega,BVN _ _,λi hi=>⟨λhlt=>BOC hN hlt,λhge=>⟨⟨0,⟨by rw[hmo i hi],by rw[hmo i hi],rfl,by rw[hmo i hi],λj _=>by rw[hmo i hi];exact⟨rfl,rfl,rfl,rfl⟩⟩,Nat.zero_le _,rfl⟩,λx ⟨hx,hy⟩=>⟨λhlt=>⟨?_,λy hy=>BZJ hN y hy,λy hy=>BBU hN y hy⟩,λhge=>?_⟩,λx hx=>⟨λhlt=>⟨BVF hs hN hg (by rw[hf];exact Nat.zero_le _) hx hlt,λy hy=>BZJ hN y hy,λy hy=>BBU hN y hy⟩,λhge=>?_⟩⟩⟩⟩⟩
  ·rw[hS] at hc;cases hc
  ·have h':x<(Cv (sB a) a.st).length:=Int.ofNat_lt.1 hlt
   refine⟨⟨⟨by omega,hlt⟩,h'⟩,λhr=>ok _ (cP.1 hr),λhp=>⟨⟨by omega,by omega,by omega,by omega,by omega⟩,⟨x,[gD (Cv (sB a) a.st) x]⟩,⟨rfl,rfl,rfl,oneL _⟩,h',rfl,?_⟩,λhp=>⟨x,rfl,h',rfl,?_⟩⟩
   ·show [_]=_
    rw[AQM h',if_pos (show S4 (sB a) (gD (Cv (sB a) a.st) x)=true from hp),hy,hf];rfl
   ·rw[AQM h',if_neg (by intro hq;have hq:(bif Zc (gD (Cv (sB a) a.st) x) then (sB a).all λg=>VW (gD (Cv (sB a) a.st) x) g else false)=true:=hq;rw[hp] at hq;cases hq),hy];rfl
  ·have hz:(Cv (sB a) a.st).filter (S4 (sB a))=[]:=by rw[<-hy,List.take_of_length_le (by omega)]
   rw[zW,hc,hf,hz];rfl
  ·have e:No (sB a) a.st=x.l:=by rw[zW,hc,hx.2,List.take_of_length_le (by omega)];rfl
   rw[e];exact⟨rfl,Nat.le_refl _,λ_ _=>⟨rfl,rfl,rfl,rfl⟩⟩
theorem BQY:AH Try.prog ASI (C_lns.spec dBkS):=Ctr.spec_ok (C:=C_lns) (λ(a:BkS) h=>by
 have h:gJ a.w.g a.w.b/\0<=a.st/\a.st<=2000:=h
 by_cases h3:sB a=[]
 ·exact Ee (A:=BSE a) (ren:=[]) (fz:=[403]) AYU (by kernel_rfl) (AA ANH (AA D7 (AA zU (AA fV (AA M3 (AA Y9 (AA CGO AD))))))) (CKX a h.1 h.2 h3) (N6 Fj (BJL a) rfl rfl (AA M3 (AA fV (AA Y9 AD))) uH (by kernel_rfl) (by kernel_rfl))
 ·exact Ee (A:=BRA a) (ren:=[]) (fz:=[403]) AYU (by kernel_rfl) (AA ANH (AA D7 (AA zU (AA fV (AA M3 (AA Y9 (AA CAW AD))))))) (CPL a h.1 h.2 h3) (N6 Fj (BJL a) rfl rfl (AA M3 (AA fV (AA Y9 AD))) uH (by kernel_rfl) (by kernel_rfl))) _
end Go.Bal
