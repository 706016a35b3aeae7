/- Package rating: lines of a part that bound its flows. -/
import Derived.Test.YtlblbbidigejkaaGreatRatC
set_option linter.unusedVariables false
set_option linter.unusedSimpArgs false
namespace Go.Bal
open Go Go.Sym Go.Proofs
def rowL(l:List Ln):AObj:=.row 4 l.length λi=>eLn (gD l i)
def dLs1:List AVal->Heap->Option (List Ln×List (Nat×Nat)×List Nat)
 |[y],H=>match dLns y H with
  |some (l,f)=>some (l,[],f)
  |none=>none
 |_,_=>none
def C_cloN:Ctr:={ α:=List Ln,xs:=λl=>[.d (eLns l)],L:=λ_=>[],val:=λl=>.own 0 4 0 l.length,keep:=λl=>[(0,.live (rowL l))],pre:=λl=>[0<l.length/\l.length<1073741824] }
def CEG:Ann:={ ann 8 [] with mt:=λid=>id==3 }
def CEW(l:List Ln):Prop:=AS ZP CEG Tryz.f135 (AG Tryz.f135) (C_cloN.xs l) (AC []) (C_cloN.val l) (C_cloN.keep l) [(0,4032)] []
theorem CPM(l:List Ln):(CEW l)=(And (FI 0 (KF l)) (ALU (AJD (AII AB 0 (BI 4)) EB (KF l) 4 (Y9 (KF l)) (APG (KF l) 9223372036854775807) (AFC (AJ (KF l)) 32)) AB (RY l (AJ (KF l))) (AE (λi=>BMO i (KF l) l (NB l (Bu i)) (MY l (Bu i)) l (Bu i) l (Bu i))))):=by kernel_rfl
def nilN:DVal:=.list 0 0 (λ_=>default) false
def C_cloE:Ctr:={ α:=One,xs:=λ_=>[.d nilN],L:=λ_=>[],val:=λ_=>.d JX,keep:=λ_=>[] }
def dNil:List AVal->Heap->Option (One×List (Nat×Nat)×List Nat)
 |[.d (.list 0 0 _ _)],_=>some (default,[],[])
 |_,_=>none
def CDT:Ann:={ ann 8 [] with md:=λid=>if id=3 then some (λk=>if k=0 then 4 else 0) else none }
def CHV(_x:One):Prop:=AS ZP CDT Tryz.f135 (AG Tryz.f135) (C_cloE.xs _x) (AC []) (C_cloE.val _x) [] [] []
theorem CLX(_x:One):(CHV _x)=(EM AB AK (WH (ANG (AII EB 0 (BI 4)) EB (CEP 0 (BB 0 4)) (Y9 0) (DC 0 9223372036854775807) 0) AB)):=by kernel_rfl
theorem CMD:AH ZP 135 (C_cloN.spec dLs1):=MK C_cloN (λ_=>CEG) [(0,4032)] [] Tryz.func135 (λ_=>by kernel_rfl) (λ_=>AD) (λ(l:List Ln) h=>by
 show CEW l;rw[CPM]<;> dsimp only[go_sem];simp only[CC,CU]
 obtain⟨h1,h2⟩:0<l.length/\l.length<1073741824:=h
 exact⟨h1,⟨λ_=>h1,by omega,by omega⟩,λ_ _=>⟨rfl,rfl,rfl,rfl⟩⟩) (λ_=>OA rfl rfl) _
theorem CLO:AH ZP 135 (C_cloE.spec dNil):=MK C_cloE (λ_=>CDT) [] [] Tryz.func135 (λ_=>by kernel_rfl) (λ_=>AD) (λ(x:One) _=>by
 show CHV x;rw[CLX]<;> dsimp only[go_sem];simp only[CC,CU]
 exact⟨by omega,by simp,by omega,by omega⟩) (λ_=>OA rfl rfl) _
structure BkS where
 w:Bk
 k:Int
 st:Int
def dBkS:List AVal->Heap->Option (BkS×List (Nat×Nat)×List Nat)
 |[.bptr id _,.d k,.d t],H=>match BTY H id with
  |some (w,q)=>some (⟨w,DG k,DG t⟩,[(100,id),(101,q)],[])
  |none=>none
 |_,_=>none
def upB(w:Bk)(k:Int):Bk:=⟨w.g,w.b,KE w.has k,kP w.has w.st k⟩
def moB(t:Int):List Ln:=[YE ⟨t,0⟩,YE ⟨t,200000⟩]
def dA(s:List Gau)(t:Int)(i:Nat):List Ln:=moB t ++ ((AF s).take i).flatMap λp=>[xI ⟨t,0⟩ p,xI p ⟨t,200000⟩]
def XY(s:List Gau)(t:Int):List Ln:=moB t ++ (AF s).flatMap λp=>[xI ⟨t,0⟩ p,xI p ⟨t,200000⟩]
def okX(s:List Gau)(x:Ln):Bool:=bif mD x then Yd s x else false
def Nj(s:List Gau)(t:Int):List Ln:=bif (bif decide (0<s.length) then decide ((dY s).length=0) else false) then [] else dY s ++ (XY s t).filter (okX s)
structure LnK where
 i:Nat
 l:List Ln
 deriving Inhabited
structure LnJ where
 i:Nat
 j:Nat
 l:List Ln
 deriving Inhabited
def sB(a:BkS):List Gau:=Rm a.w a.k
def lsH(a:BkS)(c:AVal):List (Nat×HCell):=bkK a.w ++ [(2048,.live (.box [.d (TB (sB a))])),(3144,.live (.box [c]))]
def lsR(a:BkS)(l:List Ln):List (Nat×HCell):=lsH a (.own 401 4 0 l.length) ++ [(401,.live (rowL l))]
def lsPt(p:Pt):HCell:=.live (.box [.int p.st,.int p.fl])
def lsOn(a:BkS)(l:Nat):Shape:={ α:=Nat,dflt:=0,T:=λi=>⟨lnS (sB a) l i,lsH a (.d JX)⟩,inv:=λi=>i<=(AF (sB a)).length/\(R5 (sB a) i).filter (Yd (sB a))=[],meas:=λi=>(AF (sB a)).length-i }
def lsOo(a:BkS)(l:Nat):Shape:={ α:=LnK,dflt:=default,T:=λx=>⟨lnS (sB a) l x.i,lsR a x.l⟩,inv:=λx=>x.i<=(AF (sB a)).length/\x.l=(R5 (sB a) x.i).filter (Yd (sB a)),meas:=λx=>(AF (sB a)).length-x.i }
def lsIs(a:BkS)(l i j:Nat):List (Nat×AVal):=[(5,.bptr 205 0),(22,.d (ePts (AF (sB a)))),(23,.int (AF (sB a)).length),(24,.int j)] ++ lnS (sB a) l i
def lsIn(a:BkS)(q l:Nat):Shape:={ α:=IJ,dflt:=default,T:=λx=>⟨lsIs a l x.i x.j,(205,lsPt (gD (AF (sB a)) x.i)) :: lsH a (.d JX)⟩,inv:=λx=>x.i<(AF (sB a)).length/\x.j<=(AF (sB a)).length/\(AF (sB a)).length-x.i=q/\(Ae (sB a) x.i x.j).filter (Yd (sB a))=[],meas:=λx=>(AF (sB a)).length-x.j,first:=[(205,104032)] }
def lsIo(a:BkS)(q l:Nat)(r:List (Nat×Nat)):Shape:={ α:=LnJ,dflt:=default,T:=λx=>⟨lsIs a l x.i x.j,(205,lsPt (gD (AF (sB a)) x.i)) :: lsR a x.l⟩,inv:=λx=>x.i<(AF (sB a)).length/\x.j<=(AF (sB a)).length/\(AF (sB a)).length-x.i=q/\x.l=(Ae (sB a) x.i x.j).filter (Yd (sB a)),meas:=λx=>(AF (sB a)).length-x.j,first:=(205,104032) :: r,again:=r }
noncomputable def BTX(a:BkS):IterAnn:={ fn:=Tryz.f154,code:=AG Tryz.f154,live:=[0,1,2,7,8],ann:={ base:=λid=>100000+1000*(id+1),Γ:=Sym.look [(134,C_ends.spec dGs1),(133,AYV),(55,BVC)],E:=[100,101,2048,3144],n:=41,inner:=λgs id=>if id=2 then some [lsOn a (gs.getD 0 0),lsOo a (gs.getD 0 0)] else if id=6 then some [lsIn a (gs.getD 0 0) (gs.getD 1 0),lsIo a (gs.getD 0 0) (gs.getD 1 0) [],lsIo a (gs.getD 0 0) (gs.getD 1 0) [(401,8048)]] else none } }
def ls8s(a:BkS):List (Nat×AVal):=[(0,.bptr 100 0),(1,.int a.k),(2,.int a.st),(7,.bptr 2048 0),(8,.bptr 3144 0)]
def ls8n(a:BkS):Shape:={ α:=One,dflt:=default,T:=λ_=>⟨ls8s a,lsH a (.d (eLns (dY (sB a))))⟩,inv:=λ_=>True,meas:=λ_=>0 }
def ls8o(a:BkS):Shape:={ α:=One,dflt:=default,T:=λ_=>⟨ls8s a,lsH a (.d (eLns (dY (sB a))))⟩,inv:=λ_=>True,meas:=λ_=>0,ffz:=[401] }
def lsU(a:BkS)(z:DVal):List (Nat×HCell):=bkK (upB a.w a.k) ++ [(2048,.live (.box [.d (TB (sB a))])),(3144,.live (.box [.d z]))]
def ls9(a:BkS)(z:DVal):Shape:={ α:=One,dflt:=default,T:=λ_=>⟨[(2,.int a.st),(7,.bptr 2048 0),(8,.bptr 3144 0)],lsU a z⟩,inv:=λ_=>True,meas:=λ_=>0 }
def ls14(a:BkS)(z:DVal):Shape:={ α:=Nat,dflt:=0,T:=λi=>⟨[(7,.bptr 2048 0),(8,.bptr 3144 0),(11,.bptr 12064 0),(12,.bptr 12080 0),(13,.own 402 4 0 (dA (sB a) a.st i).length),(67,.d (ePts (AF (sB a)))),(68,.int (AF (sB a)).length),(69,.int i)],lsU a z ++ [(12064,.live (.box [.int a.st,.int 0])),(12080,.live (.box [.int a.st,.int 200000])),(402,.live (rowL (dA (sB a) a.st i)))]⟩,inv:=λi=>i<=(AF (sB a)).length,meas:=λi=>(AF (sB a)).length-i,first:=[(402,13064)],again:=[(402,17128)] }
def BSO(a:BkS)(v:AVal)(i:Nat):List (Nat×AVal):=[(7,.bptr 2048 0),(16,v),(85,.own 402 4 0 (XY (sB a) a.st).length),(86,.int (XY (sB a) a.st).length),(87,.int i)]
def BTG(a:BkS):List (Nat×HCell):=bkK (upB a.w a.k) ++ [(2048,.live (.box [.d (TB (sB a))])),(402,.live (rowL (XY (sB a) a.st)))]
def CYF(a:BkS):Shape:={ α:=Nat,dflt:=0,T:=λi=>⟨BSO a (.d JX) i,BTG a⟩,inv:=λi=>i<=(XY (sB a) a.st).length/\((XY (sB a) a.st).take i).filter (okX (sB a))=[],meas:=λi=>(XY (sB a) a.st).length-i }
def CSV(a:BkS):Shape:={ α:=LnK,dflt:=default,T:=λx=>⟨BSO a (.own 403 4 0 x.l.length) x.i,BTG a ++ [(403,.live (rowL x.l))]⟩,inv:=λx=>x.i<=(XY (sB a) a.st).length/\x.l=dY (sB a) ++ ((XY (sB a) a.st).take x.i).filter (okX (sB a)),meas:=λx=>(XY (sB a) a.st).length-x.i,first:=[(403,19016)] }
def DDX(a:BkS)(m:Nat):Shape:={ α:=Nat,dflt:=0,T:=λi=>⟨BSO a (.d JX) i,BTG a⟩,inv:=λi=>i<(XY (sB a) a.st).length/\(XY (sB a) a.st).length-i=m/\((XY (sB a) a.st).take (i+1)).filter (okX (sB a))=[],meas:=λ_=>0 }
def BVD(a:BkS)(m:Nat)(f:List (Nat×Nat)):Shape:={ α:=LnK,dflt:=default,T:=λx=>⟨BSO a (.own 403 4 0 x.l.length) x.i,BTG a ++ [(403,.live (rowL x.l))]⟩,inv:=λx=>x.i<(XY (sB a) a.st).length/\(XY (sB a) a.st).length-x.i=m/\x.l=dY (sB a) ++ ((XY (sB a) a.st).take (x.i+1)).filter (okX (sB a)),meas:=λ_=>0,first:=f }
def C_lns:Ctr:={ ro:=[100],α:=BkS,xs:=λa=>[.bptr 100 0,.int a.k,.int a.st],L:=λa=>bkL a.w,val:=λa=>.d (eLns (Nj (sB a) a.st)),keep:=λa=>bkK (upB a.w a.k),pre:=λa=>[cQ a.w.g a.w.b/\0<=a.st/\a.st<=2000] }
def CRC(c:Sym.Spec):List (FuncId×Sym.Spec):=[(130,C_inside.spec dBkI),(131,C_through.spec dGsK),(132,C_passing.spec dGsL),(133,AYV),(134,C_ends.spec dGs1),(55,BVC),(135,c)]
noncomputable def CEA(a:BkS):Ann:={ ann 104 (CRC (C_cloN.spec dLs1)) with E:=[100,101],mt:=λid=>id==7||id==16||id==23,md:=λid=>if id=2 then some (λk=>if k=5 then 3 else 0) else none,iter:=λg=>if g=154 then some (BTX a) else none,loops:=λid=>if id=14 then some [ls14 a (eLns (dY (sB a)))] else if id=20 then some [CSV a] else none,cut:=λid=>if id=8 then some [ls8n a,ls8o a] else if id=9 then some [ls9 a (eLns (dY (sB a)))] else none,cutIn:=λgs id=>if id=24 then some [BVD a (gs.getD 0 0) [(403,24048)],BVD a (gs.getD 0 0) []] else none }
noncomputable def CAP(a:BkS):Ann:={ ann 104 (CRC (C_cloE.spec dNil)) with E:=[100,101],mt:=λid=>id==7||id==16||id==23,md:=λid=>if id=2 then some (λk=>if k=5 then 3 else 0) else none,iter:=λg=>if g=154 then some (BTX a) else none,loops:=λid=>if id=14 then some [ls14 a nilN] else if id=20 then some [CYF a,CSV a] else none,cut:=λid=>if id=8 then some [ls8n a,ls8o a] else if id=9 then some [ls9 a nilN] else none,cutIn:=λgs id=>if id=24 then some [DDX a (gs.getD 0 0),BVD a (gs.getD 0 0) [(403,24048)],BVD a (gs.getD 0 0) []] else none }
def CCK(a:BkS):Prop:=AS ZP (CEA a) Tryz.f104 (AG Tryz.f104) (C_lns.xs a) (AC (C_lns.L a)) (C_lns.val a) (C_lns.keep a) [] [403]
abbrev QL:=BkS.k
abbrev Bf:=BkS.w
abbrev Nn:=BkS.st
abbrev Nv:=@Exists LnK
abbrev JB:=LnK.l
abbrev AV:=LnK.i
abbrev U5:=@Eq (List Ln)
abbrev CEO:=@List.filter Ln
abbrev AKQ:=λ(f:LnK->Prop)=>∀(x:LnK),f x
abbrev Aa:=@Exists LnJ
abbrev Cg:=LnJ.j
abbrev Je:=LnJ.i
abbrev Lf:=LnJ.l
abbrev AFF:=λ(f:LnJ->Prop)=>∀(x:LnJ),f x
abbrev BMN a b c d:=iM a b c d c
abbrev ADY a:=AE (λi=>kN i a)
abbrev HO a:=dY (sB a)
abbrev AAW a:=BI (KF a)
abbrev iF a b:=U7 (sB a) b
abbrev Cf a:=DW (sB a)
abbrev ART a b:=Zn a (Cf b) (iF b a)
abbrev O6 a b(c:Nat->Prop):=Ob (BB a b) c
abbrev AHD a b c:=AMD (Bf a) b c
abbrev iC a b c:=EV (AHD a b c)
abbrev Fi a:=upB (Bf a) (QL a)
abbrev YI a b c:=AMD (Fi a) b c
abbrev fV a b c:=FP (AHD a b c)
abbrev eQ a b c:=FH (AHD a b c)
abbrev eE a b c:=FJ (AHD a b c)
abbrev Yp a b:=QR (Fi a) b
abbrev Ij a b:=QR (Bf a) b
abbrev H7 a:=KF (HO a)
abbrev BCT a b c:=AN (AFQ a b) c
abbrev aA a b c:=Sr (Nm a b) c
abbrev HV a:=dE (Bf a)
abbrev Ao a:=dE (Fi a)
abbrev Wq a b:=Xg (Bf a) b
abbrev Ms a b:=Xg (Fi a) b
abbrev rG a b:=Xc (Wq a b)
abbrev qP a b:=Ac (Wq a b)
abbrev Ho a:=Gt (Fi a)
abbrev Mr a:=Gt (Bf a)
abbrev aR a:=AI (Nn a)
abbrev uB a b c d e f g:=BKS a b c d e f g g
abbrev mI a b:=MY (JB a) b
abbrev tB a b:=NB (JB a) b
abbrev FZ a:=KF (JB a)
abbrev WW a:=AE (λi=>ART i a)
abbrev WY a:=BI (Cf a)
abbrev tV a:=AM (λi=>cD (Ij a i) (λj=>BAC j (Ij a i) (AHD a i j)))
abbrev Pf a:=fB (Bf a)
abbrev Sg a:=uG (Bf a)
abbrev ABC a:=IU (HV a)
abbrev Et a:=MO (HV a)
abbrev TL a b:=Zn a (Mr b) (Wq b a)
abbrev Hf a:=AE (λi=>TL i a)
abbrev Ev a:=BI (Mr a)
abbrev CX a:=ALL (dB (sB a))
abbrev N7 a b:=CL a (CX b)
abbrev By a b c d e f:=Mm a b (CX c) (N7 b d) e f
abbrev ARL a b:=KO (CX a) b
abbrev AHX a b c d e:=NT a b (ARL c d) (ARL c e)
abbrev AGX a b c:=VU a (CX b) c
abbrev Bm a b c d e f:=AHX a (AGX b c d) e b f
abbrev BNW a b:=U5 (JB a) b
abbrev BLX a b:=CEO (Yd (sB a)) b
abbrev BKQ a b:=BLX a (R5 (sB a) b)
abbrev aE a b c:=BNW a (BKQ b (AV c))
abbrev NG a b c d e f(g:Nat->Prop) h p:=BU a b c d e (MO f) g h p
abbrev L4 a b c d(e:Nat->Prop) f(g:Nat->Prop) h p:=NG a b c d (AE e) f g h p
abbrev BJL a b c d(e:Nat->Prop) f(g:Nat->Prop) h:=L4 a b c d e f g ES h
abbrev fL a b c d e f(g:Nat->Prop):=BJL a b c (Ev d) (λi=>TL i d) (HV d) (λi=>UV i (HV d)) (AON (Sg e) (Pf e) (tV e) (WY e) (WW e) AB f (AE g))
abbrev iA a b c d:=C5 a b c (Lf d)
abbrev bO a b:=RY (JB a) b
abbrev iD a:=KF (Lf a)
abbrev qA a b:=bO a (iD b)
abbrev ASK a b:=AR (AV a) b
abbrev rS a b:=ASK a (Je b)
abbrev QD a:=BY (CX a)
abbrev BTC a b:=ALX (dB (sB a)) b
abbrev RR a b:=N5 (BTC a b)
abbrev NU a b:=vU (BTC a b)
abbrev JK a:=AE (λi=>Vx i (CX a) (NU a i) (RR a i))
abbrev OJ a:=BI (CX a)
abbrev BAU a b c:=YL ((λ(x0 x1 x2 x3:Bool)=>if x0=x1 then x2 else x3) Fa Fa a (not a)) b c
abbrev Ca a b c d e f g h:=BAU (mD (Ln.mk a b c d)) (Uq e f g) h
abbrev gK a b c:=BB (ARL a b) (ARL a c)
abbrev jR a b:=OB a (CX b)
abbrev BPO a b c d e f:=Cj (jR a b) c (CX b) (gK b a d) (U5 e f)
abbrev BJE a b c:=BLX a (Ae (sB a) b c)
abbrev O1 a b:=BJE a (Je b) (Cg b)
abbrev hC a b c:=BPO (Je a) b (Cg a) c (Lf a) (O1 b a)
abbrev A9 a b:=AQ (OJ a) (JK a) b
abbrev BQV a b c d e f g h:=AP a b c d e f e g h
abbrev F4 a b c d:=BQV (QD a) b (FX c) (OJ a) (JK a) (OJ a) (QD a) d
abbrev jN a b c d e f:=AHX (A9 a (F4 a (AR (Cg b) c) d e)) (hC b a f) a (Cg b) c
abbrev Kj a b c d e f:=jN a b (Cg c) d e f
abbrev Pz a b c d e f:=Kj a b c d e (AV f)
abbrev DT a b:=RR a (Je b)
abbrev BNJ a b c d e f(g:Nat->Prop):=fL (AT (Je a) b) c (AN (DT d a) e) d d (RY (Lf a) f) g
abbrev jK a b c d e f g(h:Nat->Prop):=BNJ a (Je b) c d (DT e f) g h
abbrev Bq a b c d e f g(h:Nat->Prop):=jK a b c d e f (iD g) h
abbrev Ag a b c d:=iA a (iD b) (Lf c) d
abbrev DR a b:=NU a (Je b)
abbrev BOW a b c:=AN (DR a b) c
abbrev OR a b c:=BOW a b (DR a c)
abbrev Dt a:=BTR (sB a) (λi=>iF a i)
abbrev qI a b:=AQH (Dt a) b
abbrev Am a b c d e f(g:LnJ->Prop) h:=FW (qI a (Ln.mk b c d e)) f (Aa g) h
abbrev TN a b c d e f g:=Mb a (iD b) (Lf c) d e f g
abbrev HZ a b c d:=BF a (iD b) c d
abbrev EG a b:=RR a (Cg b)
abbrev pJ a b:=OS (Lf a) b
abbrev EK a b:=NU a (Cg b)
abbrev pH a b:=NM (Lf a) b
abbrev mU a b:=MY (Lf a) b
abbrev mH a b:=NB (Lf a) b
abbrev tU a:=HN (iD a)
abbrev ACG a:=AAN a 4 32
abbrev oH a:=ACG (iD a)
abbrev AIV a b:=Xc (iF a b)
abbrev AIS a b:=Ac (iF a b)
abbrev BCR a b:=iG a (Dt b) (AIS b a) (AIV b a) (iF b a)
abbrev AXY a:=TM (Dt a) (Cf a)
abbrev PF a b c d e f g(h:Gau->Prop):=And (AXY a) (AGY (λi=>BCR i b) c (BJW d e f (WL (Dt g)) h))
abbrev PK a b c d e f:=ANX a (Dt b) c d e f
abbrev AOU a:=U5 a (@List.nil Ln)
abbrev Ri a b:=AOU (BKQ a b)
abbrev AGQ a b c:=AQ (FX a) b c
abbrev uE a b c:=AGQ a (OJ b) c
abbrev AIU a b c d e f g:=Qd a ES b c d (Cf e) (λi=>ART i e) f g
abbrev jV a:=AIU (HV a) (Sg a) (Pf a) (tV a) a AB AK
abbrev sO a b:=AR a (GZ b)
abbrev AZK a b:=BJE a (GZ b) (EP b)
abbrev iT a b c:=BPO (GZ a) b (EP a) c (AZK b a) (@List.nil Ln)
abbrev Co a b c d e f g:=AHX a (iT b c d) e (EP f) (EP g)
abbrev BAH a b c d e f:=ATR (OJ a) (JK b) (QD c) d (FX e) (OJ a) f
abbrev Av a b c d e f g:=BAH a b c (AR (EP d) (EP e)) f g
abbrev XB a b c d e f(g:Nat->Prop) h p:=BV (JK a) (QD b) c d e (Mr f) g (Et h) (jV p)
abbrev CG a b:=RR a (GZ b)
abbrev BCM a b c:=AN (CG a b) c
abbrev As a b c d:=BCM a b (CG c d)
abbrev CE a b:=NU a (GZ b)
abbrev BAW a b c:=AN (CE a b) c
abbrev Bs a b c d:=BAW a b (CE c d)
abbrev Ia a b c d e f g h(p:Nat->Prop):=BNJ a b (BOW c d e) f g h p
abbrev EL a b:=RR a (EP b)
abbrev ED a b:=NU a (EP b)
abbrev Od:=Wr 4 32
abbrev ACY a:=BC (Cg a)
abbrev Br a b c d:=BF a (FZ b) c d
abbrev LX a b:=xR (BTC a b)
abbrev MP a b:=LX a (AV b)
abbrev AAY a:=HN (FZ a)
abbrev B9 a b c d e f g h:=AP a b c d e f g h h
abbrev BAQ a b c:=Bk.mk a (LI b) (Nm c) (AFQ c)
abbrev BDL a:=BTR (Bk.g a) (λi=>Xg a i)
abbrev ZF a:=BDL (Bf a)
abbrev PQ a:=BAQ (ZF a) (HV a) (Bf a)
abbrev SD a:=Rm (PQ a) (QL a)
abbrev eJ a:=NA (SD a)
abbrev Wc a:=NA (eJ a)
abbrev ADP a:=sF (Wc a)
abbrev QT a:=AM (λi=>cD (Yp a i) (λj=>BAC j (Yp a i) (YI a i j)))
abbrev QP a:=fB (Fi a)
abbrev QY a:=uG (Fi a)
abbrev iS a:=IU (Ao a)
abbrev Lv a:=MO (Ao a)
abbrev RF a b:=Zn a (Ho b) (Ms b a)
abbrev WS a:=BI (Ho a)
abbrev BNZ a b:=Nj (sB a) b
abbrev AJV a:=BNZ a (Nn a)
abbrev sD a b:=RY (AJV a) b
abbrev BML a b:=XY (sB a) (Nn b)
abbrev Lp a:=BML a a
abbrev BOC a b:=CEO (okX (sB a)) ((@List.take Ln) b (Lp a))
abbrev E3 a b c:=BNW a ((@HAppend.hAppend (List Ln) (List Ln) (List Ln) (@instHAppendOfAppend (List Ln) (@List.instAppend Ln))) (HO b) (BOC b c))
abbrev FA a:=KF (BML a a)
abbrev fS a b:=AHS AB a b
abbrev jP a b c d(e:Nat->Prop) f(g:Nat->Prop) h:=BJL a b c d e (Ao f) g h
abbrev bD a b:=bO a (FZ b)
abbrev AKH a b c:=BNC a b c a c a c
abbrev Vz a b:=AKH a (FA b) (Lp b)
abbrev hZ a b:=UV a (Ao b)
abbrev Ua a:=BY (FA a)
abbrev Gz a:=BI (FA a)
abbrev uK a b c:=E3 a b (HN (AV c))
abbrev AQW a b c:=UI (FA a) b c
abbrev sC a b c:=AQW a (AV b) c
abbrev ARP a b:=OB a (FA b)
abbrev rM a b:=ARP (AV a) b
abbrev tE a b:=OS (Lp a) b
abbrev LV a:=AJ (AV a)
abbrev AYY a b:=NM (Lp a) b
abbrev ABI a b:=AYY a (LV b)
abbrev gJ a b:=MY (Lp a) b
abbrev fO a b:=NB (Lp a) b
abbrev ACZ a b:=ATJ (Lp a) b
abbrev Au a b:=dA (sB a) (Nn a) b
abbrev Dr a b:=KF (Au a b)
abbrev AQL a b c d e f g h:=AP a b c d e d f g h
abbrev oN a b c d e:=BF a (Dr b c) d e
abbrev AOY a:=Hw (AJ a)
abbrev iJ a b c:=vE (AOY a) b c
abbrev mZ a b c d e:=iJ (KO a (Dr b c)) d e
abbrev pT a b c:=RY (Au a b) c
abbrev hJ a:=JM a 2
abbrev tY a b:=hJ (Dr a b)
abbrev BKJ a b:=xR (Pt.mk (Nn a) b)
abbrev sY a:=BKJ a 200000
abbrev tH a:=BKJ a 0
abbrev xY a:=WO (AZ a)
abbrev Lc a:=ABV (AZ a)
abbrev Ph a b c d:=BCT a b (AFQ c d)
abbrev Bo a:=KM 1 a
abbrev zB a b:=(@List.Mem Int) a (LI b)
abbrev wY a b:=TD a (AZC b)
abbrev AZV a:=DC a 24
abbrev I0 a:=AZV (DW a)
abbrev YZ a b c(d:Nat->Prop):=O6 a (QR b c) d
abbrev ASW a b c:=FJ (AMD a b c)
abbrev AYL a b c d e f g:=eZ a b c (ASW d e f) g
abbrev XI a b c:=EV (AMD a b c)
abbrev ZC a b c d e f g h:=YX a b c d e (XI f g h)
abbrev GW a b c:=FP (AMD a b c)
abbrev GQ a b c:=FH (AMD a b c)
attribute [go_sem] QL Bf Nn Nv JB AV U5 CEO AKQ Aa Cg Je Lf AFF BMN ADY HO AAW iF Cf ART O6 AHD iC Fi YI fV eQ eE Yp Ij H7 BCT aA HV Ao Wq Ms rG qP Ho Mr aR uB mI tB FZ WW WY tV Pf Sg ABC Et TL Hf Ev CX N7 By ARL AHX AGX Bm BNW BLX BKQ aE NG L4 BJL fL iA bO iD qA ASK rS QD BTC RR NU JK OJ BAU Ca gK jR BPO BJE O1 hC A9 BQV F4 jN Kj Pz DT BNJ jK Bq Ag DR BOW OR Dt qI Am TN HZ EG pJ EK pH mU mH tU ACG oH AIV AIS BCR AXY PF PK AOU Ri AGQ uE AIU jV sO AZK iT Co BAH Av XB CG BCM As CE BAW Bs Ia EL ED Od ACY Br LX MP AAY B9 BAQ BDL ZF PQ SD eJ Wc ADP QT QP QY iS Lv RF WS BNZ AJV sD BML Lp BOC E3 FA fS jP bD AKH Vz hZ Ua Gz uK AQW sC ARP rM tE LV AYY ABI gJ fO ACZ Au Dr AQL oN AOY iJ mZ pT hJ tY BKJ sY tH xY Lc Ph Bo zB wY AZV I0 YZ ASW AYL XI ZC GW GQ
theorem CLZ(a:BkS):(CCK a)=(AQ (AQ (AI (QL a)) (TM (ZF a) (Mr a)) (SE (λi=>iG i (ZF a) (qP a i) (rG a i) (Wq a i)) (JZ (HV a)) (JO (HV a)) ES (Sg a) (Pf a) (AM (λi=>O6 (QR (PQ a) i) (Ij a i) (λj=>eZ j (QR (PQ a) i) (ASW (PQ a) i j) (eE a i j) (YX (GQ (PQ a) i j) (eQ a i j) (GW (PQ a) i j) (fV a i j) (XI (PQ a) i j) (iC a i j))))) (nD (Mr a) (ZF a)) (SE (λi=>EJ i (Mr a) (qP a i) (IH (ZF a) i) (rG a i) (IV (ZF a) i) (YF (Wq a i)) (JP (ZF a) i)) (BH (HV a) (LI (HV a))) (BO (HV a) (LI (HV a))) ES (Sg a) (Pf a) (AM (λi=>YZ (Ij a i) (PQ a) i (λj=>AYL j (Ij a i) (eE a i j) (PQ a) i j (ZC (eQ a i j) (GQ (PQ a) i j) (fV a i j) (GW (PQ a) i j) (iC a i j) (PQ a) i j)))) (TY (I0 (ZF a)) (C1 (λi=>wY (AER i (ZF a)) i)) (XN (HV a)) 24 (Aj ZK (HV a)) (AM (λi=>Wd (zB i (HV a)) (Bo i) (SB i)))) EB))) ES (BMN (Nm (Bf a) (QL a)) (TV (UY (aR a) (BB (Ho a) (Mr a)) (λi=>EJ i (Ho a) (Ac (Ms a i)) (qP a i) (Xc (Ms a i)) (rG a i) (YF (Ms a i)) (YF (Wq a i))) (BH (Ao a) (HV a)) (BU (BO (Ao a) (HV a)) ES (AM (λi=>aA (Fi a) i (Nm (Bf a) i))) (AM (λi=>Ph (Fi a) i (Bf a) i)) (AM (λi=>O6 (Yp a i) (Ij a i) (λj=>eZ j (Yp a i) (FJ (YI a i j)) (eE a i j) (YX (FH (YI a i j)) (eQ a i j) (FP (YI a i j)) (fV a i j) (EV (YI a i j)) (iC a i j))))) (nD (Cf a) (SD a)) (λi=>EJ i (Cf a) (AIS a i) (IH (SD a) i) (AIV a i) (IV (SD a) i) (YF (iF a i)) (JP (SD a) i)) (RY (HO a) (Ij a (QL a))) (AE (λi=>Mb i (H7 a) (HO a) (eE a (QL a) i) (eQ a (QL a) i) (fV a (QL a) i) (iC a (QL a) i)))))) (Xh (λi=>Km EB (IC (Lc (Cf a)) (xY (H7 a))) (sD a 0) (Rh (sD a 0) (WS a) (λj=>RF j a) (Lv a) (iS a) (QY a) (QP a) (QT a)) (Hl (WU (aO (Nn a)) (Nn a) (SB (Nn a))) (AO (AXY a) (AE (λj=>BCR j a)) (WJ (DW (Dt a))) EB) (EA (λj=>Kw AB (pT a j 2) (BB (CX a) (sF (Dt a))) (CB (AE (λk=>Bh k (CX a) (NU a k) (Cq (dB (Dt a)) k) (RR a k) (Bp (dB (Dt a)) k))) (AT (CX a) (sF (Dt a))) (BC j) (WS a) (SE (λk=>RF k a) (Lv a) (iS a) ES (QY a) (QP a) (QT a) (WY a) (AQL (WW a) (AAW (HO a)) (ADY (HO a)) (aR a) AU (aZ 200000) (pT a j 2) (AE (λk=>Mb k (Dr a j) (Au a j) (MW k (FJ (tH a)) (FJ (sY a))) (MW k (FH (tH a)) (FH (sY a))) (MW k (FP (tH a)) (FP (sY a))) (MW k (EV (tH a)) (EV (sY a)))))))) (MH j (CX a)))) (λj=>OU (MH j (CX a)) j (CX a) (AQ (N7 j a) (AJD (aB (Dr a j) 4) (AKY 2) 2 4 (Y9 2) (DC (tY a j) 9223372036854775807) (AFC (tY a j) 32)) (EA (λk=>AHX (Fj AB (pT a k (tY a j)) (OJ a) (JK a) (QD a) (AR k j) (WS a) (SE (λl=>RF l a) (Lv a) (iS a) ES (QY a) (QP a) (QT a) (WY a) (AQL (WW a) (AAW (HO a)) (ADY (HO a)) (aR a) AU (aZ 200000) (pT a k (tY a j)) (AE (λl=>Mb l (Dr a k) (Au a k) (oN l a j (NB (Au a j) l) (mZ l a j (Nn a) (NU a j))) (oN l a j (MY (Au a j) l) (mZ l a j 0 (RR a j))) (oN l a j (NM (Au a j) l) (mZ l a j (NU a j) (Nn a))) (oN l a j (OS (Au a j) l) (mZ l a j (RR a j) 200000))))))) (MH k (CX a)) a k j))) (AQ (AO (Wp (Mt (HO a)) (HO a)) (cJ (HO a) (Mt (HO a))) (Iq (Ir (HO a))) (WJ (Ir (HO a)))) (Nv (λk=>DK (fS (bO k (Ir (HO a))) (jP (BB (FA a) (Dr a j)) (AT (FA a) (Dr a j)) (BC (AV k)) (WS a) (λl=>RF l a) a (λl=>hZ l a) (BU (QY a) (QP a) (QT a) (WY a) (WW a) (BB (FA a) (Dr a j)) (λl=>C5 l (FA a) (Lp a) (Au a j)) (bO k (Ir (HO a))) (gS (FZ k) (JB k) (Mt (HO a)))))) (AV k) (FA a) (E3 k a (AV k)))) (AKQ (λk=>OU (VU (AV k) (FA a) (E3 k a (AV k))) (AV k) (FA a) (WH (CV (CL (AV k) (FA a)) (FI (LV k) (FA a)) (RN (ACZ a (LV k)) (PF a a (fO a (LV k)) (gJ a (LV k)) (ABI a k) (tE a (LV k)) a (λl=>PK l a (fO a (LV k)) (ABI a k) (gJ a (LV k)) (tE a (LV k))))) (FW (IC (ACZ a (LV k)) (qI a (Nz (Lp a) (LV k)))) (ACG (FZ k)) (Nv (λl=>AO (fS (bO l (AAY k)) (jP (Gz a) (Ua a) (AT (AV l) (AV k)) (WS a) (λm=>RF m a) a (λm=>hZ m a) (BV (QY a) (QP a) (QT a) (WY a) (WW a) (FA a) (λm=>Vz m a) (bO l (AAY k)) (AE (λm=>Mb m (FZ l) (JB l) (Br m k (tB k m) (fO a (LV k))) (Br m k (mI k m) (gJ a (LV k))) (Br m k (NM (JB k) m) (ABI a k)) (Br m k (OS (JB k) m) (tE a (LV k)))))))) (rM l a) (sC a l (AV k)) (uK l a l))) (Nv (λl=>AO (fS (bD l k) (jP (Gz a) (Ua a) (AT (AV l) (AV k)) (WS a) (λm=>RF m a) a (λm=>hZ m a) (BV (QY a) (QP a) (QT a) (WY a) (WW a) (FA a) (λm=>Vz m a) (bD l k) (gS (FZ l) (JB l) (JB k))))) (rM l a) (sC a l (AV k)) (uK l a l))))) (AKQ (λl=>Hk (rM l a) (sC a l (AV k)) (uK l a l) (Nv (λm=>IK (fS (bD m l) (jP (Gz a) (Ua a) (ASK m (AV l)) (WS a) (λn=>RF n a) a (λn=>hZ n a) (BV (QY a) (QP a) (QT a) (WY a) (WW a) (FA a) (λn=>Vz n a) (bD m l) (gS (FZ m) (JB m) (JB l))))) (AV m) (FA a) (E3 m a (AV m)) (AV k)))))) (DK (sD a (FZ k)) (AJ (FZ k)) (FZ k) (Rh (AE (λl=>uB l (KF (AJV a)) (AJV a) (tB k (AJ l)) (mI k (AJ l)) (JB k) (AJ l))) (WS a) (λl=>RF l a) (Lv a) (iS a) (QY a) (QP a) (QT a)))))))))) (WH (Ob (Ob (HT (eJ a) (SD a)) (λi=>ADN i (eJ a) (SD a))) (λi=>AO (AO (HT (Wc a) (eJ a)) (JC (Wc a) (eJ a)) (WJ (DW (Wc a))) EB) (EA (λj=>DK (AGQ i (BB (CX a) (ADP a)) (RI (AE (λk=>Bh k (CX a) (NU a k) (Cq (dB (Wc a)) k) (RR a k) (Bp (dB (Wc a)) k))) (BB (CX a) (ADP a)) (AT (CX a) (ADP a)) (BC j) (Ev a) (Hf a) (Et a) (BU (ABC a) ES (Sg a) (Pf a) (tV a) (nD (Cf a) (SD a)) (λk=>EJ k (Cf a) (AIS a k) (IH (SD a) k) (AIV a k) (IV (SD a) k) (YF (iF a k)) (JP (SD a) k)) AB AK))) j (CX a) (Ri a j))) (AE (λj=>OU (AGX j a (Ri a j)) j (CX a) (CB (N7 j a) (aO (NU a j)) (BI i) (PF a a (FJ (LX a j)) (FH (LX a j)) (FP (LX a j)) (EV (LX a j)) a (λk=>PK k a (FJ (LX a j)) (FP (LX a j)) (FH (LX a j)) (EV (LX a j)))) (Wm (qI a (LX a j)) (S5 Od (Aa (λk=>TY (A9 a (F4 a (ACY k) i (Ia k j a k (NU a j) a (RR a j) 1 (λl=>TN l k k (FJ (LX a j)) (FH (LX a j)) (FP (LX a j)) (EV (LX a j)))))) (jR (Je k) a) (Cg k) (CX a) (gK a (Je k) j) (U5 (Lf k) (O1 a k)))) (S2 (λk=>By (iT k a j) (EP k) a a (Ca (CE a k) (CG a k) (ED a k) (EL a k) i (PF a a (CE a k) (CG a k) (ED a k) (EL a k) a (λl=>PK l a (CE a k) (ED a k) (CG a k) (EL a k))) (Am a (CE a k) (CG a k) (ED a k) (EL a k) Od (λl=>jN a l (EP k) i (Ia l (GZ k) a l (CE a k) a (CG a k) 1 (λm=>TN m l l (CE a k) (CG a k) (ED a k) (EL a k))) j) (De (λl=>Co (Av a a a l k i (XB a a (ZT l k) (Bs a l a k) (As a l a k) a (λm=>TL m a) a a)) l a j a l k))) (De (λl=>Co (Av a a a l k i (XB a a (ZT l k) (Bs a l a k) (As a l a k) a (λm=>TL m a) a a)) l a j a l k))) (EA (λl=>Bm (uE i a (RI (JK a) (OJ a) (QD a) (sO l k) (Ev a) (Hf a) (Et a) (jV a))) l a (Ri a l) a j)))) (AFF (λk=>By (hC k a j) (Cg k) a a (Ca (DR a k) (DT a k) (EK a k) (EG a k) i (PF a a (DR a k) (DT a k) (EK a k) (EG a k) a (λl=>PK l a (DR a k) (EK a k) (DT a k) (EG a k))) (Am a (DR a k) (DT a k) (EK a k) (EG a k) (oH k) (λl=>Kj a l k i (jK l k (OR a l k) a a k (tU k) (λm=>TN m l l (HZ m k (mH k m) (DR a k)) (HZ m k (mU k m) (DT a k)) (HZ m k (pH k m) (EK a k)) (HZ m k (pJ k m) (EG a k)))) j) (Aa (λl=>Kj a l k i (Bq l k (OR a l k) a a k k (λm=>Ag m l l k)) j))) (Aa (λl=>Kj a l k i (Bq l k (OR a l k) a a k k (λm=>Ag m l l k)) j))) (Nv (λl=>Bm (xB (FX i) (OJ a) (JK a) (fL (JK a) (QD a) (rS l k) a a (qA l k) (λm=>iA m (FZ l) (JB l) k))) (AV l) a (aE l a l) a j))))) (De (λk=>TY (BAH a a a (BC (EP k)) i (XB a a (BBC k j) (BAW a k (NU a j)) (BCM a k (RR a j)) a (λl=>TL l a) a a)) (jR (GZ k) a) (EP k) (CX a) (gK a (GZ k) j) (AOU (AZK a k)))) (WH (S2 (λk=>By (iT k a j) (EP k) a a (Ca (CE a k) (CG a k) (ED a k) (EL a k) i (PF a a (CE a k) (CG a k) (ED a k) (EL a k) a (λl=>PK l a (CE a k) (ED a k) (CG a k) (EL a k))) (Am a (CE a k) (CG a k) (ED a k) (EL a k) Od (λl=>jN a l (EP k) i (Ia l (GZ k) a l (CE a k) a (CG a k) 1 (λm=>TN m l l (CE a k) (CG a k) (ED a k) (EL a k))) j) (De (λl=>Co (Av a a a l k i (XB a a (ZT l k) (Bs a l a k) (As a l a k) a (λm=>TL m a) a a)) l a j a l k))) (De (λl=>Co (Av a a a l k i (XB a a (ZT l k) (Bs a l a k) (As a l a k) a (λm=>TL m a) a a)) l a j a l k))) (EA (λl=>Bm (uE i a (RI (JK a) (OJ a) (QD a) (sO l k) (Ev a) (Hf a) (Et a) (jV a))) l a (Ri a l) a j)))) (AFF (λk=>By (hC k a j) (Cg k) a a (Ca (DR a k) (DT a k) (EK a k) (EG a k) i (PF a a (DR a k) (DT a k) (EK a k) (EG a k) a (λl=>PK l a (DR a k) (EK a k) (DT a k) (EG a k))) (Am a (DR a k) (DT a k) (EK a k) (EG a k) (oH k) (λl=>Kj a l k i (jK l k (OR a l k) a a k (tU k) (λm=>TN m l l (HZ m k (mH k m) (DR a k)) (HZ m k (mU k m) (DT a k)) (HZ m k (pH k m) (EK a k)) (HZ m k (pJ k m) (EG a k)))) j) (Aa (λl=>Kj a l k i (Bq l k (OR a l k) a a k k (λm=>Ag m l l k)) j))) (Aa (λl=>Kj a l k i (Bq l k (OR a l k) a a k k (λm=>Ag m l l k)) j))) (Nv (λl=>Bm (xB (FX i) (OJ a) (JK a) (fL (JK a) (QD a) (rS l k) a a (qA l k) (λm=>iA m (FZ l) (JB l) k))) (AV l) a (aE l a l) a j))))))) (TV (BW (AI (QL a)) (aR a) (Ev a) (Hf a) (Et a) (B9 (ABC a) ES (Sg a) (Pf a) (tV a) (WY a) (WW a) (RY (HO a) 0)))))) (AKQ (λj=>OU (AGX (AV j) a (aE j a j)) (AV j) (CX a) (CB (N7 (AV j) a) (aO (NU a (AV j))) (BI i) (PF a a (FJ (MP a j)) (FH (MP a j)) (FP (MP a j)) (EV (MP a j)) a (λk=>PK k a (FJ (MP a j)) (FP (MP a j)) (FH (MP a j)) (EV (MP a j)))) (Wm (qI a (MP a j)) (S5 (ACG (FZ j)) (Aa (λk=>TY (A9 a (F4 a (ACY k) i (Ia k (AV j) a k (NU a (AV j)) a (RR a (AV j)) (AAY j) (λl=>TN l k k (Br l j (tB j l) (FJ (MP a j))) (Br l j (mI j l) (FH (MP a j))) (Br l j (NM (JB j) l) (FP (MP a j))) (Br l j (OS (JB j) l) (EV (MP a j))))))) (jR (Je k) a) (Cg k) (CX a) (gK a (Je k) (AV j)) (U5 (Lf k) (O1 a k)))) (S2 (λk=>By (iT k a (AV j)) (EP k) a a (Ca (CE a k) (CG a k) (ED a k) (EL a k) i (PF a a (CE a k) (CG a k) (ED a k) (EL a k) a (λl=>PK l a (CE a k) (ED a k) (CG a k) (EL a k))) (Am a (CE a k) (CG a k) (ED a k) (EL a k) Od (λl=>jN a l (EP k) i (Ia l (GZ k) a l (CE a k) a (CG a k) 1 (λm=>TN m l l (CE a k) (CG a k) (ED a k) (EL a k))) (AV j)) (De (λl=>Co (Av a a a l k i (XB a a (ZT l k) (Bs a l a k) (As a l a k) a (λm=>TL m a) a a)) l a (AV j) a l k))) (De (λl=>Co (Av a a a l k i (XB a a (ZT l k) (Bs a l a k) (As a l a k) a (λm=>TL m a) a a)) l a (AV j) a l k))) (EA (λl=>Bm (uE i a (RI (JK a) (OJ a) (QD a) (sO l k) (Ev a) (Hf a) (Et a) (jV a))) l a (Ri a l) a (AV j))))) (AFF (λk=>By (hC k a (AV j)) (Cg k) a a (Ca (DR a k) (DT a k) (EK a k) (EG a k) i (PF a a (DR a k) (DT a k) (EK a k) (EG a k) a (λl=>PK l a (DR a k) (EK a k) (DT a k) (EG a k))) (Am a (DR a k) (DT a k) (EK a k) (EG a k) (oH k) (λl=>Pz a l k i (jK l k (OR a l k) a a k (tU k) (λm=>TN m l l (HZ m k (mH k m) (DR a k)) (HZ m k (mU k m) (DT a k)) (HZ m k (pH k m) (EK a k)) (HZ m k (pJ k m) (EG a k)))) j) (Aa (λl=>Pz a l k i (Bq l k (OR a l k) a a k k (λm=>Ag m l l k)) j))) (Aa (λl=>Pz a l k i (Bq l k (OR a l k) a a k k (λm=>Ag m l l k)) j))) (Nv (λl=>Bm (xB (FX i) (OJ a) (JK a) (fL (JK a) (QD a) (rS l k) a a (qA l k) (λm=>iA m (FZ l) (JB l) k))) (AV l) a (aE l a l) a (AV j)))))) (Aa (λk=>TY (A9 a (F4 a (ACY k) i (Ia k (AV j) a k (NU a (AV j)) a (RR a (AV j)) (FZ j) (λl=>C5 l (iD k) (Lf k) (JB j))))) (jR (Je k) a) (Cg k) (CX a) (gK a (Je k) (AV j)) (U5 (Lf k) (O1 a k)))) (WH (S2 (λk=>By (iT k a (AV j)) (EP k) a a (Ca (CE a k) (CG a k) (ED a k) (EL a k) i (PF a a (CE a k) (CG a k) (ED a k) (EL a k) a (λl=>PK l a (CE a k) (ED a k) (CG a k) (EL a k))) (Am a (CE a k) (CG a k) (ED a k) (EL a k) Od (λl=>jN a l (EP k) i (Ia l (GZ k) a l (CE a k) a (CG a k) 1 (λm=>TN m l l (CE a k) (CG a k) (ED a k) (EL a k))) (AV j)) (De (λl=>Co (Av a a a l k i (XB a a (ZT l k) (Bs a l a k) (As a l a k) a (λm=>TL m a) a a)) l a (AV j) a l k))) (De (λl=>Co (Av a a a l k i (XB a a (ZT l k) (Bs a l a k) (As a l a k) a (λm=>TL m a) a a)) l a (AV j) a l k))) (EA (λl=>Bm (uE i a (RI (JK a) (OJ a) (QD a) (sO l k) (Ev a) (Hf a) (Et a) (jV a))) l a (Ri a l) a (AV j))))) (AFF (λk=>By (hC k a (AV j)) (Cg k) a a (Ca (DR a k) (DT a k) (EK a k) (EG a k) i (PF a a (DR a k) (DT a k) (EK a k) (EG a k) a (λl=>PK l a (DR a k) (EK a k) (DT a k) (EG a k))) (Am a (DR a k) (DT a k) (EK a k) (EG a k) (oH k) (λl=>Pz a l k i (jK l k (OR a l k) a a k (tU k) (λm=>TN m l l (HZ m k (mH k m) (DR a k)) (HZ m k (mU k m) (DT a k)) (HZ m k (pH k m) (EK a k)) (HZ m k (pJ k m) (EG a k)))) j) (Aa (λl=>Pz a l k i (Bq l k (OR a l k) a a k k (λm=>Ag m l l k)) j))) (Aa (λl=>Pz a l k i (Bq l k (OR a l k) a a k k (λm=>Ag m l l k)) j))) (Nv (λl=>Bm (xB (FX i) (OJ a) (JK a) (fL (JK a) (QD a) (rS l k) a a (qA l k) (λm=>iA m (FZ l) (JB l) k))) (AV l) a (aE l a l) a (AV j)))))))) (TV (KD (QL a) (Nn a) (CB (Ev a) (Hf a) (Et a) (ABC a) (AP ES (Sg a) (Pf a) (tV a) (WY a) (WW a) (RY (HO a) (FZ j)) (LU (FZ j)) (AE (λk=>uB k (H7 a) (HO a) (tB j (AJ k)) (mI j (AJ k)) (JB j) (AJ k))))))))))) (uF (TV (UY (aR a) (BB (Ho a) (Mr a)) (λi=>EJ i (Ho a) (Ac (Ms a i)) (qP a i) (Xc (Ms a i)) (rG a i) (YF (Ms a i)) (YF (Wq a i))) (BH (Ao a) (HV a)) (BV (BO (Ao a) (HV a)) ES (AM (λi=>aA (Fi a) i (KE (Nm (Bf a)) (QL a) i))) (AM (λi=>BCT (Fi a) i (kP (Nm (Bf a)) (AFQ (Bf a)) (QL a) i))) (AM (λi=>O6 (Yp a i) ((@cond Nat) (BJA i (QL a)) (H7 a) (Ij a i)) (λj=>eZ j (Yp a i) (FJ (YI a i j)) (kE i (QL a) (NB (HO a) j) (eE a i j)) (YX (FH (YI a i j)) (kE i (QL a) (MY (HO a) j) (eQ a i j)) (FP (YI a i j)) (kE i (QL a) (NM (HO a) j) (fV a i j)) (EV (YI a i j)) (kE i (QL a) (OS (HO a) j) (iC a i j)))))) (Cf a) (λi=>ART i a) (AAW (HO a)) (ADY (HO a))))))))):=by kernel_rfl
def CEB(a:BkS):Prop:=AS ZP (CAP a) Tryz.f104 (AG Tryz.f104) (C_lns.xs a) (AC (C_lns.L a)) (C_lns.val a) (C_lns.keep a) [] [403]
abbrev O9 a b:=AOU (BOC a b)
attribute [go_sem] O9
theorem CMI(a:BkS):(CEB a)=(AQ (AQ (AI (QL a)) (TM (ZF a) (Mr a)) (SE (λi=>iG i (ZF a) (qP a i) (rG a i) (Wq a i)) (JZ (HV a)) (JO (HV a)) ES (Sg a) (Pf a) (AM (λi=>O6 (QR (PQ a) i) (Ij a i) (λj=>eZ j (QR (PQ a) i) (ASW (PQ a) i j) (eE a i j) (YX (GQ (PQ a) i j) (eQ a i j) (GW (PQ a) i j) (fV a i j) (XI (PQ a) i j) (iC a i j))))) (nD (Mr a) (ZF a)) (SE (λi=>EJ i (Mr a) (qP a i) (IH (ZF a) i) (rG a i) (IV (ZF a) i) (YF (Wq a i)) (JP (ZF a) i)) (BH (HV a) (LI (HV a))) (BO (HV a) (LI (HV a))) ES (Sg a) (Pf a) (AM (λi=>YZ (Ij a i) (PQ a) i (λj=>AYL j (Ij a i) (eE a i j) (PQ a) i j (ZC (eQ a i j) (GQ (PQ a) i j) (fV a i j) (GW (PQ a) i j) (iC a i j) (PQ a) i j)))) (TY (I0 (ZF a)) (C1 (λi=>wY (AER i (ZF a)) i)) (XN (HV a)) 24 (Aj ZK (HV a)) (AM (λi=>Wd (zB i (HV a)) (Bo i) (SB i)))) EB))) ES (BMN (Nm (Bf a) (QL a)) (TV (UY (aR a) (BB (Ho a) (Mr a)) (λi=>EJ i (Ho a) (Ac (Ms a i)) (qP a i) (Xc (Ms a i)) (rG a i) (YF (Ms a i)) (YF (Wq a i))) (BH (Ao a) (HV a)) (BU (BO (Ao a) (HV a)) ES (AM (λi=>aA (Fi a) i (Nm (Bf a) i))) (AM (λi=>Ph (Fi a) i (Bf a) i)) (AM (λi=>O6 (Yp a i) (Ij a i) (λj=>eZ j (Yp a i) (FJ (YI a i j)) (eE a i j) (YX (FH (YI a i j)) (eQ a i j) (FP (YI a i j)) (fV a i j) (EV (YI a i j)) (iC a i j))))) (nD (Cf a) (SD a)) (λi=>EJ i (Cf a) (AIS a i) (IH (SD a) i) (AIV a i) (IV (SD a) i) (YF (iF a i)) (JP (SD a) i)) (BB 0 (Ij a (QL a))) AB))) (Xh (λi=>Km EB (IC (Lc (Cf a)) (xY 0)) (sD a 0) (Rh (sD a 0) (WS a) (λj=>RF j a) (Lv a) (iS a) (QY a) (QP a) (QT a)) (Hl (WU (aO (Nn a)) (Nn a) (SB (Nn a))) (AO (AXY a) (AE (λj=>BCR j a)) (WJ (DW (Dt a))) EB) (EA (λj=>Kw AB (pT a j 2) (BB (CX a) (sF (Dt a))) (CB (AE (λk=>Bh k (CX a) (NU a k) (Cq (dB (Dt a)) k) (RR a k) (Bp (dB (Dt a)) k))) (AT (CX a) (sF (Dt a))) (BC j) (WS a) (SE (λk=>RF k a) (Lv a) (iS a) ES (QY a) (QP a) (QT a) (WY a) (AQL (WW a) AB AK (aR a) AU (aZ 200000) (pT a j 2) (AE (λk=>Mb k (Dr a j) (Au a j) (MW k (FJ (tH a)) (FJ (sY a))) (MW k (FH (tH a)) (FH (sY a))) (MW k (FP (tH a)) (FP (sY a))) (MW k (EV (tH a)) (EV (sY a)))))))) (MH j (CX a)))) (λj=>OU (MH j (CX a)) j (CX a) (AQ (N7 j a) (AJD (aB (Dr a j) 4) (AKY 2) 2 4 (Y9 2) (DC (tY a j) 9223372036854775807) (AFC (tY a j) 32)) (EA (λk=>AHX (Fj AB (pT a k (tY a j)) (OJ a) (JK a) (QD a) (AR k j) (WS a) (SE (λl=>RF l a) (Lv a) (iS a) ES (QY a) (QP a) (QT a) (WY a) (AQL (WW a) AB AK (aR a) AU (aZ 200000) (pT a k (tY a j)) (AE (λl=>Mb l (Dr a k) (Au a k) (oN l a j (NB (Au a j) l) (mZ l a j (Nn a) (NU a j))) (oN l a j (MY (Au a j) l) (mZ l a j 0 (RR a j))) (oN l a j (NM (Au a j) l) (mZ l a j (NU a j) (Nn a))) (oN l a j (OS (Au a j) l) (mZ l a j (RR a j) 200000))))))) (MH k (CX a)) a k j))) (AO (VK AK) (EA (λk=>CV AB (BV AK AB (BB (FA a) (Dr a j)) (AT (FA a) (Dr a j)) (BC k) (Ho a) (λl=>RF l a) (Lv a) (AIU (Ao a) (QY a) (QP a) (QT a) a (BB (FA a) (Dr a j)) (gS (FA a) (Lp a) (Au a j)))) (DC k (FA a)) (O9 a k))) (AE (λk=>WR k (FA a) (O9 a k) (CV (CL k (FA a)) (FI (AJ k) (FA a)) (RN (ACZ a (AJ k)) (PF a a (fO a (AJ k)) (gJ a (AJ k)) (AYY a (AJ k)) (tE a (AJ k)) a (λl=>PK l a (fO a (AJ k)) (AYY a (AJ k)) (gJ a (AJ k)) (tE a (AJ k))))) (FW (IC (ACZ a (AJ k)) (qI a (Nz (Lp a) (AJ k)))) Od (Nv (λl=>AO (fS (bO l 1) (jP (Gz a) (Ua a) (AT (AV l) k) (WS a) (λm=>RF m a) a (λm=>hZ m a) (BV (QY a) (QP a) (QT a) (WY a) (WW a) (FA a) (λm=>Vz m a) (bO l 1) (AE (λm=>uB m (FZ l) (JB l) (fO a (AJ k)) (gJ a (AJ k)) (Lp a) (AJ k)))))) (rM l a) (sC a l k) (uK l a l))) (EA (λl=>AO (VK (BV AK AB (Gz a) (Ua a) (AT l k) (Ho a) (λm=>RF m a) (Lv a) (AIU (Ao a) (QY a) (QP a) (QT a) a (Gz a) (AE (λm=>Vz m a))))) (ARP l a) (AQW a l k) (O9 a (HN l)))))) (WH (AE (λl=>Hk (ARP l a) (AQW a l k) (O9 a (HN l)) (EA (λm=>IK (VK (BV AK AB (Gz a) (Ua a) (AR m l) (Ho a) (λn=>RF n a) (Lv a) (AIU (Ao a) (QY a) (QP a) (QT a) a (Gz a) (AE (λn=>Vz n a))))) m (FA a) (O9 a m) k)))) (AKQ (λl=>Hk (rM l a) (sC a l k) (uK l a l) (Nv (λm=>IK (fS (bD m l) (jP (Gz a) (Ua a) (ASK m (AV l)) (WS a) (λn=>RF n a) a (λn=>hZ n a) (BV (QY a) (QP a) (QT a) (WY a) (WW a) (FA a) (λn=>Vz n a) (bD m l) (gS (FZ m) (JB m) (JB l))))) (AV m) (FA a) (E3 m a (AV m)) k))))) (And (sD a 0) (Rh (sD a 0) (WS a) (λl=>RF l a) (Lv a) (iS a) (QY a) (QP a) (QT a))))) (AKQ (λk=>WR (AV k) (FA a) (E3 k a (AV k)) (CV (CL (AV k) (FA a)) (FI (LV k) (FA a)) (RN (ACZ a (LV k)) (PF a a (fO a (LV k)) (gJ a (LV k)) (ABI a k) (tE a (LV k)) a (λl=>PK l a (fO a (LV k)) (ABI a k) (gJ a (LV k)) (tE a (LV k))))) (FW (IC (ACZ a (LV k)) (qI a (Nz (Lp a) (LV k)))) (ACG (FZ k)) (Nv (λl=>AO (fS (bO l (AAY k)) (jP (Gz a) (Ua a) (AT (AV l) (AV k)) (WS a) (λm=>RF m a) a (λm=>hZ m a) (BV (QY a) (QP a) (QT a) (WY a) (WW a) (FA a) (λm=>Vz m a) (bO l (AAY k)) (AE (λm=>Mb m (FZ l) (JB l) (Br m k (tB k m) (fO a (LV k))) (Br m k (mI k m) (gJ a (LV k))) (Br m k (NM (JB k) m) (ABI a k)) (Br m k (OS (JB k) m) (tE a (LV k)))))))) (rM l a) (sC a l (AV k)) (uK l a l))) (Nv (λl=>AO (fS (bD l k) (jP (Gz a) (Ua a) (AT (AV l) (AV k)) (WS a) (λm=>RF m a) a (λm=>hZ m a) (BV (QY a) (QP a) (QT a) (WY a) (WW a) (FA a) (λm=>Vz m a) (bD l k) (gS (FZ l) (JB l) (JB k))))) (rM l a) (sC a l (AV k)) (uK l a l))))) (WH (AE (λl=>Hk (ARP l a) (AQW a l (AV k)) (O9 a (HN l)) (EA (λm=>IK (VK (BV AK AB (Gz a) (Ua a) (AR m l) (Ho a) (λn=>RF n a) (Lv a) (AIU (Ao a) (QY a) (QP a) (QT a) a (Gz a) (AE (λn=>Vz n a))))) m (FA a) (O9 a m) (AV k))))) (AKQ (λl=>Hk (rM l a) (sC a l (AV k)) (uK l a l) (Nv (λm=>IK (fS (bD m l) (jP (Gz a) (Ua a) (ASK m (AV l)) (WS a) (λn=>RF n a) a (λn=>hZ n a) (BV (QY a) (QP a) (QT a) (WY a) (WW a) (FA a) (λn=>Vz n a) (bD m l) (gS (FZ m) (JB m) (JB l))))) (AV m) (FA a) (E3 m a (AV m)) (AV k)))))) (DK (sD a (FZ k)) (AJ (FZ k)) (FZ k) (Rh (AE (λl=>uB l (KF (AJV a)) (AJV a) (tB k (AJ l)) (mI k (AJ l)) (JB k) (AJ l))) (WS a) (λl=>RF l a) (Lv a) (iS a) (QY a) (QP a) (QT a)))))))))) (WH (Ob (Ob (HT (eJ a) (SD a)) (λi=>ADN i (eJ a) (SD a))) (λi=>AO (AO (HT (Wc a) (eJ a)) (JC (Wc a) (eJ a)) (WJ (DW (Wc a))) EB) (EA (λj=>DK (AGQ i (BB (CX a) (ADP a)) (RI (AE (λk=>Bh k (CX a) (NU a k) (Cq (dB (Wc a)) k) (RR a k) (Bp (dB (Wc a)) k))) (BB (CX a) (ADP a)) (AT (CX a) (ADP a)) (BC j) (Ev a) (Hf a) (Et a) (BU (ABC a) ES (Sg a) (Pf a) (tV a) (nD (Cf a) (SD a)) (λk=>EJ k (Cf a) (AIS a k) (IH (SD a) k) (AIV a k) (IV (SD a) k) (YF (iF a k)) (JP (SD a) k)) AB AK))) j (CX a) (Ri a j))) (AE (λj=>OU (AGX j a (Ri a j)) j (CX a) (CB (N7 j a) (aO (NU a j)) (BI i) (PF a a (FJ (LX a j)) (FH (LX a j)) (FP (LX a j)) (EV (LX a j)) a (λk=>PK k a (FJ (LX a j)) (FP (LX a j)) (FH (LX a j)) (EV (LX a j)))) (Wm (qI a (LX a j)) (S5 Od (Aa (λk=>TY (A9 a (F4 a (ACY k) i (Ia k j a k (NU a j) a (RR a j) 1 (λl=>TN l k k (FJ (LX a j)) (FH (LX a j)) (FP (LX a j)) (EV (LX a j)))))) (jR (Je k) a) (Cg k) (CX a) (gK a (Je k) j) (U5 (Lf k) (O1 a k)))) (S2 (λk=>By (iT k a j) (EP k) a a (Ca (CE a k) (CG a k) (ED a k) (EL a k) i (PF a a (CE a k) (CG a k) (ED a k) (EL a k) a (λl=>PK l a (CE a k) (ED a k) (CG a k) (EL a k))) (Am a (CE a k) (CG a k) (ED a k) (EL a k) Od (λl=>jN a l (EP k) i (Ia l (GZ k) a l (CE a k) a (CG a k) 1 (λm=>TN m l l (CE a k) (CG a k) (ED a k) (EL a k))) j) (De (λl=>Co (Av a a a l k i (XB a a (ZT l k) (Bs a l a k) (As a l a k) a (λm=>TL m a) a a)) l a j a l k))) (De (λl=>Co (Av a a a l k i (XB a a (ZT l k) (Bs a l a k) (As a l a k) a (λm=>TL m a) a a)) l a j a l k))) (EA (λl=>Bm (uE i a (RI (JK a) (OJ a) (QD a) (sO l k) (Ev a) (Hf a) (Et a) (jV a))) l a (Ri a l) a j)))) (AFF (λk=>By (hC k a j) (Cg k) a a (Ca (DR a k) (DT a k) (EK a k) (EG a k) i (PF a a (DR a k) (DT a k) (EK a k) (EG a k) a (λl=>PK l a (DR a k) (EK a k) (DT a k) (EG a k))) (Am a (DR a k) (DT a k) (EK a k) (EG a k) (oH k) (λl=>Kj a l k i (jK l k (OR a l k) a a k (tU k) (λm=>TN m l l (HZ m k (mH k m) (DR a k)) (HZ m k (mU k m) (DT a k)) (HZ m k (pH k m) (EK a k)) (HZ m k (pJ k m) (EG a k)))) j) (Aa (λl=>Kj a l k i (Bq l k (OR a l k) a a k k (λm=>Ag m l l k)) j))) (Aa (λl=>Kj a l k i (Bq l k (OR a l k) a a k k (λm=>Ag m l l k)) j))) (Nv (λl=>Bm (xB (FX i) (OJ a) (JK a) (fL (JK a) (QD a) (rS l k) a a (qA l k) (λm=>iA m (FZ l) (JB l) k))) (AV l) a (aE l a l) a j))))) (De (λk=>TY (BAH a a a (BC (EP k)) i (XB a a (BBC k j) (BAW a k (NU a j)) (BCM a k (RR a j)) a (λl=>TL l a) a a)) (jR (GZ k) a) (EP k) (CX a) (gK a (GZ k) j) (AOU (AZK a k)))) (WH (S2 (λk=>By (iT k a j) (EP k) a a (Ca (CE a k) (CG a k) (ED a k) (EL a k) i (PF a a (CE a k) (CG a k) (ED a k) (EL a k) a (λl=>PK l a (CE a k) (ED a k) (CG a k) (EL a k))) (Am a (CE a k) (CG a k) (ED a k) (EL a k) Od (λl=>jN a l (EP k) i (Ia l (GZ k) a l (CE a k) a (CG a k) 1 (λm=>TN m l l (CE a k) (CG a k) (ED a k) (EL a k))) j) (De (λl=>Co (Av a a a l k i (XB a a (ZT l k) (Bs a l a k) (As a l a k) a (λm=>TL m a) a a)) l a j a l k))) (De (λl=>Co (Av a a a l k i (XB a a (ZT l k) (Bs a l a k) (As a l a k) a (λm=>TL m a) a a)) l a j a l k))) (EA (λl=>Bm (uE i a (RI (JK a) (OJ a) (QD a) (sO l k) (Ev a) (Hf a) (Et a) (jV a))) l a (Ri a l) a j)))) (AFF (λk=>By (hC k a j) (Cg k) a a (Ca (DR a k) (DT a k) (EK a k) (EG a k) i (PF a a (DR a k) (DT a k) (EK a k) (EG a k) a (λl=>PK l a (DR a k) (EK a k) (DT a k) (EG a k))) (Am a (DR a k) (DT a k) (EK a k) (EG a k) (oH k) (λl=>Kj a l k i (jK l k (OR a l k) a a k (tU k) (λm=>TN m l l (HZ m k (mH k m) (DR a k)) (HZ m k (mU k m) (DT a k)) (HZ m k (pH k m) (EK a k)) (HZ m k (pJ k m) (EG a k)))) j) (Aa (λl=>Kj a l k i (Bq l k (OR a l k) a a k k (λm=>Ag m l l k)) j))) (Aa (λl=>Kj a l k i (Bq l k (OR a l k) a a k k (λm=>Ag m l l k)) j))) (Nv (λl=>Bm (xB (FX i) (OJ a) (JK a) (fL (JK a) (QD a) (rS l k) a a (qA l k) (λm=>iA m (FZ l) (JB l) k))) (AV l) a (aE l a l) a j))))))) (TV (BW (AI (QL a)) (aR a) (Ev a) (Hf a) (Et a) (B9 (ABC a) ES (Sg a) (Pf a) (tV a) (WY a) (WW a) (RY (HO a) 0)))))) (AKQ (λj=>OU (AGX (AV j) a (aE j a j)) (AV j) (CX a) (CB (N7 (AV j) a) (aO (NU a (AV j))) (BI i) (PF a a (FJ (MP a j)) (FH (MP a j)) (FP (MP a j)) (EV (MP a j)) a (λk=>PK k a (FJ (MP a j)) (FP (MP a j)) (FH (MP a j)) (EV (MP a j)))) (Wm (qI a (MP a j)) (S5 (ACG (FZ j)) (Aa (λk=>TY (A9 a (F4 a (ACY k) i (Ia k (AV j) a k (NU a (AV j)) a (RR a (AV j)) (AAY j) (λl=>TN l k k (Br l j (tB j l) (FJ (MP a j))) (Br l j (mI j l) (FH (MP a j))) (Br l j (NM (JB j) l) (FP (MP a j))) (Br l j (OS (JB j) l) (EV (MP a j))))))) (jR (Je k) a) (Cg k) (CX a) (gK a (Je k) (AV j)) (U5 (Lf k) (O1 a k)))) (S2 (λk=>By (iT k a (AV j)) (EP k) a a (Ca (CE a k) (CG a k) (ED a k) (EL a k) i (PF a a (CE a k) (CG a k) (ED a k) (EL a k) a (λl=>PK l a (CE a k) (ED a k) (CG a k) (EL a k))) (Am a (CE a k) (CG a k) (ED a k) (EL a k) Od (λl=>jN a l (EP k) i (Ia l (GZ k) a l (CE a k) a (CG a k) 1 (λm=>TN m l l (CE a k) (CG a k) (ED a k) (EL a k))) (AV j)) (De (λl=>Co (Av a a a l k i (XB a a (ZT l k) (Bs a l a k) (As a l a k) a (λm=>TL m a) a a)) l a (AV j) a l k))) (De (λl=>Co (Av a a a l k i (XB a a (ZT l k) (Bs a l a k) (As a l a k) a (λm=>TL m a) a a)) l a (AV j) a l k))) (EA (λl=>Bm (uE i a (RI (JK a) (OJ a) (QD a) (sO l k) (Ev a) (Hf a) (Et a) (jV a))) l a (Ri a l) a (AV j))))) (AFF (λk=>By (hC k a (AV j)) (Cg k) a a (Ca (DR a k) (DT a k) (EK a k) (EG a k) i (PF a a (DR a k) (DT a k) (EK a k) (EG a k) a (λl=>PK l a (DR a k) (EK a k) (DT a k) (EG a k))) (Am a (DR a k) (DT a k) (EK a k) (EG a k) (oH k) (λl=>Pz a l k i (jK l k (OR a l k) a a k (tU k) (λm=>TN m l l (HZ m k (mH k m) (DR a k)) (HZ m k (mU k m) (DT a k)) (HZ m k (pH k m) (EK a k)) (HZ m k (pJ k m) (EG a k)))) j) (Aa (λl=>Pz a l k i (Bq l k (OR a l k) a a k k (λm=>Ag m l l k)) j))) (Aa (λl=>Pz a l k i (Bq l k (OR a l k) a a k k (λm=>Ag m l l k)) j))) (Nv (λl=>Bm (xB (FX i) (OJ a) (JK a) (fL (JK a) (QD a) (rS l k) a a (qA l k) (λm=>iA m (FZ l) (JB l) k))) (AV l) a (aE l a l) a (AV j)))))) (Aa (λk=>TY (A9 a (F4 a (ACY k) i (Ia k (AV j) a k (NU a (AV j)) a (RR a (AV j)) (FZ j) (λl=>C5 l (iD k) (Lf k) (JB j))))) (jR (Je k) a) (Cg k) (CX a) (gK a (Je k) (AV j)) (U5 (Lf k) (O1 a k)))) (WH (S2 (λk=>By (iT k a (AV j)) (EP k) a a (Ca (CE a k) (CG a k) (ED a k) (EL a k) i (PF a a (CE a k) (CG a k) (ED a k) (EL a k) a (λl=>PK l a (CE a k) (ED a k) (CG a k) (EL a k))) (Am a (CE a k) (CG a k) (ED a k) (EL a k) Od (λl=>jN a l (EP k) i (Ia l (GZ k) a l (CE a k) a (CG a k) 1 (λm=>TN m l l (CE a k) (CG a k) (ED a k) (EL a k))) (AV j)) (De (λl=>Co (Av a a a l k i (XB a a (ZT l k) (Bs a l a k) (As a l a k) a (λm=>TL m a) a a)) l a (AV j) a l k))) (De (λl=>Co (Av a a a l k i (XB a a (ZT l k) (Bs a l a k) (As a l a k) a (λm=>TL m a) a a)) l a (AV j) a l k))) (EA (λl=>Bm (uE i a (RI (JK a) (OJ a) (QD a) (sO l k) (Ev a) (Hf a) (Et a) (jV a))) l a (Ri a l) a (AV j))))) (AFF (λk=>By (hC k a (AV j)) (Cg k) a a (Ca (DR a k) (DT a k) (EK a k) (EG a k) i (PF a a (DR a k) (DT a k) (EK a k) (EG a k) a (λl=>PK l a (DR a k) (EK a k) (DT a k) (EG a k))) (Am a (DR a k) (DT a k) (EK a k) (EG a k) (oH k) (λl=>Pz a l k i (jK l k (OR a l k) a a k (tU k) (λm=>TN m l l (HZ m k (mH k m) (DR a k)) (HZ m k (mU k m) (DT a k)) (HZ m k (pH k m) (EK a k)) (HZ m k (pJ k m) (EG a k)))) j) (Aa (λl=>Pz a l k i (Bq l k (OR a l k) a a k k (λm=>Ag m l l k)) j))) (Aa (λl=>Pz a l k i (Bq l k (OR a l k) a a k k (λm=>Ag m l l k)) j))) (Nv (λl=>Bm (xB (FX i) (OJ a) (JK a) (fL (JK a) (QD a) (rS l k) a a (qA l k) (λm=>iA m (FZ l) (JB l) k))) (AV l) a (aE l a l) a (AV j)))))))) (TV (KD (QL a) (Nn a) (CB (Ev a) (Hf a) (Et a) (ABC a) (AP ES (Sg a) (Pf a) (tV a) (WY a) (WW a) (RY (HO a) (FZ j)) (LU (FZ j)) (AE (λk=>uB k (H7 a) (HO a) (tB j (AJ k)) (mI j (AJ k)) (JB j) (AJ k))))))))))) (uF (TV (UY (aR a) (BB (Ho a) (Mr a)) (λi=>EJ i (Ho a) (Ac (Ms a i)) (qP a i) (Xc (Ms a i)) (rG a i) (YF (Ms a i)) (YF (Wq a i))) (BH (Ao a) (HV a)) (BV (BO (Ao a) (HV a)) ES (AM (λi=>aA (Fi a) i (KE (Nm (Bf a)) (QL a) i))) (AM (λi=>BCT (Fi a) i (kP (Nm (Bf a)) (AFQ (Bf a)) (QL a) i))) (AM (λi=>O6 (Yp a i) ((@cond Nat) (BJA i (QL a)) (H7 a) (Ij a i)) (λj=>eZ j (Yp a i) (FJ (YI a i j)) (kE i (QL a) (NB (HO a) j) (eE a i j)) (YX (FH (YI a i j)) (kE i (QL a) (MY (HO a) j) (eQ a i j)) (FP (YI a i j)) (kE i (QL a) (NM (HO a) j) (fV a i j)) (EV (YI a i j)) (kE i (QL a) (OS (HO a) j) (iC a i j)))))) (Cf a) (λi=>ART i a) (BB 0 (H7 a)) AB))))))):=by kernel_rfl
theorem AJT(w:Bk):Bk.mk w.g w.b w.has w.st=w:=rfl
theorem BRU(l:List Ln)(p:Ln)(i:Nat)(hi:i<(l ++ [p]).length):((gD (l ++ [p]) i).a0=bif decide (i<l.length) then (gD l i).a0 else p.a0)/\((gD (l ++ [p]) i).a1=bif decide (i<l.length) then (gD l i).a1 else p.a1)/\((gD (l ++ [p]) i).b0=bif decide (i<l.length) then (gD l i).b0 else p.b0)/\(gD (l ++ [p]) i).b1=bif decide (i<l.length) then (gD l i).b1 else p.b1:=by
 rw[P2 _ _ (by simpa using hi)]
 cases decide (i<l.length)<;>exact⟨rfl,rfl,rfl,rfl⟩
theorem oneL(p:Ln)(i:Nat)(hi:i<[p].length):(gD [p] i).a0=p.a0/\(gD [p] i).a1=p.a1/\(gD [p] i).b0=p.b0/\(gD [p] i).b1=p.b1:=by
 have:i=0:=by have hj:i<1:=hi;omega
 subst this;exact⟨rfl,rfl,rfl,rfl⟩
theorem CFH{s:List Gau}{i j:Nat}(h:j<(AF s).length)(h1:mD (xI (gD (AF s) i) (gD (AF s) j))=true)(h2:Yd s (xI (gD (AF s) i) (gD (AF s) j))=true):(Ae s i (j+1)).filter (Yd s)=(Ae s i j).filter (Yd s) ++ [xI (gD (AF s) i) (gD (AF s) j)]:=by
 rw[AIZ h,if_pos h1,List.filter_append,List.filter_cons_of_pos h2];rfl
theorem CCJ{s:List Gau}{i j:Nat}(h:j<(AF s).length)(h1:mD (xI (gD (AF s) i) (gD (AF s) j))=true)(h2:Yd s (xI (gD (AF s) i) (gD (AF s) j))=false):(Ae s i (j+1)).filter (Yd s)=(Ae s i j).filter (Yd s):=by
 rw[AIZ h,if_pos h1,List.filter_append,List.filter_cons_of_neg (by rw[h2];simp)];simp
theorem BSS{s:List Gau}{i j:Nat}(h:j<(AF s).length)(h1:mD (xI (gD (AF s) i) (gD (AF s) j))=false):(Ae s i (j+1)).filter (Yd s)=(Ae s i j).filter (Yd s):=by
 rw[AIZ h,if_neg (by rw[h1];simp),List.append_nil]
theorem AFA{s:List Gau}{i:Nat}:(Ae s i 0).filter (Yd s)=(R5 s i).filter (Yd s) ++ if Yd s (YE (gD (AF s) i))=true then [YE (gD (AF s) i)] else []:=by
 unfold Ae
 rw[List.filter_append]
 congr 1
 simp[List.filter_cons]
theorem BAR{s:List Gau}{i j:Nat}(hN:(AF s).length<=48):((Ae s i j).filter (Yd s)).length<=10000:=by
 refine Nat.le_trans (List.length_filter_le _ _) ?_
 have h1:∀a:Pt,(blk (AF s) a).length<=49:=λa=>by
  unfold blk
  have:=List.length_filter_le mD ((AF s).map (xI a))
  simp only[List.length_cons,List.length_map] at *;omega
 have h2:∀l:List Pt,l.length<=48->(l.flatMap (blk (AF s))).length<=l.length*49:=λl _=>by
  induction l with
  |nil=>simp
  |cons a l ih=>
   rw[List.flatMap_cons,List.length_append,List.length_cons]
   have:=h1 a;have:=ih (by simp at *;omega);omega
 unfold Ae R5
 have h3:=h2 ((AF s).take i) (by simp;omega)
 have h4:=List.length_filter_le mD (((AF s).take j).map (xI (gD (AF s) i)))
 simp only[List.length_append,List.length_cons,List.length_map,List.length_take] at *
 omega
theorem BBX{s:List Gau}{q:Nat}(hs:s.length<=24)(hN:(AF s).length<=48)(hg:∀g∈s,Rz g)(x:IJ)(hx:x.i<(AF s).length/\x.j<=(AF s).length/\(AF s).length-x.i=q/\(Ae s x.i x.j).filter (Yd s)=[]) :
  ((x.j:Int)<(AF s).length->(0<=(x.j:Int)/\(x.j:Int)<(AF s).length)/\(mD ⟨(gD (AF s) x.i).st,(gD (AF s) x.i).fl,(gD (AF s) x.j).st,(gD (AF s) x.j).fl⟩=true->(s.length<4611686018427387904/\∀g:Gau,List.Mem g s->MM ⟨(gD (AF s) x.i).st,(gD (AF s) x.i).fl,(gD (AF s) x.j).st,(gD (AF s) x.j).fl⟩/\Rz g)/\((s.all λg=>KU ⟨(gD (AF s) x.i).st,(gD (AF s) x.i).fl,(gD (AF s) x.j).st,(gD (AF s) x.j).fl⟩ g)=true->((0<0->0=4)/\0<1/\0<1/\0<9223372036854775807/\31<140737488355328)/\∃y:LnJ,((y.j:Int)=IntKind.i64.wrap ((x.j:Int)+1)/\(y.i:Int)=x.i/\(gD (AF s) y.i).st=(gD (AF s) x.i).st/\(gD (AF s) y.i).fl=(gD (AF s) x.i).fl/\y.l.length=1/\y.l.length=1/\∀i:Nat,i<y.l.length->(gD y.l i).a0=(gD (AF s) x.i).st/\(gD y.l i).a1=(gD (AF s) x.i).fl/\(gD y.l i).b0=(gD (AF s) x.j).st/\(gD y.l i).b1=(gD (AF s) x.j).fl)/\(y.i<(AF s).length/\y.j<=(AF s).length/\(AF s).length-y.i=q/\y.l=(Ae s y.i y.j).filter (Yd s))/\(AF s).length-y.j<(AF s).length-x.j)/\((s.all λg=>KU ⟨(gD (AF s) x.i).st,(gD (AF s) x.i).fl,(gD (AF s) x.j).st,(gD (AF s) x.j).fl⟩ g)=false->∃y:IJ,((y.j:Int)=IntKind.i64.wrap ((x.j:Int)+1)/\(y.i:Int)=x.i/\(gD (AF s) y.i).st=(gD (AF s) x.i).st/\(gD (AF s) y.i).fl=(gD (AF s) x.i).fl)/\(y.i<(AF s).length/\y.j<=(AF s).length/\(AF s).length-y.i=q/\(Ae s y.i y.j).filter (Yd s)=[])/\(AF s).length-y.j<(AF s).length-x.j))/\(mD ⟨(gD (AF s) x.i).st,(gD (AF s) x.i).fl,(gD (AF s) x.j).st,(gD (AF s) x.j).fl⟩=false->∃y:IJ,((y.j:Int)=IntKind.i64.wrap ((x.j:Int)+1)/\(y.i:Int)=x.i/\(gD (AF s) y.i).st=(gD (AF s) x.i).st/\(gD (AF s) y.i).fl=(gD (AF s) x.i).fl)/\(y.i<(AF s).length/\y.j<=(AF s).length/\(AF s).length-y.i=q/\(Ae s y.i y.j).filter (Yd s)=[])/\(AF s).length-y.j<(AF s).length-x.j))/\(¬(x.j:Int)<(AF s).length->∃y:Nat,(y:Int)=IntKind.i64.wrap ((x.i:Int)+1)/\(y<=(AF s).length/\(R5 s y).filter (Yd s)=[])/\(AF s).length-y<q):=by
 obtain⟨h1,h2,h3,h4⟩:=hx
 refine⟨λhj=>?_,λhj=>⟨x.i+1,(BJ (by omega)).symm,⟨by omega,?_⟩,by omega⟩⟩
 ·have hj':x.j<(AF s).length:=Int.ofNat_lt.1 hj
  have step:(Ae s x.i (x.j+1)).filter (Yd s)=[]->∃y:IJ,((y.j:Int)=IntKind.i64.wrap ((x.j:Int)+1)/\(y.i:Int)=x.i/\(gD (AF s) y.i).st=(gD (AF s) x.i).st/\(gD (AF s) y.i).fl=(gD (AF s) x.i).fl)/\(y.i<(AF s).length/\y.j<=(AF s).length/\(AF s).length-y.i=q/\(Ae s y.i y.j).filter (Yd s)=[])/\(AF s).length-y.j<(AF s).length-x.j:=λh=>⟨⟨x.i,x.j+1⟩,⟨(BJ (by omega)).symm,rfl,rfl,rfl⟩,⟨h1,hj',h3,h⟩,by show (AF s).length-(x.j+1)<_;omega⟩
  refine⟨⟨by omega,hj⟩,λhr=>⟨⟨by omega,λg hgs=>⟨aY.1 hr,hg g hgs⟩⟩,λhp=>⟨⟨by omega,by omega,by omega,by omega,by omega⟩,⟨x.i,x.j+1,[xI (gD (AF s) x.i) (gD (AF s) x.j)]⟩,⟨(BJ (by omega)).symm,rfl,rfl,rfl,rfl,rfl,oneL _⟩,⟨h1,hj',h3,?_⟩,by show (AF s).length-(x.j+1)<_;omega⟩,λhp=>step ?_⟩,λhr=>step ?_⟩
  ·show _=(Ae s x.i (x.j+1)).filter (Yd s)
   rw[CFH hj' hr hp,h4];rfl
  ·rw[CCJ hj' hr hp,h4]
  ·rw[BSS hj' hr,h4]
 ·have:x.j=(AF s).length:=by omega
  rw[this] at h4;rw[<-ATC h1];exact h4
theorem AYJ{s:List Gau}{q:Nat}(hs:s.length<=24)(hN:(AF s).length<=48)(hg:∀g∈s,Rz g)(x:LnJ)(hx:x.i<(AF s).length/\x.j<=(AF s).length/\(AF s).length-x.i=q/\x.l=(Ae s x.i x.j).filter (Yd s)) :
  ((x.j:Int)<(AF s).length->(0<=(x.j:Int)/\(x.j:Int)<(AF s).length)/\(mD ⟨(gD (AF s) x.i).st,(gD (AF s) x.i).fl,(gD (AF s) x.j).st,(gD (AF s) x.j).fl⟩=true->(s.length<4611686018427387904/\∀g:Gau,List.Mem g s->MM ⟨(gD (AF s) x.i).st,(gD (AF s) x.i).fl,(gD (AF s) x.j).st,(gD (AF s) x.j).fl⟩/\Rz g)/\((s.all λg=>KU ⟨(gD (AF s) x.i).st,(gD (AF s) x.i).fl,(gD (AF s) x.j).st,(gD (AF s) x.j).fl⟩ g)=true->(0<1/\(false=true->0<1)/\x.l.length<9223372036854775807/\(x.l.length+1)*32<=140737488355328)/\∃y:LnJ,((y.j:Int)=IntKind.i64.wrap ((x.j:Int)+1)/\(y.i:Int)=x.i/\(gD (AF s) y.i).st=(gD (AF s) x.i).st/\(gD (AF s) y.i).fl=(gD (AF s) x.i).fl/\y.l.length=x.l.length+1/\y.l.length=x.l.length+1/\∀i:Nat,i<y.l.length->((gD y.l i).a0=bif decide (i<x.l.length) then (gD x.l i).a0 else (gD (AF s) x.i).st)/\((gD y.l i).a1=bif decide (i<x.l.length) then (gD x.l i).a1 else (gD (AF s) x.i).fl)/\((gD y.l i).b0=bif decide (i<x.l.length) then (gD x.l i).b0 else (gD (AF s) x.j).st)/\(gD y.l i).b1=bif decide (i<x.l.length) then (gD x.l i).b1 else (gD (AF s) x.j).fl)/\(y.i<(AF s).length/\y.j<=(AF s).length/\(AF s).length-y.i=q/\y.l=(Ae s y.i y.j).filter (Yd s))/\(AF s).length-y.j<(AF s).length-x.j)/\((s.all λg=>KU ⟨(gD (AF s) x.i).st,(gD (AF s) x.i).fl,(gD (AF s) x.j).st,(gD (AF s) x.j).fl⟩ g)=false->(∃y:LnJ,((y.j:Int)=IntKind.i64.wrap ((x.j:Int)+1)/\(y.i:Int)=x.i/\(gD (AF s) y.i).st=(gD (AF s) x.i).st/\(gD (AF s) y.i).fl=(gD (AF s) x.i).fl/\y.l.length=x.l.length/\y.l.length=x.l.length/\∀i:Nat,i<y.l.length->(gD y.l i).a0=(gD x.l i).a0/\(gD y.l i).a1=(gD x.l i).a1/\(gD y.l i).b0=(gD x.l i).b0/\(gD y.l i).b1=(gD x.l i).b1)/\(y.i<(AF s).length/\y.j<=(AF s).length/\(AF s).length-y.i=q/\y.l=(Ae s y.i y.j).filter (Yd s))/\(AF s).length-y.j<(AF s).length-x.j)))/\(mD ⟨(gD (AF s) x.i).st,(gD (AF s) x.i).fl,(gD (AF s) x.j).st,(gD (AF s) x.j).fl⟩=false->(∃y:LnJ,((y.j:Int)=IntKind.i64.wrap ((x.j:Int)+1)/\(y.i:Int)=x.i/\(gD (AF s) y.i).st=(gD (AF s) x.i).st/\(gD (AF s) y.i).fl=(gD (AF s) x.i).fl/\y.l.length=x.l.length/\y.l.length=x.l.length/\∀i:Nat,i<y.l.length->(gD y.l i).a0=(gD x.l i).a0/\(gD y.l i).a1=(gD x.l i).a1/\(gD y.l i).b0=(gD x.l i).b0/\(gD y.l i).b1=(gD x.l i).b1)/\(y.i<(AF s).length/\y.j<=(AF s).length/\(AF s).length-y.i=q/\y.l=(Ae s y.i y.j).filter (Yd s))/\(AF s).length-y.j<(AF s).length-x.j)))/\(¬(x.j:Int)<(AF s).length->∃y:LnK,((y.i:Int)=IntKind.i64.wrap ((x.i:Int)+1)/\y.l.length=x.l.length/\y.l.length=x.l.length/\∀i:Nat,i<y.l.length->(gD y.l i).a0=(gD x.l i).a0/\(gD y.l i).a1=(gD x.l i).a1/\(gD y.l i).b0=(gD x.l i).b0/\(gD y.l i).b1=(gD x.l i).b1)/\(y.i<=(AF s).length/\y.l=(R5 s y.i).filter (Yd s))/\(AF s).length-y.i<q):=by
 obtain⟨h1,h2,h3,h4⟩:=hx
 refine⟨λhj=>?_,λhj=>⟨⟨x.i+1,x.l⟩,⟨(BJ (by omega)).symm,rfl,rfl,λ_ _=>⟨rfl,rfl,rfl,rfl⟩⟩,⟨h1,?_⟩,by show (AF s).length-(x.i+1)<_;omega⟩⟩
 ·have hj':x.j<(AF s).length:=Int.ofNat_lt.1 hj
  have hl:x.l.length<=10000:=h4 ▸ BAR hN
  have step:(Ae s x.i (x.j+1)).filter (Yd s)=x.l->(∃y:LnJ,((y.j:Int)=IntKind.i64.wrap ((x.j:Int)+1)/\(y.i:Int)=x.i/\(gD (AF s) y.i).st=(gD (AF s) x.i).st/\(gD (AF s) y.i).fl=(gD (AF s) x.i).fl/\y.l.length=x.l.length/\y.l.length=x.l.length/\∀i:Nat,i<y.l.length->(gD y.l i).a0=(gD x.l i).a0/\(gD y.l i).a1=(gD x.l i).a1/\(gD y.l i).b0=(gD x.l i).b0/\(gD y.l i).b1=(gD x.l i).b1)/\(y.i<(AF s).length/\y.j<=(AF s).length/\(AF s).length-y.i=q/\y.l=(Ae s y.i y.j).filter (Yd s))/\(AF s).length-y.j<(AF s).length-x.j):=λh=>⟨⟨x.i,x.j+1,x.l⟩,⟨(BJ (by omega)).symm,rfl,rfl,rfl,rfl,rfl,λ_ _=>⟨rfl,rfl,rfl,rfl⟩⟩,⟨h1,hj',h3,h.symm⟩,by show (AF s).length-(x.j+1)<_;omega⟩
  refine⟨⟨by omega,hj⟩,λhr=>⟨⟨by omega,λg hgs=>⟨aY.1 hr,hg g hgs⟩⟩,λhp=>⟨⟨by omega,λ_=>by omega,by omega,by omega⟩,⟨x.i,x.j+1,x.l ++ [xI (gD (AF s) x.i) (gD (AF s) x.j)]⟩,⟨(BJ (by omega)).symm,rfl,rfl,rfl,by simp,by simp,BRU _ _⟩,⟨h1,hj',h3,?_⟩,by show (AF s).length-(x.j+1)<_;omega⟩,λhp=>step ?_⟩,λhr=>step ?_⟩
  ·show _=(Ae s x.i (x.j+1)).filter (Yd s)
   rw[CFH hj' hr hp,<-h4]
  ·rw[CCJ hj' hr hp,h4]
  ·rw[BSS hj' hr,h4]
 ·have:x.j=(AF s).length:=by omega
  rw[this] at h4;show x.l=(R5 s (x.i+1)).filter (Yd s);rw[<-ATC h1];exact h4
theorem BOF{α:Type}[Inhabited α](l m:List α)(j:Nat):gD (l ++ m) j=bif decide (j<l.length) then gD l j else gD m (j-l.length):=by
 rw[lM];by_cases h:j<l.length<;>simp[h]
theorem CGQ{α:Type}[Inhabited α](x y:α){j:Nat}(h:j<2):gD [x,y] j=bif decide (j=0) then x else y:=by
 match j,h with
 |0,_=>rfl
 |1,_=>rfl
theorem AFN{s:List Gau}{t:Int}{i:Nat}(h:i<(AF s).length):dA s t (i+1)=dA s t i ++ [xI ⟨t,0⟩ (gD (AF s) i),xI (gD (AF s) i) ⟨t,200000⟩]:=by
 unfold dA;rw[YG h,List.flatMap_append,<-List.append_assoc];simp
theorem AZN{s:List Gau}{t:Int}:∀i:Nat,i<=(AF s).length->(dA s t i).length=2+2*i
 |0,_=>rfl
 |i+1,h=>by rw[AFN (by omega),List.length_append,AZN i (by omega)];simp;omega
theorem BCU{s:List Gau}{t:Int}:dA s t (AF s).length=XY s t:=by unfold dA XY;rw[List.take_length]
theorem CGJ(s:List Gau)(t:Int):∃i:Nat,((dA s t i).length=2/\(i:Int)=0/\(dA s t i).length=2/\∀j:Nat,j<(dA s t i).length->((gD (dA s t i) j).a0=bif decide (j=0) then (YE ⟨t,0⟩).a0 else (YE ⟨t,200000⟩).a0)/\((gD (dA s t i) j).a1=bif decide (j=0) then (YE ⟨t,0⟩).a1 else (YE ⟨t,200000⟩).a1)/\((gD (dA s t i) j).b0=bif decide (j=0) then (YE ⟨t,0⟩).b0 else (YE ⟨t,200000⟩).b0)/\(gD (dA s t i) j).b1=bif decide (j=0) then (YE ⟨t,0⟩).b1 else (YE ⟨t,200000⟩).b1)/\i<=(AF s).length:=by
 refine⟨0,⟨rfl,rfl,rfl,λj hj=>?_⟩,Nat.zero_le _⟩
 have hj:j<2:=hj
 rw[show dA s t 0=[YE ⟨t,0⟩,YE ⟨t,200000⟩] from rfl,CGQ _ _ hj]
 cases decide (j=0)<;>exact⟨rfl,rfl,rfl,rfl⟩
theorem CCF{s:List Gau}{t:Int}(hN:(AF s).length<=48){i:Nat}(h:(i:Int)<(AF s).length):(0<=(i:Int)/\(i:Int)<(AF s).length)/\(1<2/\(false=true->0<2)/\(dA s t i).length+1<9223372036854775807/\((dA s t i).length+2)*32<=140737488355328)/\∃k:Nat,((dA s t k).length=(dA s t i).length+2/\(k:Int)=IntKind.i64.wrap ((i:Int)+1)/\(dA s t k).length=(dA s t i).length+2/\∀j:Nat,j<(dA s t k).length->((gD (dA s t k) j).a0=bif decide (j<(dA s t i).length) then (gD (dA s t i) j).a0 else bif decide (j-(dA s t i).length=0) then t else (gD (AF s) i).st)/\((gD (dA s t k) j).a1=bif decide (j<(dA s t i).length) then (gD (dA s t i) j).a1 else bif decide (j-(dA s t i).length=0) then 0 else (gD (AF s) i).fl)/\((gD (dA s t k) j).b0=bif decide (j<(dA s t i).length) then (gD (dA s t i) j).b0 else bif decide (j-(dA s t i).length=0) then (gD (AF s) i).st else t)/\(gD (dA s t k) j).b1=bif decide (j<(dA s t i).length) then (gD (dA s t i) j).b1 else bif decide (j-(dA s t i).length=0) then (gD (AF s) i).fl else 200000)/\k<=(AF s).length/\(AF s).length-k<(AF s).length-i:=by
 have h':i<(AF s).length:=Int.ofNat_lt.1 h
 have hl:=AZN (s:=s) (t:=t) i (by omega)
 refine⟨⟨by omega,h⟩,⟨by omega,λ_=>by omega,by omega,by omega⟩,i+1,⟨?_,(BJ (by omega)).symm,?_,λj hj=>?_⟩,h',by omega⟩
 ·rw[AFN h',List.length_append];rfl
 ·rw[AFN h',List.length_append];rfl
 ·rw[AFN h'] at hj ⊢
  rw[BOF]
  by_cases h1:j<(dA s t i).length
  ·simp[h1]
  ·rw[CGQ _ _ (by simp at hj;omega)]
   simp only[h1,decide_false,cond_false]
   cases decide (j-(dA s t i).length=0)<;>exact⟨rfl,rfl,rfl,rfl⟩
theorem BEC{s:List Gau}{l:List Ln}{i:Nat}(h:i<l.length):(l.take (i+1)).filter (okX s)=(l.take i).filter (okX s) ++ if okX s (gD l i)=true then [gD l i] else []:=by
 rw[YG h,List.filter_append];simp[List.filter_cons]
theorem AGE{s:List Gau}{t:Int}:(XY s t).length=2+2*(AF s).length:=by rw[<-BCU,AZN _ (Nat.le_refl _)]
theorem BZK{s:List Gau}{t:Int}{f:List Ln}(hs:s.length<=24)(hN:(AF s).length<=48)(hg:∀g∈s,Rz g)(hf:f.length<=10000){x:LnK}(hx:x.i<=(XY s t).length/\x.l=f ++ ((XY s t).take x.i).filter (okX s))(h:(x.i:Int)<(XY s t).length) :
  ((0<=(x.i:Int)/\(x.i:Int)<(XY s t).length)/\x.i<(XY s t).length)/\(mD (gD (XY s t) x.i)=true->(s.length<4611686018427387904/\∀g:Gau,List.Mem g s->MM (gD (XY s t) x.i)/\Rz g))/\((bif mD (gD (XY s t) x.i) then s.all λg=>KU (gD (XY s t) x.i) g else false)=true->(0<1/\(false=true->0<1)/\x.l.length<9223372036854775807/\(x.l.length+1)*32<=140737488355328)/\∃y:LnK,(y.l.length=x.l.length+1/\(y.i:Int)=x.i/\y.l.length=x.l.length+1/\∀j:Nat,j<y.l.length->((gD y.l j).a0=bif decide (j<x.l.length) then (gD x.l j).a0 else (gD (XY s t) x.i).a0)/\((gD y.l j).a1=bif decide (j<x.l.length) then (gD x.l j).a1 else (gD (XY s t) x.i).a1)/\((gD y.l j).b0=bif decide (j<x.l.length) then (gD x.l j).b0 else (gD (XY s t) x.i).b0)/\(gD y.l j).b1=bif decide (j<x.l.length) then (gD x.l j).b1 else (gD (XY s t) x.i).b1)/\(y.i<(XY s t).length/\(XY s t).length-y.i=(XY s t).length-x.i/\y.l=f ++ (((XY s t).take (y.i+1)).filter (okX s))))/\((bif mD (gD (XY s t) x.i) then s.all λg=>KU (gD (XY s t) x.i) g else false)=false->∃y:LnK,(y.l.length=x.l.length/\(y.i:Int)=x.i/\y.l.length=x.l.length/\∀j:Nat,j<y.l.length->(gD y.l j).a0=(gD x.l j).a0/\(gD y.l j).a1=(gD x.l j).a1/\(gD y.l j).b0=(gD x.l j).b0/\(gD y.l j).b1=(gD x.l j).b1)/\(y.i<(XY s t).length/\(XY s t).length-y.i=(XY s t).length-x.i/\y.l=f ++ (((XY s t).take (y.i+1)).filter (okX s)))):=by
 obtain⟨h1,h2⟩:=hx
 have h':x.i<(XY s t).length:=Int.ofNat_lt.1 h
 have hl:x.l.length<=10098:=by
  rw[h2,List.length_append]
  have:=List.length_filter_le (okX s) ((XY s t).take x.i)
  rw[List.length_take] at this
  have:=AGE (s:=s) (t:=t)
  omega
 refine⟨⟨⟨by omega,h⟩,h'⟩,λhr=>⟨by omega,λg hgs=>⟨aY.1 hr,hg g hgs⟩⟩,λhp=>⟨⟨by omega,λ_=>by omega,by omega,by omega⟩,⟨x.i,x.l ++ [(gD (XY s t) x.i)]⟩,⟨by simp,rfl,by simp,BRU _ _⟩,h',rfl,?_⟩,λhp=>⟨⟨x.i,x.l⟩,⟨rfl,rfl,rfl,λ_ _=>⟨rfl,rfl,rfl,rfl⟩⟩,h',rfl,?_⟩⟩
 ·show x.l ++ _=_
  rw[BEC h',if_pos (show okX s (gD (XY s t) x.i)=true from hp),<-List.append_assoc,<-h2]
 ·show x.l=_
  rw[BEC h',if_neg (by intro hq;have hq:(bif mD (gD (XY s t) x.i) then s.all λg=>KU (gD (XY s t) x.i) g else false)=true:=hq;rw[hp] at hq;cases hq),List.append_nil,<-h2]
theorem BLN{s:List Gau}{t:Int}{f:List Ln}(hN:(AF s).length<=48){m:Nat}(x:LnK)(hx:x.i<(XY s t).length/\(XY s t).length-x.i=m/\x.l=f ++ ((XY s t).take (x.i+1)).filter (okX s)):∃y:LnK,(y.l.length=x.l.length/\(y.i:Int)=IntKind.i64.wrap ((x.i:Int)+1)/\y.l.length=x.l.length/\∀j:Nat,j<y.l.length->(gD y.l j).a0=(gD x.l j).a0/\(gD y.l j).a1=(gD x.l j).a1/\(gD y.l j).b0=(gD x.l j).b0/\(gD y.l j).b1=(gD x.l j).b1)/\(y.i<=(XY s t).length/\y.l=f ++ ((XY s t).take y.i).filter (okX s))/\(XY s t).length-y.i<m:=by
 have:=AGE (s:=s) (t:=t)
 exact⟨⟨x.i+1,x.l⟩,⟨rfl,(BJ (by omega)).symm,rfl,λ_ _=>⟨rfl,rfl,rfl,rfl⟩⟩,⟨hx.1,hx.2.2⟩,by show (XY s t).length-(x.i+1)<m;omega⟩
theorem AQV{w:Bk}{k:Int}(h:w.has k=true):upB w k=w:=by
 obtain⟨g,b,has,st⟩:=w
 have h:has k=true:=h
 unfold upB;congr 1
 ·funext n;unfold KE;by_cases e:n=k
  ·subst e;simp[h]
  ·simp[e]
 ·funext n;unfold kP;simp[h]
theorem CXE{w:Bk}{k n:Int}:fdM (upB w k) n=bif decide (n=k) then dY (Rm w k) else fdM w n:=by
 unfold fdM
 show (bif KE w.has k n then dY (Rm w n) else [])=_
 unfold KE
 by_cases e:n=k
 ·subst e;simp
 ·simp[e]
theorem CAG{w:Bk}{k:Int}(h:w.has k=true):fdM w k=dY (Rm w k):=by unfold fdM;rw[h];rfl
theorem CML{s:List Gau}(h:s=[]):dY s=[]:=by subst h;rfl
theorem BSZ{s:List Gau}(hN:(AF s).length<=48):(dY s).length<=10000:=by
 unfold dY
 rw[<-AEX]
 by_cases h:(AF s).length=0
 ·rw[h];simp[R5]
 ·obtain⟨i,hi⟩:∃i,(AF s).length=i+1:=⟨(AF s).length-1,by omega⟩
  rw[hi,<-ATC (i:=i) (by omega)];exact BAR hN
theorem CDC{w:Bk}{k:Int}:∀n:Int,((fdM (upB w k) n).length=bif decide (n=k) then (dY (Rm w k)).length else (fdM w n).length)/\∀j:Nat,j<(fdM (upB w k) n).length->((gD (fdM (upB w k) n) j).a0=bif decide (n=k) then (gD (dY (Rm w k)) j).a0 else (gD (fdM w n) j).a0)/\((gD (fdM (upB w k) n) j).a1=bif decide (n=k) then (gD (dY (Rm w k)) j).a1 else (gD (fdM w n) j).a1)/\((gD (fdM (upB w k) n) j).b0=bif decide (n=k) then (gD (dY (Rm w k)) j).b0 else (gD (fdM w n) j).b0)/\(gD (fdM (upB w k) n) j).b1=bif decide (n=k) then (gD (dY (Rm w k)) j).b1 else (gD (fdM w n) j).b1:=λn=>by
 rw[CXE];cases decide (n=k)<;>exact⟨rfl,λ_ _=>⟨rfl,rfl,rfl,rfl⟩⟩
theorem CIF{a:BkS}(h:cQ a.w.g a.w.b):(sB a).length<=24/\(AF (sB a)).length<=48/\∀g∈sB a,Rz g:=by
 have h1:(sB a).length<=24:=Nat.le_trans (List.length_filter_le _ _) h.1
 have he:=kU (s:=sB a) (sB a).length (Nat.le_refl _)
 unfold Ng at he;rw[List.take_length] at he
 exact⟨h1,by unfold AF;omega,λg hg=>h.2.1 g (List.mem_filter.1 hg).1⟩
theorem AAJ{s:List Gau}{t:Int}:Nj s t=bif (bif decide ((s.length:Int)>0) then ((dY s).length:Int)==0 else false) then [] else dY s ++ (XY s t).filter (okX s):=by
 unfold Nj
 rw[show decide (0<s.length)=decide ((s.length:Int)>0) by simp[Int.natCast_pos],show decide ((dY s).length=0)=(((dY s).length:Int)==0) by rw[Bool.eq_iff_iff];simp]
theorem CVX(a:BkS)(h:cQ a.w.g a.w.b)(h2:0<=a.st/\a.st<=2000)(h3:sB a≠[]):CCK a:=by
 rw[CLZ]<;> dsimp only[go_sem];simp only[CC,CU,AJT,show Rm a.w a.k=sB a from rfl,if_true]
 obtain⟨hs,hN,hg⟩:=CIF h
 have hf:=BSZ (s:=sB a) hN
 have h0:0<(sB a).length:=List.length_pos_iff.2 h3
 have ok:∀x,MM x->(sB a).length<4611686018427387904/\∀g:Gau,List.Mem g (sB a)->MM x/\Rz g:=λx hx=>⟨by omega,λg hgs=>⟨hx,hg g hgs⟩⟩
 have e_ok:∀i,i<(AF (sB a)).length->okP (gD (AF (sB a)) i):=λi hi=>tZ hg (FD hi)
 refine⟨h,λhh=>⟨?a,?b1⟩,λhh=>⟨⟨⟨by omega,⟨0,rfl,Nat.zero_le _,rfl⟩,λi ⟨hi,hp⟩=>?c,λx ⟨hi,hp⟩=>?d⟩,?e⟩,?b2⟩⟩
 case a=>
  refine⟨default,?_⟩
  rw[AQV hh,CAG hh]
  exact⟨rfl,λ_ _=>⟨rfl,rfl,rfl⟩,rfl,λ_ _=>rfl,λ_=>rfl,λ_=>rfl,λ_=>⟨rfl,λ_ _=>⟨rfl,rfl,rfl,rfl⟩⟩,rfl,λ_ _=>⟨rfl,rfl,rfl,rfl⟩⟩
 case e=>exact⟨default,rfl,λ_ _=>⟨rfl,rfl,rfl⟩,rfl,λ_ _=>rfl,λ_=>rfl,λ_=>rfl,CDC⟩
 case c=>
  refine⟨λhlt=>?_,λhge=>⟨default,?_⟩⟩
  ·have hlt':i<(AF (sB a)).length:=Int.ofNat_lt.1 hlt
   refine⟨⟨by omega,hlt⟩,⟨(e_ok i hlt').1,(e_ok i hlt').2.1⟩,ok _ (ABE (e_ok i hlt')),λhpa=>⟨⟨by omega,by omega,by omega,by omega,by omega⟩,⟨⟨i,0,[YE (gD (AF (sB a)) i)]⟩,⟨rfl,rfl,rfl,rfl,rfl,rfl,oneL _⟩,hlt',Nat.zero_le _,rfl,?_⟩,λx hx=>BBX hs hN hg x hx,λx hx=>AYJ hs hN hg x hx⟩,λhpa=>⟨⟨⟨i,0⟩,⟨rfl,rfl,rfl,rfl⟩,hlt',Nat.zero_le _,rfl,?_⟩,λx hx=>BBX hs hN hg x hx,λx hx=>AYJ hs hN hg x hx⟩⟩
   ·show _=(Ae (sB a) i 0).filter (Yd (sB a))
    rw[AFA,hp,if_pos (show Yd (sB a) _=true from hpa)];rfl
   ·show (Ae (sB a) i 0).filter (Yd (sB a))=[]
    rw[AFA,hp,if_neg (by rw[show Yd (sB a) (YE (gD (AF (sB a)) i))=false from hpa];simp)];rfl
  ·have:i=(AF (sB a)).length:=by omega
   rw[this,AEX] at hp;unfold dY;rw[hp];rfl
 case d=>
  refine⟨λhlt=>?_,λhge=>⟨default,?_⟩⟩
  ·have hlt':x.i<(AF (sB a)).length:=Int.ofNat_lt.1 hlt
   have hl:x.l.length<=10000:=by
    have:=BAR (s:=sB a) (i:=x.i) (j:=0) hN
    rw[AFA,<-hp,List.length_append] at this;omega
   refine⟨⟨by omega,hlt⟩,⟨(e_ok x.i hlt').1,(e_ok x.i hlt').2.1⟩,ok _ (ABE (e_ok x.i hlt')),λhpa=>⟨⟨by omega,λ_=>by omega,by omega,by omega⟩,⟨⟨x.i,0,x.l ++ [YE (gD (AF (sB a)) x.i)]⟩,⟨rfl,rfl,rfl,rfl,by simp,by simp,BRU _ _⟩,hlt',Nat.zero_le _,rfl,?_⟩,λx hx=>BBX hs hN hg x hx,λx hx=>AYJ hs hN hg x hx⟩,λhpa=>⟨⟨⟨x.i,0,x.l⟩,⟨rfl,rfl,rfl,rfl,rfl,rfl,λ_ _=>⟨rfl,rfl,rfl,rfl⟩⟩,hlt',Nat.zero_le _,rfl,?_⟩,λx hx=>BBX hs hN hg x hx,λx hx=>AYJ hs hN hg x hx⟩⟩
   ·show _=(Ae (sB a) x.i 0).filter (Yd (sB a))
    rw[AFA,<-hp,if_pos (show Yd (sB a) _=true from hpa)]
   ·show x.l=(Ae (sB a) x.i 0).filter (Yd (sB a))
    rw[AFA,<-hp,if_neg (by rw[show Yd (sB a) (YE (gD (AF (sB a)) x.i))=false from hpa];simp),List.append_nil]
  ·have hx:x.l=dY (sB a):=by rw[hp,show x.i=(AF (sB a)).length by omega,AEX];rfl
   rw[hx];exact⟨rfl,Nat.le_refl _,λ_ _=>⟨rfl,rfl,rfl,rfl⟩⟩
 all_goals
  ·have hmo:∀i:Nat,i<=(AF (sB a)).length->¬(i:Int)<(AF (sB a)).length->dA (sB a) a.st i=XY (sB a) a.st:=λi h1 h2=>by
    rw[show i=(AF (sB a)).length by omega,BCU]
   refine⟨λhc=>by rw[AAJ,hc];rfl,λhc=>⟨h2,by omega,CGJ _ _,λi hi=>⟨λhlt=>CCF hN hlt,λhge=>⟨⟨?_,by omega⟩,⟨⟨0,dY (sB a)⟩,⟨rfl,by rw[hmo i hi hge],by rw[hmo i hi hge],rfl,by rw[hmo i hi hge],λj _=>by rw[hmo i hi hge];exact⟨rfl,rfl,rfl,rfl⟩,rfl,λ_ _=>⟨rfl,rfl,rfl,rfl⟩⟩,Nat.zero_le _,by simp⟩,λx hx=>⟨λhlt=>⟨BZK hs hN hg hf hx hlt,λy hy=>BLN hN y hy⟩,λhge=>?_⟩⟩⟩⟩⟩
   ·simp only[decide_eq_true (show ((sB a).length:Int)>0 by omega),cond_true,beq_eq_false_iff_ne,ne_eq] at hc
    omega
   ·have e:Nj (sB a) a.st=x.l:=by rw[AAJ,hc,hx.2,List.take_of_length_le (by omega)];rfl
    rw[e];exact⟨rfl,Nat.le_refl _,λ_ _=>⟨rfl,rfl,rfl,rfl⟩⟩
theorem BXX{s:List Gau}{t:Int}(hN:(AF s).length<=48){m:Nat}(i:Nat)(hx:i<(XY s t).length/\(XY s t).length-i=m/\((XY s t).take (i+1)).filter (okX s)=[]):∃y:Nat,(y:Int)=IntKind.i64.wrap ((i:Int)+1)/\(y<=(XY s t).length/\((XY s t).take y).filter (okX s)=[])/\(XY s t).length-y<m:=by
 have:=AGE (s:=s) (t:=t)
 exact⟨i+1,(BJ (by omega)).symm,⟨hx.1,hx.2.2⟩,by omega⟩
theorem CWL(a:BkS)(h:cQ a.w.g a.w.b)(h2:0<=a.st/\a.st<=2000)(h3:sB a=[]):CEB a:=by
 rw[CMI]<;> dsimp only[go_sem];simp only[CC,CU,AJT,show Rm a.w a.k=sB a from rfl,if_true]
 obtain⟨hs,hN,hg⟩:=CIF h
 have hf:dY (sB a)=[]:=CML h3
 have h0:(AF (sB a)).length=0:=by rw[h3];rfl
 have hS:(sB a).length=0:=by rw[h3];rfl
 have ok:∀x,MM x->(sB a).length<4611686018427387904/\∀g:Gau,List.Mem g (sB a)->MM x/\Rz g:=λx hx=>⟨by omega,λg hgs=>⟨hx,hg g hgs⟩⟩
 have hc:(bif decide (((sB a).length:Int)>0) then ((dY (sB a)).length:Int)==0 else false)=false:=by rw[hS];rfl
 refine⟨h,λhh=>⟨?a,?b1⟩,λhh=>⟨⟨⟨by omega,⟨0,rfl,Nat.zero_le _,rfl⟩,λi ⟨hi,hp⟩=>?c,λx ⟨hi,hp⟩=>?d⟩,?e⟩,?b2⟩⟩
 case a=>
  refine⟨default,?_⟩
  rw[AQV hh,CAG hh]
  exact⟨rfl,λ_ _=>⟨rfl,rfl,rfl⟩,rfl,λ_ _=>rfl,λ_=>rfl,λ_=>rfl,λ_=>⟨rfl,λ_ _=>⟨rfl,rfl,rfl,rfl⟩⟩,by show 0=(dY (sB a)).length;rw[hf];rfl⟩
 case e=>exact⟨default,rfl,λ_ _=>⟨rfl,rfl,rfl⟩,rfl,λ_ _=>rfl,λ_=>rfl,λ_=>rfl,CDC,by rw[hf];rfl⟩
 case c=>exact⟨λhlt=>absurd hlt (by omega),λhge=>⟨default,by rw[hf];rfl⟩⟩
 case d=>
  refine⟨λhlt=>absurd hlt (by omega),λhge=>⟨default,?_⟩⟩
  have hx:x.l=dY (sB a):=by rw[hp,show x.i=(AF (sB a)).length by omega,AEX];rfl
  rw[hx];exact⟨rfl,Nat.le_refl _,λ_ _=>⟨rfl,rfl,rfl,rfl⟩⟩
 all_goals
  have hmo:∀i:Nat,i<=(AF (sB a)).length->dA (sB a) a.st i=XY (sB a) a.st:=λi h1=>by
   rw[show i=(AF (sB a)).length by omega,BCU]
  have hML:=AGE (s:=sB a) (t:=a.st)
  refine⟨λhc=>?_,λ_=>⟨h2,by omega,CGJ _ _,λi hi=>⟨λhlt=>CCF hN hlt,λhge=>⟨⟨0,⟨by rw[hmo i hi],by rw[hmo i hi],rfl,by rw[hmo i hi],λj _=>by rw[hmo i hi];exact⟨rfl,rfl,rfl,rfl⟩⟩,Nat.zero_le _,rfl⟩,λx ⟨hx,hy⟩=>⟨λhlt=>⟨?_,λy hy=>BXX hN y hy,λy hy=>BLN hN y hy⟩,λhge=>?_⟩,λx hx=>⟨λhlt=>⟨BZK hs hN hg (by rw[hf];exact Nat.zero_le _) hx hlt,λy hy=>BXX hN y hy,λy hy=>BLN hN y hy⟩,λhge=>?_⟩⟩⟩⟩⟩
  ·rw[hS] at hc;cases hc
  ·have h':x<(XY (sB a) a.st).length:=Int.ofNat_lt.1 hlt
   refine⟨⟨⟨by omega,hlt⟩,h'⟩,λhr=>ok _ (aY.1 hr),λhp=>⟨⟨by omega,by omega,by omega,by omega,by omega⟩,⟨x,[gD (XY (sB a) a.st) x]⟩,⟨rfl,rfl,rfl,oneL _⟩,h',rfl,?_⟩,λhp=>⟨x,rfl,h',rfl,?_⟩⟩
   ·show [_]=_
    rw[BEC h',if_pos (show okX (sB a) (gD (XY (sB a) a.st) x)=true from hp),hy,hf];rfl
   ·rw[BEC h',if_neg (by intro hq;have hq:(bif mD (gD (XY (sB a) a.st) x) then (sB a).all λg=>KU (gD (XY (sB a) a.st) x) g else false)=true:=hq;rw[hp] at hq;cases hq),hy];rfl
  ·have hz:(XY (sB a) a.st).filter (okX (sB a))=[]:=by rw[<-hy,List.take_of_length_le (by omega)]
   rw[AAJ,hc,hf,hz];rfl
  ·have e:Nj (sB a) a.st=x.l:=by rw[AAJ,hc,hx.2,List.take_of_length_le (by omega)];rfl
   rw[e];exact⟨rfl,Nat.le_refl _,λ_ _=>⟨rfl,rfl,rfl,rfl⟩⟩
theorem CJZ:AH ZP 104 (C_lns.spec dBkS):=Ctr.spec_ok (C:=C_lns) (λ(a:BkS) h=>by
 have h:cQ a.w.g a.w.b/\0<=a.st/\a.st<=2000:=h
 by_cases h3:sB a=[]
 ·exact TF (A:=CAP a) (ren:=[]) (fz:=[403]) Tryz.func104 (by kernel_rfl) (AA AUZ (AA AQS (AA ANM (AA AFK (AA AMY (AA APA (AA CLO AD))))))) (CWL a h.1 h.2 h3) (ASE 154 (BTX a) rfl rfl (AA AMY (AA AFK (AA APA AD))) Tryz.func154 (by kernel_rfl) (by kernel_rfl))
 ·exact TF (A:=CEA a) (ren:=[]) (fz:=[403]) Tryz.func104 (by kernel_rfl) (AA AUZ (AA AQS (AA ANM (AA AFK (AA AMY (AA APA (AA CMD AD))))))) (CVX a h.1 h.2 h3) (ASE 154 (BTX a) rfl rfl (AA AMY (AA AFK (AA APA AD))) Tryz.func154 (by kernel_rfl) (by kernel_rfl))) _
end Go.Bal
