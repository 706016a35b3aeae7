/- Package rating: lines of a part that bound its flows. -/
import Derived.Test.YtceloknnpdonhaaGreatRatF
set_option linter.unusedVariables false
set_option linter.unusedSimpArgs false
namespace Go.Bal
open Go Go.Sym Go.Proofs
def rowL(l:List Ln):AObj:=.row 4 l.length λi=>eLn (gD l i)
def dLs1:List AVal->Heap->Option (List Ln×List (Nat×Nat)×List Nat)
 |[y],H=>match dLns y H with
  |some (l,f)=>some (l,[],f)
  |none=>none
 |_,_=>none
def C_cloN:Ctr:={ α:=List Ln,xs:=λl=>[.d (eLns l)],L:=λ_=>[],val:=λl=>.own 0 4 0 l.length,keep:=λl=>[(0,.live (rowL l))],pre:=λl=>[0<l.length/\l.length<1073741824] }
def CUX:Ann:={ ann 8 [] with mt:=λid=>id==3 }
def CZY(l:List Ln):Prop:=BG Try.prog CUX BBG (AL BBG) (C_cloN.xs l) (AF []) (C_cloN.val l) (C_cloN.keep l) [(0,4032)] []
theorem DJQ(l:List Ln):(CZY l)=(And (KO 0 (JY l)) (En (Ov (Je AQ (BI 4)) (Ji FI (JY l) 4) (Ht (ZI (JY l))) (RV (BP (JY l))) (Me (BP (JY l)) 32)) (AR (JY l) (BP (JY l))) (λi=>JG i (JY l) (NK l i) (NK l (IS i 0))))):=by kernel_rfl
def nilN:DVal:=.list 0 0 (λ_=>default) false
def C_cloE:Ctr:={ α:=One,xs:=λ_=>[.d nilN],L:=λ_=>[],val:=λ_=>.d TE,keep:=λ_=>[] }
def dNil:List AVal->Heap->Option (One×List (Nat×Nat)×List Nat)
 |[.d (.list 0 0 _ _)],_=>some (default,[],[])
 |_,_=>none
def CXZ:Ann:={ ann 8 [] with md:=λid=>if id=3 then some (λk=>if k=0 then 4 else 0) else none }
def CUL(_x:One):Prop:=BG Try.prog CXZ BBG (AL BBG) (C_cloE.xs _x) (AF []) (C_cloE.val _x) [] [] []
theorem DIK(_x:One):(CUL _x)=(And (FK AQ Ce) (It (Ov (El (BI 4)) (Hg 4) (Ht (ZI 0)) (RV 0) 0) AQ)):=by kernel_rfl
theorem DIA:AM Try.prog BNP (C_cloN.spec dLs1):=WY C_cloN (λ_=>CUX) [(0,4032)] [] CEL (λ_=>by kernel_rfl) (λ_=>AG) (λ(l:List Ln) h=>by
 show CZY l;rw[DJQ]<;> delta JB Oz AR AK BO CI AO EA IS FI QJ SG QT Me FC GF GD HB JY NK AH AJ AZ BI Ws BZ DN ID HC AQ BP JZ DR GC Ji ZI UQ Ov Ha KO Aq Ht RV Je JG uN En;simp only[CC,eq_self,implies_true,forall_const]
 obtain⟨h1,h2⟩:0<l.length/\l.length<1073741824:=h
 exact⟨h1,⟨λ_=>h1,by omega,by omega⟩,λ_ _=>⟨rfl,rfl,rfl,rfl⟩⟩) (λ_=>YE rfl rfl) _
theorem DGA:AM Try.prog BNP (C_cloE.spec dNil):=WY C_cloE (λ_=>CXZ) [] [] CEL (λ_=>by kernel_rfl) (λ_=>AG) (λ(x:One) _=>by
 show CUL x;rw[DIK]<;> delta JB Oz AR AK BO CI EA FI QJ AH AJ AZ It BI FJ Dh AQ FK VQ DR Ce GC ZI UQ Ov Ht RV Je El Hg;simp only[CC,eq_self,implies_true,forall_const]
 exact⟨by omega,by simp,by omega,by omega⟩) (λ_=>YE rfl rfl) _
structure BkS where
 w:Bk
 k:Int
 st:Int
def dBkS:List AVal->Heap->Option (BkS×List (Nat×Nat)×List Nat)
 |[.bptr id _,.d k,.d t],H=>match BVU H id with
  |some (w,q)=>some (⟨w,EO k,EO t⟩,[(100,id),(101,q)],[])
  |none=>none
 |_,_=>none
def Du(w:Bk)(k:Int):Bk:=⟨w.g,w.b,YF w.has k,S3 w.has w.st k⟩
def moB(t:Int):List Ln:=[CB ⟨t,0⟩,CB ⟨t,200000⟩]
def Pi(s:List Gau)(t:Int)(i:Nat):List Ln:=moB t ++ ((AA s).take i).flatMap λp=>[L0 ⟨t,0⟩ p,L0 p ⟨t,200000⟩]
def PR(s:List Gau)(t:Int):List Ln:=moB t ++ (AA s).flatMap λp=>[L0 ⟨t,0⟩ p,L0 p ⟨t,200000⟩]
def okX(s:List Gau)(x:Ln):Bool:=bif eM x then Pv s x else false
def Bm(s:List Gau)(t:Int):List Ln:=bif (bif decide (0<s.length) then decide ((WZ s).length=0) else false) then [] else WZ s ++ (PR s t).filter (okX s)
structure LnK where
 i:Nat
 l:List Ln
 deriving Inhabited
structure LnJ where
 i:Nat
 j:Nat
 l:List Ln
 deriving Inhabited
def sB(a:BkS):List Gau:=Ys a.w a.k
def lsH(a:BkS)(c:AVal):List (Nat×HCell):=bkK a.w ++ [(2048,.live (.box [.d (KZ (sB a))])),(3144,.live (.box [c]))]
def lsR(a:BkS)(l:List Ln):List (Nat×HCell):=lsH a (.own 401 4 0 l.length) ++ [(401,.live (rowL l))]
def lsPt(p:Pt):HCell:=.live (.box [.int p.st,.int p.fl])
def lsOn(a:BkS)(l:Nat):Shape:={ α:=Nat,dflt:=0,T:=λi=>⟨lnS (sB a) l i,lsH a (.d TE)⟩,inv:=λi=>i<=(AA (sB a)).length/\(fC (sB a) i).filter (Pv (sB a))=[],meas:=λi=>(AA (sB a)).length-i }
def lsOo(a:BkS)(l:Nat):Shape:={ α:=LnK,dflt:=default,T:=λx=>⟨lnS (sB a) l x.i,lsR a x.l⟩,inv:=λx=>x.i<=(AA (sB a)).length/\x.l=(fC (sB a) x.i).filter (Pv (sB a)),meas:=λx=>(AA (sB a)).length-x.i }
def lsIs(a:BkS)(l i j:Nat):List (Nat×AVal):=[(5,.bptr 205 0),(22,.d (ePts (AA (sB a)))),(23,.int (AA (sB a)).length),(24,.int j)] ++ lnS (sB a) l i
def lsIn(a:BkS)(q l:Nat):Shape:={ α:=IJ,dflt:=default,T:=λx=>⟨lsIs a l x.i x.j,(205,lsPt (gD (AA (sB a)) x.i)) :: lsH a (.d TE)⟩,inv:=λx=>x.i<(AA (sB a)).length/\x.j<=(AA (sB a)).length/\(AA (sB a)).length-x.i=q/\(XC (sB a) x.i x.j).filter (Pv (sB a))=[],meas:=λx=>(AA (sB a)).length-x.j,first:=[(205,104032)] }
def lsIo(a:BkS)(q l:Nat)(r:List (Nat×Nat)):Shape:={ α:=LnJ,dflt:=default,T:=λx=>⟨lsIs a l x.i x.j,(205,lsPt (gD (AA (sB a)) x.i)) :: lsR a x.l⟩,inv:=λx=>x.i<(AA (sB a)).length/\x.j<=(AA (sB a)).length/\(AA (sB a)).length-x.i=q/\x.l=(XC (sB a) x.i x.j).filter (Pv (sB a)),meas:=λx=>(AA (sB a)).length-x.j,first:=(205,104032) :: r,again:=r }
noncomputable def CNO(a:BkS):IterAnn:={ fn:=pV,code:=AL pV,live:=[0,1,2,7,8],ann:={ base:=λid=>100000+1000*(id+1),Γ:=Sym.look [(BQQ,C_ends.spec xY),(C6,ALX),(BSW,CHA)],E:=[100,101,2048,3144],n:=41,inner:=λgs id=>if id=2 then some [lsOn a (gs.getD 0 0),lsOo a (gs.getD 0 0)] else if id=6 then some [lsIn a (gs.getD 0 0) (gs.getD 1 0),lsIo a (gs.getD 0 0) (gs.getD 1 0) [],lsIo a (gs.getD 0 0) (gs.getD 1 0) [(401,8048)]] else none } }
def ls8s(a:BkS):List (Nat×AVal):=[(0,.bptr 100 0),(1,.int a.k),(2,.int a.st),(7,.bptr 2048 0),(8,.bptr 3144 0)]
def ls8n(a:BkS):Shape:={ α:=One,dflt:=default,T:=λ_=>⟨ls8s a,lsH a (.d (eLns (WZ (sB a))))⟩,inv:=λ_=>True,meas:=λ_=>0 }
def ls8o(a:BkS):Shape:={ α:=One,dflt:=default,T:=λ_=>⟨ls8s a,lsH a (.d (eLns (WZ (sB a))))⟩,inv:=λ_=>True,meas:=λ_=>0,ffz:=[401] }
def lsU(a:BkS)(z:DVal):List (Nat×HCell):=bkK (Du a.w a.k) ++ [(2048,.live (.box [.d (KZ (sB a))])),(3144,.live (.box [.d z]))]
def ls9(a:BkS)(z:DVal):Shape:={ α:=One,dflt:=default,T:=λ_=>⟨[(2,.int a.st),(7,.bptr 2048 0),(8,.bptr 3144 0)],lsU a z⟩,inv:=λ_=>True,meas:=λ_=>0 }
def ls14(a:BkS)(z:DVal):Shape:={ α:=Nat,dflt:=0,T:=λi=>⟨[(7,.bptr 2048 0),(8,.bptr 3144 0),(11,.bptr 12064 0),(12,.bptr 12080 0),(13,.own 402 4 0 (Pi (sB a) a.st i).length),(67,.d (ePts (AA (sB a)))),(68,.int (AA (sB a)).length),(69,.int i)],lsU a z ++ [(12064,.live (.box [.int a.st,.int 0])),(12080,.live (.box [.int a.st,.int 200000])),(402,.live (rowL (Pi (sB a) a.st i)))]⟩,inv:=λi=>i<=(AA (sB a)).length,meas:=λi=>(AA (sB a)).length-i,first:=[(402,13064)],again:=[(402,17128)] }
def CQP(a:BkS)(v:AVal)(i:Nat):List (Nat×AVal):=[(7,.bptr 2048 0),(16,v),(85,.own 402 4 0 (PR (sB a) a.st).length),(86,.int (PR (sB a) a.st).length),(87,.int i)]
def COI(a:BkS):List (Nat×HCell):=bkK (Du a.w a.k) ++ [(2048,.live (.box [.d (KZ (sB a))])),(402,.live (rowL (PR (sB a) a.st)))]
def DTF(a:BkS):Shape:={ α:=Nat,dflt:=0,T:=λi=>⟨CQP a (.d TE) i,COI a⟩,inv:=λi=>i<=(PR (sB a) a.st).length/\((PR (sB a) a.st).take i).filter (okX (sB a))=[],meas:=λi=>(PR (sB a) a.st).length-i }
def DLK(a:BkS):Shape:={ α:=LnK,dflt:=default,T:=λx=>⟨CQP a (.own 403 4 0 x.l.length) x.i,COI a ++ [(403,.live (rowL x.l))]⟩,inv:=λx=>x.i<=(PR (sB a) a.st).length/\x.l=WZ (sB a) ++ ((PR (sB a) a.st).take x.i).filter (okX (sB a)),meas:=λx=>(PR (sB a) a.st).length-x.i,first:=[(403,19016)] }
def DUS(a:BkS)(m:Nat):Shape:={ α:=Nat,dflt:=0,T:=λi=>⟨CQP a (.d TE) i,COI a⟩,inv:=λi=>i<(PR (sB a) a.st).length/\(PR (sB a) a.st).length-i=m/\((PR (sB a) a.st).take (i+1)).filter (okX (sB a))=[],meas:=λ_=>0 }
def CNQ(a:BkS)(m:Nat)(f:List (Nat×Nat)):Shape:={ α:=LnK,dflt:=default,T:=λx=>⟨CQP a (.own 403 4 0 x.l.length) x.i,COI a ++ [(403,.live (rowL x.l))]⟩,inv:=λx=>x.i<(PR (sB a) a.st).length/\(PR (sB a) a.st).length-x.i=m/\x.l=WZ (sB a) ++ ((PR (sB a) a.st).take (x.i+1)).filter (okX (sB a)),meas:=λ_=>0,first:=f }
def C_lns:Ctr:={ ro:=[100],α:=BkS,xs:=λa=>[.bptr 100 0,.int a.k,.int a.st],L:=λa=>bkL a.w,val:=λa=>.d (eLns (Bm (sB a) a.st)),keep:=λa=>bkK (Du a.w a.k),pre:=λa=>[Ic a.w.g a.w.b/\0<=a.st/\a.st<=2000] }
def DNR(c:Sym.Spec):List (FuncId×Sym.Spec):=[(BRU,C_inside.spec dBkI),(ANK,C_through.spec dGsK),(C0,C_passing.spec dGsL),(C6,ALX),(BQQ,C_ends.spec xY),(BSW,CHA),(BNP,c)]
noncomputable def DBN(a:BkS):Ann:={ ann 104 (DNR (C_cloN.spec dLs1)) with E:=[100,101],mt:=λid=>id==7||id==16||id==23,md:=λid=>if id=2 then some (λk=>if k=5 then 3 else 0) else none,iter:=λg=>if g=Jk then some (CNO a) else none,loops:=λid=>if id=14 then some [ls14 a (eLns (WZ (sB a)))] else if id=20 then some [DLK a] else none,cut:=λid=>if id=8 then some [ls8n a,ls8o a] else if id=9 then some [ls9 a (eLns (WZ (sB a)))] else none,cutIn:=λgs id=>if id=24 then some [CNQ a (gs.getD 0 0) [(403,24048)],CNQ a (gs.getD 0 0) []] else none }
noncomputable def DEP(a:BkS):Ann:={ ann 104 (DNR (C_cloE.spec dNil)) with E:=[100,101],mt:=λid=>id==7||id==16||id==23,md:=λid=>if id=2 then some (λk=>if k=5 then 3 else 0) else none,iter:=λg=>if g=Jk then some (CNO a) else none,loops:=λid=>if id=14 then some [ls14 a nilN] else if id=20 then some [DTF a,DLK a] else none,cut:=λid=>if id=8 then some [ls8n a,ls8o a] else if id=9 then some [ls9 a nilN] else none,cutIn:=λgs id=>if id=24 then some [DUS a (gs.getD 0 0),CNQ a (gs.getD 0 0) [(403,24048)],CNQ a (gs.getD 0 0) []] else none }
def DAT(a:BkS):Prop:=BG Try.prog (DBN a) BCJ (AL BCJ) (C_lns.xs a) (AF (C_lns.L a)) (C_lns.val a) (C_lns.keep a) [] [403]
abbrev AEE(a:BkS):List Gau:=KA a.w.g.length λ(i:Nat)=>gD a.w.g i
abbrev ACS(a:BkS):Nat:=(AEE a).length
abbrev BDB(a:BkS)(i:Nat):Gau:=gD (AEE a) i
abbrev BQT(a:BkS)(i:Nat):Int:=(BDB a i).st
abbrev BQH(a:BkS)(i:Nat):Int:=(BDB a i).lo
abbrev BSK(a:BkS)(i:Nat):Int:=(BDB a i).hi
abbrev zH(a:BkS):List Int:=KA a.w.b.length λ(i:Nat)=>gD a.w.b i
abbrev AED(a:BkS):Nat:=(zH a).length
abbrev BTO(a:BkS)(i:Nat):Int:=gD (zH a) i
abbrev BPP:Value:=Value.slice none (0:Nat) (0:Nat)
abbrev HW:Prop:=BPP=BPP
abbrev TO(a:BkS):Prop:=∀(n:Int),a.w.has n=a.w.has n
abbrev TL(a:BkS):Prop:=∀(n:Int),a.w.st n=a.w.st n
abbrev BGO(a:BkS):Bk:=Bk.mk (AEE a) (zH a) a.w.has a.w.st
abbrev BJA(a:BkS)(n:Int):List Ln:=UR (BGO a) n
abbrev AMS(a:BkS)(n:Int):Nat:=(BJA a n).length
abbrev B8(a:BkS)(n:Int)(i:Nat):Ln:=gD (BJA a n) i
abbrev BJO(a:BkS)(n:Int)(i:Nat):Int:=(B8 a n i).a0
abbrev BEY(a:BkS)(n:Int)(i:Nat):Int:=(B8 a n i).a1
abbrev BGR(a:BkS)(n:Int)(i:Nat):Int:=(B8 a n i).b0
abbrev BIK(a:BkS)(n:Int)(i:Nat):Int:=(B8 a n i).b1
abbrev BJL(i:Nat)(a:BkS)(n:Int):Prop:=i<(UR a.w n).length
abbrev bS(x:Gau):Prop:=(0:Int)<=x.st/\x.st<=(2000:Int)/\(0:Int)<=x.lo/\x.lo<=x.hi/\x.hi<=(200000:Int)
abbrev BJZ(a:BkS):Prop:=(Du a.w a.k).g.length=a.w.g.length
abbrev BHU(i:Nat)(a:BkS):Prop:=i<(Du a.w a.k).g.length
abbrev ALY(a:BkS)(i:Nat):Gau:=gD (Du a.w a.k).g i
abbrev ALZ(a:BkS)(i:Nat):Int:=(ALY a i).st
abbrev ALQ(a:BkS)(i:Nat):Int:=(ALY a i).lo
abbrev ANQ(a:BkS)(i:Nat):Int:=(ALY a i).hi
abbrev BFF(a:BkS):Prop:=∀(i:Nat),BHU i a->ALZ a i=(gD a.w.g i).st/\ALQ a i=(gD a.w.g i).lo/\ANQ a i=(gD a.w.g i).hi
abbrev BGG(a:BkS):Prop:=(Du a.w a.k).b.length=a.w.b.length
abbrev BKO(i:Nat)(a:BkS):Prop:=i<(Du a.w a.k).b.length
abbrev ANW(a:BkS)(i:Nat):Int:=gD (Du a.w a.k).b i
abbrev BGI(a:BkS):Prop:=∀(i:Nat),BKO i a->ANW a i=gD a.w.b i
abbrev ANR(i:Nat)(a:BkS)(n:Int):Prop:=i<(UR (Du a.w a.k) n).length
abbrev B9(a:BkS)(n:Int)(i:Nat):Ln:=gD (UR (Du a.w a.k) n) i
abbrev zG(a:BkS)(n:Int)(i:Nat):Int:=(B9 a n i).a0
abbrev zR(a:BkS)(n:Int)(i:Nat):Int:=(B9 a n i).a1
abbrev xP(a:BkS)(n:Int)(i:Nat):Int:=(B9 a n i).b0
abbrev B5(a:BkS)(n:Int)(i:Nat):Int:=(B9 a n i).b1
abbrev BHD(a:BkS):List Gau:=Ys (BGO a) a.k
abbrev ANB(a:BkS):Nat:=(BHD a).length
abbrev BHY(a:BkS):Prop:=(sB a).length=ANB a
abbrev zI(a:BkS)(i:Nat):Gau:=gD (BHD a) i
abbrev BJT(a:BkS)(i:Nat):Int:=(zI a i).st
abbrev BEP(a:BkS)(i:Nat):Int:=(zI a i).lo
abbrev BFJ(a:BkS)(i:Nat):Int:=(zI a i).hi
abbrev BGD(a:BkS):Prop:=∀(i:Nat),i<(sB a).length->(gD (sB a) i).st=BJT a i/\(gD (sB a) i).lo=BEP a i/\(gD (sB a) i).hi=BFJ a i
abbrev BFK(a:BkS):Prop:=(Bm (sB a) a.st).length=(0:Nat)
abbrev dN(a:BkS):Prop:=(Du a.w a.k).g.length=(Du a.w a.k).g.length
abbrev bZ(a:BkS):Prop:=∀(i:Nat),BHU i a->ALZ a i=ALZ a i/\ALQ a i=ALQ a i/\ANQ a i=ANQ a i
abbrev cR(a:BkS):Prop:=(Du a.w a.k).b.length=(Du a.w a.k).b.length
abbrev dZ(a:BkS):Prop:=∀(i:Nat),BKO i a->ANW a i=ANW a i
abbrev dP(a:BkS):Prop:=∀(n:Int),(Du a.w a.k).has n=(Du a.w a.k).has n
abbrev bF(a:BkS):Prop:=∀(n:Int),(Du a.w a.k).st n=(Du a.w a.k).st n
abbrev dC(a:BkS):Prop:=∀(n:Int),(UR (Du a.w a.k) n).length=(UR (Du a.w a.k) n).length/\∀(i:Nat),ANR i a n->zG a n i=zG a n i/\zR a n i=zR a n i /\
 xP a n i=xP a n i/\B5 a n i=B5 a n i
abbrev BFW(a:BkS):Prop:=dN a/\bZ a/\cR a/\dZ a/\HW/\dP a/\bF a/\dC a
abbrev BHR(a:BkS):Prop:=(0:Int)<=a.st/\a.st<=(2000:Int)
abbrev Gq(a:BkS):List Gau:=KA (sB a).length λ(i:Nat)=>gD (sB a) i
abbrev zA(a:BkS):Nat:=(Gq a).length
abbrev cK(a:BkS):Prop:=zA a=(sB a).length
abbrev ANX(a:BkS)(i:Nat):Gau:=gD (Gq a) i
abbrev aN(a:BkS):Prop:=∀(i:Nat),i<zA a->(ANX a i).st=(gD (sB a) i).st/\(ANX a i).lo=(gD (sB a) i).lo/\(ANX a i).hi=(gD (sB a) i).hi
abbrev MD:Prop:=(0:Nat)=(0:Nat)
abbrev BKH(a:BkS)(a1:Nat):Prop:=(Pi (sB a) a.st a1).length=(2:Nat)
abbrev BIC(a:BkS):List Pt:=AA (Gq a)
abbrev BIF(a:BkS):Nat:=(BIC a).length
abbrev BJB(a:BkS)(i:Nat):Pt:=gD (BIC a) i
abbrev BFE(a:Nat):Prop:=(↑a:Int)=(0:Int)
abbrev OR(a:BkS):Prop:=(sB a).length=(sB a).length
abbrev OS(a:BkS):Prop:=∀(i:Nat),i<(sB a).length->(gD (sB a) i).st=(gD (sB a) i).st/\(gD (sB a) i).lo=(gD (sB a) i).lo/\(gD (sB a) i).hi=(gD (sB a) i).hi
abbrev ANT(a:BkS):Prop:=(WZ (sB a)).length=(WZ (sB a)).length
abbrev AMW(a:BkS):Prop:=∀(i:Nat),i<(WZ (sB a)).length->(gD (WZ (sB a)) i).a0=(gD (WZ (sB a)) i).a0/\(gD (WZ (sB a)) i).a1=(gD (WZ (sB a)) i).a1/\(gD (WZ (sB a)) i).b0=(gD (WZ (sB a))
 i).b0/\(gD (WZ (sB a)) i).b1=(gD (WZ (sB a)) i).b1
abbrev BIL:Prop:=Int.ofNat (0:Nat)=Int.ofNat (0:Nat)
abbrev BGF:Prop:=Int.ofNat (200000:Nat)=Int.ofNat (200000:Nat)
abbrev ALO(i:Nat)(a:BkS)(a1:Nat):Prop:=i<(Pi (sB a) a.st a1).length
abbrev yB(a:BkS)(a1:Nat)(i:Nat):Ln:=gD (Pi (sB a) a.st a1) i
abbrev xU(a:BkS)(a1:Nat)(i:Nat):Int:=(yB a a1 i).a0
abbrev yS(i:Nat):Bool:=decide (i=(0:Nat))
abbrev yY(a:BkS)(a1:Nat)(i:Nat):Int:=(yB a a1 i).a1
abbrev yW(a:BkS)(a1:Nat)(i:Nat):Int:=(yB a a1 i).b0
abbrev xV(a:BkS)(a1:Nat)(i:Nat):Int:=(yB a a1 i).b1
abbrev BKC(a:Nat)(a1:BkS):Prop:=(↑a:Int)<(↑(AA (sB a1)).length:Int)
abbrev BKE(a:Nat)(a1:BkS):Bool:=decide (BKC a a1)
abbrev BFO(a:Nat)(a1:BkS):Prop:=(0:Int)<=(↑a:Int)/\BKC a a1
abbrev kI:Prop:=(4:Nat)=(4:Nat)
abbrev BID:Prop:=(0:Nat)<(2:Nat)
abbrev AMU(a:BkS)(a1:Nat):Nat:=(Pi (sB a) a.st a1).length+(2:Nat)
abbrev BIG(a:BkS)(a1:Nat)(a2:Nat):Prop:=(Pi (sB a) a.st a1).length=AMU a a2
abbrev EG(a:BkS):Prop:=(AA (sB a)).length=(AA (sB a)).length
abbrev EF(a:BkS):Prop:=∀(i:Nat),i<(AA (sB a)).length->(gD (AA (sB a)) i).st=(gD (AA (sB a)) i).st/\(gD (AA (sB a)) i).fl=(gD (AA (sB a)) i).fl
abbrev KT(a:BkS):Prop:=(↑(AA (sB a)).length:Int)=(↑(AA (sB a)).length:Int)
abbrev yU(i:Nat)(a:BkS)(a1:Nat):Bool:=decide (ALO i a a1)
abbrev zC(i:Nat)(a:BkS)(a1:Nat):Bool:=decide ((0:Nat)+(i-(Pi (sB a) a.st a1).length)=(0:Nat))
abbrev bD(a:BkS)(a1:Nat):Nat:=(AA (sB a)).length-a1
abbrev BHP(a:BkS)(a1:Nat)(a2:Nat):Prop:=bD a a1<bD a a2
abbrev BGH(a:BkS):List Ln:=KA (WZ (sB a)).length λ(i:Nat)=>gD (WZ (sB a)) i
abbrev kD(a:BkS):Nat:=(BGH a).length
abbrev zF(a:BkS)(i:Nat):Ln:=gD (BGH a) i
abbrev BIV(a:BkS)(i:Nat):Int:=(zF a i).a0
abbrev ART(a:BkS)(i:Nat):Int:=(zF a i).a1
abbrev ATA(a:BkS)(i:Nat):Int:=(zF a i).b0
abbrev APY(a:BkS)(i:Nat):Int:=(zF a i).b1
abbrev AVN(a:LnK)(a1:BkS):Prop:=a.l.length=kD a1
abbrev ASC(a:BkS)(a1:Nat):Prop:=(PR (sB a) a.st).length=(Pi (sB a) a.st a1).length
abbrev AUQ(i:Nat)(a:BkS):Prop:=i<(PR (sB a) a.st).length
abbrev R8(a:BkS)(i:Nat):Int:=(gD (PR (sB a) a.st) i).a0
abbrev U6(a:BkS)(i:Nat):Int:=(gD (PR (sB a) a.st) i).a1
abbrev T3(a:BkS)(i:Nat):Int:=(gD (PR (sB a) a.st) i).b0
abbrev T8(a:BkS)(i:Nat):Int:=(gD (PR (sB a) a.st) i).b1
abbrev D5(a:LnK)(a1:BkS):Prop:=a.i<=(PR (sB a1) a1.st).length/\a.l=WZ (sB a1) ++ List.filter (okX (sB a1)) (List.take a.i (PR (sB a1) a1.st))
abbrev AXQ(a:LnK)(a1:BkS):Prop:=(↑a.i:Int)<(↑(PR (sB a1) a1.st).length:Int)
abbrev AVS(a:LnK):Prop:=(0:Int)<=(↑a.i:Int)
abbrev AQR(a:LnK):Nat:=(0:Nat)+a.i
abbrev Ro(a:BkS)(a1:LnK):Ln:=gD (PR (sB a) a.st) (AQR a1)
abbrev AYH(a:BkS)(a1:LnK):Bool:=eM (Ro a a1)
abbrev dK(a:BkS)(a1:LnK):Int:=(Ro a a1).a0
abbrev Zk(a:BkS)(a1:LnK):Int:=(Ro a a1).a1
abbrev dL(a:BkS)(a1:LnK):Int:=(Ro a a1).b0
abbrev Zs(a:BkS)(a1:LnK):Int:=(Ro a a1).b1
abbrev bE(a:BkS):Prop:=zA a<(4611686018427387904:Nat)
abbrev dW(g:Gau)(a:BkS):Prop:=List.Mem g (Gq a)
abbrev R6:Prop:=(0:Nat)<(1:Nat)
abbrev P6:Prop:=(1:Nat)<=(1:Nat)/\(R6->kI)
abbrev AZE:Prop:=false=true->R6
abbrev lV(a:LnK):Nat:=a.l.length+(1:Nat)
abbrev ARO(a:LnK):Prop:=(a.l.length=a.l.length/\((0:Nat)<a.l.length->kI))/\P6/\AZE/\lV a<=(9223372036854775807:Nat)/\lV a*(32:Nat)<=(140737488355328
 : Nat)
abbrev ATI(a:LnK)(a1:LnK):Prop:=a.l.length=lV a1
abbrev dE(a:BkS):Prop:=(PR (sB a) a.st).length=(PR (sB a) a.st).length
abbrev F7(a:BkS):Prop:=(↑(PR (sB a) a.st).length:Int)=(↑(PR (sB a) a.st).length:Int)
abbrev ASK(a:LnK)(a1:LnK):Prop:=(↑a.i:Int)=(↑a1.i:Int)
abbrev AVI(a:BkS):Prop:=∀(i:Nat),AUQ i a->R8 a i=R8 a i/\U6 a i=U6 a i/\T3 a i=T3 a i/\T8 a i=T8 a i
abbrev Ey(i:Nat)(a:LnK):Bool:=decide (i<a.l.length)
abbrev pQ(a:BkS)(a1:LnK):Nat:=(PR (sB a) a.st).length-a1.i
abbrev T6(a:LnK)(a1:BkS)(a2:LnK):Prop:=a.i<(PR (sB a1) a1.st).length/\pQ a1 a=pQ a1 a2/\a.l=WZ (sB a1) ++ List.filter (okX (sB a1)) (List.take (a.i+(1:Nat)) (PR (sB a1)
 a1.st))
abbrev T1(a:LnK)(a1:LnK):Prop:=a.l.length=a1.l.length
abbrev ATX(a:BkS)(a1:LnK)(a2:LnK):Prop:=dN a/\bZ a/\cR a/\dZ a/\HW/\dP a/\bF a/\dC a/\OR a/\OS a/\dE a /\
 AVI a/\T1 a1 a2/\∀(i:Nat),i<a1.l.length->(gD a1.l i).a0=(gD a2.l i).a0/\(gD a1.l i).a1=(gD a2.l i).a1/\(gD a1.l i).b0=(gD a2.l i).b0/\(gD a1.l i).b1=(gD a2.l i).b1
abbrev BAD(a:BkS)(a1:LnK):Prop:=∀(a_1:LnK),T6 a_1 a a1->∃(a_3:LnK),(MD/\T1 a_3 a_1/\MD/\dE a/\F7 a/\(↑a_3.i:Int)=IntKind.i64.wrap ((↑a_1.i
 : Int)+(1:Int))/\ATX a a_3 a_1)/\D5 a_3 a/\pQ a a_3<pQ a a1
abbrev ARJ(a:LnK):Prop:=(0:Nat)+a.l.length<=a.l.length
abbrev nK(a:LnK)(j:Nat):Ln:=gD a.l ((0:Nat)+j)
abbrev AWM(a:LnK)(j:Nat):Int:=(nK a j).a0
abbrev ASD(a:LnK)(j:Nat):Int:=(nK a j).a1
abbrev APQ(a:LnK)(j:Nat):Int:=(nK a j).b0
abbrev APZ(a:LnK)(j:Nat):Int:=(nK a j).b1
abbrev APU(a:BkS):Prop:=∀(a_1:One),True->bif bif decide ((↑(sB a).length:Int)>(0:Int)) then (↑(WZ (sB a)).length:Int)==(0:Int) else false then BFK a/\BFK a/\BFW a else
 (BHR a/\BHR a)/\(cK a/\aN a/\zA a<(1073741824:Nat)/\True)/\(∃(a_3:Nat),(MD/\BKH a a_3/\(AA (sB a)).length=BIF a/\(∀(i:Nat),i<(AA (sB
 a)).length->(gD (AA (sB a)) i).st=(BJB a i).st/\(gD (AA (sB a)) i).fl=(BJB a i).fl)/\(↑(AA (sB a)).length:Int)=(↑(BIF a):Int)/\BFE a_3/\dN a/\bZ a /\
 cR a/\dZ a/\HW/\dP a/\bF a/\dC a/\OR a/\OS a/\ANT a/\AMW a/\a.st=a.st/\BIL/\a.st=a.st/\BGF/\BKH a a_3/\∀(i:Nat),
 ALO i a a_3->(xU a a_3 i=bif yS i then (CB (Pt.mk a.st (0:Int))).a0 else (CB (Pt.mk a.st (200000:Int))).a0)/\(yY a a_3 i=bif yS i then (CB (Pt.mk a.st (0:Int))).a1 else
 (CB (Pt.mk a.st (200000:Int))).a1)/\(yW a a_3 i=bif yS i then (CB (Pt.mk a.st (0:Int))).b0 else (CB (Pt.mk a.st (200000:Int))).b0)/\xV a a_3 i=bif yS i then (CB (Pt.mk a.st
 (0:Int))).b1 else (CB (Pt.mk a.st (200000:Int))).b1)/\a_3.le (AA (sB a)).length)/\∀(a_3:Nat),a_3.le (AA (sB a)).length->bif BKE a_3 a then BFO a_3 a/\(((Pi (sB a) a.st a_3).length=(Pi
 (sB a) a.st a_3).length/\((0:Nat)<(Pi (sB a) a.st a_3).length->kI))/\((2:Nat)<=(2:Nat)/\(BID->kI))/\(false=true->BID)/\AMU a a_3<=(9223372036854775807:Nat) /\
 AMU a a_3*(32:Nat)<=(140737488355328:Nat))/\∃(a_5:Nat),(MD/\BIG a a_5 a_3/\EG a/\EF a/\KT a/\(↑a_5:Int)=IntKind.i64.wrap ((↑a_3:Int)+(1:Int))/\dN
 a/\bZ a/\cR a/\dZ a/\HW/\dP a/\bF a/\dC a/\OR a/\OS a/\ANT a/\AMW a/\a.st=a.st/\BIL/\a.st=a.st/\BGF/\BIG a
 a_5 a_3/\∀(i:Nat),ALO i a a_5->(xU a a_5 i=bif yU i a a_3 then xU a a_3 i else bif zC i a a_3 then a.st else (gD (AA (sB a)) a_3).st)/\(yY a a_5 i=bif yU i a
 a_3 then yY a a_3 i else bif zC i a a_3 then (0:Int) else (gD (AA (sB a)) a_3).fl)/\(yW a a_5 i=bif yU i a a_3 then yW a a_3 i else bif zC i a a_3 then (gD (AA (sB a))
 a_3).st else a.st)/\xV a a_5 i=bif yU i a a_3 then xV a a_3 i else bif zC i a a_3 then (gD (AA (sB a)) a_3).fl else (200000:Int))/\a_5.le (AA (sB a)).length/\BHP a a_5 a_3
 else (kD a=(WZ (sB a)).length/\(∀(i:Nat),i<kD a->BIV a i=(gD (WZ (sB a)) i).a0/\ART a i=(gD (WZ (sB a)) i).a1/\ATA a i=(gD (WZ (sB a)) i).b0/\APY a i=(gD
 (WZ (sB a)) i).b1)/\(0:Nat)<kD a/\kD a<(1073741824:Nat))/\(∃(a_5:LnK),(MD/\AVN a_5 a/\MD/\ASC a a_3/\(↑(PR (sB a) a.st).length:Int)=(↑(Pi (sB a) a.st
 a_3).length:Int)/\(↑a_5.i:Int)=(0:Int)/\dN a/\bZ a/\cR a/\dZ a/\HW/\dP a/\bF a/\dC a/\OR a/\OS a/\ASC a a_3/\(∀(i:Nat),
 AUQ i a->R8 a i=xU a a_3 i/\U6 a i=yY a a_3 i/\T3 a i=yW a a_3 i/\T8 a i=xV a a_3 i)/\AVN a_5 a/\∀(i:Nat),i<a_5.l.length->(gD
 a_5.l i).a0=BIV a i/\(gD a_5.l i).a1=ART a i/\(gD a_5.l i).b0=ATA a i/\(gD a_5.l i).b1=APY a i)/\D5 a_5 a)/\∀(a_5:LnK),D5 a_5 a->bif decide (AXQ a_5 a)
 then (((AVS a_5/\AXQ a_5 a)/\(AQR a_5).succ.le (PR (sB a) a.st).length)/\(AYH a a_5=true->cK a/\aN a/\dK a a_5=dK a a_5/\Zk a a_5=Zk
 a a_5/\dL a a_5=dL a a_5/\Zs a a_5=Zs a a_5/\bE a/\∀(g:Gau),dW g a->((0:Int)<=dK a a_5/\dK a a_5<dL a a_5/\dL a a_5 <=
 (2000:Int)/\(0:Int)<=Zk a a_5/\Zk a a_5<=Zs a a_5/\Zs a a_5<=(200000:Int))/\bS g)/\bif bif AYH a a_5 then (Gq a).all λ(g:Gau)=>LL (Ro a
 a_5) g else false then ARO a_5/\∃(a_7:LnK),(MD/\ATI a_7 a_5/\MD/\dE a/\F7 a/\ASK a_7 a_5/\dN a/\bZ a/\cR a/\dZ a/\HW /\
 dP a/\bF a/\dC a/\OR a/\OS a/\dE a/\AVI a/\ATI a_7 a_5/\∀(i:Nat),i<a_7.l.length->((gD a_7.l i).a0=bif Ey i a_5 then (gD a_5.l i).a0 else
 dK a a_5)/\((gD a_7.l i).a1=bif Ey i a_5 then (gD a_5.l i).a1 else Zk a a_5)/\((gD a_7.l i).b0=bif Ey i a_5 then (gD a_5.l i).b0 else dL a a_5)/\(gD a_7.l i).b1=bif
 Ey i a_5 then (gD a_5.l i).b1 else Zs a a_5)/\T6 a_7 a a_5 else ∃(a_7:LnK),(MD/\T1 a_7 a_5/\MD/\dE a/\F7 a/\ASK a_7 a_5/\ATX a a_7
 a_5)/\T6 a_7 a a_5)/\BAD a a_5/\BAD a a_5 else (Bm (sB a) a.st).length=a_5.l.length/\ARJ a_5/\(∀(j:Nat),j<(Bm (sB a) a.st).length->(gD (Bm (sB a) a.st) j).a0=AWM
 a_5 j/\(gD (Bm (sB a) a.st) j).a1=ASD a_5 j/\(gD (Bm (sB a) a.st) j).b0=APQ a_5 j/\(gD (Bm (sB a) a.st) j).b1=APZ a_5 j)/\BFW a
abbrev BAW(a:BkS):List Gau:=KA (ANB a) λ(i:Nat)=>zI a i
abbrev oN(a:BkS):Nat:=(BAW a).length
abbrev pI(a:BkS)(i:Nat):Gau:=gD (BAW a) i
abbrev ASL(a:BkS)(i:Nat):Int:=(pI a i).st
abbrev ASY(a:BkS)(i:Nat):Int:=(pI a i).lo
abbrev AYS(a:BkS)(i:Nat):Int:=(pI a i).hi
abbrev F0(a:BkS):List Gau:=KA (oN a) λ(i:Nat)=>pI a i
abbrev G0(a:BkS):Nat:=(F0 a).length
abbrev U3(a:BkS)(i:Nat):Gau:=gD (F0 a) i
abbrev AXN(a:BkS):List Pt:=AA (F0 a)
abbrev AYQ(a:BkS):Nat:=(AXN a).length
abbrev AUL(a:BkS):Prop:=(AA (sB a)).length=AYQ a
abbrev ATU(a:BkS)(i:Nat):Pt:=gD (AXN a) i
abbrev AXR(a:BkS):Prop:=∀(i:Nat),i<(AA (sB a)).length->(gD (AA (sB a)) i).st=(ATU a i).st/\(gD (AA (sB a)) i).fl=(ATU a i).fl
abbrev UA(a:BkS):Prop:=a.w.g.length=a.w.g.length
abbrev UL(a:BkS):Prop:=∀(i:Nat),i<a.w.g.length->(gD a.w.g i).st=(gD a.w.g i).st/\(gD a.w.g i).lo=(gD a.w.g i).lo/\(gD a.w.g i).hi=(gD a.w.g i).hi
abbrev TR(a:BkS):Prop:=a.w.b.length=a.w.b.length
abbrev TX(a:BkS):Prop:=∀(i:Nat),i<a.w.b.length->gD a.w.b i=gD a.w.b i
abbrev UF(a:BkS):Prop:=∀(n:Int),(UR a.w n).length=(UR a.w n).length/\∀(i:Nat),BJL i a n->(gD (UR a.w n) i).a0=(gD (UR a.w n) i).a0/\(gD (UR a.w n) i).a1=(gD (UR a.w n) i).a1 /\
 (gD (UR a.w n) i).b0=(gD (UR a.w n) i).b0/\(gD (UR a.w n) i).b1=(gD (UR a.w n) i).b1
abbrev AUJ:Prop:=MD/\∀(i:Nat),i<(0:Nat)->false=false
abbrev oR(a:Nat)(a1:BkS):Prop:=a<=(AA (sB a1)).length/\List.filter (Pv (sB a1)) (fC (sB a1) a)=[]
abbrev N6:Prop:=(True/\((0:Nat)<(0:Nat)->(0:Nat)=(4:Nat)))/\P6/\(true=true->R6)/\(1:Nat)<=(9223372036854775807:Nat)/\(32:Nat)<=(140737488355328:Nat)
abbrev O7(a:LnJ):Prop:=(↑a.j:Int)=(0:Int)
abbrev lS(a:LnJ):Prop:=a.l.length=(1:Nat)
abbrev AWO(a:LnJ)(a1:BkS):Prop:=a.i<(AA (sB a1)).length
abbrev ATK(a:LnJ)(a1:BkS):Prop:=a.j<=(AA (sB a1)).length
abbrev AUH(a:BkS)(a1:LnJ):Nat:=(AA (sB a)).length-a1.i
abbrev AQW(a:LnJ)(a1:BkS):Prop:=a.l=List.filter (Pv (sB a1)) (XC (sB a1) a.i a.j)
abbrev lA(a:LnJ)(a1:BkS)(a2:Nat):Prop:=AWO a a1/\ATK a a1/\AUH a1 a=bD a1 a2/\AQW a a1
abbrev ARD(a:IJ)(a1:BkS):Prop:=a.i<(AA (sB a1)).length
abbrev ATP(a:IJ)(a1:BkS):Prop:=a.j<=(AA (sB a1)).length
abbrev AZQ(a:BkS)(a1:IJ):Nat:=(AA (sB a)).length-a1.i
abbrev AXX(a:BkS)(a1:IJ):Prop:=List.filter (Pv (sB a)) (XC (sB a) a1.i a1.j)=[]
abbrev K5(a:IJ)(a1:BkS)(a2:Nat):Prop:=ARD a a1/\ATP a a1/\AZQ a1 a=bD a1 a2/\AXX a1 a
abbrev ASQ(a:IJ)(a1:BkS):Prop:=(↑a.j:Int)<(↑(AA (sB a1)).length:Int)
abbrev AUU(a:IJ)(a1:BkS):Bool:=decide (ASQ a a1)
abbrev BAT(a:IJ)(a1:BkS):Prop:=(0:Int)<=(↑a.j:Int)/\ASQ a a1
abbrev ATC(a:BkS)(a1:IJ):Ln:=Ln.mk (gD (AA (sB a)) a1.i).st (gD (AA (sB a)) a1.i).fl (gD (AA (sB a)) a1.j).st (gD (AA (sB a)) a1.j).fl
abbrev AYY(a:BkS)(a1:IJ):Bool:=eM (ATC a a1)
abbrev ATG(a:BkS)(a1:IJ):Bool:=if true=true then AYY a a1 else !AYY a a1
abbrev ATL(a:BkS)(a1:IJ):Prop:=cK a/\aN a/\(gD (AA (sB a)) a1.i).st=(gD (AA (sB a)) a1.i).st/\(gD (AA (sB a)) a1.i).fl=(gD (AA (sB a)) a1.i).fl/\(gD (AA (sB a))
 a1.j).st=(gD (AA (sB a)) a1.j).st/\(gD (AA (sB a)) a1.j).fl=(gD (AA (sB a)) a1.j).fl/\bE a/\∀(g:Gau),dW g a->((0:Int)<=(gD (AA (sB a)) a1.i).st/\(gD (AA (sB a)) a1.i).st <
 (gD (AA (sB a)) a1.j).st/\(gD (AA (sB a)) a1.j).st<=(2000:Int)/\(0:Int)<=(gD (AA (sB a)) a1.i).fl/\(gD (AA (sB a)) a1.i).fl<=(gD (AA (sB a)) a1.j).fl/\(gD (AA (sB a)) a1.j).fl<=(200000 :
 Int))/\bS g
abbrev ASX(a:BkS)(a1:IJ):Bool:=(Gq a).all λ(g:Gau)=>LL (ATC a a1) g
abbrev AYT(a:IJ):Int:=IntKind.i64.wrap ((↑a.j:Int)+(1:Int))
abbrev ATB(a:BkS)(a1:LnJ)(a2:IJ)(l:Nat):Prop:=EG a/\EF a/\KT a/\(↑a1.j:Int)=AYT a2/\Fn.yield l=Fn.yield l/\EG a/\EF a/\EG a/\EF
 a/\KT a/\(↑a1.i:Int)=(↑a2.i:Int)/\(gD (AA (sB a)) a1.i).st=(gD (AA (sB a)) a2.i).st/\(gD (AA (sB a)) a1.i).fl=(gD (AA (sB a)) a2.i).fl/\UA a/\UL a/\TR a /\
 TX a/\HW/\TO a/\TL a/\UF a/\OR a/\OS a/\MD/\lS a1/\lS a1/\∀(i:Nat),i<a1.l.length->(gD a1.l i).a0=(gD (AA (sB a)) a2.i).st /\
 (gD a1.l i).a1=(gD (AA (sB a)) a2.i).fl/\(gD a1.l i).b0=(gD (AA (sB a)) a2.j).st/\(gD a1.l i).b1=(gD (AA (sB a)) a2.j).fl
abbrev R3(a:BkS)(a1:LnJ):Nat:=(AA (sB a)).length-a1.j
abbrev E5(a:BkS)(a1:IJ):Nat:=(AA (sB a)).length-a1.j
abbrev ARI(a:BkS)(a1:LnJ)(a2:IJ):Prop:=R3 a a1<E5 a a2
abbrev N8(a:BkS):Prop:=UA a/\UL a/\TR a/\TX a/\HW/\TO a/\TL a/\UF a/\OR a/\OS a/\AUJ
abbrev AQX(a:BkS)(a1:IJ)(a2:IJ)(l:Nat):Prop:=EG a/\EF a/\KT a/\(↑a1.j:Int)=AYT a2/\Fn.yield l=Fn.yield l/\EG a/\EF a/\EG a/\EF
 a/\KT a/\(↑a1.i:Int)=(↑a2.i:Int)/\(gD (AA (sB a)) a1.i).st=(gD (AA (sB a)) a2.i).st/\(gD (AA (sB a)) a1.i).fl=(gD (AA (sB a)) a2.i).fl/\N8 a
abbrev AQL(a:BkS)(a1:IJ)(a2:IJ):Prop:=E5 a a1<E5 a a2
abbrev AQF(a:BkS)(a1:IJ)(l:Nat)(a2:Nat):Prop:=∃(a_1:IJ),AQX a a_1 a1 l/\K5 a_1 a a2/\AQL a a_1 a1
abbrev AUN(l:Nat)(a:BkS)(a1:Nat)(a2:IJ):Prop:=Fn.yield l=Fn.yield l/\EG a/\EF a/\EG a/\EF a/\KT a/\(↑a1:Int)=IntKind.i64.wrap ((↑a2.i:Int)+(1 :
 Int))/\N8 a
abbrev BAZ(a:LnJ)(a1:BkS):Prop:=(↑a.j:Int)<(↑(AA (sB a1)).length:Int)
abbrev APT(a:LnJ)(a1:BkS):Bool:=decide (BAZ a a1)
abbrev AQP(a:LnJ)(a1:BkS):Prop:=(0:Int)<=(↑a.j:Int)/\BAZ a a1
abbrev BAG(a:BkS)(a1:LnJ):Ln:=Ln.mk (gD (AA (sB a)) a1.i).st (gD (AA (sB a)) a1.i).fl (gD (AA (sB a)) a1.j).st (gD (AA (sB a)) a1.j).fl
abbrev BAM(a:BkS)(a1:LnJ):Bool:=eM (BAG a a1)
abbrev ASS(a:BkS)(a1:LnJ):Bool:=if true=true then BAM a a1 else !BAM a a1
abbrev AXD(a:BkS)(a1:LnJ):Prop:=cK a/\aN a/\(gD (AA (sB a)) a1.i).st=(gD (AA (sB a)) a1.i).st/\(gD (AA (sB a)) a1.i).fl=(gD (AA (sB a)) a1.i).fl/\(gD (AA (sB a))
 a1.j).st=(gD (AA (sB a)) a1.j).st/\(gD (AA (sB a)) a1.j).fl=(gD (AA (sB a)) a1.j).fl/\bE a/\∀(g:Gau),dW g a->((0:Int)<=(gD (AA (sB a)) a1.i).st/\(gD (AA (sB a)) a1.i).st <
 (gD (AA (sB a)) a1.j).st/\(gD (AA (sB a)) a1.j).st<=(2000:Int)/\(0:Int)<=(gD (AA (sB a)) a1.i).fl/\(gD (AA (sB a)) a1.i).fl<=(gD (AA (sB a)) a1.j).fl/\(gD (AA (sB a)) a1.j).fl<=(200000 :
 Int))/\bS g
abbrev ASU(a:BkS)(a1:LnJ):Bool:=(Gq a).all λ(g:Gau)=>LL (BAG a a1) g
abbrev U4(a:LnJ):Nat:=a.l.length+(1:Nat)
abbrev ATQ(a:LnJ):Prop:=(a.l.length=a.l.length/\((0:Nat)<a.l.length->kI))/\P6/\AZE/\U4 a<=(9223372036854775807:Nat)/\U4 a*(32:Nat)<=(140737488355328
 : Nat)
abbrev AQO(a:LnJ)(a1:LnJ):Prop:=(↑a.j:Int)=IntKind.i64.wrap ((↑a1.j:Int)+(1:Int))
abbrev BAU(a:LnJ)(a1:LnJ):Prop:=(↑a.i:Int)=(↑a1.i:Int)
abbrev AQU(a:BkS)(a1:LnJ)(a2:LnJ):Prop:=(gD (AA (sB a)) a1.i).st=(gD (AA (sB a)) a2.i).st
abbrev ARR(a:BkS)(a1:LnJ)(a2:LnJ):Prop:=(gD (AA (sB a)) a1.i).fl=(gD (AA (sB a)) a2.i).fl
abbrev AWG(a:LnJ)(a1:LnJ):Prop:=a.l.length=U4 a1
abbrev mQ(i:Nat)(a:LnJ):Bool:=decide (i<a.l.length)
abbrev AZW(a:BkS)(a1:LnJ)(a2:LnJ)(l:Nat):Prop:=EG a/\EF a/\KT a/\AQO a1 a2/\Fn.yield l=Fn.yield l/\EG a/\EF a/\EG a/\EF a /\
 KT a/\BAU a1 a2/\AQU a a1 a2/\ARR a a1 a2/\UA a/\UL a/\TR a/\TX a/\HW/\TO a/\TL a/\UF a/\OR a/\OS a /\
 MD/\AWG a1 a2/\AWG a1 a2/\∀(i:Nat),i<a1.l.length->((gD a1.l i).a0=bif mQ i a2 then (gD a2.l i).a0 else (gD (AA (sB a)) a2.i).st)/\((gD a1.l i).a1=bif mQ i a2 then
 (gD a2.l i).a1 else (gD (AA (sB a)) a2.i).fl)/\((gD a1.l i).b0=bif mQ i a2 then (gD a2.l i).b0 else (gD (AA (sB a)) a2.j).st)/\(gD a1.l i).b1=bif mQ i a2 then (gD a2.l i).b1 else (gD (AA
 (sB a)) a2.j).fl
abbrev APS(a:BkS)(a1:LnJ)(a2:LnJ):Prop:=R3 a a1<R3 a a2
abbrev AUT(a:LnJ)(a1:BkS)(a2:Nat)(a3:LnJ):Prop:=lA a a1 a2/\APS a1 a a3
abbrev ARY(a:LnJ)(a1:LnJ):Prop:=a.l.length=a1.l.length
abbrev BAC(a:BkS)(a1:LnJ)(a2:LnJ)(l:Nat):Prop:=EG a/\EF a/\KT a/\AQO a1 a2/\Fn.yield l=Fn.yield l/\EG a/\EF a/\EG a/\EF a /\
 KT a/\BAU a1 a2/\AQU a a1 a2/\ARR a a1 a2/\UA a/\UL a/\TR a/\TX a/\HW/\TO a/\TL a/\UF a/\OR a/\OS a /\
 MD/\ARY a1 a2/\ARY a1 a2/\∀(i:Nat),i<a1.l.length->(gD a1.l i).a0=(gD a2.l i).a0/\(gD a1.l i).a1=(gD a2.l i).a1/\(gD a1.l i).b0=(gD a2.l i).b0/\(gD a1.l i).b1=(gD a2.l i).b1
abbrev ATV(a:BkS)(a1:LnJ)(l:Nat)(a2:Nat):Prop:=∃(a_1:LnJ),BAC a a_1 a1 l/\AUT a_1 a a2 a1
abbrev ATS(a:LnK)(a1:LnJ):Prop:=a.l.length=a1.l.length
abbrev ASI(l:Nat)(a:BkS)(a1:LnK)(a2:LnJ):Prop:=Fn.yield l=Fn.yield l/\EG a/\EF a/\EG a/\EF a/\KT a/\(↑a1.i:Int)=IntKind.i64.wrap ((↑a2.i:Int)+(1 :
 Int))/\UA a/\UL a/\TR a/\TX a/\HW/\TO a/\TL a/\UF a/\OR a/\OS a/\MD/\ATS a1 a2/\ATS a1 a2/\∀(i:Nat),i <
 a1.l.length->(gD a1.l i).a0=(gD a2.l i).a0/\(gD a1.l i).a1=(gD a2.l i).a1/\(gD a1.l i).b0=(gD a2.l i).b0/\(gD a1.l i).b1=(gD a2.l i).b1
abbrev J0(a:LnK)(a1:BkS):Prop:=a.i<=(AA (sB a1)).length/\a.l=List.filter (Pv (sB a1)) (fC (sB a1) a.i)
abbrev Tg(a:BkS)(a1:LnK):Nat:=(AA (sB a)).length-a1.i
abbrev ARP(a:BkS)(a1:Nat)(l:Nat):Prop:=∀(a_1:LnJ),lA a_1 a a1->bif APT a_1 a then AQP a_1 a/\bif ASS a a_1 then l=l/\AXD a a_1/\bif ASU a a_1 then
 ATQ a_1/\∃(a_3:LnJ),AZW a a_3 a_1 l/\AUT a_3 a a1 a_1 else ATV a a_1 l a1 else ATV a a_1 l a1 else ∃(a_3:LnK),ASI l a a_3 a_1/\J0 a_3 a/\Tg a a_3 <
 bD a a1
abbrev AVO(a:BkS)(a1:Nat)(l:Nat):Prop:=(∀(a_1:IJ),K5 a_1 a a1->bif AUU a_1 a then BAT a_1 a/\bif ATG a a_1 then l=l/\ATL a a_1/\bif ASX a a_1 then
 N6/\∃(a_3:LnJ),ATB a a_3 a_1 l/\lA a_3 a a1/\ARI a a_3 a_1 else AQF a a_1 l a1 else AQF a a_1 l a1 else ∃(a_3:Nat),AUN l a a_3 a_1/\oR a_3 a /\
 BHP a a_3 a1)/\ARP a a1 l/\ARP a a1 l
abbrev BAK(a:BkS):Prop:=(WZ (sB a)).length=(0:Nat)
abbrev ASF(a:LnK)(a1:BkS):Prop:=(↑a.i:Int)<(↑(AA (sB a1)).length:Int)
abbrev dR(a:BkS)(a1:LnK):Int:=(CB (gD (AA (sB a)) a1.i)).a0
abbrev dB(a:BkS)(a1:LnK):Int:=(CB (gD (AA (sB a)) a1.i)).a1
abbrev aY(a:BkS)(a1:LnK):Int:=(CB (gD (AA (sB a)) a1.i)).b0
abbrev Yq(a:BkS)(a1:LnK):Int:=(CB (gD (AA (sB a)) a1.i)).b1
abbrev AQZ(a:LnJ)(a1:LnK):Prop:=(↑a.i:Int)=(↑a1.i:Int)
abbrev ASG(a:BkS)(a1:LnJ)(a2:LnK):Prop:=(gD (AA (sB a)) a1.i).st=(gD (AA (sB a)) a2.i).st
abbrev ASM(a:BkS)(a1:LnJ)(a2:LnK):Prop:=(gD (AA (sB a)) a1.i).fl=(gD (AA (sB a)) a2.i).fl
abbrev AWK(a:LnJ)(a1:LnK):Prop:=a.l.length=lV a1
abbrev cH(a:LnJ)(a1:BkS)(a2:LnK):Prop:=AWO a a1/\ATK a a1/\AUH a1 a=Tg a1 a2/\AQW a a1
abbrev AZB(a:IJ)(a1:BkS)(a2:LnK):Prop:=ARD a a1/\ATP a a1/\AZQ a1 a=Tg a1 a2/\AXX a1 a
abbrev ARU(a:BkS)(a1:IJ)(l:Nat)(a2:LnK):Prop:=∃(a_1:IJ),AQX a a_1 a1 l/\AZB a_1 a a2/\AQL a a_1 a1
abbrev BAY(a:LnJ)(a1:BkS)(a2:LnK)(a3:LnJ):Prop:=cH a a1 a2/\APS a1 a a3
abbrev AWZ(a:BkS)(a1:LnJ)(l:Nat)(a2:LnK):Prop:=∃(a_1:LnJ),BAC a a_1 a1 l/\BAY a_1 a a2 a1
abbrev ASP(a:BkS)(a1:LnK)(l:Nat):Prop:=∀(a_1:LnJ),cH a_1 a a1->bif APT a_1 a then AQP a_1 a/\bif ASS a a_1 then l=l/\AXD a a_1/\bif ASU a a_1 then
 ATQ a_1/\∃(a_3:LnJ),AZW a a_3 a_1 l/\BAY a_3 a a1 a_1 else AWZ a a_1 l a1 else AWZ a a_1 l a1 else ∃(a_3:LnK),ASI l a a_3 a_1/\J0 a_3 a/\Tg a a_3 <
 Tg a a1
abbrev AXY(a:BkS)(a1:LnK)(l:Nat):Prop:=(∀(a_1:IJ),AZB a_1 a a1->bif AUU a_1 a then BAT a_1 a/\bif ATG a a_1 then l=l/\ATL a a_1/\bif ASX a a_1 then
 N6/\∃(a_3:LnJ),ATB a a_3 a_1 l/\cH a_3 a a1/\ARI a a_3 a_1 else ARU a a_1 l a1 else ARU a a_1 l a1 else ∃(a_3:Nat),AUN l a a_3 a_1/\oR a_3 a /\
 bD a a_3<Tg a a1)/\ASP a a1 l/\ASP a a1 l
abbrev AXU(a:LnJ)(a1:LnK):Prop:=a.l.length=a1.l.length
abbrev aI(n:Int)(a:BkS):Bool:=decide (n=a.k)
abbrev AUB(a:BkS):Prop:=∀(a_1:One),True->∃(a_3:One),(a.st=a.st/\BJZ a/\BFF a/\BGG a/\BGI a/\HW/\(∀(n:Int),(Du a.w a.k).has n=YF a.w.has a.k n)/\(∀
 (n:Int),(Du a.w a.k).st n=S3 a.w.has a.w.st a.k n)/\(∀(n:Int),((UR (Du a.w a.k) n).length=bif aI n a then (WZ (sB a)).length else (UR a.w n).length)/\∀(i:Nat),ANR i a n->(zG
 a n i=bif aI n a then (gD (WZ (sB a)) i).a0 else (gD (UR a.w n) i).a0)/\(zR a n i=bif aI n a then (gD (WZ (sB a)) i).a1 else (gD (UR a.w n) i).a1)/\(xP a n i=bif aI n a
 then (gD (WZ (sB a)) i).b0 else (gD (UR a.w n) i).b0)/\B5 a n i=bif aI n a then (gD (WZ (sB a)) i).b1 else (gD (UR a.w n) i).b1)/\OR a/\OS a/\ANT a/\AMW a)/\True
theorem DHJ(a:BkS):(DAT a)=((a.k=a.k/\ACS a=a.w.g.length/\(∀(i:Nat),i<ACS a->BQT a i=(gD a.w.g i).st/\BQH a i=(gD a.w.g i).lo/\BSK a i=(gD a.w.g i).hi) /\
 AED a=a.w.b.length/\(∀(i:Nat),i<AED a->BTO a i=gD a.w.b i)/\HW/\TO a/\TL a/\(∀(n:Int),AMS a n=(UR a.w n).length/\∀(i:Nat),i<AMS a n ->
 BJO a n i=(gD (UR a.w n) i).a0/\BEY a n i=(gD (UR a.w n) i).a1/\BGR a n i=(gD (UR a.w n) i).b0/\BIK a n i=(gD (UR a.w n) i).b1)/\a.w.g.length=ACS a/\(∀(i:Nat),i <
 a.w.g.length->(gD a.w.g i).st=BQT a i/\(gD a.w.g i).lo=BQH a i/\(gD a.w.g i).hi=BSK a i)/\a.w.b.length=AED a/\(∀(i:Nat),i<a.w.b.length->gD a.w.b i=BTO a i)/\HW /\
 TO a/\TL a/\(∀(n:Int),(UR a.w n).length=AMS a n/\∀(i:Nat),BJL i a n->(gD (UR a.w n) i).a0=BJO a n i/\(gD (UR a.w n) i).a1=BEY a n i/\(gD (UR a.w n) i).b0 =
 BGR a n i/\(gD (UR a.w n) i).b1=BIK a n i)/\(ACS a<=(24:Nat)/\(∀(x:Gau),List.Mem x (AEE a)->bS x)/\AED a<=(24:Nat)/\List.Pairwise (λ(x1 x2:Int)=>x1<x2)
 (zH a)/\∀(x:Int),List.Mem x (zH a)->(1:Int)<=x/\x<=(2000:Int))/\True)/\HW/\bif a.w.has a.k then (∃(a_1:One),(a.st=a.st/\BJZ a/\BFF a/\BGG a/\BGI a /\
 HW/\(∀(n:Int),(Du a.w a.k).has n=a.w.has n)/\(∀(n:Int),(Du a.w a.k).st n=a.w.st n)/\(∀(n:Int),(UR (Du a.w a.k) n).length=(UR a.w n).length/\∀(i:Nat),ANR i a n->zG a n i
 = (gD (UR a.w n) i).a0/\zR a n i=(gD (UR a.w n) i).a1/\xP a n i=(gD (UR a.w n) i).b0/\B5 a n i=(gD (UR a.w n) i).b1)/\BHY a/\BGD a/\(WZ (sB a)).length=(UR a.w
 a.k).length/\∀(i:Nat),i<(WZ (sB a)).length->(gD (WZ (sB a)) i).a0=(gD (UR a.w a.k) i).a0/\(gD (WZ (sB a)) i).a1=(gD (UR a.w a.k) i).a1/\(gD (WZ (sB a)) i).b0=(gD (UR a.w a.k) i).b0/\(gD (WZ (sB
 a)) i).b1=(gD (UR a.w a.k) i).b1)/\True)/\APU a else (((oN a=ANB a/\∀(i:Nat),i<oN a->ASL a i=BJT a i/\ASY a i=BEP a i/\AYS a i =
 BFJ a i)/\∀(l:Nat),(G0 a=oN a/\(∀(i:Nat),i<G0 a->(U3 a i).st=ASL a i/\(U3 a i).lo=ASY a i/\(U3 a i).hi=AYS a i) /\
 G0 a<(1073741824:Nat)/\True)/\(∃(a_1:Nat),(Fn.yield l=Fn.yield l/\AUL a/\AXR a/\AUL a/\AXR a/\(↑(AA (sB a)).length:Int)=(↑(AYQ a):Int)/\BFE a_1
 /\ UA a/\UL a/\TR a/\TX a/\HW/\TO a/\TL a/\UF a/\BHY a/\BGD a/\AUJ)/\oR a_1 a)/\(∀(a_1:Nat),oR a_1 a->bif
 BKE a_1 a then BFO a_1 a/\((0:Int)<=(gD (AA (sB a)) a_1).st/\(gD (AA (sB a)) a_1).st<=(2000:Int))/\l=l/\(cK a/\aN a/\(CB (gD (AA (sB a)) a_1)).a0=(CB (gD (AA (sB
 a)) a_1)).a0/\(CB (gD (AA (sB a)) a_1)).a1=(CB (gD (AA (sB a)) a_1)).a1/\(CB (gD (AA (sB a)) a_1)).b0=(CB (gD (AA (sB a)) a_1)).b0/\(CB (gD (AA (sB a)) a_1)).b1=(CB (gD (AA (sB a))
 a_1)).b1/\bE a/\∀(g:Gau),dW g a->((0:Int)<=(CB (gD (AA (sB a)) a_1)).a0/\(CB (gD (AA (sB a)) a_1)).a0<(CB (gD (AA (sB a)) a_1)).b0/\(CB (gD (AA (sB a)) a_1)).b0<=(2000 :
 Int)/\(0:Int)<=(CB (gD (AA (sB a)) a_1)).a1/\(CB (gD (AA (sB a)) a_1)).a1<=(CB (gD (AA (sB a)) a_1)).b1/\(CB (gD (AA (sB a)) a_1)).b1<=(200000:Int))/\bS g)/\bif (Gq a).all
 λ(g:Gau)=>LL (CB (gD (AA (sB a)) a_1)) g then N6/\(∃(a_3:LnJ),(EG a/\EF a/\KT a/\O7 a_3/\Fn.yield l=Fn.yield l/\EG a/\EF a/\EG a /\
 EF a/\KT a/\(↑a_3.i:Int)=(↑a_1:Int)/\(gD (AA (sB a)) a_3.i).st=(gD (AA (sB a)) a_1).st/\(gD (AA (sB a)) a_3.i).fl=(gD (AA (sB a)) a_1).fl/\UA a/\UL a/\TR
 a/\TX a/\HW/\TO a/\TL a/\UF a/\OR a/\OS a/\MD/\lS a_3/\lS a_3/\∀(i:Nat),i<a_3.l.length->(gD a_3.l i).a0=(CB (gD (AA (sB
 a)) a_1)).a0/\(gD a_3.l i).a1=(CB (gD (AA (sB a)) a_1)).a1/\(gD a_3.l i).b0=(CB (gD (AA (sB a)) a_1)).b0/\(gD a_3.l i).b1=(CB (gD (AA (sB a)) a_1)).b1)/\lA a_3 a a_1)/\AVO a a_1 l
 else (∃(a_3:IJ),(EG a/\EF a/\KT a/\(↑a_3.j:Int)=(0:Int)/\Fn.yield l=Fn.yield l/\EG a/\EF a/\EG a/\EF a/\KT a/\(↑a_3.i:Int)=(↑a_1:Int) /\
 (gD (AA (sB a)) a_3.i).st=(gD (AA (sB a)) a_1).st/\(gD (AA (sB a)) a_3.i).fl=(gD (AA (sB a)) a_1).fl/\N8 a)/\K5 a_3 a a_1)/\AVO a a_1 l else ∃(a_3:One),(a.k=a.k/\a.st =
 a.st/\UA a/\UL a/\TR a/\TX a/\HW/\TO a/\TL a/\UF a/\OR a/\OS a/\BAK a/\BAK a)/\True)/\∀(a_1:LnK),J0 a_1 a
 -> bif decide (ASF a_1 a) then (AVS a_1/\ASF a_1 a)/\((0:Int)<=(gD (AA (sB a)) a_1.i).st/\(gD (AA (sB a)) a_1.i).st<=(2000:Int))/\l=l/\(cK a/\aN a/\dR a a_1
 = dR a a_1/\dB a a_1=dB a a_1/\aY a a_1=aY a a_1/\Yq a a_1=Yq a a_1/\bE a/\∀(g:Gau),dW g a->((0:Int)<=dR a a_1 /\
 dR a a_1<aY a a_1/\aY a a_1<=(2000:Int)/\(0:Int)<=dB a a_1/\dB a a_1<=Yq a a_1/\Yq a a_1<=(200000:Int))/\bS g)/\bif (Gq a).all fun
 (g:Gau)=>LL (CB (gD (AA (sB a)) a_1.i)) g then ARO a_1/\(∃(a_3:LnJ),(EG a/\EF a/\KT a/\O7 a_3/\Fn.yield l=Fn.yield l/\EG a/\EF a/\EG a /\
 EF a/\KT a/\AQZ a_3 a_1/\ASG a a_3 a_1/\ASM a a_3 a_1/\UA a/\UL a/\TR a/\TX a/\HW/\TO a/\TL a/\UF a/\OR
 a/\OS a/\MD/\AWK a_3 a_1/\AWK a_3 a_1/\∀(i:Nat),i<a_3.l.length->((gD a_3.l i).a0=bif Ey i a_1 then (gD a_1.l i).a0 else dR a a_1)/\((gD a_3.l i).a1=bif
 Ey i a_1 then (gD a_1.l i).a1 else dB a a_1)/\((gD a_3.l i).b0=bif Ey i a_1 then (gD a_1.l i).b0 else aY a a_1)/\(gD a_3.l i).b1=bif Ey i a_1 then (gD a_1.l i).b1 else
 Yq a a_1)/\cH a_3 a a_1)/\AXY a a_1 l else (∃(a_3:LnJ),(EG a/\EF a/\KT a/\O7 a_3/\Fn.yield l=Fn.yield l/\EG a/\EF a/\EG a /\
 EF a/\KT a/\AQZ a_3 a_1/\ASG a a_3 a_1/\ASM a a_3 a_1/\UA a/\UL a/\TR a/\TX a/\HW/\TO a/\TL a/\UF a/\OR
 a/\OS a/\MD/\AXU a_3 a_1/\AXU a_3 a_1/\∀(i:Nat),i<a_3.l.length->(gD a_3.l i).a0=(gD a_1.l i).a0/\(gD a_3.l i).a1=(gD a_1.l i).a1/\(gD a_3.l i).b0=(gD a_1.l i).b0/\(gD
 a_3.l i).b1=(gD a_1.l i).b1)/\cH a_3 a a_1)/\AXY a a_1 l else ∃(a_3:One),(a.k=a.k/\a.st=a.st/\UA a/\UL a/\TR a/\TX a/\HW/\TO a/\TL a
 /\ UF a/\OR a/\OS a/\(WZ (sB a)).length=a_1.l.length/\ARJ a_1/\∀(j:Nat),j<(WZ (sB a)).length->(gD (WZ (sB a)) j).a0=AWM a_1 j/\(gD (WZ (sB a)) j).a1=ASD
 a_1 j/\(gD (WZ (sB a)) j).b0=APQ a_1 j/\(gD (WZ (sB a)) j).b1=APZ a_1 j)/\True)/\AUB a/\AUB a)/\APU a):=by kernel_rfl
def CXM(a:BkS):Prop:=BG Try.prog (DEP a) BCJ (AL BCJ) (C_lns.xs a) (AF (C_lns.L a)) (C_lns.val a) (C_lns.keep a) [] [403]
abbrev ABM(a:BkS):List Gau:=KA a.w.g.length λ(i:Nat)=>gD a.w.g i
abbrev AFE(a:BkS):Nat:=(ABM a).length
abbrev BCX(a:BkS)(i:Nat):Gau:=gD (ABM a) i
abbrev BPI(a:BkS)(i:Nat):Int:=(BCX a i).st
abbrev BQM(a:BkS)(i:Nat):Int:=(BCX a i).lo
abbrev BOF(a:BkS)(i:Nat):Int:=(BCX a i).hi
abbrev A5(a:BkS):List Int:=KA a.w.b.length λ(i:Nat)=>gD a.w.b i
abbrev ABO(a:BkS):Nat:=(A5 a).length
abbrev BPS(a:BkS)(i:Nat):Int:=gD (A5 a) i
abbrev BTD:Value:=Value.slice none (0:Nat) (0:Nat)
abbrev GO:Prop:=BTD=BTD
abbrev TN(a:BkS):Prop:=∀(n:Int),a.w.has n=a.w.has n
abbrev TM(a:BkS):Prop:=∀(n:Int),a.w.st n=a.w.st n
abbrev BJC(a:BkS):Bk:=Bk.mk (ABM a) (A5 a) a.w.has a.w.st
abbrev BFA(a:BkS)(n:Int):List Ln:=UR (BJC a) n
abbrev AMN(a:BkS)(n:Int):Nat:=(BFA a n).length
abbrev A9(a:BkS)(n:Int)(i:Nat):Ln:=gD (BFA a n) i
abbrev BHL(a:BkS)(n:Int)(i:Nat):Int:=(A9 a n i).a0
abbrev BFY(a:BkS)(n:Int)(i:Nat):Int:=(A9 a n i).a1
abbrev BFD(a:BkS)(n:Int)(i:Nat):Int:=(A9 a n i).b0
abbrev BJM(a:BkS)(n:Int)(i:Nat):Int:=(A9 a n i).b1
abbrev BIP(i:Nat)(a:BkS)(n:Int):Prop:=i<(UR a.w n).length
abbrev Uc(x:Gau):Prop:=(0:Int)<=x.st/\x.st<=(2000:Int)/\(0:Int)<=x.lo/\x.lo<=x.hi/\x.hi<=(200000:Int)
abbrev BHA(a:BkS):Prop:=(Du a.w a.k).g.length=a.w.g.length
abbrev BIY(i:Nat)(a:BkS):Prop:=i<(Du a.w a.k).g.length
abbrev AOC(a:BkS)(i:Nat):Gau:=gD (Du a.w a.k).g i
abbrev AOB(a:BkS)(i:Nat):Int:=(AOC a i).st
abbrev ALR(a:BkS)(i:Nat):Int:=(AOC a i).lo
abbrev AMD(a:BkS)(i:Nat):Int:=(AOC a i).hi
abbrev BIU(a:BkS):Prop:=∀(i:Nat),BIY i a->AOB a i=(gD a.w.g i).st/\ALR a i=(gD a.w.g i).lo/\AMD a i=(gD a.w.g i).hi
abbrev BJP(a:BkS):Prop:=(Du a.w a.k).b.length=a.w.b.length
abbrev BFV(i:Nat)(a:BkS):Prop:=i<(Du a.w a.k).b.length
abbrev AOA(a:BkS)(i:Nat):Int:=gD (Du a.w a.k).b i
abbrev BGY(a:BkS):Prop:=∀(i:Nat),BFV i a->AOA a i=gD a.w.b i
abbrev AMP(i:Nat)(a:BkS)(n:Int):Prop:=i<(UR (Du a.w a.k) n).length
abbrev yP(a:BkS)(n:Int)(i:Nat):Ln:=gD (UR (Du a.w a.k) n) i
abbrev zO(a:BkS)(n:Int)(i:Nat):Int:=(yP a n i).a0
abbrev yF(a:BkS)(n:Int)(i:Nat):Int:=(yP a n i).a1
abbrev A7(a:BkS)(n:Int)(i:Nat):Int:=(yP a n i).b0
abbrev yQ(a:BkS)(n:Int)(i:Nat):Int:=(yP a n i).b1
abbrev BFP(a:BkS):List Gau:=Ys (BJC a) a.k
abbrev AOG(a:BkS):Nat:=(BFP a).length
abbrev BJX(a:BkS):Prop:=(sB a).length=AOG a
abbrev zK(a:BkS)(i:Nat):Gau:=gD (BFP a) i
abbrev BKD(a:BkS)(i:Nat):Int:=(zK a i).st
abbrev BJE(a:BkS)(i:Nat):Int:=(zK a i).lo
abbrev BGC(a:BkS)(i:Nat):Int:=(zK a i).hi
abbrev BGE(a:BkS):Prop:=∀(i:Nat),i<(sB a).length->(gD (sB a) i).st=BKD a i/\(gD (sB a) i).lo=BJE a i/\(gD (sB a) i).hi=BGC a i
abbrev EQ:Prop:=(0:Nat)=(0:Nat)
abbrev BIH(a:BkS):Prop:=(Bm (sB a) a.st).length=(0:Nat)
abbrev Lq(a:BkS):Prop:=(Du a.w a.k).g.length=(Du a.w a.k).g.length
abbrev Ll(a:BkS):Prop:=∀(i:Nat),BIY i a->AOB a i=AOB a i/\ALR a i=ALR a i/\AMD a i=AMD a i
abbrev Lo(a:BkS):Prop:=(Du a.w a.k).b.length=(Du a.w a.k).b.length
abbrev Lk(a:BkS):Prop:=∀(i:Nat),BFV i a->AOA a i=AOA a i
abbrev Lr(a:BkS):Prop:=∀(n:Int),(Du a.w a.k).has n=(Du a.w a.k).has n
abbrev Lv(a:BkS):Prop:=∀(n:Int),(Du a.w a.k).st n=(Du a.w a.k).st n
abbrev Ls(a:BkS):Prop:=∀(n:Int),(UR (Du a.w a.k) n).length=(UR (Du a.w a.k) n).length/\∀(i:Nat),AMP i a n->zO a n i=zO a n i/\yF a n i=yF a n i /\
 A7 a n i=A7 a n i/\yQ a n i=yQ a n i
abbrev BJU(a:BkS):Prop:=Lq a/\Ll a/\Lo a/\Lk a/\GO/\Lr a/\Lv a/\Ls a
abbrev BFN(a:BkS):Prop:=BIH a/\BIH a/\BJU a
abbrev BKN(a:BkS):Prop:=(0:Int)<=a.st/\a.st<=(2000:Int)
abbrev Ci(a:BkS):List Gau:=KA (sB a).length λ(i:Nat)=>gD (sB a) i
abbrev zW(a:BkS):Nat:=(Ci a).length
abbrev Uk(a:BkS):Prop:=zW a=(sB a).length
abbrev ANF(a:BkS)(i:Nat):Gau:=gD (Ci a) i
abbrev Tp(a:BkS):Prop:=∀(i:Nat),i<zW a->(ANF a i).st=(gD (sB a) i).st/\(ANF a i).lo=(gD (sB a) i).lo/\(ANF a i).hi=(gD (sB a) i).hi
abbrev BEU(a:BkS)(a1:Nat):Prop:=(Pi (sB a) a.st a1).length=(2:Nat)
abbrev BEL(a:BkS):List Pt:=AA (Ci a)
abbrev BIR(a:BkS):Nat:=(BEL a).length
abbrev BIQ(a:BkS)(i:Nat):Pt:=gD (BEL a) i
abbrev ALM(a:Nat):Prop:=(↑a:Int)=(0:Int)
abbrev LZ(a:BkS):Prop:=(sB a).length=(sB a).length
abbrev MF(a:BkS):Prop:=∀(i:Nat),i<(sB a).length->(gD (sB a) i).st=(gD (sB a) i).st/\(gD (sB a) i).lo=(gD (sB a) i).lo/\(gD (sB a) i).hi=(gD (sB a) i).hi
abbrev aG:Prop:=∀(i:Nat),i<(0:Nat)->false=false
abbrev BGX:Prop:=Int.ofNat (0:Nat)=Int.ofNat (0:Nat)
abbrev BJG:Prop:=Int.ofNat (200000:Nat)=Int.ofNat (200000:Nat)
abbrev ALP(i:Nat)(a:BkS)(a1:Nat):Prop:=i<(Pi (sB a) a.st a1).length
abbrev zL(a:BkS)(a1:Nat)(i:Nat):Ln:=gD (Pi (sB a) a.st a1) i
abbrev zT(a:BkS)(a1:Nat)(i:Nat):Int:=(zL a a1 i).a0
abbrev zQ(i:Nat):Bool:=decide (i=(0:Nat))
abbrev yA(a:BkS)(a1:Nat)(i:Nat):Int:=(zL a a1 i).a1
abbrev yT(a:BkS)(a1:Nat)(i:Nat):Int:=(zL a a1 i).b0
abbrev A4(a:BkS)(a1:Nat)(i:Nat):Int:=(zL a a1 i).b1
abbrev BFX(a:Nat)(a1:BkS):Prop:=(↑a:Int)<(↑(AA (sB a1)).length:Int)
abbrev BIA(a:Nat)(a1:BkS):Bool:=decide (BFX a a1)
abbrev BEG(a:Nat):Prop:=(0:Int)<=(↑a:Int)
abbrev BHN(a:Nat)(a1:BkS):Prop:=BEG a/\BFX a a1
abbrev kJ:Prop:=(4:Nat)=(4:Nat)
abbrev BEK:Prop:=(0:Nat)<(2:Nat)
abbrev AMA(a:BkS)(a1:Nat):Nat:=(Pi (sB a) a.st a1).length+(2:Nat)
abbrev BKL(a:BkS)(a1:Nat)(a2:Nat):Prop:=(Pi (sB a) a.st a1).length=AMA a a2
abbrev EH(a:BkS):Prop:=(AA (sB a)).length=(AA (sB a)).length
abbrev EI(a:BkS):Prop:=∀(i:Nat),i<(AA (sB a)).length->(gD (AA (sB a)) i).st=(gD (AA (sB a)) i).st/\(gD (AA (sB a)) i).fl=(gD (AA (sB a)) i).fl
abbrev KX(a:BkS):Prop:=(↑(AA (sB a)).length:Int)=(↑(AA (sB a)).length:Int)
abbrev BEW(a:Nat)(a1:Nat):Prop:=(↑a:Int)=IntKind.i64.wrap ((↑a1:Int)+(1:Int))
abbrev yJ(i:Nat)(a:BkS)(a1:Nat):Bool:=decide (ALP i a a1)
abbrev B7(i:Nat)(a:BkS)(a1:Nat):Bool:=decide ((0:Nat)+(i-(Pi (sB a) a.st a1).length)=(0:Nat))
abbrev bY(a:BkS)(a1:Nat):Nat:=(AA (sB a)).length-a1
abbrev BEH(a:BkS)(a1:Nat)(a2:Nat):Prop:=bY a a1<bY a a2
abbrev ANO:Prop:=EQ/\aG
abbrev BFC(a:BkS)(a1:Nat):Prop:=(PR (sB a) a.st).length=(Pi (sB a) a.st a1).length
abbrev kT(i:Nat)(a:BkS):Prop:=i<(PR (sB a) a.st).length
abbrev E6(a:BkS)(i:Nat):Int:=(gD (PR (sB a) a.st) i).a0
abbrev O2(a:BkS)(i:Nat):Int:=(gD (PR (sB a) a.st) i).a1
abbrev S0(a:BkS)(i:Nat):Int:=(gD (PR (sB a) a.st) i).b0
abbrev Q7(a:BkS)(i:Nat):Int:=(gD (PR (sB a) a.st) i).b1
abbrev oG(a:Nat)(a1:BkS):Prop:=a<=(PR (sB a1) a1.st).length/\List.filter (okX (sB a1)) (List.take a (PR (sB a1) a1.st))=[]
abbrev AWN(a:Nat)(a1:BkS):Prop:=(↑a:Int)<(↑(PR (sB a1) a1.st).length:Int)
abbrev S5(a:Nat):Nat:=(0:Nat)+a
abbrev Rb(a:BkS)(a1:Nat):Ln:=gD (PR (sB a) a.st) (S5 a1)
abbrev AWI(a:BkS)(a1:Nat):Bool:=eM (Rb a a1)
abbrev Za(a:BkS)(a1:Nat):Int:=(Rb a a1).a0
abbrev Zw(a:BkS)(a1:Nat):Int:=(Rb a a1).a1
abbrev bH(a:BkS)(a1:Nat):Int:=(Rb a a1).b0
abbrev cG(a:BkS)(a1:Nat):Int:=(Rb a a1).b1
abbrev Ti(a:BkS):Prop:=zW a<(4611686018427387904:Nat)
abbrev Qc(g:Gau)(a:BkS):Prop:=List.Mem g (Ci a)
abbrev O1:Prop:=(0:Nat)<(1:Nat)
abbrev C5:Prop:=(1:Nat)<=(1:Nat)/\(O1->kJ)
abbrev kZ:Prop:=(True/\((0:Nat)<(0:Nat)->(0:Nat)=(4:Nat)))/\C5/\(true=true->O1)/\(1:Nat)<=(9223372036854775807:Nat)/\(32:Nat)<=(140737488355328:Nat)
abbrev AUE(a:LnK):Prop:=a.l.length=(1:Nat)
abbrev XU(a:BkS):Prop:=(PR (sB a) a.st).length=(PR (sB a) a.st).length
abbrev Qe(a:BkS):Prop:=(↑(PR (sB a) a.st).length:Int)=(↑(PR (sB a) a.st).length:Int)
abbrev oA(a:BkS):Prop:=∀(i:Nat),kT i a->E6 a i=E6 a i/\O2 a i=O2 a i/\S0 a i=S0 a i/\Q7 a i=Q7 a i
abbrev AYE(a:LnK)(a1:BkS):Prop:=a.i<(PR (sB a1) a1.st).length
abbrev Fy(a:BkS)(a1:LnK):Nat:=(PR (sB a) a.st).length-a1.i
abbrev Ep(a:BkS)(a1:Nat):Nat:=(PR (sB a) a.st).length-a1
abbrev AYO(a:LnK)(a1:BkS):Prop:=a.l=WZ (sB a1) ++ List.filter (okX (sB a1)) (List.take (a.i+(1:Nat)) (PR (sB a1) a1.st))
abbrev BAR(a:LnK)(a1:BkS)(a2:Nat):Prop:=AYE a a1/\Fy a1 a=Ep a1 a2/\AYO a a1
abbrev AUS(a:BkS):Prop:=Lq a/\Ll a/\Lo a/\Lk a/\GO/\Lr a/\Lv a/\Ls a/\LZ a/\MF a/\XU a/\oA a
abbrev BAB(a:BkS)(a1:Nat):Prop:=List.filter (okX (sB a)) (List.take (a1+(1:Nat)) (PR (sB a) a.st))=[]
abbrev APW(a:Nat)(a1:BkS)(a2:Nat):Prop:=kT a a1/\Ep a1 a=Ep a1 a2/\BAB a1 a
abbrev AZG(a:BkS)(a1:Nat)(a2:Nat):Prop:=EQ/\aG/\EQ/\XU a/\Qe a/\BEW a1 a2/\AUS a
abbrev P2(a:LnK)(a1:LnK):Prop:=a.l.length=a1.l.length
abbrev BAX(a:BkS)(a1:LnK)(a2:LnK):Prop:=Lq a/\Ll a/\Lo a/\Lk a/\GO/\Lr a/\Lv a/\Ls a/\LZ a/\MF a/\XU a /\
 oA a/\P2 a1 a2/\∀(i:Nat),i<a1.l.length->(gD a1.l i).a0=(gD a2.l i).a0/\(gD a1.l i).a1=(gD a2.l i).a1/\(gD a1.l i).b0=(gD a2.l i).b0/\(gD a1.l i).b1=(gD a2.l i).b1
abbrev AWE(a:LnK)(a1:LnK)(a2:BkS):Prop:=EQ/\P2 a a1/\EQ/\XU a2/\Qe a2/\(↑a.i:Int)=IntKind.i64.wrap ((↑a1.i:Int)+(1:Int))/\BAX a2 a a1
abbrev D8(a:LnK)(a1:BkS):Prop:=a.i<=(PR (sB a1) a1.st).length/\a.l=WZ (sB a1) ++ List.filter (okX (sB a1)) (List.take a.i (PR (sB a1) a1.st))
abbrev ARM(a:BkS)(a1:Nat):Prop:=∀(a_1:LnK),BAR a_1 a a1->∃(a_3:LnK),AWE a_3 a_1 a/\D8 a_3 a/\Fy a a_3<Ep a a1
abbrev ATO(a:LnK)(a1:BkS):Prop:=(↑a.i:Int)<(↑(PR (sB a1) a1.st).length:Int)
abbrev AVX(a:LnK):Prop:=(0:Int)<=(↑a.i:Int)
abbrev AXK(a:LnK):Nat:=(0:Nat)+a.i
abbrev Rk(a:BkS)(a1:LnK):Ln:=gD (PR (sB a) a.st) (AXK a1)
abbrev AQJ(a:BkS)(a1:LnK):Bool:=eM (Rk a a1)
abbrev Zv(a:BkS)(a1:LnK):Int:=(Rk a a1).a0
abbrev bW(a:BkS)(a1:LnK):Int:=(Rk a a1).a1
abbrev Yw(a:BkS)(a1:LnK):Int:=(Rk a a1).b0
abbrev dO(a:BkS)(a1:LnK):Int:=(Rk a a1).b1
abbrev BAP:Prop:=false=true->O1
abbrev pC(a:LnK):Nat:=a.l.length+(1:Nat)
abbrev BAI(a:LnK):Prop:=(a.l.length=a.l.length/\((0:Nat)<a.l.length->kJ))/\C5/\BAP/\pC a<=(9223372036854775807:Nat)/\pC a*(32:Nat)<=(140737488355328
 : Nat)
abbrev AZN(a:LnK)(a1:LnK):Prop:=a.l.length=pC a1
abbrev AQM(a:LnK)(a1:LnK):Prop:=(↑a.i:Int)=(↑a1.i:Int)
abbrev Ft(i:Nat)(a:LnK):Bool:=decide (i<a.l.length)
abbrev P3(a:LnK)(a1:BkS)(a2:LnK):Prop:=AYE a a1/\Fy a1 a=Fy a1 a2/\AYO a a1
abbrev AVQ(a:BkS)(a1:LnK):Prop:=∀(a_1:LnK),P3 a_1 a a1->∃(a_3:LnK),AWE a_3 a_1 a/\D8 a_3 a/\Fy a a_3<Fy a a1
abbrev AWF(a:LnK):Prop:=(0:Nat)+a.l.length<=a.l.length
abbrev nE(a:LnK)(j:Nat):Ln:=gD a.l (S5 j)
abbrev AYX(a:LnK)(j:Nat):Int:=(nE a j).a0
abbrev AZT(a:LnK)(j:Nat):Int:=(nE a j).a1
abbrev ASH(a:LnK)(j:Nat):Int:=(nE a j).b0
abbrev ASA(a:LnK)(j:Nat):Int:=(nE a j).b1
abbrev ATY(a:BkS):Prop:=∀(a_1:One),True->bif bif decide ((↑(sB a).length:Int)>(0:Int)) then (↑(0:Nat):Int)==(0:Int) else false then BFN a else (BKN a/\BKN a) /\
 (Uk a/\Tp a/\zW a<(1073741824:Nat)/\True)/\(∃(a_3:Nat),(EQ/\BEU a a_3/\(AA (sB a)).length=BIR a/\(∀(i:Nat),i<(AA (sB a)).length->(gD (AA (sB a))
 i).st=(BIQ a i).st/\(gD (AA (sB a)) i).fl=(BIQ a i).fl)/\(↑(AA (sB a)).length:Int)=(↑(BIR a):Int)/\ALM a_3/\Lq a/\Ll a/\Lo a/\Lk a/\GO /\
 Lr a/\Lv a/\Ls a/\LZ a/\MF a/\EQ/\aG/\a.st=a.st/\BGX/\a.st=a.st/\BJG/\BEU a a_3/\∀(i:Nat),ALP i a a_3->(zT a a_3 i =
 bif zQ i then (CB (Pt.mk a.st (0:Int))).a0 else (CB (Pt.mk a.st (200000:Int))).a0)/\(yA a a_3 i=bif zQ i then (CB (Pt.mk a.st (0:Int))).a1 else (CB (Pt.mk a.st (200000:Int))).a1) /\
 (yT a a_3 i=bif zQ i then (CB (Pt.mk a.st (0:Int))).b0 else (CB (Pt.mk a.st (200000:Int))).b0)/\A4 a a_3 i=bif zQ i then (CB (Pt.mk a.st (0:Int))).b1 else (CB (Pt.mk a.st
 (200000:Int))).b1)/\a_3.le (AA (sB a)).length)/\∀(a_3:Nat),a_3.le (AA (sB a)).length->bif BIA a_3 a then BHN a_3 a/\(((Pi (sB a) a.st a_3).length=(Pi (sB a) a.st a_3).length/\((0:Nat) <
 (Pi (sB a) a.st a_3).length->kJ))/\((2:Nat)<=(2:Nat)/\(BEK->kJ))/\(false=true->BEK)/\AMA a a_3<=(9223372036854775807:Nat)/\AMA a a_3*(32:Nat) <=
 (140737488355328:Nat))/\∃(a_5:Nat),(EQ/\BKL a a_5 a_3/\EH a/\EI a/\KX a/\BEW a_5 a_3/\Lq a/\Ll a/\Lo a/\Lk a/\GO/\Lr a /\
 Lv a/\Ls a/\LZ a/\MF a/\EQ/\aG/\a.st=a.st/\BGX/\a.st=a.st/\BJG/\BKL a a_5 a_3/\∀(i:Nat),ALP i a a_5->(zT a a_5 i=bif
 yJ i a a_3 then zT a a_3 i else bif B7 i a a_3 then a.st else (gD (AA (sB a)) a_3).st)/\(yA a a_5 i=bif yJ i a a_3 then yA a a_3 i else bif B7 i a a_3 then (0:Int)
 else (gD (AA (sB a)) a_3).fl)/\(yT a a_5 i=bif yJ i a a_3 then yT a a_3 i else bif B7 i a a_3 then (gD (AA (sB a)) a_3).st else a.st)/\A4 a a_5 i=bif yJ i a a_3 then
 A4 a a_3 i else bif B7 i a a_3 then (gD (AA (sB a)) a_3).fl else (200000:Int))/\a_5.le (AA (sB a)).length/\BEH a a_5 a_3 else ANO/\(∃(a_5:Nat),(EQ/\aG/\EQ /\
 BFC a a_3/\(↑(PR (sB a) a.st).length:Int)=(↑(Pi (sB a) a.st a_3).length:Int)/\ALM a_5/\Lq a/\Ll a/\Lo a/\Lk a/\GO/\Lr a/\Lv a/\Ls a /\
 LZ a/\MF a/\BFC a a_3/\∀(i:Nat),kT i a->E6 a i=zT a a_3 i/\O2 a i=yA a a_3 i/\S0 a i=yT a a_3 i/\Q7 a i=A4 a a_3
 i)/\oG a_5 a)/\(∀(a_5:Nat),oG a_5 a->bif decide (AWN a_5 a) then (((BEG a_5/\AWN a_5 a)/\(S5 a_5).succ.le (PR (sB a) a.st).length)/\(AWI a a_5=true ->
 Uk a/\Tp a/\Za a a_5=Za a a_5/\Zw a a_5=Zw a a_5/\bH a a_5=bH a a_5/\cG a a_5=cG a a_5/\Ti a/\∀(g:Gau),Qc g
 a->((0:Int)<=Za a a_5/\Za a a_5<bH a a_5/\bH a a_5<=(2000:Int)/\(0:Int)<=Zw a a_5/\Zw a a_5<=cG a a_5/\cG a a_5<=(200000:Int)) /\
 Uc g)/\bif bif AWI a a_5 then (Ci a).all λ(g:Gau)=>LL (Rb a a_5) g else false then kZ/\∃(a_7:LnK),(EQ/\AUE a_7/\EQ/\XU a/\Qe a
 /\ (↑a_7.i:Int)=(↑a_5:Int)/\Lq a/\Ll a/\Lo a/\Lk a/\GO/\Lr a/\Lv a/\Ls a/\LZ a/\MF a/\XU a/\oA a/\AUE a_7/\∀
 (i:Nat),i<a_7.l.length->(gD a_7.l i).a0=Za a a_5/\(gD a_7.l i).a1=Zw a a_5/\(gD a_7.l i).b0=bH a a_5/\(gD a_7.l i).b1=cG a a_5)/\BAR a_7 a a_5 else ∃(a_7:Nat),
 (EQ/\aG/\EQ/\XU a/\Qe a/\(↑a_7:Int)=(↑a_5:Int)/\AUS a)/\APW a_7 a a_5)/\(∀(a_7:Nat),APW a_7 a a_5->∃(a_9:Nat),AZG a a_9 a_7 /\
 oG a_9 a/\Ep a a_9<Ep a a_5)/\ARM a a_5/\ARM a a_5 else BFN a)/\∀(a_5:LnK),D8 a_5 a->bif decide (ATO a_5 a) then (((AVX a_5/\ATO a_5 a)
 /\ (AXK a_5).succ.le (PR (sB a) a.st).length)/\(AQJ a a_5=true->Uk a/\Tp a/\Zv a a_5=Zv a a_5/\bW a a_5=bW a a_5/\Yw a a_5=Yw a
 a_5/\dO a a_5=dO a a_5/\Ti a/\∀(g:Gau),Qc g a->((0:Int)<=Zv a a_5/\Zv a a_5<Yw a a_5/\Yw a a_5<=(2000:Int)/\(0:Int)<=bW a
 a_5/\bW a a_5<=dO a a_5/\dO a a_5<=(200000:Int))/\Uc g)/\bif bif AQJ a a_5 then (Ci a).all λ(g:Gau)=>LL (Rk a a_5) g else false then BAI a_5 /\
 ∃(a_7:LnK),(EQ/\AZN a_7 a_5/\EQ/\XU a/\Qe a/\AQM a_7 a_5/\Lq a/\Ll a/\Lo a/\Lk a/\GO/\Lr a/\Lv a/\Ls a
 /\ LZ a/\MF a/\XU a/\oA a/\AZN a_7 a_5/\∀(i:Nat),i<a_7.l.length->((gD a_7.l i).a0=bif Ft i a_5 then (gD a_5.l i).a0 else Zv a a_5)/\((gD a_7.l i).a1 =
 bif Ft i a_5 then (gD a_5.l i).a1 else bW a a_5)/\((gD a_7.l i).b0=bif Ft i a_5 then (gD a_5.l i).b0 else Yw a a_5)/\(gD a_7.l i).b1=bif Ft i a_5 then (gD a_5.l i).b1 else
 dO a a_5)/\P3 a_7 a a_5 else ∃(a_7:LnK),(EQ/\P2 a_7 a_5/\EQ/\XU a/\Qe a/\AQM a_7 a_5/\BAX a a_7 a_5)/\P3 a_7 a a_5)/\(∀(a_7 :
 Nat),kT a_7 a/\Ep a a_7=Fy a a_5/\BAB a a_7->∃(a_9:Nat),AZG a a_9 a_7/\oG a_9 a/\Ep a a_9<Fy a a_5)/\AVQ a a_5/\AVQ a a_5 else
 (Bm (sB a) a.st).length=a_5.l.length/\AWF a_5/\(∀(j:Nat),j<(Bm (sB a) a.st).length->(gD (Bm (sB a) a.st) j).a0=AYX a_5 j/\(gD (Bm (sB a) a.st) j).a1=AZT a_5 j/\(gD (Bm (sB
 a) a.st) j).b0=ASH a_5 j/\(gD (Bm (sB a) a.st) j).b1=ASA a_5 j)/\BJU a
abbrev AVG(a:BkS):List Gau:=KA (AOG a) λ(i:Nat)=>zK a i
abbrev mD(a:BkS):Nat:=(AVG a).length
abbrev lW(a:BkS)(i:Nat):Gau:=gD (AVG a) i
abbrev AYU(a:BkS)(i:Nat):Int:=(lW a i).st
abbrev AXT(a:BkS)(i:Nat):Int:=(lW a i).lo
abbrev AUK(a:BkS)(i:Nat):Int:=(lW a i).hi
abbrev N9(a:BkS):List Gau:=KA (mD a) λ(i:Nat)=>lW a i
abbrev K1(a:BkS):Nat:=(N9 a).length
abbrev E9(a:BkS)(i:Nat):Gau:=gD (N9 a) i
abbrev AZU(a:BkS):List Pt:=AA (N9 a)
abbrev AUX(a:BkS):Nat:=(AZU a).length
abbrev AQY(a:BkS):Prop:=(AA (sB a)).length=AUX a
abbrev AVV(a:BkS)(i:Nat):Pt:=gD (AZU a) i
abbrev AWR(a:BkS):Prop:=∀(i:Nat),i<(AA (sB a)).length->(gD (AA (sB a)) i).st=(AVV a i).st/\(gD (AA (sB a)) i).fl=(AVV a i).fl
abbrev UN(a:BkS):Prop:=a.w.g.length=a.w.g.length
abbrev UG(a:BkS):Prop:=∀(i:Nat),i<a.w.g.length->(gD a.w.g i).st=(gD a.w.g i).st/\(gD a.w.g i).lo=(gD a.w.g i).lo/\(gD a.w.g i).hi=(gD a.w.g i).hi
abbrev UC(a:BkS):Prop:=a.w.b.length=a.w.b.length
abbrev TW(a:BkS):Prop:=∀(i:Nat),i<a.w.b.length->gD a.w.b i=gD a.w.b i
abbrev UI(a:BkS):Prop:=∀(n:Int),(UR a.w n).length=(UR a.w n).length/\∀(i:Nat),BIP i a n->(gD (UR a.w n) i).a0=(gD (UR a.w n) i).a0/\(gD (UR a.w n) i).a1=(gD (UR a.w n) i).a1 /\
 (gD (UR a.w n) i).b0=(gD (UR a.w n) i).b0/\(gD (UR a.w n) i).b1=(gD (UR a.w n) i).b1
abbrev kR(a:Nat)(a1:BkS):Prop:=a<=(AA (sB a1)).length/\List.filter (Pv (sB a1)) (fC (sB a1) a)=[]
abbrev T7(a:LnJ):Prop:=(↑a.j:Int)=(0:Int)
abbrev oZ(a:LnJ):Prop:=a.l.length=(1:Nat)
abbrev AWT(a:LnJ)(a1:BkS):Prop:=a.i<(AA (sB a1)).length
abbrev APR(a:LnJ)(a1:BkS):Prop:=a.j<=(AA (sB a1)).length
abbrev AVT(a:BkS)(a1:LnJ):Nat:=(AA (sB a)).length-a1.i
abbrev AYM(a:LnJ)(a1:BkS):Prop:=a.l=List.filter (Pv (sB a1)) (XC (sB a1) a.i a.j)
abbrev mH(a:LnJ)(a1:BkS)(a2:Nat):Prop:=AWT a a1/\APR a a1/\AVT a1 a=bY a1 a2/\AYM a a1
abbrev AQQ(a:IJ)(a1:BkS):Prop:=a.i<(AA (sB a1)).length
abbrev AYP(a:IJ)(a1:BkS):Prop:=a.j<=(AA (sB a1)).length
abbrev AVF(a:BkS)(a1:IJ):Nat:=(AA (sB a)).length-a1.i
abbrev AQN(a:BkS)(a1:IJ):Prop:=List.filter (Pv (sB a)) (XC (sB a) a1.i a1.j)=[]
abbrev O0(a:IJ)(a1:BkS)(a2:Nat):Prop:=AQQ a a1/\AYP a a1/\AVF a1 a=bY a1 a2/\AQN a1 a
abbrev AXV(a:IJ)(a1:BkS):Prop:=(↑a.j:Int)<(↑(AA (sB a1)).length:Int)
abbrev AYZ(a:IJ)(a1:BkS):Bool:=decide (AXV a a1)
abbrev ATM(a:IJ)(a1:BkS):Prop:=(0:Int)<=(↑a.j:Int)/\AXV a a1
abbrev ARS(a:BkS)(a1:IJ):Ln:=Ln.mk (gD (AA (sB a)) a1.i).st (gD (AA (sB a)) a1.i).fl (gD (AA (sB a)) a1.j).st (gD (AA (sB a)) a1.j).fl
abbrev AQD(a:BkS)(a1:IJ):Bool:=eM (ARS a a1)
abbrev AQV(a:BkS)(a1:IJ):Bool:=if true=true then AQD a a1 else !AQD a a1
abbrev AUR(a:BkS)(a1:IJ):Prop:=Uk a/\Tp a/\(gD (AA (sB a)) a1.i).st=(gD (AA (sB a)) a1.i).st/\(gD (AA (sB a)) a1.i).fl=(gD (AA (sB a)) a1.i).fl/\(gD (AA (sB a))
 a1.j).st=(gD (AA (sB a)) a1.j).st/\(gD (AA (sB a)) a1.j).fl=(gD (AA (sB a)) a1.j).fl/\Ti a/\∀(g:Gau),Qc g a->((0:Int)<=(gD (AA (sB a)) a1.i).st/\(gD (AA (sB a)) a1.i).st <
 (gD (AA (sB a)) a1.j).st/\(gD (AA (sB a)) a1.j).st<=(2000:Int)/\(0:Int)<=(gD (AA (sB a)) a1.i).fl/\(gD (AA (sB a)) a1.i).fl<=(gD (AA (sB a)) a1.j).fl/\(gD (AA (sB a)) a1.j).fl<=(200000 :
 Int))/\Uc g
abbrev AZV(a:BkS)(a1:IJ):Bool:=(Ci a).all λ(g:Gau)=>LL (ARS a a1) g
abbrev AUC(a:IJ):Int:=IntKind.i64.wrap ((↑a.j:Int)+(1:Int))
abbrev BAE(a:BkS)(a1:LnJ)(a2:IJ)(l:Nat):Prop:=EH a/\EI a/\KX a/\(↑a1.j:Int)=AUC a2/\Fn.yield l=Fn.yield l/\EH a/\EI a/\EH a/\EI
 a/\KX a/\(↑a1.i:Int)=(↑a2.i:Int)/\(gD (AA (sB a)) a1.i).st=(gD (AA (sB a)) a2.i).st/\(gD (AA (sB a)) a1.i).fl=(gD (AA (sB a)) a2.i).fl/\UN a/\UG a/\UC a /\
 TW a/\GO/\TN a/\TM a/\UI a/\LZ a/\MF a/\EQ/\oZ a1/\oZ a1/\∀(i:Nat),i<a1.l.length->(gD a1.l i).a0=(gD (AA (sB a)) a2.i).st /\
 (gD a1.l i).a1=(gD (AA (sB a)) a2.i).fl/\(gD a1.l i).b0=(gD (AA (sB a)) a2.j).st/\(gD a1.l i).b1=(gD (AA (sB a)) a2.j).fl
abbrev S1(a:BkS)(a1:LnJ):Nat:=(AA (sB a)).length-a1.j
abbrev O3(a:BkS)(a1:IJ):Nat:=(AA (sB a)).length-a1.j
abbrev AWS(a:BkS)(a1:LnJ)(a2:IJ):Prop:=S1 a a1<O3 a a2
abbrev M9(a:BkS):Prop:=UN a/\UG a/\UC a/\TW a/\GO/\TN a/\TM a/\UI a/\LZ a/\MF a/\ANO
abbrev AZO(a:BkS)(a1:IJ)(a2:IJ)(l:Nat):Prop:=EH a/\EI a/\KX a/\(↑a1.j:Int)=AUC a2/\Fn.yield l=Fn.yield l/\EH a/\EI a/\EH a/\EI
 a/\KX a/\(↑a1.i:Int)=(↑a2.i:Int)/\(gD (AA (sB a)) a1.i).st=(gD (AA (sB a)) a2.i).st/\(gD (AA (sB a)) a1.i).fl=(gD (AA (sB a)) a2.i).fl/\M9 a
abbrev AYR(a:BkS)(a1:IJ)(a2:IJ):Prop:=O3 a a1<O3 a a2
abbrev AUI(a:BkS)(a1:IJ)(l:Nat)(a2:Nat):Prop:=∃(a_1:IJ),AZO a a_1 a1 l/\O0 a_1 a a2/\AYR a a_1 a1
abbrev BAH(l:Nat)(a:BkS)(a1:Nat)(a2:IJ):Prop:=Fn.yield l=Fn.yield l/\EH a/\EI a/\EH a/\EI a/\KX a/\(↑a1:Int)=IntKind.i64.wrap ((↑a2.i:Int)+(1 :
 Int))/\M9 a
abbrev ASR(a:LnJ)(a1:BkS):Prop:=(↑a.j:Int)<(↑(AA (sB a1)).length:Int)
abbrev AZZ(a:LnJ)(a1:BkS):Bool:=decide (ASR a a1)
abbrev AZH(a:LnJ)(a1:BkS):Prop:=(0:Int)<=(↑a.j:Int)/\ASR a a1
abbrev ASJ(a:BkS)(a1:LnJ):Ln:=Ln.mk (gD (AA (sB a)) a1.i).st (gD (AA (sB a)) a1.i).fl (gD (AA (sB a)) a1.j).st (gD (AA (sB a)) a1.j).fl
abbrev AVR(a:BkS)(a1:LnJ):Bool:=eM (ASJ a a1)
abbrev BBB(a:BkS)(a1:LnJ):Bool:=if true=true then AVR a a1 else !AVR a a1
abbrev ATW(a:BkS)(a1:LnJ):Prop:=Uk a/\Tp a/\(gD (AA (sB a)) a1.i).st=(gD (AA (sB a)) a1.i).st/\(gD (AA (sB a)) a1.i).fl=(gD (AA (sB a)) a1.i).fl/\(gD (AA (sB a))
 a1.j).st=(gD (AA (sB a)) a1.j).st/\(gD (AA (sB a)) a1.j).fl=(gD (AA (sB a)) a1.j).fl/\Ti a/\∀(g:Gau),Qc g a->((0:Int)<=(gD (AA (sB a)) a1.i).st/\(gD (AA (sB a)) a1.i).st <
 (gD (AA (sB a)) a1.j).st/\(gD (AA (sB a)) a1.j).st<=(2000:Int)/\(0:Int)<=(gD (AA (sB a)) a1.i).fl/\(gD (AA (sB a)) a1.i).fl<=(gD (AA (sB a)) a1.j).fl/\(gD (AA (sB a)) a1.j).fl<=(200000 :
 Int))/\Uc g
abbrev APM(a:BkS)(a1:LnJ):Bool:=(Ci a).all λ(g:Gau)=>LL (ASJ a a1) g
abbrev U1(a:LnJ):Nat:=a.l.length+(1:Nat)
abbrev AQI(a:LnJ):Prop:=(a.l.length=a.l.length/\((0:Nat)<a.l.length->kJ))/\C5/\BAP/\U1 a<=(9223372036854775807:Nat)/\U1 a*(32:Nat)<=(140737488355328
 : Nat)
abbrev BAJ(a:LnJ)(a1:LnJ):Prop:=(↑a.j:Int)=IntKind.i64.wrap ((↑a1.j:Int)+(1:Int))
abbrev AUW(a:LnJ)(a1:LnJ):Prop:=(↑a.i:Int)=(↑a1.i:Int)
abbrev ASN(a:BkS)(a1:LnJ)(a2:LnJ):Prop:=(gD (AA (sB a)) a1.i).st=(gD (AA (sB a)) a2.i).st
abbrev AQH(a:BkS)(a1:LnJ)(a2:LnJ):Prop:=(gD (AA (sB a)) a1.i).fl=(gD (AA (sB a)) a2.i).fl
abbrev AUZ(a:LnJ)(a1:LnJ):Prop:=a.l.length=U1 a1
abbrev oF(i:Nat)(a:LnJ):Bool:=decide (i<a.l.length)
abbrev AYW(a:BkS)(a1:LnJ)(a2:LnJ)(l:Nat):Prop:=EH a/\EI a/\KX a/\BAJ a1 a2/\Fn.yield l=Fn.yield l/\EH a/\EI a/\EH a/\EI a /\
 KX a/\AUW a1 a2/\ASN a a1 a2/\AQH a a1 a2/\UN a/\UG a/\UC a/\TW a/\GO/\TN a/\TM a/\UI a/\LZ a/\MF a /\
 EQ/\AUZ a1 a2/\AUZ a1 a2/\∀(i:Nat),i<a1.l.length->((gD a1.l i).a0=bif oF i a2 then (gD a2.l i).a0 else (gD (AA (sB a)) a2.i).st)/\((gD a1.l i).a1=bif oF i a2 then
 (gD a2.l i).a1 else (gD (AA (sB a)) a2.i).fl)/\((gD a1.l i).b0=bif oF i a2 then (gD a2.l i).b0 else (gD (AA (sB a)) a2.j).st)/\(gD a1.l i).b1=bif oF i a2 then (gD a2.l i).b1 else (gD (AA
 (sB a)) a2.j).fl
abbrev AVJ(a:BkS)(a1:LnJ)(a2:LnJ):Prop:=S1 a a1<S1 a a2
abbrev AWY(a:LnJ)(a1:BkS)(a2:Nat)(a3:LnJ):Prop:=mH a a1 a2/\AVJ a1 a a3
abbrev ARB(a:LnJ)(a1:LnJ):Prop:=a.l.length=a1.l.length
abbrev AVW(a:BkS)(a1:LnJ)(a2:LnJ)(l:Nat):Prop:=EH a/\EI a/\KX a/\BAJ a1 a2/\Fn.yield l=Fn.yield l/\EH a/\EI a/\EH a/\EI a /\
 KX a/\AUW a1 a2/\ASN a a1 a2/\AQH a a1 a2/\UN a/\UG a/\UC a/\TW a/\GO/\TN a/\TM a/\UI a/\LZ a/\MF a /\
 EQ/\ARB a1 a2/\ARB a1 a2/\∀(i:Nat),i<a1.l.length->(gD a1.l i).a0=(gD a2.l i).a0/\(gD a1.l i).a1=(gD a2.l i).a1/\(gD a1.l i).b0=(gD a2.l i).b0/\(gD a1.l i).b1=(gD a2.l i).b1
abbrev AXE(a:BkS)(a1:LnJ)(l:Nat)(a2:Nat):Prop:=∃(a_1:LnJ),AVW a a_1 a1 l/\AWY a_1 a a2 a1
abbrev ARZ(a:LnK)(a1:LnJ):Prop:=a.l.length=a1.l.length
abbrev AXC(l:Nat)(a:BkS)(a1:LnK)(a2:LnJ):Prop:=Fn.yield l=Fn.yield l/\EH a/\EI a/\EH a/\EI a/\KX a/\(↑a1.i:Int)=IntKind.i64.wrap ((↑a2.i:Int)+(1 :
 Int))/\UN a/\UG a/\UC a/\TW a/\GO/\TN a/\TM a/\UI a/\LZ a/\MF a/\EQ/\ARZ a1 a2/\ARZ a1 a2/\∀(i:Nat),i <
 a1.l.length->(gD a1.l i).a0=(gD a2.l i).a0/\(gD a1.l i).a1=(gD a2.l i).a1/\(gD a1.l i).b0=(gD a2.l i).b0/\(gD a1.l i).b1=(gD a2.l i).b1
abbrev M1(a:LnK)(a1:BkS):Prop:=a.i<=(AA (sB a1)).length/\a.l=List.filter (Pv (sB a1)) (fC (sB a1) a.i)
abbrev Sg(a:BkS)(a1:LnK):Nat:=(AA (sB a)).length-a1.i
abbrev ARG(a:BkS)(a1:Nat)(l:Nat):Prop:=∀(a_1:LnJ),mH a_1 a a1->bif AZZ a_1 a then AZH a_1 a/\bif BBB a a_1 then l=l/\ATW a a_1/\bif APM a a_1 then
 AQI a_1/\∃(a_3:LnJ),AYW a a_3 a_1 l/\AWY a_3 a a1 a_1 else AXE a a_1 l a1 else AXE a a_1 l a1 else ∃(a_3:LnK),AXC l a a_3 a_1/\M1 a_3 a/\Sg a a_3 <
 bY a a1
abbrev AXL(a:BkS)(a1:Nat)(l:Nat):Prop:=(∀(a_1:IJ),O0 a_1 a a1->bif AYZ a_1 a then ATM a_1 a/\bif AQV a a_1 then l=l/\AUR a a_1/\bif AZV a a_1 then
 kZ/\∃(a_3:LnJ),BAE a a_3 a_1 l/\mH a_3 a a1/\AWS a a_3 a_1 else AUI a a_1 l a1 else AUI a a_1 l a1 else ∃(a_3:Nat),BAH l a a_3 a_1/\kR a_3 a /\
 BEH a a_3 a1)/\ARG a a1 l/\ARG a a1 l
abbrev AUO(a:BkS):Prop:=(WZ (sB a)).length=(0:Nat)
abbrev BAS(a:LnK)(a1:BkS):Prop:=(↑a.i:Int)<(↑(AA (sB a1)).length:Int)
abbrev aD(a:BkS)(a1:LnK):Int:=(CB (gD (AA (sB a)) a1.i)).a0
abbrev dX(a:BkS)(a1:LnK):Int:=(CB (gD (AA (sB a)) a1.i)).a1
abbrev Yr(a:BkS)(a1:LnK):Int:=(CB (gD (AA (sB a)) a1.i)).b0
abbrev cZ(a:BkS)(a1:LnK):Int:=(CB (gD (AA (sB a)) a1.i)).b1
abbrev AWX(a:LnJ)(a1:LnK):Prop:=(↑a.i:Int)=(↑a1.i:Int)
abbrev AYG(a:BkS)(a1:LnJ)(a2:LnK):Prop:=(gD (AA (sB a)) a1.i).st=(gD (AA (sB a)) a2.i).st
abbrev AXS(a:BkS)(a1:LnJ)(a2:LnK):Prop:=(gD (AA (sB a)) a1.i).fl=(gD (AA (sB a)) a2.i).fl
abbrev AWB(a:LnJ)(a1:LnK):Prop:=a.l.length=pC a1
abbrev Zq(a:LnJ)(a1:BkS)(a2:LnK):Prop:=AWT a a1/\APR a a1/\AVT a1 a=Sg a1 a2/\AYM a a1
abbrev AZS(a:IJ)(a1:BkS)(a2:LnK):Prop:=AQQ a a1/\AYP a a1/\AVF a1 a=Sg a1 a2/\AQN a1 a
abbrev ATF(a:BkS)(a1:IJ)(l:Nat)(a2:LnK):Prop:=∃(a_1:IJ),AZO a a_1 a1 l/\AZS a_1 a a2/\AYR a a_1 a1
abbrev AWW(a:LnJ)(a1:BkS)(a2:LnK)(a3:LnJ):Prop:=Zq a a1 a2/\AVJ a1 a a3
abbrev AYC(a:BkS)(a1:LnJ)(l:Nat)(a2:LnK):Prop:=∃(a_1:LnJ),AVW a a_1 a1 l/\AWW a_1 a a2 a1
abbrev ASE(a:BkS)(a1:LnK)(l:Nat):Prop:=∀(a_1:LnJ),Zq a_1 a a1->bif AZZ a_1 a then AZH a_1 a/\bif BBB a a_1 then l=l/\ATW a a_1/\bif APM a a_1 then
 AQI a_1/\∃(a_3:LnJ),AYW a a_3 a_1 l/\AWW a_3 a a1 a_1 else AYC a a_1 l a1 else AYC a a_1 l a1 else ∃(a_3:LnK),AXC l a a_3 a_1/\M1 a_3 a/\Sg a a_3 <
 Sg a a1
abbrev ARN(a:BkS)(a1:LnK)(l:Nat):Prop:=(∀(a_1:IJ),AZS a_1 a a1->bif AYZ a_1 a then ATM a_1 a/\bif AQV a a_1 then l=l/\AUR a a_1/\bif AZV a a_1 then
 kZ/\∃(a_3:LnJ),BAE a a_3 a_1 l/\Zq a_3 a a1/\AWS a a_3 a_1 else ATF a a_1 l a1 else ATF a a_1 l a1 else ∃(a_3:Nat),BAH l a a_3 a_1/\kR a_3 a /\
 bY a a_3<Sg a a1)/\ASE a a1 l/\ASE a a1 l
abbrev BAO(a:LnJ)(a1:LnK):Prop:=a.l.length=a1.l.length
abbrev cF(n:Int)(a:BkS):Bool:=decide (n=a.k)
abbrev APO(a:BkS):Prop:=∀(a_1:One),True->∃(a_3:One),(a.st=a.st/\BHA a/\BIU a/\BJP a/\BGY a/\GO/\(∀(n:Int),(Du a.w a.k).has n=YF a.w.has a.k n)/\(∀
 (n:Int),(Du a.w a.k).st n=S3 a.w.has a.w.st a.k n)/\(∀(n:Int),((UR (Du a.w a.k) n).length=bif cF n a then (WZ (sB a)).length else (UR a.w n).length)/\∀(i:Nat),AMP i a n->(zO
 a n i=bif cF n a then (gD (WZ (sB a)) i).a0 else (gD (UR a.w n) i).a0)/\(yF a n i=bif cF n a then (gD (WZ (sB a)) i).a1 else (gD (UR a.w n) i).a1)/\(A7 a n i=bif cF n a
 then (gD (WZ (sB a)) i).b0 else (gD (UR a.w n) i).b0)/\yQ a n i=bif cF n a then (gD (WZ (sB a)) i).b1 else (gD (UR a.w n) i).b1)/\LZ a/\MF a/\(0:Nat)=(WZ (sB a)).length /\
 EQ)/\True
theorem DJC(a:BkS):(CXM a)=((a.k=a.k/\AFE a=a.w.g.length/\(∀(i:Nat),i<AFE a->BPI a i=(gD a.w.g i).st/\BQM a i=(gD a.w.g i).lo/\BOF a i=(gD a.w.g i).hi) /\
 ABO a=a.w.b.length/\(∀(i:Nat),i<ABO a->BPS a i=gD a.w.b i)/\GO/\TN a/\TM a/\(∀(n:Int),AMN a n=(UR a.w n).length/\∀(i:Nat),i<AMN a n ->
 BHL a n i=(gD (UR a.w n) i).a0/\BFY a n i=(gD (UR a.w n) i).a1/\BFD a n i=(gD (UR a.w n) i).b0/\BJM a n i=(gD (UR a.w n) i).b1)/\a.w.g.length=AFE a/\(∀(i:Nat),i <
 a.w.g.length->(gD a.w.g i).st=BPI a i/\(gD a.w.g i).lo=BQM a i/\(gD a.w.g i).hi=BOF a i)/\a.w.b.length=ABO a/\(∀(i:Nat),i<a.w.b.length->gD a.w.b i=BPS a i)/\GO /\
 TN a/\TM a/\(∀(n:Int),(UR a.w n).length=AMN a n/\∀(i:Nat),BIP i a n->(gD (UR a.w n) i).a0=BHL a n i/\(gD (UR a.w n) i).a1=BFY a n i/\(gD (UR a.w n) i).b0 =
 BFD a n i/\(gD (UR a.w n) i).b1=BJM a n i)/\(AFE a<=(24:Nat)/\(∀(x:Gau),List.Mem x (ABM a)->Uc x)/\ABO a<=(24:Nat)/\List.Pairwise (λ(x1 x2:Int)=>x1<x2)
 (A5 a)/\∀(x:Int),List.Mem x (A5 a)->(1:Int)<=x/\x<=(2000:Int))/\True)/\GO/\bif a.w.has a.k then (∃(a_1:One),(a.st=a.st/\BHA a/\BIU a/\BJP a/\BGY a /\
 GO/\(∀(n:Int),(Du a.w a.k).has n=a.w.has n)/\(∀(n:Int),(Du a.w a.k).st n=a.w.st n)/\(∀(n:Int),(UR (Du a.w a.k) n).length=(UR a.w n).length/\∀(i:Nat),AMP i a n->zO a n i
 = (gD (UR a.w n) i).a0/\yF a n i=(gD (UR a.w n) i).a1/\A7 a n i=(gD (UR a.w n) i).b0/\yQ a n i=(gD (UR a.w n) i).b1)/\BJX a/\BGE a/\(0:Nat)=(UR a.w a.k).length /\
 EQ)/\True)/\ATY a else (((mD a=AOG a/\∀(i:Nat),i<mD a->AYU a i=BKD a i/\AXT a i=BJE a i/\AUK a i=BGC a i)/\∀(l:Nat),
 (K1 a=mD a/\(∀(i:Nat),i<K1 a->(E9 a i).st=AYU a i/\(E9 a i).lo=AXT a i/\(E9 a i).hi=AUK a i)/\K1 a<(1073741824:Nat) /\
 True)/\(∃(a_1:Nat),(Fn.yield l=Fn.yield l/\AQY a/\AWR a/\AQY a/\AWR a/\(↑(AA (sB a)).length:Int)=(↑(AUX a):Int)/\ALM a_1/\UN a/\UG a /\
 UC a/\TW a/\GO/\TN a/\TM a/\UI a/\BJX a/\BGE a/\ANO)/\kR a_1 a)/\(∀(a_1:Nat),kR a_1 a->bif BIA a_1 a then BHN a_1
 a/\((0:Int)<=(gD (AA (sB a)) a_1).st/\(gD (AA (sB a)) a_1).st<=(2000:Int))/\l=l/\(Uk a/\Tp a/\(CB (gD (AA (sB a)) a_1)).a0=(CB (gD (AA (sB a)) a_1)).a0/\(CB (gD (AA (sB
 a)) a_1)).a1=(CB (gD (AA (sB a)) a_1)).a1/\(CB (gD (AA (sB a)) a_1)).b0=(CB (gD (AA (sB a)) a_1)).b0/\(CB (gD (AA (sB a)) a_1)).b1=(CB (gD (AA (sB a)) a_1)).b1/\Ti a/\∀(g :
 Gau),Qc g a->((0:Int)<=(CB (gD (AA (sB a)) a_1)).a0/\(CB (gD (AA (sB a)) a_1)).a0<(CB (gD (AA (sB a)) a_1)).b0/\(CB (gD (AA (sB a)) a_1)).b0<=(2000:Int)/\(0:Int)<=(CB (gD
 (AA (sB a)) a_1)).a1/\(CB (gD (AA (sB a)) a_1)).a1<=(CB (gD (AA (sB a)) a_1)).b1/\(CB (gD (AA (sB a)) a_1)).b1<=(200000:Int))/\Uc g)/\bif (Ci a).all λ(g:Gau)=>LL (CB
 (gD (AA (sB a)) a_1)) g then kZ/\(∃(a_3:LnJ),(EH a/\EI a/\KX a/\T7 a_3/\Fn.yield l=Fn.yield l/\EH a/\EI a/\EH a/\EI a/\KX a /\
 (↑a_3.i:Int)=(↑a_1:Int)/\(gD (AA (sB a)) a_3.i).st=(gD (AA (sB a)) a_1).st/\(gD (AA (sB a)) a_3.i).fl=(gD (AA (sB a)) a_1).fl/\UN a/\UG a/\UC a/\TW a /\
 GO/\TN a/\TM a/\UI a/\LZ a/\MF a/\EQ/\oZ a_3/\oZ a_3/\∀(i:Nat),i<a_3.l.length->(gD a_3.l i).a0=(CB (gD (AA (sB a)) a_1)).a0/\(gD
 a_3.l i).a1=(CB (gD (AA (sB a)) a_1)).a1/\(gD a_3.l i).b0=(CB (gD (AA (sB a)) a_1)).b0/\(gD a_3.l i).b1=(CB (gD (AA (sB a)) a_1)).b1)/\mH a_3 a a_1)/\AXL a a_1 l else (∃(a_3 :
 IJ),(EH a/\EI a/\KX a/\(↑a_3.j:Int)=(0:Int)/\Fn.yield l=Fn.yield l/\EH a/\EI a/\EH a/\EI a/\KX a/\(↑a_3.i:Int)=(↑a_1:Int)/\(gD (AA (sB
 a)) a_3.i).st=(gD (AA (sB a)) a_1).st/\(gD (AA (sB a)) a_3.i).fl=(gD (AA (sB a)) a_1).fl/\M9 a)/\O0 a_3 a a_1)/\AXL a a_1 l else ∃(a_3:One),(a.k=a.k/\a.st=a.st /\
 UN a/\UG a/\UC a/\TW a/\GO/\TN a/\TM a/\UI a/\LZ a/\MF a/\AUO a/\AUO a)/\True)/\∀(a_1:LnK),M1 a_1 a->bif
 decide (BAS a_1 a) then (AVX a_1/\BAS a_1 a)/\((0:Int)<=(gD (AA (sB a)) a_1.i).st/\(gD (AA (sB a)) a_1.i).st<=(2000:Int))/\l=l/\(Uk a/\Tp a/\aD a a_1 =
 aD a a_1/\dX a a_1=dX a a_1/\Yr a a_1=Yr a a_1/\cZ a a_1=cZ a a_1/\Ti a/\∀(g:Gau),Qc g a->((0:Int)<=aD a a_1/\aD
 a a_1<Yr a a_1/\Yr a a_1<=(2000:Int)/\(0:Int)<=dX a a_1/\dX a a_1<=cZ a a_1/\cZ a a_1<=(200000:Int))/\Uc g)/\bif (Ci a).all λ(g:Gau)=>
 LL (CB (gD (AA (sB a)) a_1.i)) g then BAI a_1/\(∃(a_3:LnJ),(EH a/\EI a/\KX a/\T7 a_3/\Fn.yield l=Fn.yield l/\EH a/\EI a/\EH a/\EI a /\
 KX a/\AWX a_3 a_1/\AYG a a_3 a_1/\AXS a a_3 a_1/\UN a/\UG a/\UC a/\TW a/\GO/\TN a/\TM a/\UI a/\LZ a/\MF
 a/\EQ/\AWB a_3 a_1/\AWB a_3 a_1/\∀(i:Nat),i<a_3.l.length->((gD a_3.l i).a0=bif Ft i a_1 then (gD a_1.l i).a0 else aD a a_1)/\((gD a_3.l i).a1=bif Ft i a_1 then
 (gD a_1.l i).a1 else dX a a_1)/\((gD a_3.l i).b0=bif Ft i a_1 then (gD a_1.l i).b0 else Yr a a_1)/\(gD a_3.l i).b1=bif Ft i a_1 then (gD a_1.l i).b1 else cZ a a_1) /\
 Zq a_3 a a_1)/\ARN a a_1 l else (∃(a_3:LnJ),(EH a/\EI a/\KX a/\T7 a_3/\Fn.yield l=Fn.yield l/\EH a/\EI a/\EH a/\EI a/\KX a /\
 AWX a_3 a_1/\AYG a a_3 a_1/\AXS a a_3 a_1/\UN a/\UG a/\UC a/\TW a/\GO/\TN a/\TM a/\UI a/\LZ a/\MF a/\EQ
 /\ BAO a_3 a_1/\BAO a_3 a_1/\∀(i:Nat),i<a_3.l.length->(gD a_3.l i).a0=(gD a_1.l i).a0/\(gD a_3.l i).a1=(gD a_1.l i).a1/\(gD a_3.l i).b0=(gD a_1.l i).b0/\(gD a_3.l i).b1=(gD a_1.l i).b1) /\
 Zq a_3 a a_1)/\ARN a a_1 l else ∃(a_3:One),(a.k=a.k/\a.st=a.st/\UN a/\UG a/\UC a/\TW a/\GO/\TN a/\TM a/\UI a/\LZ a /\
 MF a/\(WZ (sB a)).length=a_1.l.length/\AWF a_1/\∀(j:Nat),j<(WZ (sB a)).length->(gD (WZ (sB a)) j).a0=AYX a_1 j/\(gD (WZ (sB a)) j).a1=AZT a_1 j/\(gD (WZ (sB a)) j).b0 =
 ASH a_1 j/\(gD (WZ (sB a)) j).b1=ASA a_1 j)/\True)/\APO a/\APO a)/\ATY a):=by kernel_rfl
theorem Wy(w:Bk):Bk.mk w.g w.b w.has w.st=w:=rfl
theorem BWH(l:List Ln)(p:Ln)(i:Nat)(hi:i<(l ++ [p]).length):((gD (l ++ [p]) i).a0=bif decide (i<l.length) then (gD l i).a0 else p.a0)/\((gD (l ++ [p]) i).a1=bif decide (i<l.length) then (gD l i).a1 else p.a1)/\((gD (l ++ [p]) i).b0=bif decide (i<l.length) then (gD l i).b0 else p.b0)/\(gD (l ++ [p]) i).b1=bif decide (i<l.length) then (gD l i).b1 else p.b1:=by
 rw[J8 _ _ (by simpa using hi)]
 cases decide (i<l.length)<;>exact⟨rfl,rfl,rfl,rfl⟩
theorem oneL(p:Ln)(i:Nat)(hi:i<[p].length):(gD [p] i).a0=p.a0/\(gD [p] i).a1=p.a1/\(gD [p] i).b0=p.b0/\(gD [p] i).b1=p.b1:=by
 have:i=0:=by have hj:i<1:=hi;omega
 subst this;exact⟨rfl,rfl,rfl,rfl⟩
theorem CWR{s:List Gau}{i j:Nat}(h:j<(AA s).length)(h1:eM (L0 (gD (AA s) i) (gD (AA s) j))=true)(h2:Pv s (L0 (gD (AA s) i) (gD (AA s) j))=true):(XC s i (j+1)).filter (Pv s)=(XC s i j).filter (Pv s) ++ [L0 (gD (AA s) i) (gD (AA s) j)]:=by
 rw[jZ h,if_pos h1,List.filter_append,List.filter_cons_of_pos h2];rfl
theorem DEW{s:List Gau}{i j:Nat}(h:j<(AA s).length)(h1:eM (L0 (gD (AA s) i) (gD (AA s) j))=true)(h2:Pv s (L0 (gD (AA s) i) (gD (AA s) j))=false):(XC s i (j+1)).filter (Pv s)=(XC s i j).filter (Pv s):=by
 rw[jZ h,if_pos h1,List.filter_append,List.filter_cons_of_neg (by rw[h2];simp)];simp
theorem CNF{s:List Gau}{i j:Nat}(h:j<(AA s).length)(h1:eM (L0 (gD (AA s) i) (gD (AA s) j))=false):(XC s i (j+1)).filter (Pv s)=(XC s i j).filter (Pv s):=by
 rw[jZ h,if_neg (by rw[h1];simp),List.append_nil]
theorem BBC{s:List Gau}{i:Nat}:(XC s i 0).filter (Pv s)=(fC s i).filter (Pv s) ++ if Pv s (CB (gD (AA s) i))=true then [CB (gD (AA s) i)] else []:=by
 unfold XC
 rw[List.filter_append]
 congr 1
 simp[List.filter_cons]
theorem CBL{s:List Gau}{i j:Nat}(hN:(AA s).length<=48):((XC s i j).filter (Pv s)).length<=10000:=by
 refine Nat.le_trans (List.length_filter_le _ _) ?_
 have h1:∀a:Pt,(blk (AA s) a).length<=49:=λa=>by
  unfold blk
  have:=List.length_filter_le eM ((AA s).map (L0 a))
  simp only[List.length_cons,List.length_map] at *;omega
 have h2:∀l:List Pt,l.length<=48->(l.flatMap (blk (AA s))).length<=l.length*49:=λl _=>by
  induction l with
  |nil=>simp
  |cons a l ih=>
   rw[List.flatMap_cons,List.length_append,List.length_cons]
   have:=h1 a;have:=ih (by simp at *;omega);omega
 unfold XC fC
 have h3:=h2 ((AA s).take i) (by simp;omega)
 have h4:=List.length_filter_le eM (((AA s).take j).map (L0 (gD (AA s) i)))
 simp only[List.length_append,List.length_cons,List.length_map,List.length_take] at *
 omega
theorem BYU{s:List Gau}{q:Nat}(hs:s.length<=24)(hN:(AA s).length<=48)(hg:∀g∈s,Oy g)(x:IJ)(hx:x.i<(AA s).length/\x.j<=(AA s).length/\(AA s).length-x.i=q/\(XC s x.i x.j).filter (Pv s)=[]) :
  ((x.j:Int)<(AA s).length->(0<=(x.j:Int)/\(x.j:Int)<(AA s).length)/\(eM ⟨(gD (AA s) x.i).st,(gD (AA s) x.i).fl,(gD (AA s) x.j).st,(gD (AA s) x.j).fl⟩=true->(s.length<4611686018427387904/\∀g:Gau,List.Mem g s->RF ⟨(gD (AA s) x.i).st,(gD (AA s) x.i).fl,(gD (AA s) x.j).st,(gD (AA s) x.j).fl⟩/\Oy g)/\((s.all λg=>LL ⟨(gD (AA s) x.i).st,(gD (AA s) x.i).fl,(gD (AA s) x.j).st,(gD (AA s) x.j).fl⟩ g)=true->((0<0->0=4)/\0<1/\0<1/\0<9223372036854775807/\31<140737488355328)/\∃y:LnJ,((y.j:Int)=IntKind.i64.wrap ((x.j:Int)+1)/\(y.i:Int)=x.i/\(gD (AA s) y.i).st=(gD (AA s) x.i).st/\(gD (AA s) y.i).fl=(gD (AA s) x.i).fl/\y.l.length=1/\y.l.length=1/\∀i:Nat,i<y.l.length->(gD y.l i).a0=(gD (AA s) x.i).st/\(gD y.l i).a1=(gD (AA s) x.i).fl/\(gD y.l i).b0=(gD (AA s) x.j).st/\(gD y.l i).b1=(gD (AA s) x.j).fl)/\(y.i<(AA s).length/\y.j<=(AA s).length/\(AA s).length-y.i=q/\y.l=(XC s y.i y.j).filter (Pv s))/\(AA s).length-y.j<(AA s).length-x.j)/\((s.all λg=>LL ⟨(gD (AA s) x.i).st,(gD (AA s) x.i).fl,(gD (AA s) x.j).st,(gD (AA s) x.j).fl⟩ g)=false->∃y:IJ,((y.j:Int)=IntKind.i64.wrap ((x.j:Int)+1)/\(y.i:Int)=x.i/\(gD (AA s) y.i).st=(gD (AA s) x.i).st/\(gD (AA s) y.i).fl=(gD (AA s) x.i).fl)/\(y.i<(AA s).length/\y.j<=(AA s).length/\(AA s).length-y.i=q/\(XC s y.i y.j).filter (Pv s)=[])/\(AA s).length-y.j<(AA s).length-x.j))/\(eM ⟨(gD (AA s) x.i).st,(gD (AA s) x.i).fl,(gD (AA s) x.j).st,(gD (AA s) x.j).fl⟩=false->∃y:IJ,((y.j:Int)=IntKind.i64.wrap ((x.j:Int)+1)/\(y.i:Int)=x.i/\(gD (AA s) y.i).st=(gD (AA s) x.i).st/\(gD (AA s) y.i).fl=(gD (AA s) x.i).fl)/\(y.i<(AA s).length/\y.j<=(AA s).length/\(AA s).length-y.i=q/\(XC s y.i y.j).filter (Pv s)=[])/\(AA s).length-y.j<(AA s).length-x.j))/\(¬(x.j:Int)<(AA s).length->∃y:Nat,(y:Int)=IntKind.i64.wrap ((x.i:Int)+1)/\(y<=(AA s).length/\(fC s y).filter (Pv s)=[])/\(AA s).length-y<q):=by
 obtain⟨h1,h2,h3,h4⟩:=hx
 refine⟨λhj=>?_,λhj=>⟨x.i+1,(FN (by omega)).symm,⟨by omega,?_⟩,by omega⟩⟩
 ·have hj':x.j<(AA s).length:=Int.ofNat_lt.1 hj
  have step:(XC s x.i (x.j+1)).filter (Pv s)=[]->∃y:IJ,((y.j:Int)=IntKind.i64.wrap ((x.j:Int)+1)/\(y.i:Int)=x.i/\(gD (AA s) y.i).st=(gD (AA s) x.i).st/\(gD (AA s) y.i).fl=(gD (AA s) x.i).fl)/\(y.i<(AA s).length/\y.j<=(AA s).length/\(AA s).length-y.i=q/\(XC s y.i y.j).filter (Pv s)=[])/\(AA s).length-y.j<(AA s).length-x.j:=λh=>⟨⟨x.i,x.j+1⟩,⟨(FN (by omega)).symm,rfl,rfl,rfl⟩,⟨h1,hj',h3,h⟩,by show (AA s).length-(x.j+1)<_;omega⟩
  refine⟨⟨by omega,hj⟩,λhr=>⟨⟨by omega,λg hgs=>⟨gS.1 hr,hg g hgs⟩⟩,λhp=>⟨⟨by omega,by omega,by omega,by omega,by omega⟩,⟨x.i,x.j+1,[L0 (gD (AA s) x.i) (gD (AA s) x.j)]⟩,⟨(FN (by omega)).symm,rfl,rfl,rfl,rfl,rfl,oneL _⟩,⟨h1,hj',h3,?_⟩,by show (AA s).length-(x.j+1)<_;omega⟩,λhp=>step ?_⟩,λhr=>step ?_⟩
  ·show _=(XC s x.i (x.j+1)).filter (Pv s)
   rw[CWR hj' hr hp,h4];rfl
  ·rw[DEW hj' hr hp,h4]
  ·rw[CNF hj' hr,h4]
 ·have:x.j=(AA s).length:=by omega
  rw[this] at h4;rw[<-AGZ h1];exact h4
theorem BYF{s:List Gau}{q:Nat}(hs:s.length<=24)(hN:(AA s).length<=48)(hg:∀g∈s,Oy g)(x:LnJ)(hx:x.i<(AA s).length/\x.j<=(AA s).length/\(AA s).length-x.i=q/\x.l=(XC s x.i x.j).filter (Pv s)) :
  ((x.j:Int)<(AA s).length->(0<=(x.j:Int)/\(x.j:Int)<(AA s).length)/\(eM ⟨(gD (AA s) x.i).st,(gD (AA s) x.i).fl,(gD (AA s) x.j).st,(gD (AA s) x.j).fl⟩=true->(s.length<4611686018427387904/\∀g:Gau,List.Mem g s->RF ⟨(gD (AA s) x.i).st,(gD (AA s) x.i).fl,(gD (AA s) x.j).st,(gD (AA s) x.j).fl⟩/\Oy g)/\((s.all λg=>LL ⟨(gD (AA s) x.i).st,(gD (AA s) x.i).fl,(gD (AA s) x.j).st,(gD (AA s) x.j).fl⟩ g)=true->(0<1/\(false=true->0<1)/\x.l.length<9223372036854775807/\(x.l.length+1)*32<=140737488355328)/\∃y:LnJ,((y.j:Int)=IntKind.i64.wrap ((x.j:Int)+1)/\(y.i:Int)=x.i/\(gD (AA s) y.i).st=(gD (AA s) x.i).st/\(gD (AA s) y.i).fl=(gD (AA s) x.i).fl/\y.l.length=x.l.length+1/\y.l.length=x.l.length+1/\∀i:Nat,i<y.l.length->((gD y.l i).a0=bif decide (i<x.l.length) then (gD x.l i).a0 else (gD (AA s) x.i).st)/\((gD y.l i).a1=bif decide (i<x.l.length) then (gD x.l i).a1 else (gD (AA s) x.i).fl)/\((gD y.l i).b0=bif decide (i<x.l.length) then (gD x.l i).b0 else (gD (AA s) x.j).st)/\(gD y.l i).b1=bif decide (i<x.l.length) then (gD x.l i).b1 else (gD (AA s) x.j).fl)/\(y.i<(AA s).length/\y.j<=(AA s).length/\(AA s).length-y.i=q/\y.l=(XC s y.i y.j).filter (Pv s))/\(AA s).length-y.j<(AA s).length-x.j)/\((s.all λg=>LL ⟨(gD (AA s) x.i).st,(gD (AA s) x.i).fl,(gD (AA s) x.j).st,(gD (AA s) x.j).fl⟩ g)=false->(∃y:LnJ,((y.j:Int)=IntKind.i64.wrap ((x.j:Int)+1)/\(y.i:Int)=x.i/\(gD (AA s) y.i).st=(gD (AA s) x.i).st/\(gD (AA s) y.i).fl=(gD (AA s) x.i).fl/\y.l.length=x.l.length/\y.l.length=x.l.length/\∀i:Nat,i<y.l.length->(gD y.l i).a0=(gD x.l i).a0/\(gD y.l i).a1=(gD x.l i).a1/\(gD y.l i).b0=(gD x.l i).b0/\(gD y.l i).b1=(gD x.l i).b1)/\(y.i<(AA s).length/\y.j<=(AA s).length/\(AA s).length-y.i=q/\y.l=(XC s y.i y.j).filter (Pv s))/\(AA s).length-y.j<(AA s).length-x.j)))/\(eM ⟨(gD (AA s) x.i).st,(gD (AA s) x.i).fl,(gD (AA s) x.j).st,(gD (AA s) x.j).fl⟩=false->(∃y:LnJ,((y.j:Int)=IntKind.i64.wrap ((x.j:Int)+1)/\(y.i:Int)=x.i/\(gD (AA s) y.i).st=(gD (AA s) x.i).st/\(gD (AA s) y.i).fl=(gD (AA s) x.i).fl/\y.l.length=x.l.length/\y.l.length=x.l.length/\∀i:Nat,i<y.l.length->(gD y.l i).a0=(gD x.l i).a0/\(gD y.l i).a1=(gD x.l i).a1/\(gD y.l i).b0=(gD x.l i).b0/\(gD y.l i).b1=(gD x.l i).b1)/\(y.i<(AA s).length/\y.j<=(AA s).length/\(AA s).length-y.i=q/\y.l=(XC s y.i y.j).filter (Pv s))/\(AA s).length-y.j<(AA s).length-x.j)))/\(¬(x.j:Int)<(AA s).length->∃y:LnK,((y.i:Int)=IntKind.i64.wrap ((x.i:Int)+1)/\y.l.length=x.l.length/\y.l.length=x.l.length/\∀i:Nat,i<y.l.length->(gD y.l i).a0=(gD x.l i).a0/\(gD y.l i).a1=(gD x.l i).a1/\(gD y.l i).b0=(gD x.l i).b0/\(gD y.l i).b1=(gD x.l i).b1)/\(y.i<=(AA s).length/\y.l=(fC s y.i).filter (Pv s))/\(AA s).length-y.i<q):=by
 obtain⟨h1,h2,h3,h4⟩:=hx
 refine⟨λhj=>?_,λhj=>⟨⟨x.i+1,x.l⟩,⟨(FN (by omega)).symm,rfl,rfl,λ_ _=>⟨rfl,rfl,rfl,rfl⟩⟩,⟨h1,?_⟩,by show (AA s).length-(x.i+1)<_;omega⟩⟩
 ·have hj':x.j<(AA s).length:=Int.ofNat_lt.1 hj
  have hl:x.l.length<=10000:=h4 ▸ CBL hN
  have step:(XC s x.i (x.j+1)).filter (Pv s)=x.l->(∃y:LnJ,((y.j:Int)=IntKind.i64.wrap ((x.j:Int)+1)/\(y.i:Int)=x.i/\(gD (AA s) y.i).st=(gD (AA s) x.i).st/\(gD (AA s) y.i).fl=(gD (AA s) x.i).fl/\y.l.length=x.l.length/\y.l.length=x.l.length/\∀i:Nat,i<y.l.length->(gD y.l i).a0=(gD x.l i).a0/\(gD y.l i).a1=(gD x.l i).a1/\(gD y.l i).b0=(gD x.l i).b0/\(gD y.l i).b1=(gD x.l i).b1)/\(y.i<(AA s).length/\y.j<=(AA s).length/\(AA s).length-y.i=q/\y.l=(XC s y.i y.j).filter (Pv s))/\(AA s).length-y.j<(AA s).length-x.j):=λh=>⟨⟨x.i,x.j+1,x.l⟩,⟨(FN (by omega)).symm,rfl,rfl,rfl,rfl,rfl,λ_ _=>⟨rfl,rfl,rfl,rfl⟩⟩,⟨h1,hj',h3,h.symm⟩,by show (AA s).length-(x.j+1)<_;omega⟩
  refine⟨⟨by omega,hj⟩,λhr=>⟨⟨by omega,λg hgs=>⟨gS.1 hr,hg g hgs⟩⟩,λhp=>⟨⟨by omega,λ_=>by omega,by omega,by omega⟩,⟨x.i,x.j+1,x.l ++ [L0 (gD (AA s) x.i) (gD (AA s) x.j)]⟩,⟨(FN (by omega)).symm,rfl,rfl,rfl,by simp,by simp,BWH _ _⟩,⟨h1,hj',h3,?_⟩,by show (AA s).length-(x.j+1)<_;omega⟩,λhp=>step ?_⟩,λhr=>step ?_⟩
  ·show _=(XC s x.i (x.j+1)).filter (Pv s)
   rw[CWR hj' hr hp,<-h4]
  ·rw[DEW hj' hr hp,h4]
  ·rw[CNF hj' hr,h4]
 ·have:x.j=(AA s).length:=by omega
  rw[this] at h4;show x.l=(fC s (x.i+1)).filter (Pv s);rw[<-AGZ h1];exact h4
theorem DSW{α:Type}[Inhabited α](l m:List α)(j:Nat):gD (l ++ m) j=bif decide (j<l.length) then gD l j else gD m (j-l.length):=by
 rw[yX];by_cases h:j<l.length<;>simp[h]
theorem CUA{α:Type}[Inhabited α](x y:α){j:Nat}(h:j<2):gD [x,y] j=bif decide (j=0) then x else y:=by
 match j,h with
 |0,_=>rfl
 |1,_=>rfl
theorem BED{s:List Gau}{t:Int}{i:Nat}(h:i<(AA s).length):Pi s t (i+1)=Pi s t i ++ [L0 ⟨t,0⟩ (gD (AA s) i),L0 (gD (AA s) i) ⟨t,200000⟩]:=by
 unfold Pi;rw[WX h,List.flatMap_append,<-List.append_assoc];simp
theorem CDH{s:List Gau}{t:Int}:∀i:Nat,i<=(AA s).length->(Pi s t i).length=2+2*i
 |0,_=>rfl
 |i+1,h=>by rw[BED (by omega),List.length_append,CDH i (by omega)];simp;omega
theorem CCN{s:List Gau}{t:Int}:Pi s t (AA s).length=PR s t:=by unfold Pi PR;rw[List.take_length]
theorem CYZ(s:List Gau)(t:Int):∃i:Nat,((Pi s t i).length=2/\(i:Int)=0/\(Pi s t i).length=2/\∀j:Nat,j<(Pi s t i).length->((gD (Pi s t i) j).a0=bif decide (j=0) then (CB ⟨t,0⟩).a0 else (CB ⟨t,200000⟩).a0)/\((gD (Pi s t i) j).a1=bif decide (j=0) then (CB ⟨t,0⟩).a1 else (CB ⟨t,200000⟩).a1)/\((gD (Pi s t i) j).b0=bif decide (j=0) then (CB ⟨t,0⟩).b0 else (CB ⟨t,200000⟩).b0)/\(gD (Pi s t i) j).b1=bif decide (j=0) then (CB ⟨t,0⟩).b1 else (CB ⟨t,200000⟩).b1)/\i<=(AA s).length:=by
 refine⟨0,⟨rfl,rfl,rfl,λj hj=>?_⟩,Nat.zero_le _⟩
 have hj:j<2:=hj
 rw[show Pi s t 0=[CB ⟨t,0⟩,CB ⟨t,200000⟩] from rfl,CUA _ _ hj]
 cases decide (j=0)<;>exact⟨rfl,rfl,rfl,rfl⟩
theorem DDZ{s:List Gau}{t:Int}(hN:(AA s).length<=48){i:Nat}(h:(i:Int)<(AA s).length):(0<=(i:Int)/\(i:Int)<(AA s).length)/\(1<2/\(false=true->0<2)/\(Pi s t i).length+1<9223372036854775807/\((Pi s t i).length+2)*32<=140737488355328)/\∃k:Nat,((Pi s t k).length=(Pi s t i).length+2/\(k:Int)=IntKind.i64.wrap ((i:Int)+1)/\(Pi s t k).length=(Pi s t i).length+2/\∀j:Nat,j<(Pi s t k).length->((gD (Pi s t k) j).a0=bif decide (j<(Pi s t i).length) then (gD (Pi s t i) j).a0 else bif decide (j-(Pi s t i).length=0) then t else (gD (AA s) i).st)/\((gD (Pi s t k) j).a1=bif decide (j<(Pi s t i).length) then (gD (Pi s t i) j).a1 else bif decide (j-(Pi s t i).length=0) then 0 else (gD (AA s) i).fl)/\((gD (Pi s t k) j).b0=bif decide (j<(Pi s t i).length) then (gD (Pi s t i) j).b0 else bif decide (j-(Pi s t i).length=0) then (gD (AA s) i).st else t)/\(gD (Pi s t k) j).b1=bif decide (j<(Pi s t i).length) then (gD (Pi s t i) j).b1 else bif decide (j-(Pi s t i).length=0) then (gD (AA s) i).fl else 200000)/\k<=(AA s).length/\(AA s).length-k<(AA s).length-i:=by
 have h':i<(AA s).length:=Int.ofNat_lt.1 h
 have hl:=CDH (s:=s) (t:=t) i (by omega)
 refine⟨⟨by omega,h⟩,⟨by omega,λ_=>by omega,by omega,by omega⟩,i+1,⟨?_,(FN (by omega)).symm,?_,λj hj=>?_⟩,h',by omega⟩
 ·rw[BED h',List.length_append];rfl
 ·rw[BED h',List.length_append];rfl
 ·rw[BED h'] at hj ⊢
  rw[DSW]
  by_cases h1:j<(Pi s t i).length
  ·simp[h1]
  ·rw[CUA _ _ (by simp at hj;omega)]
   simp only[h1,decide_false,cond_false]
   cases decide (j-(Pi s t i).length=0)<;>exact⟨rfl,rfl,rfl,rfl⟩
theorem CAU{s:List Gau}{l:List Ln}{i:Nat}(h:i<l.length):(l.take (i+1)).filter (okX s)=(l.take i).filter (okX s) ++ if okX s (gD l i)=true then [gD l i] else []:=by
 rw[WX h,List.filter_append];simp[List.filter_cons]
theorem BCM{s:List Gau}{t:Int}:(PR s t).length=2+2*(AA s).length:=by rw[<-CCN,CDH _ (Nat.le_refl _)]
theorem DCE{s:List Gau}{t:Int}{f:List Ln}(hs:s.length<=24)(hN:(AA s).length<=48)(hg:∀g∈s,Oy g)(hf:f.length<=10000){x:LnK}(hx:x.i<=(PR s t).length/\x.l=f ++ ((PR s t).take x.i).filter (okX s))(h:(x.i:Int)<(PR s t).length) :
  ((0<=(x.i:Int)/\(x.i:Int)<(PR s t).length)/\x.i<(PR s t).length)/\(eM (gD (PR s t) x.i)=true->(s.length<4611686018427387904/\∀g:Gau,List.Mem g s->RF (gD (PR s t) x.i)/\Oy g))/\((bif eM (gD (PR s t) x.i) then s.all λg=>LL (gD (PR s t) x.i) g else false)=true->(0<1/\(false=true->0<1)/\x.l.length<9223372036854775807/\(x.l.length+1)*32<=140737488355328)/\∃y:LnK,(y.l.length=x.l.length+1/\(y.i:Int)=x.i/\y.l.length=x.l.length+1/\∀j:Nat,j<y.l.length->((gD y.l j).a0=bif decide (j<x.l.length) then (gD x.l j).a0 else (gD (PR s t) x.i).a0)/\((gD y.l j).a1=bif decide (j<x.l.length) then (gD x.l j).a1 else (gD (PR s t) x.i).a1)/\((gD y.l j).b0=bif decide (j<x.l.length) then (gD x.l j).b0 else (gD (PR s t) x.i).b0)/\(gD y.l j).b1=bif decide (j<x.l.length) then (gD x.l j).b1 else (gD (PR s t) x.i).b1)/\(y.i<(PR s t).length/\(PR s t).length-y.i=(PR s t).length-x.i/\y.l=f ++ (((PR s t).take (y.i+1)).filter (okX s))))/\((bif eM (gD (PR s t) x.i) then s.all λg=>LL (gD (PR s t) x.i) g else false)=false->∃y:LnK,(y.l.length=x.l.length/\(y.i:Int)=x.i/\y.l.length=x.l.length/\∀j:Nat,j<y.l.length->(gD y.l j).a0=(gD x.l j).a0/\(gD y.l j).a1=(gD x.l j).a1/\(gD y.l j).b0=(gD x.l j).b0/\(gD y.l j).b1=(gD x.l j).b1)/\(y.i<(PR s t).length/\(PR s t).length-y.i=(PR s t).length-x.i/\y.l=f ++ (((PR s t).take (y.i+1)).filter (okX s)))):=by
 obtain⟨h1,h2⟩:=hx
 have h':x.i<(PR s t).length:=Int.ofNat_lt.1 h
 have hl:x.l.length<=10098:=by
  rw[h2,List.length_append]
  have:=List.length_filter_le (okX s) ((PR s t).take x.i)
  rw[List.length_take] at this
  have:=BCM (s:=s) (t:=t)
  omega
 refine⟨⟨⟨by omega,h⟩,h'⟩,λhr=>⟨by omega,λg hgs=>⟨gS.1 hr,hg g hgs⟩⟩,λhp=>⟨⟨by omega,λ_=>by omega,by omega,by omega⟩,⟨x.i,x.l ++ [(gD (PR s t) x.i)]⟩,⟨by simp,rfl,by simp,BWH _ _⟩,h',rfl,?_⟩,λhp=>⟨⟨x.i,x.l⟩,⟨rfl,rfl,rfl,λ_ _=>⟨rfl,rfl,rfl,rfl⟩⟩,h',rfl,?_⟩⟩
 ·show x.l ++ _=_
  rw[CAU h',if_pos (show okX s (gD (PR s t) x.i)=true from hp),<-List.append_assoc,<-h2]
 ·show x.l=_
  rw[CAU h',if_neg (by intro hq;have hq:(bif eM (gD (PR s t) x.i) then s.all λg=>LL (gD (PR s t) x.i) g else false)=true:=hq;rw[hp] at hq;cases hq),List.append_nil,<-h2]
theorem CLS{s:List Gau}{t:Int}{f:List Ln}(hN:(AA s).length<=48){m:Nat}(x:LnK)(hx:x.i<(PR s t).length/\(PR s t).length-x.i=m/\x.l=f ++ ((PR s t).take (x.i+1)).filter (okX s)):∃y:LnK,(y.l.length=x.l.length/\(y.i:Int)=IntKind.i64.wrap ((x.i:Int)+1)/\y.l.length=x.l.length/\∀j:Nat,j<y.l.length->(gD y.l j).a0=(gD x.l j).a0/\(gD y.l j).a1=(gD x.l j).a1/\(gD y.l j).b0=(gD x.l j).b0/\(gD y.l j).b1=(gD x.l j).b1)/\(y.i<=(PR s t).length/\y.l=f ++ ((PR s t).take y.i).filter (okX s))/\(PR s t).length-y.i<m:=by
 have:=BCM (s:=s) (t:=t)
 exact⟨⟨x.i+1,x.l⟩,⟨rfl,(FN (by omega)).symm,rfl,λ_ _=>⟨rfl,rfl,rfl,rfl⟩⟩,⟨hx.1,hx.2.2⟩,by show (PR s t).length-(x.i+1)<m;omega⟩
theorem nY{w:Bk}{k:Int}(h:w.has k=true):Du w k=w:=by
 obtain⟨g,b,has,st⟩:=w
 have h:has k=true:=h
 unfold Du;congr 1
 ·funext n;unfold YF;by_cases e:n=k
  ·subst e;simp[h]
  ·simp[e]
 ·funext n;unfold S3;simp[h]
theorem DPH{w:Bk}{k n:Int}:UR (Du w k) n=bif decide (n=k) then WZ (Ys w k) else UR w n:=by
 unfold UR
 show (bif YF w.has k n then WZ (Ys w n) else [])=_
 unfold YF
 by_cases e:n=k
 ·subst e;simp
 ·simp[e]
theorem DBE{w:Bk}{k:Int}(h:w.has k=true):UR w k=WZ (Ys w k):=by unfold UR;rw[h];rfl
theorem DIQ{s:List Gau}(h:s=[]):WZ s=[]:=by subst h;rfl
theorem CPG{s:List Gau}(hN:(AA s).length<=48):(WZ s).length<=10000:=by
 unfold WZ
 rw[<-ACK]
 by_cases h:(AA s).length=0
 ·rw[h];simp[fC]
 ·obtain⟨i,hi⟩:∃i,(AA s).length=i+1:=⟨(AA s).length-1,by omega⟩
  rw[hi,<-AGZ (i:=i) (by omega)];exact CBL hN
theorem CVK{w:Bk}{k:Int}:∀n:Int,((UR (Du w k) n).length=bif decide (n=k) then (WZ (Ys w k)).length else (UR w n).length)/\∀j:Nat,j<(UR (Du w k) n).length->((gD (UR (Du w k) n) j).a0=bif decide (n=k) then (gD (WZ (Ys w k)) j).a0 else (gD (UR w n) j).a0)/\((gD (UR (Du w k) n) j).a1=bif decide (n=k) then (gD (WZ (Ys w k)) j).a1 else (gD (UR w n) j).a1)/\((gD (UR (Du w k) n) j).b0=bif decide (n=k) then (gD (WZ (Ys w k)) j).b0 else (gD (UR w n) j).b0)/\(gD (UR (Du w k) n) j).b1=bif decide (n=k) then (gD (WZ (Ys w k)) j).b1 else (gD (UR w n) j).b1:=λn=>by
 rw[DPH];cases decide (n=k)<;>exact⟨rfl,λ_ _=>⟨rfl,rfl,rfl,rfl⟩⟩
theorem CWH{a:BkS}(h:Ic a.w.g a.w.b):(sB a).length<=24/\(AA (sB a)).length<=48/\∀g∈sB a,Oy g:=by
 have h1:(sB a).length<=24:=Nat.le_trans (List.length_filter_le _ _) h.1
 have he:=kL (s:=sB a) (sB a).length (Nat.le_refl _)
 unfold Tm at he;rw[List.take_length] at he
 exact⟨h1,by unfold AA;omega,λg hg=>h.2.1 g (List.mem_filter.1 hg).1⟩
theorem BAL{s:List Gau}{t:Int}:Bm s t=bif (bif decide ((s.length:Int)>0) then ((WZ s).length:Int)==0 else false) then [] else WZ s ++ (PR s t).filter (okX s):=by
 unfold Bm
 rw[show decide (0<s.length)=decide ((s.length:Int)>0) by simp[Int.natCast_pos],show decide ((WZ s).length=0)=(((WZ s).length:Int)==0) by rw[Bool.eq_iff_iff];simp]
theorem DOW(a:BkS)(h:Ic a.w.g a.w.b)(h2:0<=a.st/\a.st<=2000)(h3:sB a≠[]):DAT a:=by
 rw[DHJ];delta AEE ACS BDB BQT BQH BSK zH AED BTO BPP HW TO TL BGO BJA AMS B8 BJO BEY BGR BIK BJL bS BJZ BHU ALY ALZ ALQ ANQ BFF BGG BKO ANW BGI ANR B9 zG zR xP B5 BHD ANB BHY zI BJT BEP BFJ BGD BFK dN bZ cR dZ dP bF dC BFW BHR Gq zA cK ANX aN MD BKH BIC BIF BJB BFE OR OS ANT AMW BIL BGF ALO yB xU yS yY yW xV BKC BKE BFO kI BID AMU BIG EG EF KT yU zC bD BHP BGH kD zF BIV ART ATA APY AVN ASC AUQ R8 U6 T3 T8 D5 AXQ AVS AQR Ro AYH dK Zk dL Zs bE dW R6 P6 AZE lV ARO ATI dE F7 ASK AVI Ey pQ T6 T1 ATX BAD ARJ nK AWM ASD APQ APZ APU BAW oN pI ASL ASY AYS F0 G0 U3 AXN AYQ AUL ATU AXR UA UL TR TX UF AUJ oR N6 O7 lS AWO ATK AUH AQW lA ARD ATP AZQ AXX K5 ASQ AUU BAT ATC AYY ATG ATL ASX AYT ATB R3 E5 ARI N8 AQX AQL AQF AUN BAZ APT AQP BAG BAM ASS AXD ASU U4 ATQ AQO BAU AQU ARR AWG mQ AZW APS AUT ARY BAC ATV ATS ASI J0 Tg ARP AVO BAK ASF dR dB aY Yq AQZ ASG ASM AWK cH AZB ARU BAY AWZ ASP AXY AXU aI AUB;simp only[CC,eq_self,implies_true,forall_const,Wy,show Ys a.w a.k=sB a from rfl,if_true]
 obtain⟨hs,hN,hg⟩:=CWH h
 have hf:=CPG (s:=sB a) hN
 have h0:0<(sB a).length:=List.length_pos_iff.2 h3
 have ok:∀x,RF x->(sB a).length<4611686018427387904/\∀g:Gau,List.Mem g (sB a)->RF x/\Oy g:=λx hx=>⟨by omega,λg hgs=>⟨hx,hg g hgs⟩⟩
 have e_ok:∀i,i<(AA (sB a)).length->okP (gD (AA (sB a)) i):=λi hi=>tW hg (HI hi)
 refine⟨h,λhh=>⟨?a,?b1⟩,λhh=>⟨⟨⟨by omega,⟨0,rfl,Nat.zero_le _,rfl⟩,λi ⟨hi,hp⟩=>?c,λx ⟨hi,hp⟩=>?d⟩,?e⟩,?b2⟩⟩
 case a=>
  refine⟨default,?_⟩
  rw[nY hh,DBE hh]
  exact⟨rfl,λ_ _=>⟨rfl,rfl,rfl⟩,rfl,λ_ _=>rfl,λ_=>rfl,λ_=>rfl,λ_=>⟨rfl,λ_ _=>⟨rfl,rfl,rfl,rfl⟩⟩,rfl,λ_ _=>⟨rfl,rfl,rfl,rfl⟩⟩
 case e=>exact⟨default,rfl,λ_ _=>⟨rfl,rfl,rfl⟩,rfl,λ_ _=>rfl,λ_=>rfl,λ_=>rfl,CVK⟩
 case c=>
  refine⟨λhlt=>?_,λhge=>⟨default,?_⟩⟩
  ·have hlt':i<(AA (sB a)).length:=Int.ofNat_lt.1 hlt
   refine⟨⟨by omega,hlt⟩,⟨(e_ok i hlt').1,(e_ok i hlt').2.1⟩,ok _ (ABJ (e_ok i hlt')),λhpa=>⟨⟨by omega,by omega,by omega,by omega,by omega⟩,⟨⟨i,0,[CB (gD (AA (sB a)) i)]⟩,⟨rfl,rfl,rfl,rfl,rfl,rfl,oneL _⟩,hlt',Nat.zero_le _,rfl,?_⟩,λx hx=>BYU hs hN hg x hx,λx hx=>BYF hs hN hg x hx⟩,λhpa=>⟨⟨⟨i,0⟩,⟨rfl,rfl,rfl,rfl⟩,hlt',Nat.zero_le _,rfl,?_⟩,λx hx=>BYU hs hN hg x hx,λx hx=>BYF hs hN hg x hx⟩⟩
   ·show _=(XC (sB a) i 0).filter (Pv (sB a))
    rw[BBC,hp,if_pos (show Pv (sB a) _=true from hpa)];rfl
   ·show (XC (sB a) i 0).filter (Pv (sB a))=[]
    rw[BBC,hp,if_neg (by rw[show Pv (sB a) (CB (gD (AA (sB a)) i))=false from hpa];simp)];rfl
  ·have:i=(AA (sB a)).length:=by omega
   rw[this,ACK] at hp;unfold WZ;rw[hp];rfl
 case d=>
  refine⟨λhlt=>?_,λhge=>⟨default,?_⟩⟩
  ·have hlt':x.i<(AA (sB a)).length:=Int.ofNat_lt.1 hlt
   have hl:x.l.length<=10000:=by
    have:=CBL (s:=sB a) (i:=x.i) (j:=0) hN
    rw[BBC,<-hp,List.length_append] at this;omega
   refine⟨⟨by omega,hlt⟩,⟨(e_ok x.i hlt').1,(e_ok x.i hlt').2.1⟩,ok _ (ABJ (e_ok x.i hlt')),λhpa=>⟨⟨by omega,λ_=>by omega,by omega,by omega⟩,⟨⟨x.i,0,x.l ++ [CB (gD (AA (sB a)) x.i)]⟩,⟨rfl,rfl,rfl,rfl,by simp,by simp,BWH _ _⟩,hlt',Nat.zero_le _,rfl,?_⟩,λx hx=>BYU hs hN hg x hx,λx hx=>BYF hs hN hg x hx⟩,λhpa=>⟨⟨⟨x.i,0,x.l⟩,⟨rfl,rfl,rfl,rfl,rfl,rfl,λ_ _=>⟨rfl,rfl,rfl,rfl⟩⟩,hlt',Nat.zero_le _,rfl,?_⟩,λx hx=>BYU hs hN hg x hx,λx hx=>BYF hs hN hg x hx⟩⟩
   ·show _=(XC (sB a) x.i 0).filter (Pv (sB a))
    rw[BBC,<-hp,if_pos (show Pv (sB a) _=true from hpa)]
   ·show x.l=(XC (sB a) x.i 0).filter (Pv (sB a))
    rw[BBC,<-hp,if_neg (by rw[show Pv (sB a) (CB (gD (AA (sB a)) x.i))=false from hpa];simp),List.append_nil]
  ·have hx:x.l=WZ (sB a):=by rw[hp,show x.i=(AA (sB a)).length by omega,ACK];rfl
   rw[hx];exact⟨rfl,Nat.le_refl _,λ_ _=>⟨rfl,rfl,rfl,rfl⟩⟩
 all_goals
  ·have hmo:∀i:Nat,i<=(AA (sB a)).length->¬(i:Int)<(AA (sB a)).length->Pi (sB a) a.st i=PR (sB a) a.st:=λi h1 h2=>by
    rw[show i=(AA (sB a)).length by omega,CCN]
   refine⟨λhc=>by rw[BAL,hc];rfl,λhc=>⟨h2,by omega,CYZ _ _,λi hi=>⟨λhlt=>DDZ hN hlt,λhge=>⟨⟨?_,by omega⟩,⟨⟨0,WZ (sB a)⟩,⟨rfl,by rw[hmo i hi hge],by rw[hmo i hi hge],rfl,by rw[hmo i hi hge],λj _=>by rw[hmo i hi hge];exact⟨rfl,rfl,rfl,rfl⟩,rfl,λ_ _=>⟨rfl,rfl,rfl,rfl⟩⟩,Nat.zero_le _,by simp⟩,λx hx=>⟨λhlt=>⟨DCE hs hN hg hf hx hlt,λy hy=>CLS hN y hy⟩,λhge=>?_⟩⟩⟩⟩⟩
   ·simp only[decide_eq_true (show ((sB a).length:Int)>0 by omega),cond_true,beq_eq_false_iff_ne,ne_eq] at hc
    omega
   ·have e:Bm (sB a) a.st=x.l:=by rw[BAL,hc,hx.2,List.take_of_length_le (by omega)];rfl
    rw[e];exact⟨rfl,Nat.le_refl _,λ_ _=>⟨rfl,rfl,rfl,rfl⟩⟩
theorem CUK{s:List Gau}{t:Int}(hN:(AA s).length<=48){m:Nat}(i:Nat)(hx:i<(PR s t).length/\(PR s t).length-i=m/\((PR s t).take (i+1)).filter (okX s)=[]):∃y:Nat,(y:Int)=IntKind.i64.wrap ((i:Int)+1)/\(y<=(PR s t).length/\((PR s t).take y).filter (okX s)=[])/\(PR s t).length-y<m:=by
 have:=BCM (s:=s) (t:=t)
 exact⟨i+1,(FN (by omega)).symm,⟨hx.1,hx.2.2⟩,by omega⟩
theorem DQH(a:BkS)(h:Ic a.w.g a.w.b)(h2:0<=a.st/\a.st<=2000)(h3:sB a=[]):CXM a:=by
 rw[DJC];delta ABM AFE BCX BPI BQM BOF A5 ABO BPS BTD GO TN TM BJC BFA AMN A9 BHL BFY BFD BJM BIP Uc BHA BIY AOC AOB ALR AMD BIU BJP BFV AOA BGY AMP yP zO yF A7 yQ BFP AOG BJX zK BKD BJE BGC BGE EQ BIH Lq Ll Lo Lk Lr Lv Ls BJU BFN BKN Ci zW Uk ANF Tp BEU BEL BIR BIQ ALM LZ MF aG BGX BJG ALP zL zT zQ yA yT A4 BFX BIA BEG BHN kJ BEK AMA BKL EH EI KX BEW yJ B7 bY BEH ANO BFC kT E6 O2 S0 Q7 oG AWN S5 Rb AWI Za Zw bH cG Ti Qc O1 C5 kZ AUE XU Qe oA AYE Fy Ep AYO BAR AUS BAB APW AZG P2 BAX AWE D8 ARM ATO AVX AXK Rk AQJ Zv bW Yw dO BAP pC BAI AZN AQM Ft P3 AVQ AWF nE AYX AZT ASH ASA ATY AVG mD lW AYU AXT AUK N9 K1 E9 AZU AUX AQY AVV AWR UN UG UC TW UI kR T7 oZ AWT APR AVT AYM mH AQQ AYP AVF AQN O0 AXV AYZ ATM ARS AQD AQV AUR AZV AUC BAE S1 O3 AWS M9 AZO AYR AUI BAH ASR AZZ AZH ASJ AVR BBB ATW APM U1 AQI BAJ AUW ASN AQH AUZ oF AYW AVJ AWY ARB AVW AXE ARZ AXC M1 Sg ARG AXL AUO BAS aD dX Yr cZ AWX AYG AXS AWB Zq AZS ATF AWW AYC ASE ARN BAO cF APO;simp only[CC,eq_self,implies_true,forall_const,Wy,show Ys a.w a.k=sB a from rfl,if_true]
 obtain⟨hs,hN,hg⟩:=CWH h
 have hf:WZ (sB a)=[]:=DIQ h3
 have h0:(AA (sB a)).length=0:=by rw[h3];rfl
 have hS:(sB a).length=0:=by rw[h3];rfl
 have ok:∀x,RF x->(sB a).length<4611686018427387904/\∀g:Gau,List.Mem g (sB a)->RF x/\Oy g:=λx hx=>⟨by omega,λg hgs=>⟨hx,hg g hgs⟩⟩
 have hc:(bif decide (((sB a).length:Int)>0) then ((WZ (sB a)).length:Int)==0 else false)=false:=by rw[hS];rfl
 refine⟨h,λhh=>⟨?a,?b1⟩,λhh=>⟨⟨⟨by omega,⟨0,rfl,Nat.zero_le _,rfl⟩,λi ⟨hi,hp⟩=>?c,λx ⟨hi,hp⟩=>?d⟩,?e⟩,?b2⟩⟩
 case a=>
  refine⟨default,?_⟩
  rw[nY hh,DBE hh]
  exact⟨rfl,λ_ _=>⟨rfl,rfl,rfl⟩,rfl,λ_ _=>rfl,λ_=>rfl,λ_=>rfl,λ_=>⟨rfl,λ_ _=>⟨rfl,rfl,rfl,rfl⟩⟩,by show 0=(WZ (sB a)).length;rw[hf];rfl⟩
 case e=>exact⟨default,rfl,λ_ _=>⟨rfl,rfl,rfl⟩,rfl,λ_ _=>rfl,λ_=>rfl,λ_=>rfl,CVK,by rw[hf];rfl⟩
 case c=>exact⟨λhlt=>absurd hlt (by omega),λhge=>⟨default,by rw[hf];rfl⟩⟩
 case d=>
  refine⟨λhlt=>absurd hlt (by omega),λhge=>⟨default,?_⟩⟩
  have hx:x.l=WZ (sB a):=by rw[hp,show x.i=(AA (sB a)).length by omega,ACK];rfl
  rw[hx];exact⟨rfl,Nat.le_refl _,λ_ _=>⟨rfl,rfl,rfl,rfl⟩⟩
 all_goals
  have hmo:∀i:Nat,i<=(AA (sB a)).length->Pi (sB a) a.st i=PR (sB a) a.st:=λi h1=>by
   rw[show i=(AA (sB a)).length by omega,CCN]
  have hML:=BCM (s:=sB a) (t:=a.st)
  refine⟨λhc=>?_,λ_=>⟨h2,by omega,CYZ _ _,λi hi=>⟨λhlt=>DDZ hN hlt,λhge=>⟨⟨0,⟨by rw[hmo i hi],by rw[hmo i hi],rfl,by rw[hmo i hi],λj _=>by rw[hmo i hi];exact⟨rfl,rfl,rfl,rfl⟩⟩,Nat.zero_le _,rfl⟩,λx ⟨hx,hy⟩=>⟨λhlt=>⟨?_,λy hy=>CUK hN y hy,λy hy=>CLS hN y hy⟩,λhge=>?_⟩,λx hx=>⟨λhlt=>⟨DCE hs hN hg (by rw[hf];exact Nat.zero_le _) hx hlt,λy hy=>CUK hN y hy,λy hy=>CLS hN y hy⟩,λhge=>?_⟩⟩⟩⟩⟩
  ·rw[hS] at hc;cases hc
  ·have h':x<(PR (sB a) a.st).length:=Int.ofNat_lt.1 hlt
   refine⟨⟨⟨by omega,hlt⟩,h'⟩,λhr=>ok _ (gS.1 hr),λhp=>⟨⟨by omega,by omega,by omega,by omega,by omega⟩,⟨x,[gD (PR (sB a) a.st) x]⟩,⟨rfl,rfl,rfl,oneL _⟩,h',rfl,?_⟩,λhp=>⟨x,rfl,h',rfl,?_⟩⟩
   ·show [_]=_
    rw[CAU h',if_pos (show okX (sB a) (gD (PR (sB a) a.st) x)=true from hp),hy,hf];rfl
   ·rw[CAU h',if_neg (by intro hq;have hq:(bif eM (gD (PR (sB a) a.st) x) then (sB a).all λg=>LL (gD (PR (sB a) a.st) x) g else false)=true:=hq;rw[hp] at hq;cases hq),hy];rfl
  ·have hz:(PR (sB a) a.st).filter (okX (sB a))=[]:=by rw[<-hy,List.take_of_length_le (by omega)]
   rw[BAL,hc,hf,hz];rfl
  ·have e:Bm (sB a) a.st=x.l:=by rw[BAL,hc,hx.2,List.take_of_length_le (by omega)];rfl
   rw[e];exact⟨rfl,Nat.le_refl _,λ_ _=>⟨rfl,rfl,rfl,rfl⟩⟩
theorem BFL:AM Try.prog BCE (C_lns.spec dBkS):=Ctr.spec_ok (C:=C_lns) (λ(a:BkS) h=>by
 have h:Ic a.w.g a.w.b/\0<=a.st/\a.st<=2000:=h
 by_cases h3:sB a=[]
 ·exact Mj (A:=DEP a) (ren:=[]) (fz:=[403]) CHU (by kernel_rfl) (AB BVD (AB AXA (AB ARE (AB lR (AB BBN (AB BKG (AB DGA AG))))))) (DQH a h.1 h.2 h3) (CDQ Jk (CNO a) rfl rfl (AB BBN (AB lR (AB BKG AG))) AKV (by kernel_rfl) (by kernel_rfl))
 ·exact Mj (A:=DBN a) (ren:=[]) (fz:=[403]) CHU (by kernel_rfl) (AB BVD (AB AXA (AB ARE (AB lR (AB BBN (AB BKG (AB DIA AG))))))) (DOW a h.1 h.2 h3) (CDQ Jk (CNO a) rfl rfl (AB BBN (AB lR (AB BKG AG))) AKV (by kernel_rfl) (by kernel_rfl))) _
end Go.Bal
