/- Package rating: lines of a part that bound its flows. -/
import Derived.Test.YtoihhodbkimedaaGreatRatF
set_option linter.unusedVariables false
set_option linter.unusedSimpArgs false
namespace Go.Bal
open Go Go.Sym Go.Proofs
def rowL(l:List Ln):AObj:=.row 4 l.length λi=>eLn (gD l i)
def dLs1:List AVal->Heap->Option (List Ln×List (Nat×Nat)×List Nat)
 |[y],H=>match dLns y H with
  |some (l,f)=>some (l,[],f)
  |none=>none
 |_,_=>none
def C_cloN:Ctr:={ α:=List Ln,xs:=λl=>[.d (eLns l)],L:=λ_=>[],val:=λl=>.own 0 4 0 l.length,keep:=λl=>[(0,.live (rowL l))],pre:=λl=>[0<l.length/\l.length<1073741824] }
def BUX:Ann:={ ann 8 [] with mt:=λid=>id==3 }
def BTS(l:List Ln):Prop:=BQ Try.prog BUX ABV (AI ABV) (C_cloN.xs l) (AD []) (C_cloN.val l) (C_cloN.keep l) [(0,4032)] []
abbrev Yz a b c d:=AF a b c c d
abbrev PF a b:=UU a (OV b)
abbrev QE a b c d:=GA a b (PF c d) (Fm c (LY d) (LW d) (MN d))
attribute [go_sem] Yz PF QE
theorem CID(l:List Ln):(BTS l)=(And (HN 0 (ID l)) (Yz (AF (JJ (Ky 0 (BL 4))) (Cz FP (ID l) 4) (UP (MW (ID l))) (Lm (ID l) 9223372036854775807) (OR (BP (ID l)) 32)) AL (AR (ID l) (BP (ID l))) (AK (λi=>QE i (ID l) (RG l i) (RG l (EF i 0)))))):=by kernel_rfl
def nilN:DVal:=.list 0 0 (λ_=>default) false
def C_cloE:Ctr:={ α:=One,xs:=λ_=>[.d nilN],L:=λ_=>[],val:=λ_=>.d ZU,keep:=λ_=>[] }
def dNil:List AVal->Heap->Option (One×List (Nat×Nat)×List Nat)
 |[.d (.list 0 0 _ _)],_=>some (default,[],[])
 |_,_=>none
def BTJ:Ann:={ ann 8 [] with md:=λid=>if id=3 then some (λk=>if k=0 then 4 else 0) else none }
def BVS(_x:One):Prop:=BQ Try.prog BTJ ABV (AI ABV) (C_cloE.xs _x) (AD []) (C_cloE.val _x) [] [] []
theorem CEG(_x:One):(BVS _x)=(And (FZ AL (λi=>Hb i 0 XL)) (Jm (AF (YS (BL 4)) (Ak 4) (UP (MW 0)) (BU 0 9223372036854775807) (OA 0)) AL)):=by kernel_rfl
theorem CDI:AJ Try.prog ALT (C_cloN.spec dLs1):=VD C_cloN (λ_=>BUX) [(0,4032)] [] BCD (λ_=>by kernel_rfl) (λ_=>AE) (λ(l:List Ln) h=>by
 show BTS l;rw[CID]<;> delta JT XL OV LY LW MN JG AO AR AK BV BZ BU EF FP ID RG LM IY Jv AG AF AT CA BL Ky Yz DX CR BP GA AL EL UU PF EX MW HN Cz OA JJ OR UP Fm Lm QE;simp only[CC,eq_self,implies_true,forall_const]
 obtain⟨h1,h2⟩:0<l.length/\l.length<1073741824:=h
 exact⟨h1,⟨λ_=>h1,by omega,by omega⟩,λ_ _=>⟨rfl,rfl,rfl,rfl⟩⟩) (λ_=>WK rfl rfl) _
theorem CGO:AJ Try.prog ALT (C_cloE.spec dNil):=VD C_cloE (λ_=>BTJ) [] [] BCD (λ_=>by kernel_rfl) (λ_=>AE) (λ(x:One) _=>by
 show BVS x;rw[CEG]<;> delta JT XL JG AR AK BV BZ BU FP AG AF AT Jm BL JM Ky AL EL FZ Hb EX MW OA UP YS Ak;simp only[CC,eq_self,implies_true,forall_const]
 exact⟨by omega,by simp,by omega,by omega⟩) (λ_=>WK rfl rfl) _
structure BkS where
 w:Bk
 k:Int
 st:Int
def dBkS:List AVal->Heap->Option (BkS×List (Nat×Nat)×List Nat)
 |[.bptr id _,.d k,.d t],H=>match ATT H id with
  |some (w,q)=>some (⟨w,KT k,KT t⟩,[(100,id),(101,q)],[])
  |none=>none
 |_,_=>none
def XU(w:Bk)(k:Int):Bk:=⟨w.g,w.b,ZS w.has k,yE w.has w.st k⟩
def moB(t:Int):List Ln:=[BT ⟨t,0⟩,BT ⟨t,200000⟩]
def Gz(s:List Gau)(t:Int)(i:Nat):List Ln:=moB t ++ ((AA s).take i).flatMap λp=>[nG ⟨t,0⟩ p,nG p ⟨t,200000⟩]
def MJ(s:List Gau)(t:Int):List Ln:=moB t ++ (AA s).flatMap λp=>[nG ⟨t,0⟩ p,nG p ⟨t,200000⟩]
def yU(s:List Gau)(x:Ln):Bool:=bif Va x then Hn s x else false
def VP(s:List Gau)(t:Int):List Ln:=bif (bif decide (0<s.length) then decide ((SQ s).length=0) else false) then [] else SQ s ++ (MJ s t).filter (yU s)
structure LnK where
 i:Nat
 l:List Ln
 deriving Inhabited
structure LnJ where
 i:Nat
 j:Nat
 l:List Ln
 deriving Inhabited
def sB(a:BkS):List Gau:=Ja a.w a.k
def lsH(a:BkS)(c:AVal):List (Nat×HCell):=bkK a.w ++ [(2048,.live (.box [.d (BX (sB a))])),(3144,.live (.box [c]))]
def lsR(a:BkS)(l:List Ln):List (Nat×HCell):=lsH a (.own 401 4 0 l.length) ++ [(401,.live (rowL l))]
def lsPt(p:Pt):HCell:=.live (.box [.int p.st,.int p.fl])
def lsOn(a:BkS)(l:Nat):Shape:={ α:=Nat,dflt:=0,T:=λi=>⟨lnS (sB a) l i,lsH a (.d ZU)⟩,inv:=λi=>i<=(AA (sB a)).length/\(Te (sB a) i).filter (Hn (sB a))=[],meas:=λi=>(AA (sB a)).length-i }
def lsOo(a:BkS)(l:Nat):Shape:={ α:=LnK,dflt:=default,T:=λx=>⟨lnS (sB a) l x.i,lsR a x.l⟩,inv:=λx=>x.i<=(AA (sB a)).length/\x.l=(Te (sB a) x.i).filter (Hn (sB a)),meas:=λx=>(AA (sB a)).length-x.i }
def lsIs(a:BkS)(l i j:Nat):List (Nat×AVal):=[(5,.bptr 205 0),(22,.d (ePts (AA (sB a)))),(23,.int (AA (sB a)).length),(24,.int j)] ++ lnS (sB a) l i
def lsIn(a:BkS)(q l:Nat):Shape:={ α:=IJ,dflt:=default,T:=λx=>⟨lsIs a l x.i x.j,(205,lsPt (gD (AA (sB a)) x.i)) :: lsH a (.d ZU)⟩,inv:=λx=>x.i<(AA (sB a)).length/\x.j<=(AA (sB a)).length/\(AA (sB a)).length-x.i=q/\(TB (sB a) x.i x.j).filter (Hn (sB a))=[],meas:=λx=>(AA (sB a)).length-x.j,first:=[(205,104032)] }
def lsIo(a:BkS)(q l:Nat)(r:List (Nat×Nat)):Shape:={ α:=LnJ,dflt:=default,T:=λx=>⟨lsIs a l x.i x.j,(205,lsPt (gD (AA (sB a)) x.i)) :: lsR a x.l⟩,inv:=λx=>x.i<(AA (sB a)).length/\x.j<=(AA (sB a)).length/\(AA (sB a)).length-x.i=q/\x.l=(TB (sB a) x.i x.j).filter (Hn (sB a)),meas:=λx=>(AA (sB a)).length-x.j,first:=(205,104032) :: r,again:=r }
noncomputable def BNS(a:BkS):IterAnn:={ fn:=Zx,code:=AI Zx,live:=[0,1,2,7,8],ann:={ base:=λid=>100000+1000*(id+1),Γ:=Sym.look [(AQD,C_ends.spec WJ),(kS,wZ),(BCO,BPB)],E:=[100,101,2048,3144],n:=41,inner:=λgs id=>if id=2 then some [lsOn a (gs.getD 0 0),lsOo a (gs.getD 0 0)] else if id=6 then some [lsIn a (gs.getD 0 0) (gs.getD 1 0),lsIo a (gs.getD 0 0) (gs.getD 1 0) [],lsIo a (gs.getD 0 0) (gs.getD 1 0) [(401,8048)]] else none } }
def ls8s(a:BkS):List (Nat×AVal):=[(0,.bptr 100 0),(1,.int a.k),(2,.int a.st),(7,.bptr 2048 0),(8,.bptr 3144 0)]
def ls8n(a:BkS):Shape:={ α:=One,dflt:=default,T:=λ_=>⟨ls8s a,lsH a (.d (eLns (SQ (sB a))))⟩,inv:=λ_=>True,meas:=λ_=>0 }
def ls8o(a:BkS):Shape:={ α:=One,dflt:=default,T:=λ_=>⟨ls8s a,lsH a (.d (eLns (SQ (sB a))))⟩,inv:=λ_=>True,meas:=λ_=>0,ffz:=[401] }
def lsU(a:BkS)(z:DVal):List (Nat×HCell):=bkK (XU a.w a.k) ++ [(2048,.live (.box [.d (BX (sB a))])),(3144,.live (.box [.d z]))]
def ls9(a:BkS)(z:DVal):Shape:={ α:=One,dflt:=default,T:=λ_=>⟨[(2,.int a.st),(7,.bptr 2048 0),(8,.bptr 3144 0)],lsU a z⟩,inv:=λ_=>True,meas:=λ_=>0 }
def ls14(a:BkS)(z:DVal):Shape:={ α:=Nat,dflt:=0,T:=λi=>⟨[(7,.bptr 2048 0),(8,.bptr 3144 0),(11,.bptr 12064 0),(12,.bptr 12080 0),(13,.own 402 4 0 (Gz (sB a) a.st i).length),(67,.d (ePts (AA (sB a)))),(68,.int (AA (sB a)).length),(69,.int i)],lsU a z ++ [(12064,.live (.box [.int a.st,.int 0])),(12080,.live (.box [.int a.st,.int 200000])),(402,.live (rowL (Gz (sB a) a.st i)))]⟩,inv:=λi=>i<=(AA (sB a)).length,meas:=λi=>(AA (sB a)).length-i,first:=[(402,13064)],again:=[(402,17128)] }
def BLY(a:BkS)(v:AVal)(i:Nat):List (Nat×AVal):=[(7,.bptr 2048 0),(16,v),(85,.own 402 4 0 (MJ (sB a) a.st).length),(86,.int (MJ (sB a) a.st).length),(87,.int i)]
def BMJ(a:BkS):List (Nat×HCell):=bkK (XU a.w a.k) ++ [(2048,.live (.box [.d (BX (sB a))])),(402,.live (rowL (MJ (sB a) a.st)))]
def CUT(a:BkS):Shape:={ α:=Nat,dflt:=0,T:=λi=>⟨BLY a (.d ZU) i,BMJ a⟩,inv:=λi=>i<=(MJ (sB a) a.st).length/\((MJ (sB a) a.st).take i).filter (yU (sB a))=[],meas:=λi=>(MJ (sB a) a.st).length-i }
def CKW(a:BkS):Shape:={ α:=LnK,dflt:=default,T:=λx=>⟨BLY a (.own 403 4 0 x.l.length) x.i,BMJ a ++ [(403,.live (rowL x.l))]⟩,inv:=λx=>x.i<=(MJ (sB a) a.st).length/\x.l=SQ (sB a) ++ ((MJ (sB a) a.st).take x.i).filter (yU (sB a)),meas:=λx=>(MJ (sB a) a.st).length-x.i,first:=[(403,19016)] }
def CRV(a:BkS)(m:Nat):Shape:={ α:=Nat,dflt:=0,T:=λi=>⟨BLY a (.d ZU) i,BMJ a⟩,inv:=λi=>i<(MJ (sB a) a.st).length/\(MJ (sB a) a.st).length-i=m/\((MJ (sB a) a.st).take (i+1)).filter (yU (sB a))=[],meas:=λ_=>0 }
def BMP(a:BkS)(m:Nat)(f:List (Nat×Nat)):Shape:={ α:=LnK,dflt:=default,T:=λx=>⟨BLY a (.own 403 4 0 x.l.length) x.i,BMJ a ++ [(403,.live (rowL x.l))]⟩,inv:=λx=>x.i<(MJ (sB a) a.st).length/\(MJ (sB a) a.st).length-x.i=m/\x.l=SQ (sB a) ++ ((MJ (sB a) a.st).take (x.i+1)).filter (yU (sB a)),meas:=λ_=>0,first:=f }
def C_lns:Ctr:={ ro:=[100],α:=BkS,xs:=λa=>[.bptr 100 0,.int a.k,.int a.st],L:=λa=>bkL a.w,val:=λa=>.d (eLns (VP (sB a) a.st)),keep:=λa=>bkK (XU a.w a.k),pre:=λa=>[ZV a.w.g a.w.b/\0<=a.st/\a.st<=2000] }
def CLL(c:Sym.Spec):List (FuncId×Sym.Spec):=[(ACW,C_inside.spec dBkI),(vG,C_through.spec dGsK),(iM,C_passing.spec dGsL),(kS,wZ),(AQD,C_ends.spec WJ),(BCO,BPB),(ALT,c)]
noncomputable def CBK(a:BkS):Ann:={ ann 104 (CLL (C_cloN.spec dLs1)) with E:=[100,101],mt:=λid=>id==7||id==16||id==23,md:=λid=>if id=2 then some (λk=>if k=5 then 3 else 0) else none,iter:=λg=>if g=Cr then some (BNS a) else none,loops:=λid=>if id=14 then some [ls14 a (eLns (SQ (sB a)))] else if id=20 then some [CKW a] else none,cut:=λid=>if id=8 then some [ls8n a,ls8o a] else if id=9 then some [ls9 a (eLns (SQ (sB a)))] else none,cutIn:=λgs id=>if id=24 then some [BMP a (gs.getD 0 0) [(403,24048)],BMP a (gs.getD 0 0) []] else none }
noncomputable def BTH(a:BkS):Ann:={ ann 104 (CLL (C_cloE.spec dNil)) with E:=[100,101],mt:=λid=>id==7||id==16||id==23,md:=λid=>if id=2 then some (λk=>if k=5 then 3 else 0) else none,iter:=λg=>if g=Cr then some (BNS a) else none,loops:=λid=>if id=14 then some [ls14 a nilN] else if id=20 then some [CUT a,CKW a] else none,cut:=λid=>if id=8 then some [ls8n a,ls8o a] else if id=9 then some [ls9 a nilN] else none,cutIn:=λgs id=>if id=24 then some [CRV a (gs.getD 0 0),BMP a (gs.getD 0 0) [(403,24048)],BMP a (gs.getD 0 0) []] else none }
def BYP(a:BkS):Prop:=BQ Try.prog (CBK a) ABW (AI ABW) (C_lns.xs a) (AD (C_lns.L a)) (C_lns.val a) (C_lns.keep a) [] [403]
abbrev uP(a:BkS):List Gau:=MK a.w.g.length λ(i:Nat)=>gD a.w.g i
abbrev sF(a:BkS):Nat:=(uP a).length
abbrev ABX(a:BkS)(i:Nat):Gau:=gD (uP a) i
abbrev AMX(a:BkS)(i:Nat):Int:=(ABX a i).st
abbrev ASE(a:BkS)(i:Nat):Int:=(ABX a i).lo
abbrev AMK(a:BkS)(i:Nat):Int:=(ABX a i).hi
abbrev jC(a:BkS):List Int:=MK a.w.b.length λ(i:Nat)=>gD a.w.b i
abbrev rY(a:BkS):Nat:=(jC a).length
abbrev ARB(a:BkS)(i:Nat):Int:=gD (jC a) i
abbrev ANG:Value:=Value.slice none (0:Nat) (0:Nat)
abbrev HD:Prop:=ANG=ANG
abbrev PO(a:BkS):Prop:=∀(n:Int),a.w.has n=a.w.has n
abbrev PT(a:BkS):Prop:=∀(n:Int),a.w.st n=a.w.st n
abbrev AFC(a:BkS):Bk:=Bk.mk (uP a) (jC a) a.w.has a.w.st
abbrev AHN(a:BkS)(n:Int):List Ln:=QX (AFC a) n
abbrev wH(a:BkS)(n:Int):Nat:=(AHN a n).length
abbrev jW(a:BkS)(n:Int)(i:Nat):Ln:=gD (AHN a n) i
abbrev AIP(a:BkS)(n:Int)(i:Nat):Int:=(jW a n i).a0
abbrev AIY(a:BkS)(n:Int)(i:Nat):Int:=(jW a n i).a1
abbrev AFN(a:BkS)(n:Int)(i:Nat):Int:=(jW a n i).b0
abbrev AEH(a:BkS)(n:Int)(i:Nat):Int:=(jW a n i).b1
abbrev AEW(i:Nat)(a:BkS)(n:Int):Prop:=i<(QX a.w n).length
abbrev Qb(x:Gau):Prop:=(0:Int)<=x.st/\x.st<=(2000:Int)/\(0:Int)<=x.lo/\x.lo<=x.hi/\x.hi<=(200000:Int)
abbrev ADV(a:BkS):Prop:=(XU a.w a.k).g.length=a.w.g.length
abbrev AIF(i:Nat)(a:BkS):Prop:=i<(XU a.w a.k).g.length
abbrev wF(a:BkS)(i:Nat):Gau:=gD (XU a.w a.k).g i
abbrev xV(a:BkS)(i:Nat):Int:=(wF a i).st
abbrev vS(a:BkS)(i:Nat):Int:=(wF a i).lo
abbrev xJ(a:BkS)(i:Nat):Int:=(wF a i).hi
abbrev AHL(a:BkS):Prop:=∀(i:Nat),AIF i a->xV a i=(gD a.w.g i).st/\vS a i=(gD a.w.g i).lo/\xJ a i=(gD a.w.g i).hi
abbrev AEL(a:BkS):Prop:=(XU a.w a.k).b.length=a.w.b.length
abbrev AGE(i:Nat)(a:BkS):Prop:=i<(XU a.w a.k).b.length
abbrev vY(a:BkS)(i:Nat):Int:=gD (XU a.w a.k).b i
abbrev AIM(a:BkS):Prop:=∀(i:Nat),AGE i a->vY a i=gD a.w.b i
abbrev wI(i:Nat)(a:BkS)(n:Int):Prop:=i<(QX (XU a.w a.k) n).length
abbrev gS(a:BkS)(n:Int)(i:Nat):Ln:=gD (QX (XU a.w a.k) n) i
abbrev jD(a:BkS)(n:Int)(i:Nat):Int:=(gS a n i).a0
abbrev kF(a:BkS)(n:Int)(i:Nat):Int:=(gS a n i).a1
abbrev gW(a:BkS)(n:Int)(i:Nat):Int:=(gS a n i).b0
abbrev iV(a:BkS)(n:Int)(i:Nat):Int:=(gS a n i).b1
abbrev AFQ(a:BkS):List Gau:=Ja (AFC a) a.k
abbrev wL(a:BkS):Nat:=(AFQ a).length
abbrev ADX(a:BkS):Prop:=(sB a).length=wL a
abbrev iO(a:BkS)(i:Nat):Gau:=gD (AFQ a) i
abbrev AJC(a:BkS)(i:Nat):Int:=(iO a i).st
abbrev ADL(a:BkS)(i:Nat):Int:=(iO a i).lo
abbrev AEV(a:BkS)(i:Nat):Int:=(iO a i).hi
abbrev AFJ(a:BkS):Prop:=∀(i:Nat),i<(sB a).length->(gD (sB a) i).st=AJC a i/\(gD (sB a) i).lo=ADL a i/\(gD (sB a) i).hi=AEV a i
abbrev AHF(a:BkS):Prop:=(VP (sB a) a.st).length=(0:Nat)
abbrev Pr(a:BkS):Prop:=(XU a.w a.k).g.length=(XU a.w a.k).g.length
abbrev Qw(a:BkS):Prop:=∀(i:Nat),AIF i a->xV a i=xV a i/\vS a i=vS a i/\xJ a i=xJ a i
abbrev Pj(a:BkS):Prop:=(XU a.w a.k).b.length=(XU a.w a.k).b.length
abbrev Oc(a:BkS):Prop:=∀(i:Nat),AGE i a->vY a i=vY a i
abbrev Oh(a:BkS):Prop:=∀(n:Int),(XU a.w a.k).has n=(XU a.w a.k).has n
abbrev Pu(a:BkS):Prop:=∀(n:Int),(XU a.w a.k).st n=(XU a.w a.k).st n
abbrev Qn(a:BkS):Prop:=∀(n:Int),(QX (XU a.w a.k) n).length=(QX (XU a.w a.k) n).length/\∀(i:Nat),wI i a n->jD a n i=jD a n i/\kF a n i=kF a n i /\
 gW a n i=gW a n i/\iV a n i=iV a n i
abbrev AIZ(a:BkS):Prop:=Pr a/\Qw a/\Pj a/\Oc a/\HD/\Oh a/\Pu a/\Qn a
abbrev AHI(a:BkS):Prop:=(0:Int)<=a.st/\a.st<=(2000:Int)
abbrev Ai(a:BkS):List Gau:=MK (sB a).length λ(i:Nat)=>gD (sB a) i
abbrev jQ(a:BkS):Nat:=(Ai a).length
abbrev Rr(a:BkS):Prop:=jQ a=(sB a).length
abbrev xL(a:BkS)(i:Nat):Gau:=gD (Ai a) i
abbrev Qv(a:BkS):Prop:=∀(i:Nat),i<jQ a->(xL a i).st=(gD (sB a) i).st/\(xL a i).lo=(gD (sB a) i).lo/\(xL a i).hi=(gD (sB a) i).hi
abbrev KF:Prop:=(0:Nat)=(0:Nat)
abbrev AEB(a:BkS)(a1:Nat):Prop:=(Gz (sB a) a.st a1).length=(2:Nat)
abbrev AFO(a:BkS):List Pt:=AA (Ai a)
abbrev AHA(a:BkS):Nat:=(AFO a).length
abbrev AET(a:BkS)(i:Nat):Pt:=gD (AFO a) i
abbrev AEQ(a:Nat):Prop:=(↑a:Int)=(0:Int)
abbrev LV(a:BkS):Prop:=(sB a).length=(sB a).length
abbrev LS(a:BkS):Prop:=∀(i:Nat),i<(sB a).length->(gD (sB a) i).st=(gD (sB a) i).st/\(gD (sB a) i).lo=(gD (sB a) i).lo/\(gD (sB a) i).hi=(gD (sB a) i).hi
abbrev vM(a:BkS):Prop:=(SQ (sB a)).length=(SQ (sB a)).length
abbrev wJ(a:BkS):Prop:=∀(i:Nat),i<(SQ (sB a)).length->(gD (SQ (sB a)) i).a0=(gD (SQ (sB a)) i).a0/\(gD (SQ (sB a)) i).a1=(gD (SQ (sB a)) i).a1/\(gD (SQ (sB a)) i).b0=(gD (SQ (sB a))
 i).b0/\(gD (SQ (sB a)) i).b1=(gD (SQ (sB a)) i).b1
abbrev AHZ:Prop:=Int.ofNat (0:Nat)=Int.ofNat (0:Nat)
abbrev AIE:Prop:=Int.ofNat (200000:Nat)=Int.ofNat (200000:Nat)
abbrev xS(i:Nat)(a:BkS)(a1:Nat):Prop:=i<(Gz (sB a) a.st a1).length
abbrev gR(a:BkS)(a1:Nat)(i:Nat):Ln:=gD (Gz (sB a) a.st a1) i
abbrev hJ(a:BkS)(a1:Nat)(i:Nat):Int:=(gR a a1 i).a0
abbrev jR(i:Nat):Bool:=decide (i=(0:Nat))
abbrev iC(a:BkS)(a1:Nat)(i:Nat):Int:=(gR a a1 i).a1
abbrev jJ(a:BkS)(a1:Nat)(i:Nat):Int:=(gR a a1 i).b0
abbrev jA(a:BkS)(a1:Nat)(i:Nat):Int:=(gR a a1 i).b1
abbrev AGM(a:Nat)(a1:BkS):Prop:=(↑a:Int)<(↑(AA (sB a1)).length:Int)
abbrev AEM(a:Nat)(a1:BkS):Bool:=decide (AGM a a1)
abbrev AFP(a:Nat)(a1:BkS):Prop:=(0:Int)<=(↑a:Int)/\AGM a a1
abbrev Wi:Prop:=(4:Nat)=(4:Nat)
abbrev AHP:Prop:=(0:Nat)<(2:Nat)
abbrev wR(a:BkS)(a1:Nat):Nat:=(Gz (sB a) a.st a1).length+(2:Nat)
abbrev ADM(a:BkS)(a1:Nat)(a2:Nat):Prop:=(Gz (sB a) a.st a1).length=wR a a2
abbrev DR(a:BkS):Prop:=(AA (sB a)).length=(AA (sB a)).length
abbrev DT(a:BkS):Prop:=∀(i:Nat),i<(AA (sB a)).length->(gD (AA (sB a)) i).st=(gD (AA (sB a)) i).st/\(gD (AA (sB a)) i).fl=(gD (AA (sB a)) i).fl
abbrev JE(a:BkS):Prop:=(↑(AA (sB a)).length:Int)=(↑(AA (sB a)).length:Int)
abbrev jP(i:Nat)(a:BkS)(a1:Nat):Bool:=decide (xS i a a1)
abbrev iU(i:Nat)(a:BkS)(a1:Nat):Bool:=decide ((0:Nat)+(i-(Gz (sB a) a.st a1).length)=(0:Nat))
abbrev Ri(a:BkS)(a1:Nat):Nat:=(AA (sB a)).length-a1
abbrev AIH(a:BkS)(a1:Nat)(a2:Nat):Prop:=Ri a a1<Ri a a2
abbrev AFY(a:BkS):List Ln:=MK (SQ (sB a)).length λ(i:Nat)=>gD (SQ (sB a)) i
abbrev Wn(a:BkS):Nat:=(AFY a).length
abbrev iT(a:BkS)(i:Nat):Ln:=gD (AFY a) i
abbrev AHB(a:BkS)(i:Nat):Int:=(iT a i).a0
abbrev K3(a:BkS)(i:Nat):Int:=(iT a i).a1
abbrev C9(a:BkS)(i:Nat):Int:=(iT a i).b0
abbrev A4(a:BkS)(i:Nat):Int:=(iT a i).b1
abbrev Z6(a:LnK)(a1:BkS):Prop:=a.l.length=Wn a1
abbrev U8(a:BkS)(a1:Nat):Prop:=(MJ (sB a) a.st).length=(Gz (sB a) a.st a1).length
abbrev J7(i:Nat)(a:BkS):Prop:=i<(MJ (sB a) a.st).length
abbrev oX(a:BkS)(i:Nat):Int:=(gD (MJ (sB a) a.st) i).a0
abbrev mF(a:BkS)(i:Nat):Int:=(gD (MJ (sB a) a.st) i).a1
abbrev oI(a:BkS)(i:Nat):Int:=(gD (MJ (sB a) a.st) i).b0
abbrev lJ(a:BkS)(i:Nat):Int:=(gD (MJ (sB a) a.st) i).b1
abbrev nW(a:LnK)(a1:BkS):Prop:=a.i<=(MJ (sB a1) a1.st).length/\a.l=SQ (sB a1) ++ List.filter (yU (sB a1)) (List.take a.i (MJ (sB a1) a1.st))
abbrev A7(a:LnK)(a1:BkS):Prop:=(↑a.i:Int)<(↑(MJ (sB a1) a1.st).length:Int)
abbrev D2(a:LnK):Prop:=(0:Int)<=(↑a.i:Int)
abbrev E1(a:LnK):Nat:=(0:Nat)+a.i
abbrev Jg(a:BkS)(a1:LnK):Ln:=gD (MJ (sB a) a.st) (E1 a1)
abbrev N7(a:BkS)(a1:LnK):Bool:=Va (Jg a a1)
abbrev Po(a:BkS)(a1:LnK):Int:=(Jg a a1).a0
abbrev Px(a:BkS)(a1:LnK):Int:=(Jg a a1).a1
abbrev Sb(a:BkS)(a1:LnK):Int:=(Jg a a1).b0
abbrev Oq(a:BkS)(a1:LnK):Int:=(Jg a a1).b1
abbrev Nt(a:BkS):Prop:=jQ a<(4611686018427387904:Nat)
abbrev Qs(g:Gau)(a:BkS):Prop:=List.Mem g (Ai a)
abbrev pG:Prop:=(0:Nat)<(1:Nat)
abbrev pP:Prop:=(1:Nat)<=(1:Nat)/\(pG->Wi)
abbrev N4:Prop:=false=true->pG
abbrev Xt(a:LnK):Nat:=a.l.length+(1:Nat)
abbrev Q7(a:LnK):Prop:=(a.l.length=a.l.length/\((0:Nat)<a.l.length->Wi))/\pP/\N4/\Xt a<=(9223372036854775807:Nat)/\Xt a*(32:Nat)<=(140737488355328
 : Nat)
abbrev W0(a:LnK)(a1:LnK):Prop:=a.l.length=Xt a1
abbrev Nk(a:BkS):Prop:=(MJ (sB a) a.st).length=(MJ (sB a) a.st).length
abbrev lV(a:BkS):Prop:=(↑(MJ (sB a) a.st).length:Int)=(↑(MJ (sB a) a.st).length:Int)
abbrev F8(a:LnK)(a1:LnK):Prop:=(↑a.i:Int)=(↑a1.i:Int)
abbrev V3(a:BkS):Prop:=∀(i:Nat),J7 i a->oX a i=oX a i/\mF a i=mF a i/\oI a i=oI a i/\lJ a i=lJ a i
abbrev ZA(i:Nat)(a:LnK):Bool:=decide (i<a.l.length)
abbrev aJ(a:BkS)(a1:LnK):Nat:=(MJ (sB a) a.st).length-a1.i
abbrev pR(a:LnK)(a1:BkS)(a2:LnK):Prop:=a.i<(MJ (sB a1) a1.st).length/\aJ a1 a=aJ a1 a2/\a.l=SQ (sB a1) ++ List.filter (yU (sB a1)) (List.take (a.i+(1:Nat)) (MJ (sB a1)
 a1.st))
abbrev lN(a:LnK)(a1:LnK):Prop:=a.l.length=a1.l.length
abbrev Q3(a:BkS)(a1:LnK)(a2:LnK):Prop:=Pr a/\Qw a/\Pj a/\Oc a/\HD/\Oh a/\Pu a/\Qn a/\LV a/\LS a/\Nk a /\
 V3 a/\lN a1 a2/\∀(i:Nat),i<a1.l.length->(gD a1.l i).a0=(gD a2.l i).a0/\(gD a1.l i).a1=(gD a2.l i).a1/\(gD a1.l i).b0=(gD a2.l i).b0/\(gD a1.l i).b1=(gD a2.l i).b1
abbrev J0(a:BkS)(a1:LnK):Prop:=∀(a_1:LnK),pR a_1 a a1->∃(a_3:LnK),(KF/\lN a_3 a_1/\KF/\Nk a/\lV a/\(↑a_3.i:Int)=IntKind.i64.wrap ((↑a_1.i
 : Int)+(1:Int))/\Q3 a a_3 a_1)/\nW a_3 a/\aJ a a_3<aJ a a1
abbrev zY(a:LnK):Prop:=(0:Nat)+a.l.length<=a.l.length
abbrev Xe(a:LnK)(j:Nat):Ln:=gD a.l ((0:Nat)+j)
abbrev O1(a:LnK)(j:Nat):Int:=(Xe a j).a0
abbrev U1(a:LnK)(j:Nat):Int:=(Xe a j).a1
abbrev zZ(a:LnK)(j:Nat):Int:=(Xe a j).b0
abbrev B5(a:LnK)(j:Nat):Int:=(Xe a j).b1
abbrev O7(a:BkS):Prop:=∀(a_1:One),True->bif bif decide ((↑(sB a).length:Int)>(0:Int)) then (↑(SQ (sB a)).length:Int)==(0:Int) else false then AHF a/\AHF a/\AIZ a else
 (AHI a/\AHI a)/\(Rr a/\Qv a/\jQ a<(1073741824:Nat)/\True)/\(∃(a_3:Nat),(KF/\AEB a a_3/\(AA (sB a)).length=AHA a/\(∀(i:Nat),i<(AA (sB
 a)).length->(gD (AA (sB a)) i).st=(AET a i).st/\(gD (AA (sB a)) i).fl=(AET a i).fl)/\(↑(AA (sB a)).length:Int)=(↑(AHA a):Int)/\AEQ a_3/\Pr a/\Qw a /\
 Pj a/\Oc a/\HD/\Oh a/\Pu a/\Qn a/\LV a/\LS a/\vM a/\wJ a/\a.st=a.st/\AHZ/\a.st=a.st/\AIE/\AEB a a_3/\∀(i:Nat),
 xS i a a_3->(hJ a a_3 i=bif jR i then (BT (Pt.mk a.st (0:Int))).a0 else (BT (Pt.mk a.st (200000:Int))).a0)/\(iC a a_3 i=bif jR i then (BT (Pt.mk a.st (0:Int))).a1 else
 (BT (Pt.mk a.st (200000:Int))).a1)/\(jJ a a_3 i=bif jR i then (BT (Pt.mk a.st (0:Int))).b0 else (BT (Pt.mk a.st (200000:Int))).b0)/\jA a a_3 i=bif jR i then (BT (Pt.mk a.st
 (0:Int))).b1 else (BT (Pt.mk a.st (200000:Int))).b1)/\a_3.le (AA (sB a)).length)/\∀(a_3:Nat),a_3.le (AA (sB a)).length->bif AEM a_3 a then AFP a_3 a/\(((Gz (sB a) a.st a_3).length=(Gz
 (sB a) a.st a_3).length/\((0:Nat)<(Gz (sB a) a.st a_3).length->Wi))/\((2:Nat)<=(2:Nat)/\(AHP->Wi))/\(false=true->AHP)/\wR a a_3<=(9223372036854775807:Nat) /\
 wR a a_3*(32:Nat)<=(140737488355328:Nat))/\∃(a_5:Nat),(KF/\ADM a a_5 a_3/\DR a/\DT a/\JE a/\(↑a_5:Int)=IntKind.i64.wrap ((↑a_3:Int)+(1:Int))/\Pr
 a/\Qw a/\Pj a/\Oc a/\HD/\Oh a/\Pu a/\Qn a/\LV a/\LS a/\vM a/\wJ a/\a.st=a.st/\AHZ/\a.st=a.st/\AIE/\ADM a
 a_5 a_3/\∀(i:Nat),xS i a a_5->(hJ a a_5 i=bif jP i a a_3 then hJ a a_3 i else bif iU i a a_3 then a.st else (gD (AA (sB a)) a_3).st)/\(iC a a_5 i=bif jP i a
 a_3 then iC a a_3 i else bif iU i a a_3 then (0:Int) else (gD (AA (sB a)) a_3).fl)/\(jJ a a_5 i=bif jP i a a_3 then jJ a a_3 i else bif iU i a a_3 then (gD (AA (sB a))
 a_3).st else a.st)/\jA a a_5 i=bif jP i a a_3 then jA a a_3 i else bif iU i a a_3 then (gD (AA (sB a)) a_3).fl else (200000:Int))/\a_5.le (AA (sB a)).length/\AIH a a_5 a_3
 else (Wn a=(SQ (sB a)).length/\(∀(i:Nat),i<Wn a->AHB a i=(gD (SQ (sB a)) i).a0/\K3 a i=(gD (SQ (sB a)) i).a1/\C9 a i=(gD (SQ (sB a)) i).b0/\A4 a i=(gD
 (SQ (sB a)) i).b1)/\(0:Nat)<Wn a/\Wn a<(1073741824:Nat))/\(∃(a_5:LnK),(KF/\Z6 a_5 a/\KF/\U8 a a_3/\(↑(MJ (sB a) a.st).length:Int)=(↑(Gz (sB a) a.st
 a_3).length:Int)/\(↑a_5.i:Int)=(0:Int)/\Pr a/\Qw a/\Pj a/\Oc a/\HD/\Oh a/\Pu a/\Qn a/\LV a/\LS a/\U8 a a_3/\(∀(i:Nat),
 J7 i a->oX a i=hJ a a_3 i/\mF a i=iC a a_3 i/\oI a i=jJ a a_3 i/\lJ a i=jA a a_3 i)/\Z6 a_5 a/\∀(i:Nat),i<a_5.l.length->(gD
 a_5.l i).a0=AHB a i/\(gD a_5.l i).a1=K3 a i/\(gD a_5.l i).b0=C9 a i/\(gD a_5.l i).b1=A4 a i)/\nW a_5 a)/\∀(a_5:LnK),nW a_5 a->bif decide (A7 a_5 a)
 then (((D2 a_5/\A7 a_5 a)/\(E1 a_5).succ.le (MJ (sB a) a.st).length)/\(N7 a a_5=true->Rr a/\Qv a/\Po a a_5=Po a a_5/\Px a a_5=Px
 a a_5/\Sb a a_5=Sb a a_5/\Oq a a_5=Oq a a_5/\Nt a/\∀(g:Gau),Qs g a->((0:Int)<=Po a a_5/\Po a a_5<Sb a a_5/\Sb a a_5 <=
 (2000:Int)/\(0:Int)<=Px a a_5/\Px a a_5<=Oq a a_5/\Oq a a_5<=(200000:Int))/\Qb g)/\bif bif N7 a a_5 then (Ai a).all λ(g:Gau)=>LB (Jg a
 a_5) g else false then Q7 a_5/\∃(a_7:LnK),(KF/\W0 a_7 a_5/\KF/\Nk a/\lV a/\F8 a_7 a_5/\Pr a/\Qw a/\Pj a/\Oc a/\HD /\
 Oh a/\Pu a/\Qn a/\LV a/\LS a/\Nk a/\V3 a/\W0 a_7 a_5/\∀(i:Nat),i<a_7.l.length->((gD a_7.l i).a0=bif ZA i a_5 then (gD a_5.l i).a0 else
 Po a a_5)/\((gD a_7.l i).a1=bif ZA i a_5 then (gD a_5.l i).a1 else Px a a_5)/\((gD a_7.l i).b0=bif ZA i a_5 then (gD a_5.l i).b0 else Sb a a_5)/\(gD a_7.l i).b1=bif
 ZA i a_5 then (gD a_5.l i).b1 else Oq a a_5)/\pR a_7 a a_5 else ∃(a_7:LnK),(KF/\lN a_7 a_5/\KF/\Nk a/\lV a/\F8 a_7 a_5/\Q3 a a_7
 a_5)/\pR a_7 a a_5)/\J0 a a_5/\J0 a a_5 else (VP (sB a) a.st).length=a_5.l.length/\zY a_5/\(∀(j:Nat),j<(VP (sB a) a.st).length->(gD (VP (sB a) a.st) j).a0=O1
 a_5 j/\(gD (VP (sB a) a.st) j).a1=U1 a_5 j/\(gD (VP (sB a) a.st) j).b0=zZ a_5 j/\(gD (VP (sB a) a.st) j).b1=B5 a_5 j)/\AIZ a
abbrev O4(a:BkS):List Gau:=MK (wL a) λ(i:Nat)=>iO a i
abbrev Yr(a:BkS):Nat:=(O4 a).length
abbrev bL(a:BkS)(i:Nat):Gau:=gD (O4 a) i
abbrev F6(a:BkS)(i:Nat):Int:=(bL a i).st
abbrev Y6(a:BkS)(i:Nat):Int:=(bL a i).lo
abbrev U6(a:BkS)(i:Nat):Int:=(bL a i).hi
abbrev kZ(a:BkS):List Gau:=MK (Yr a) λ(i:Nat)=>bL a i
abbrev mW(a:BkS):Nat:=(kZ a).length
abbrev lI(a:BkS)(i:Nat):Gau:=gD (kZ a) i
abbrev zP(a:BkS):List Pt:=AA (kZ a)
abbrev zX(a:BkS):Nat:=(zP a).length
abbrev E8(a:BkS):Prop:=(AA (sB a)).length=zX a
abbrev J4(a:BkS)(i:Nat):Pt:=gD (zP a) i
abbrev D8(a:BkS):Prop:=∀(i:Nat),i<(AA (sB a)).length->(gD (AA (sB a)) i).st=(J4 a i).st/\(gD (AA (sB a)) i).fl=(J4 a i).fl
abbrev QM(a:BkS):Prop:=a.w.g.length=a.w.g.length
abbrev PZ(a:BkS):Prop:=∀(i:Nat),i<a.w.g.length->(gD a.w.g i).st=(gD a.w.g i).st/\(gD a.w.g i).lo=(gD a.w.g i).lo/\(gD a.w.g i).hi=(gD a.w.g i).hi
abbrev QU(a:BkS):Prop:=a.w.b.length=a.w.b.length
abbrev PY(a:BkS):Prop:=∀(i:Nat),i<a.w.b.length->gD a.w.b i=gD a.w.b i
abbrev QO(a:BkS):Prop:=∀(n:Int),(QX a.w n).length=(QX a.w n).length/\∀(i:Nat),AEW i a n->(gD (QX a.w n) i).a0=(gD (QX a.w n) i).a0/\(gD (QX a.w n) i).a1=(gD (QX a.w n) i).a1 /\
 (gD (QX a.w n) i).b0=(gD (QX a.w n) i).b0/\(gD (QX a.w n) i).b1=(gD (QX a.w n) i).b1
abbrev W9:Prop:=KF/\∀(i:Nat),i<(0:Nat)->false=false
abbrev Zq(a:Nat)(a1:BkS):Prop:=a<=(AA (sB a1)).length/\List.filter (Hn (sB a1)) (Te (sB a1) a)=[]
abbrev nI:Prop:=(True/\((0:Nat)<(0:Nat)->(0:Nat)=(4:Nat)))/\pP/\(true=true->pG)/\(1:Nat)<=(9223372036854775807:Nat)/\(32:Nat)<=(140737488355328:Nat)
abbrev oO(a:LnJ):Prop:=(↑a.j:Int)=(0:Int)
abbrev Zn(a:LnJ):Prop:=a.l.length=(1:Nat)
abbrev F5(a:LnJ)(a1:BkS):Prop:=a.i<(AA (sB a1)).length
abbrev A0(a:LnJ)(a1:BkS):Prop:=a.j<=(AA (sB a1)).length
abbrev V8(a:BkS)(a1:LnJ):Nat:=(AA (sB a)).length-a1.i
abbrev E9(a:LnJ)(a1:BkS):Prop:=a.l=List.filter (Hn (sB a1)) (TB (sB a1) a.i a.j)
abbrev Yu(a:LnJ)(a1:BkS)(a2:Nat):Prop:=F5 a a1/\A0 a a1/\V8 a1 a=Ri a1 a2/\E9 a a1
abbrev X9(a:IJ)(a1:BkS):Prop:=a.i<(AA (sB a1)).length
abbrev P5(a:IJ)(a1:BkS):Prop:=a.j<=(AA (sB a1)).length
abbrev N2(a:BkS)(a1:IJ):Nat:=(AA (sB a)).length-a1.i
abbrev T1(a:BkS)(a1:IJ):Prop:=List.filter (Hn (sB a)) (TB (sB a) a1.i a1.j)=[]
abbrev nH(a:IJ)(a1:BkS)(a2:Nat):Prop:=X9 a a1/\P5 a a1/\N2 a1 a=Ri a1 a2/\T1 a1 a
abbrev H4(a:IJ)(a1:BkS):Prop:=(↑a.j:Int)<(↑(AA (sB a1)).length:Int)
abbrev K0(a:IJ)(a1:BkS):Bool:=decide (H4 a a1)
abbrev V5(a:IJ)(a1:BkS):Prop:=(0:Int)<=(↑a.j:Int)/\H4 a a1
abbrev zT(a:BkS)(a1:IJ):Ln:=Ln.mk (gD (AA (sB a)) a1.i).st (gD (AA (sB a)) a1.i).fl (gD (AA (sB a)) a1.j).st (gD (AA (sB a)) a1.j).fl
abbrev K2(a:BkS)(a1:IJ):Bool:=Va (zT a a1)
abbrev H8(a:BkS)(a1:IJ):Bool:=if true=true then K2 a a1 else !K2 a a1
abbrev S1(a:BkS)(a1:IJ):Prop:=Rr a/\Qv a/\(gD (AA (sB a)) a1.i).st=(gD (AA (sB a)) a1.i).st/\(gD (AA (sB a)) a1.i).fl=(gD (AA (sB a)) a1.i).fl/\(gD (AA (sB a))
 a1.j).st=(gD (AA (sB a)) a1.j).st/\(gD (AA (sB a)) a1.j).fl=(gD (AA (sB a)) a1.j).fl/\Nt a/\∀(g:Gau),Qs g a->((0:Int)<=(gD (AA (sB a)) a1.i).st/\(gD (AA (sB a)) a1.i).st <
 (gD (AA (sB a)) a1.j).st/\(gD (AA (sB a)) a1.j).st<=(2000:Int)/\(0:Int)<=(gD (AA (sB a)) a1.i).fl/\(gD (AA (sB a)) a1.i).fl<=(gD (AA (sB a)) a1.j).fl/\(gD (AA (sB a)) a1.j).fl<=(200000 :
 Int))/\Qb g
abbrev C4(a:BkS)(a1:IJ):Bool:=(Ai a).all λ(g:Gau)=>LB (zT a a1) g
abbrev zU(a:IJ):Int:=IntKind.i64.wrap ((↑a.j:Int)+(1:Int))
abbrev M9(a:BkS)(a1:LnJ)(a2:IJ)(l:Nat):Prop:=DR a/\DT a/\JE a/\(↑a1.j:Int)=zU a2/\Fn.yield l=Fn.yield l/\DR a/\DT a/\DR a/\DT
 a/\JE a/\(↑a1.i:Int)=(↑a2.i:Int)/\(gD (AA (sB a)) a1.i).st=(gD (AA (sB a)) a2.i).st/\(gD (AA (sB a)) a1.i).fl=(gD (AA (sB a)) a2.i).fl/\QM a/\PZ a/\QU a /\
 PY a/\HD/\PO a/\PT a/\QO a/\LV a/\LS a/\KF/\Zn a1/\Zn a1/\∀(i:Nat),i<a1.l.length->(gD a1.l i).a0=(gD (AA (sB a)) a2.i).st /\
 (gD a1.l i).a1=(gD (AA (sB a)) a2.i).fl/\(gD a1.l i).b0=(gD (AA (sB a)) a2.j).st/\(gD a1.l i).b1=(gD (AA (sB a)) a2.j).fl
abbrev oW(a:BkS)(a1:LnJ):Nat:=(AA (sB a)).length-a1.j
abbrev kR(a:BkS)(a1:IJ):Nat:=(AA (sB a)).length-a1.j
abbrev H6(a:BkS)(a1:LnJ)(a2:IJ):Prop:=oW a a1<kR a a2
abbrev oQ(a:BkS):Prop:=QM a/\PZ a/\QU a/\PY a/\HD/\PO a/\PT a/\QO a/\LV a/\LS a/\W9
abbrev H5(a:BkS)(a1:IJ)(a2:IJ)(l:Nat):Prop:=DR a/\DT a/\JE a/\(↑a1.j:Int)=zU a2/\Fn.yield l=Fn.yield l/\DR a/\DT a/\DR a/\DT
 a/\JE a/\(↑a1.i:Int)=(↑a2.i:Int)/\(gD (AA (sB a)) a1.i).st=(gD (AA (sB a)) a2.i).st/\(gD (AA (sB a)) a1.i).fl=(gD (AA (sB a)) a2.i).fl/\oQ a
abbrev M0(a:BkS)(a1:IJ)(a2:IJ):Prop:=kR a a1<kR a a2
abbrev X3(a:BkS)(a1:IJ)(l:Nat)(a2:Nat):Prop:=∃(a_1:IJ),H5 a a_1 a1 l/\nH a_1 a a2/\M0 a a_1 a1
abbrev Q5(l:Nat)(a:BkS)(a1:Nat)(a2:IJ):Prop:=Fn.yield l=Fn.yield l/\DR a/\DT a/\DR a/\DT a/\JE a/\(↑a1:Int)=IntKind.i64.wrap ((↑a2.i:Int)+(1 :
 Int))/\oQ a
abbrev J5(a:LnJ)(a1:BkS):Prop:=(↑a.j:Int)<(↑(AA (sB a1)).length:Int)
abbrev K5(a:LnJ)(a1:BkS):Bool:=decide (J5 a a1)
abbrev K8(a:LnJ)(a1:BkS):Prop:=(0:Int)<=(↑a.j:Int)/\J5 a a1
abbrev C2(a:BkS)(a1:LnJ):Ln:=Ln.mk (gD (AA (sB a)) a1.i).st (gD (AA (sB a)) a1.i).fl (gD (AA (sB a)) a1.j).st (gD (AA (sB a)) a1.j).fl
abbrev V7(a:BkS)(a1:LnJ):Bool:=Va (C2 a a1)
abbrev D5(a:BkS)(a1:LnJ):Bool:=if true=true then V7 a a1 else !V7 a a1
abbrev Y7(a:BkS)(a1:LnJ):Prop:=Rr a/\Qv a/\(gD (AA (sB a)) a1.i).st=(gD (AA (sB a)) a1.i).st/\(gD (AA (sB a)) a1.i).fl=(gD (AA (sB a)) a1.i).fl/\(gD (AA (sB a))
 a1.j).st=(gD (AA (sB a)) a1.j).st/\(gD (AA (sB a)) a1.j).fl=(gD (AA (sB a)) a1.j).fl/\Nt a/\∀(g:Gau),Qs g a->((0:Int)<=(gD (AA (sB a)) a1.i).st/\(gD (AA (sB a)) a1.i).st <
 (gD (AA (sB a)) a1.j).st/\(gD (AA (sB a)) a1.j).st<=(2000:Int)/\(0:Int)<=(gD (AA (sB a)) a1.i).fl/\(gD (AA (sB a)) a1.i).fl<=(gD (AA (sB a)) a1.j).fl/\(gD (AA (sB a)) a1.j).fl<=(200000 :
 Int))/\Qb g
abbrev zN(a:BkS)(a1:LnJ):Bool:=(Ai a).all λ(g:Gau)=>LB (C2 a a1) g
abbrev pF(a:LnJ):Nat:=a.l.length+(1:Nat)
abbrev V6(a:LnJ):Prop:=(a.l.length=a.l.length/\((0:Nat)<a.l.length->Wi))/\pP/\N4/\pF a<=(9223372036854775807:Nat)/\pF a*(32:Nat)<=(140737488355328
 : Nat)
abbrev S6(a:LnJ)(a1:LnJ):Prop:=(↑a.j:Int)=IntKind.i64.wrap ((↑a1.j:Int)+(1:Int))
abbrev T2(a:LnJ)(a1:LnJ):Prop:=(↑a.i:Int)=(↑a1.i:Int)
abbrev zS(a:BkS)(a1:LnJ)(a2:LnJ):Prop:=(gD (AA (sB a)) a1.i).st=(gD (AA (sB a)) a2.i).st
abbrev B9(a:BkS)(a1:LnJ)(a2:LnJ):Prop:=(gD (AA (sB a)) a1.i).fl=(gD (AA (sB a)) a2.i).fl
abbrev zR(a:LnJ)(a1:LnJ):Prop:=a.l.length=pF a1
abbrev Xl(i:Nat)(a:LnJ):Bool:=decide (i<a.l.length)
abbrev N3(a:BkS)(a1:LnJ)(a2:LnJ)(l:Nat):Prop:=DR a/\DT a/\JE a/\S6 a1 a2/\Fn.yield l=Fn.yield l/\DR a/\DT a/\DR a/\DT a /\
 JE a/\T2 a1 a2/\zS a a1 a2/\B9 a a1 a2/\QM a/\PZ a/\QU a/\PY a/\HD/\PO a/\PT a/\QO a/\LV a/\LS a /\
 KF/\zR a1 a2/\zR a1 a2/\∀(i:Nat),i<a1.l.length->((gD a1.l i).a0=bif Xl i a2 then (gD a2.l i).a0 else (gD (AA (sB a)) a2.i).st)/\((gD a1.l i).a1=bif Xl i a2 then
 (gD a2.l i).a1 else (gD (AA (sB a)) a2.i).fl)/\((gD a1.l i).b0=bif Xl i a2 then (gD a2.l i).b0 else (gD (AA (sB a)) a2.j).st)/\(gD a1.l i).b1=bif Xl i a2 then (gD a2.l i).b1 else (gD (AA
 (sB a)) a2.j).fl
abbrev D9(a:BkS)(a1:LnJ)(a2:LnJ):Prop:=oW a a1<oW a a2
abbrev C5(a:LnJ)(a1:BkS)(a2:Nat)(a3:LnJ):Prop:=Yu a a1 a2/\D9 a1 a a3
abbrev E6(a:LnJ)(a1:LnJ):Prop:=a.l.length=a1.l.length
abbrev T6(a:BkS)(a1:LnJ)(a2:LnJ)(l:Nat):Prop:=DR a/\DT a/\JE a/\S6 a1 a2/\Fn.yield l=Fn.yield l/\DR a/\DT a/\DR a/\DT a /\
 JE a/\T2 a1 a2/\zS a a1 a2/\B9 a a1 a2/\QM a/\PZ a/\QU a/\PY a/\HD/\PO a/\PT a/\QO a/\LV a/\LS a /\
 KF/\E6 a1 a2/\E6 a1 a2/\∀(i:Nat),i<a1.l.length->(gD a1.l i).a0=(gD a2.l i).a0/\(gD a1.l i).a1=(gD a2.l i).a1/\(gD a1.l i).b0=(gD a2.l i).b0/\(gD a1.l i).b1=(gD a2.l i).b1
abbrev zQ(a:BkS)(a1:LnJ)(l:Nat)(a2:Nat):Prop:=∃(a_1:LnJ),T6 a a_1 a1 l/\C5 a_1 a a2 a1
abbrev G9(a:LnK)(a1:LnJ):Prop:=a.l.length=a1.l.length
abbrev F0(l:Nat)(a:BkS)(a1:LnK)(a2:LnJ):Prop:=Fn.yield l=Fn.yield l/\DR a/\DT a/\DR a/\DT a/\JE a/\(↑a1.i:Int)=IntKind.i64.wrap ((↑a2.i:Int)+(1 :
 Int))/\QM a/\PZ a/\QU a/\PY a/\HD/\PO a/\PT a/\QO a/\LV a/\LS a/\KF/\G9 a1 a2/\G9 a1 a2/\∀(i:Nat),i <
 a1.l.length->(gD a1.l i).a0=(gD a2.l i).a0/\(gD a1.l i).a1=(gD a2.l i).a1/\(gD a1.l i).b0=(gD a2.l i).b0/\(gD a1.l i).b1=(gD a2.l i).b1
abbrev mG(a:LnK)(a1:BkS):Prop:=a.i<=(AA (sB a1)).length/\a.l=List.filter (Hn (sB a1)) (Te (sB a1) a.i)
abbrev Io(a:BkS)(a1:LnK):Nat:=(AA (sB a)).length-a1.i
abbrev L9(a:BkS)(a1:Nat)(l:Nat):Prop:=∀(a_1:LnJ),Yu a_1 a a1->bif K5 a_1 a then K8 a_1 a/\bif D5 a a_1 then l=l/\Y7 a a_1/\bif zN a a_1 then
 V6 a_1/\∃(a_3:LnJ),N3 a a_3 a_1 l/\C5 a_3 a a1 a_1 else zQ a a_1 l a1 else zQ a a_1 l a1 else ∃(a_3:LnK),F0 l a a_3 a_1/\mG a_3 a/\Io a a_3 <
 Ri a a1
abbrev P2(a:BkS)(a1:Nat)(l:Nat):Prop:=(∀(a_1:IJ),nH a_1 a a1->bif K0 a_1 a then V5 a_1 a/\bif H8 a a_1 then l=l/\S1 a a_1/\bif C4 a a_1 then
 nI/\∃(a_3:LnJ),M9 a a_3 a_1 l/\Yu a_3 a a1/\H6 a a_3 a_1 else X3 a a_1 l a1 else X3 a a_1 l a1 else ∃(a_3:Nat),Q5 l a a_3 a_1/\Zq a_3 a /\
 AIH a a_3 a1)/\L9 a a1 l/\L9 a a1 l
abbrev F1(a:BkS):Prop:=(SQ (sB a)).length=(0:Nat)
abbrev O5(a:LnK)(a1:BkS):Prop:=(↑a.i:Int)<(↑(AA (sB a1)).length:Int)
abbrev Qd(a:BkS)(a1:LnK):Int:=(BT (gD (AA (sB a)) a1.i)).a0
abbrev Pq(a:BkS)(a1:LnK):Int:=(BT (gD (AA (sB a)) a1.i)).a1
abbrev Rc(a:BkS)(a1:LnK):Int:=(BT (gD (AA (sB a)) a1.i)).b0
abbrev Sc(a:BkS)(a1:LnK):Int:=(BT (gD (AA (sB a)) a1.i)).b1
abbrev R8(a:LnJ)(a1:LnK):Prop:=(↑a.i:Int)=(↑a1.i:Int)
abbrev V2(a:BkS)(a1:LnJ)(a2:LnK):Prop:=(gD (AA (sB a)) a1.i).st=(gD (AA (sB a)) a2.i).st
abbrev K1(a:BkS)(a1:LnJ)(a2:LnK):Prop:=(gD (AA (sB a)) a1.i).fl=(gD (AA (sB a)) a2.i).fl
abbrev H3(a:LnJ)(a1:LnK):Prop:=a.l.length=Xt a1
abbrev Rq(a:LnJ)(a1:BkS)(a2:LnK):Prop:=F5 a a1/\A0 a a1/\V8 a1 a=Io a1 a2/\E9 a a1
abbrev H9(a:IJ)(a1:BkS)(a2:LnK):Prop:=X9 a a1/\P5 a a1/\N2 a1 a=Io a1 a2/\T1 a1 a
abbrev Y0(a:BkS)(a1:IJ)(l:Nat)(a2:LnK):Prop:=∃(a_1:IJ),H5 a a_1 a1 l/\H9 a_1 a a2/\M0 a a_1 a1
abbrev O9(a:LnJ)(a1:BkS)(a2:LnK)(a3:LnJ):Prop:=Rq a a1 a2/\D9 a1 a a3
abbrev L4(a:BkS)(a1:LnJ)(l:Nat)(a2:LnK):Prop:=∃(a_1:LnJ),T6 a a_1 a1 l/\O9 a_1 a a2 a1
abbrev D4(a:BkS)(a1:LnK)(l:Nat):Prop:=∀(a_1:LnJ),Rq a_1 a a1->bif K5 a_1 a then K8 a_1 a/\bif D5 a a_1 then l=l/\Y7 a a_1/\bif zN a a_1 then
 V6 a_1/\∃(a_3:LnJ),N3 a a_3 a_1 l/\O9 a_3 a a1 a_1 else L4 a a_1 l a1 else L4 a a_1 l a1 else ∃(a_3:LnK),F0 l a a_3 a_1/\mG a_3 a/\Io a a_3 <
 Io a a1
abbrev M5(a:BkS)(a1:LnK)(l:Nat):Prop:=(∀(a_1:IJ),H9 a_1 a a1->bif K0 a_1 a then V5 a_1 a/\bif H8 a a_1 then l=l/\S1 a a_1/\bif C4 a a_1 then
 nI/\∃(a_3:LnJ),M9 a a_3 a_1 l/\Rq a_3 a a1/\H6 a a_3 a_1 else Y0 a a_1 l a1 else Y0 a a_1 l a1 else ∃(a_3:Nat),Q5 l a a_3 a_1/\Zq a_3 a /\
 Ri a a_3<Io a a1)/\D4 a a1 l/\D4 a a1 l
abbrev V1(a:LnJ)(a1:LnK):Prop:=a.l.length=a1.l.length
abbrev Pf(n:Int)(a:BkS):Bool:=decide (n=a.k)
abbrev E7(a:BkS):Prop:=∀(a_1:One),True->∃(a_3:One),(a.st=a.st/\ADV a/\AHL a/\AEL a/\AIM a/\HD/\(∀(n:Int),(XU a.w a.k).has n=ZS a.w.has a.k n)/\(∀
 (n:Int),(XU a.w a.k).st n=yE a.w.has a.w.st a.k n)/\(∀(n:Int),((QX (XU a.w a.k) n).length=bif Pf n a then (SQ (sB a)).length else (QX a.w n).length)/\∀(i:Nat),wI i a n->(jD
 a n i=bif Pf n a then (gD (SQ (sB a)) i).a0 else (gD (QX a.w n) i).a0)/\(kF a n i=bif Pf n a then (gD (SQ (sB a)) i).a1 else (gD (QX a.w n) i).a1)/\(gW a n i=bif Pf n a
 then (gD (SQ (sB a)) i).b0 else (gD (QX a.w n) i).b0)/\iV a n i=bif Pf n a then (gD (SQ (sB a)) i).b1 else (gD (QX a.w n) i).b1)/\LV a/\LS a/\vM a/\wJ a)/\True
theorem CGS(a:BkS):(BYP a)=((a.k=a.k/\sF a=a.w.g.length/\(∀(i:Nat),i<sF a->AMX a i=(gD a.w.g i).st/\ASE a i=(gD a.w.g i).lo/\AMK a i=(gD a.w.g i).hi) /\
 rY a=a.w.b.length/\(∀(i:Nat),i<rY a->ARB a i=gD a.w.b i)/\HD/\PO a/\PT a/\(∀(n:Int),wH a n=(QX a.w n).length/\∀(i:Nat),i<wH a n ->
 AIP a n i=(gD (QX a.w n) i).a0/\AIY a n i=(gD (QX a.w n) i).a1/\AFN a n i=(gD (QX a.w n) i).b0/\AEH a n i=(gD (QX a.w n) i).b1)/\a.w.g.length=sF a/\(∀(i:Nat),i <
 a.w.g.length->(gD a.w.g i).st=AMX a i/\(gD a.w.g i).lo=ASE a i/\(gD a.w.g i).hi=AMK a i)/\a.w.b.length=rY a/\(∀(i:Nat),i<a.w.b.length->gD a.w.b i=ARB a i)/\HD /\
 PO a/\PT a/\(∀(n:Int),(QX a.w n).length=wH a n/\∀(i:Nat),AEW i a n->(gD (QX a.w n) i).a0=AIP a n i/\(gD (QX a.w n) i).a1=AIY a n i/\(gD (QX a.w n) i).b0 =
 AFN a n i/\(gD (QX a.w n) i).b1=AEH a n i)/\(sF a<=(24:Nat)/\(∀(x:Gau),List.Mem x (uP a)->Qb x)/\rY a<=(24:Nat)/\List.Pairwise (λ(x1 x2:Int)=>x1<x2)
 (jC a)/\∀(x:Int),List.Mem x (jC a)->(1:Int)<=x/\x<=(2000:Int))/\True)/\HD/\bif a.w.has a.k then (∃(a_1:One),(a.st=a.st/\ADV a/\AHL a/\AEL a/\AIM a /\
 HD/\(∀(n:Int),(XU a.w a.k).has n=a.w.has n)/\(∀(n:Int),(XU a.w a.k).st n=a.w.st n)/\(∀(n:Int),(QX (XU a.w a.k) n).length=(QX a.w n).length/\∀(i:Nat),wI i a n->jD a n i
 = (gD (QX a.w n) i).a0/\kF a n i=(gD (QX a.w n) i).a1/\gW a n i=(gD (QX a.w n) i).b0/\iV a n i=(gD (QX a.w n) i).b1)/\ADX a/\AFJ a/\(SQ (sB a)).length=(QX a.w
 a.k).length/\∀(i:Nat),i<(SQ (sB a)).length->(gD (SQ (sB a)) i).a0=(gD (QX a.w a.k) i).a0/\(gD (SQ (sB a)) i).a1=(gD (QX a.w a.k) i).a1/\(gD (SQ (sB a)) i).b0=(gD (QX a.w a.k) i).b0/\(gD (SQ (sB
 a)) i).b1=(gD (QX a.w a.k) i).b1)/\True)/\O7 a else (((Yr a=wL a/\∀(i:Nat),i<Yr a->F6 a i=AJC a i/\Y6 a i=ADL a i/\U6 a i =
 AEV a i)/\∀(l:Nat),(mW a=Yr a/\(∀(i:Nat),i<mW a->(lI a i).st=F6 a i/\(lI a i).lo=Y6 a i/\(lI a i).hi=U6 a i) /\
 mW a<(1073741824:Nat)/\True)/\(∃(a_1:Nat),(Fn.yield l=Fn.yield l/\E8 a/\D8 a/\E8 a/\D8 a/\(↑(AA (sB a)).length:Int)=(↑(zX a):Int)/\AEQ a_1
 /\ QM a/\PZ a/\QU a/\PY a/\HD/\PO a/\PT a/\QO a/\ADX a/\AFJ a/\W9)/\Zq a_1 a)/\(∀(a_1:Nat),Zq a_1 a->bif
 AEM a_1 a then AFP a_1 a/\((0:Int)<=(gD (AA (sB a)) a_1).st/\(gD (AA (sB a)) a_1).st<=(2000:Int))/\l=l/\(Rr a/\Qv a/\(BT (gD (AA (sB a)) a_1)).a0=(BT (gD (AA (sB
 a)) a_1)).a0/\(BT (gD (AA (sB a)) a_1)).a1=(BT (gD (AA (sB a)) a_1)).a1/\(BT (gD (AA (sB a)) a_1)).b0=(BT (gD (AA (sB a)) a_1)).b0/\(BT (gD (AA (sB a)) a_1)).b1=(BT (gD (AA (sB a))
 a_1)).b1/\Nt a/\∀(g:Gau),Qs g a->((0:Int)<=(BT (gD (AA (sB a)) a_1)).a0/\(BT (gD (AA (sB a)) a_1)).a0<(BT (gD (AA (sB a)) a_1)).b0/\(BT (gD (AA (sB a)) a_1)).b0<=(2000 :
 Int)/\(0:Int)<=(BT (gD (AA (sB a)) a_1)).a1/\(BT (gD (AA (sB a)) a_1)).a1<=(BT (gD (AA (sB a)) a_1)).b1/\(BT (gD (AA (sB a)) a_1)).b1<=(200000:Int))/\Qb g)/\bif (Ai a).all
 λ(g:Gau)=>LB (BT (gD (AA (sB a)) a_1)) g then nI/\(∃(a_3:LnJ),(DR a/\DT a/\JE a/\oO a_3/\Fn.yield l=Fn.yield l/\DR a/\DT a/\DR a /\
 DT a/\JE a/\(↑a_3.i:Int)=(↑a_1:Int)/\(gD (AA (sB a)) a_3.i).st=(gD (AA (sB a)) a_1).st/\(gD (AA (sB a)) a_3.i).fl=(gD (AA (sB a)) a_1).fl/\QM a/\PZ a/\QU
 a/\PY a/\HD/\PO a/\PT a/\QO a/\LV a/\LS a/\KF/\Zn a_3/\Zn a_3/\∀(i:Nat),i<a_3.l.length->(gD a_3.l i).a0=(BT (gD (AA (sB
 a)) a_1)).a0/\(gD a_3.l i).a1=(BT (gD (AA (sB a)) a_1)).a1/\(gD a_3.l i).b0=(BT (gD (AA (sB a)) a_1)).b0/\(gD a_3.l i).b1=(BT (gD (AA (sB a)) a_1)).b1)/\Yu a_3 a a_1)/\P2 a a_1 l
 else (∃(a_3:IJ),(DR a/\DT a/\JE a/\(↑a_3.j:Int)=(0:Int)/\Fn.yield l=Fn.yield l/\DR a/\DT a/\DR a/\DT a/\JE a/\(↑a_3.i:Int)=(↑a_1:Int) /\
 (gD (AA (sB a)) a_3.i).st=(gD (AA (sB a)) a_1).st/\(gD (AA (sB a)) a_3.i).fl=(gD (AA (sB a)) a_1).fl/\oQ a)/\nH a_3 a a_1)/\P2 a a_1 l else ∃(a_3:One),(a.k=a.k/\a.st =
 a.st/\QM a/\PZ a/\QU a/\PY a/\HD/\PO a/\PT a/\QO a/\LV a/\LS a/\F1 a/\F1 a)/\True)/\∀(a_1:LnK),mG a_1 a
 -> bif decide (O5 a_1 a) then (D2 a_1/\O5 a_1 a)/\((0:Int)<=(gD (AA (sB a)) a_1.i).st/\(gD (AA (sB a)) a_1.i).st<=(2000:Int))/\l=l/\(Rr a/\Qv a/\Qd a a_1
 = Qd a a_1/\Pq a a_1=Pq a a_1/\Rc a a_1=Rc a a_1/\Sc a a_1=Sc a a_1/\Nt a/\∀(g:Gau),Qs g a->((0:Int)<=Qd a a_1 /\
 Qd a a_1<Rc a a_1/\Rc a a_1<=(2000:Int)/\(0:Int)<=Pq a a_1/\Pq a a_1<=Sc a a_1/\Sc a a_1<=(200000:Int))/\Qb g)/\bif (Ai a).all fun
 (g:Gau)=>LB (BT (gD (AA (sB a)) a_1.i)) g then Q7 a_1/\(∃(a_3:LnJ),(DR a/\DT a/\JE a/\oO a_3/\Fn.yield l=Fn.yield l/\DR a/\DT a/\DR a /\
 DT a/\JE a/\R8 a_3 a_1/\V2 a a_3 a_1/\K1 a a_3 a_1/\QM a/\PZ a/\QU a/\PY a/\HD/\PO a/\PT a/\QO a/\LV
 a/\LS a/\KF/\H3 a_3 a_1/\H3 a_3 a_1/\∀(i:Nat),i<a_3.l.length->((gD a_3.l i).a0=bif ZA i a_1 then (gD a_1.l i).a0 else Qd a a_1)/\((gD a_3.l i).a1=bif
 ZA i a_1 then (gD a_1.l i).a1 else Pq a a_1)/\((gD a_3.l i).b0=bif ZA i a_1 then (gD a_1.l i).b0 else Rc a a_1)/\(gD a_3.l i).b1=bif ZA i a_1 then (gD a_1.l i).b1 else
 Sc a a_1)/\Rq a_3 a a_1)/\M5 a a_1 l else (∃(a_3:LnJ),(DR a/\DT a/\JE a/\oO a_3/\Fn.yield l=Fn.yield l/\DR a/\DT a/\DR a /\
 DT a/\JE a/\R8 a_3 a_1/\V2 a a_3 a_1/\K1 a a_3 a_1/\QM a/\PZ a/\QU a/\PY a/\HD/\PO a/\PT a/\QO a/\LV
 a/\LS a/\KF/\V1 a_3 a_1/\V1 a_3 a_1/\∀(i:Nat),i<a_3.l.length->(gD a_3.l i).a0=(gD a_1.l i).a0/\(gD a_3.l i).a1=(gD a_1.l i).a1/\(gD a_3.l i).b0=(gD a_1.l i).b0/\(gD
 a_3.l i).b1=(gD a_1.l i).b1)/\Rq a_3 a a_1)/\M5 a a_1 l else ∃(a_3:One),(a.k=a.k/\a.st=a.st/\QM a/\PZ a/\QU a/\PY a/\HD/\PO a/\PT a
 /\ QO a/\LV a/\LS a/\(SQ (sB a)).length=a_1.l.length/\zY a_1/\∀(j:Nat),j<(SQ (sB a)).length->(gD (SQ (sB a)) j).a0=O1 a_1 j/\(gD (SQ (sB a)) j).a1=U1
 a_1 j/\(gD (SQ (sB a)) j).b0=zZ a_1 j/\(gD (SQ (sB a)) j).b1=B5 a_1 j)/\True)/\E7 a/\E7 a)/\O7 a):=by kernel_rfl
def CCL(a:BkS):Prop:=BQ Try.prog (BTH a) ABW (AI ABW) (C_lns.xs a) (AD (C_lns.L a)) (C_lns.val a) (C_lns.keep a) [] [403]
abbrev sK(a:BkS):List Gau:=MK a.w.g.length λ(i:Nat)=>gD a.w.g i
abbrev rX(a:BkS):Nat:=(sK a).length
abbrev ABP(a:BkS)(i:Nat):Gau:=gD (sK a) i
abbrev AQR(a:BkS)(i:Nat):Int:=(ABP a i).st
abbrev ARF(a:BkS)(i:Nat):Int:=(ABP a i).lo
abbrev AOE(a:BkS)(i:Nat):Int:=(ABP a i).hi
abbrev jT(a:BkS):List Int:=MK a.w.b.length λ(i:Nat)=>gD a.w.b i
abbrev vA(a:BkS):Nat:=(jT a).length
abbrev AOD(a:BkS)(i:Nat):Int:=gD (jT a) i
abbrev AQF:Value:=Value.slice none (0:Nat) (0:Nat)
abbrev FQ:Prop:=AQF=AQF
abbrev PW(a:BkS):Prop:=∀(n:Int),a.w.has n=a.w.has n
abbrev PR(a:BkS):Prop:=∀(n:Int),a.w.st n=a.w.st n
abbrev AEN(a:BkS):Bk:=Bk.mk (sK a) (jT a) a.w.has a.w.st
abbrev AJD(a:BkS)(n:Int):List Ln:=QX (AEN a) n
abbrev vI(a:BkS)(n:Int):Nat:=(AJD a n).length
abbrev jK(a:BkS)(n:Int)(i:Nat):Ln:=gD (AJD a n) i
abbrev AHR(a:BkS)(n:Int)(i:Nat):Int:=(jK a n i).a0
abbrev AFK(a:BkS)(n:Int)(i:Nat):Int:=(jK a n i).a1
abbrev AFV(a:BkS)(n:Int)(i:Nat):Int:=(jK a n i).b0
abbrev AEA(a:BkS)(n:Int)(i:Nat):Int:=(jK a n i).b1
abbrev AGL(i:Nat)(a:BkS)(n:Int):Prop:=i<(QX a.w n).length
abbrev Jw(x:Gau):Prop:=(0:Int)<=x.st/\x.st<=(2000:Int)/\(0:Int)<=x.lo/\x.lo<=x.hi/\x.hi<=(200000:Int)
abbrev AHO(a:BkS):Prop:=(XU a.w a.k).g.length=a.w.g.length
abbrev AIJ(i:Nat)(a:BkS):Prop:=i<(XU a.w a.k).g.length
abbrev vE(a:BkS)(i:Nat):Gau:=gD (XU a.w a.k).g i
abbrev wB(a:BkS)(i:Nat):Int:=(vE a i).st
abbrev wP(a:BkS)(i:Nat):Int:=(vE a i).lo
abbrev xW(a:BkS)(i:Nat):Int:=(vE a i).hi
abbrev AIN(a:BkS):Prop:=∀(i:Nat),AIJ i a->wB a i=(gD a.w.g i).st/\wP a i=(gD a.w.g i).lo/\xW a i=(gD a.w.g i).hi
abbrev AHV(a:BkS):Prop:=(XU a.w a.k).b.length=a.w.b.length
abbrev AHE(i:Nat)(a:BkS):Prop:=i<(XU a.w a.k).b.length
abbrev wM(a:BkS)(i:Nat):Int:=gD (XU a.w a.k).b i
abbrev AFR(a:BkS):Prop:=∀(i:Nat),AHE i a->wM a i=gD a.w.b i
abbrev vU(i:Nat)(a:BkS)(n:Int):Prop:=i<(QX (XU a.w a.k) n).length
abbrev jY(a:BkS)(n:Int)(i:Nat):Ln:=gD (QX (XU a.w a.k) n) i
abbrev gY(a:BkS)(n:Int)(i:Nat):Int:=(jY a n i).a0
abbrev gT(a:BkS)(n:Int)(i:Nat):Int:=(jY a n i).a1
abbrev kI(a:BkS)(n:Int)(i:Nat):Int:=(jY a n i).b0
abbrev iH(a:BkS)(n:Int)(i:Nat):Int:=(jY a n i).b1
abbrev AHD(a:BkS):List Gau:=Ja (AEN a) a.k
abbrev xA(a:BkS):Nat:=(AHD a).length
abbrev AEU(a:BkS):Prop:=(sB a).length=xA a
abbrev jN(a:BkS)(i:Nat):Gau:=gD (AHD a) i
abbrev AGB(a:BkS)(i:Nat):Int:=(jN a i).st
abbrev AGV(a:BkS)(i:Nat):Int:=(jN a i).lo
abbrev AES(a:BkS)(i:Nat):Int:=(jN a i).hi
abbrev AIS(a:BkS):Prop:=∀(i:Nat),i<(sB a).length->(gD (sB a) i).st=AGB a i/\(gD (sB a) i).lo=AGV a i/\(gD (sB a) i).hi=AES a i
abbrev EB:Prop:=(0:Nat)=(0:Nat)
abbrev ADO(a:BkS):Prop:=(VP (sB a) a.st).length=(0:Nat)
abbrev Ek(a:BkS):Prop:=(XU a.w a.k).g.length=(XU a.w a.k).g.length
abbrev El(a:BkS):Prop:=∀(i:Nat),AIJ i a->wB a i=wB a i/\wP a i=wP a i/\xW a i=xW a i
abbrev Ef(a:BkS):Prop:=(XU a.w a.k).b.length=(XU a.w a.k).b.length
abbrev Ed(a:BkS):Prop:=∀(i:Nat),AHE i a->wM a i=wM a i
abbrev Ee(a:BkS):Prop:=∀(n:Int),(XU a.w a.k).has n=(XU a.w a.k).has n
abbrev Eb(a:BkS):Prop:=∀(n:Int),(XU a.w a.k).st n=(XU a.w a.k).st n
abbrev En(a:BkS):Prop:=∀(n:Int),(QX (XU a.w a.k) n).length=(QX (XU a.w a.k) n).length/\∀(i:Nat),vU i a n->gY a n i=gY a n i/\gT a n i=gT a n i /\
 kI a n i=kI a n i/\iH a n i=iH a n i
abbrev AFH(a:BkS):Prop:=Ek a/\El a/\Ef a/\Ed a/\FQ/\Ee a/\Eb a/\En a
abbrev AFT(a:BkS):Prop:=ADO a/\ADO a/\AFH a
abbrev AFE(a:BkS):Prop:=(0:Int)<=a.st/\a.st<=(2000:Int)
abbrev XD(a:BkS):List Gau:=MK (sB a).length λ(i:Nat)=>gD (sB a) i
abbrev iA(a:BkS):Nat:=(XD a).length
abbrev Js(a:BkS):Prop:=iA a=(sB a).length
abbrev vF(a:BkS)(i:Nat):Gau:=gD (XD a) i
abbrev Ka(a:BkS):Prop:=∀(i:Nat),i<iA a->(vF a i).st=(gD (sB a) i).st/\(vF a i).lo=(gD (sB a) i).lo/\(vF a i).hi=(gD (sB a) i).hi
abbrev AGO(a:BkS)(a1:Nat):Prop:=(Gz (sB a) a.st a1).length=(2:Nat)
abbrev AGI(a:BkS):List Pt:=AA (XD a)
abbrev AFI(a:BkS):Nat:=(AGI a).length
abbrev AHM(a:BkS)(i:Nat):Pt:=gD (AGI a) i
abbrev wT(a:Nat):Prop:=(↑a:Int)=(0:Int)
abbrev KB(a:BkS):Prop:=(sB a).length=(sB a).length
abbrev KD(a:BkS):Prop:=∀(i:Nat),i<(sB a).length->(gD (sB a) i).st=(gD (sB a) i).st/\(gD (sB a) i).lo=(gD (sB a) i).lo/\(gD (sB a) i).hi=(gD (sB a) i).hi
abbrev Py:Prop:=∀(i:Nat),i<(0:Nat)->false=false
abbrev AEI:Prop:=Int.ofNat (0:Nat)=Int.ofNat (0:Nat)
abbrev AHK:Prop:=Int.ofNat (200000:Nat)=Int.ofNat (200000:Nat)
abbrev xF(i:Nat)(a:BkS)(a1:Nat):Prop:=i<(Gz (sB a) a.st a1).length
abbrev jX(a:BkS)(a1:Nat)(i:Nat):Ln:=gD (Gz (sB a) a.st a1) i
abbrev iI(a:BkS)(a1:Nat)(i:Nat):Int:=(jX a a1 i).a0
abbrev jE(i:Nat):Bool:=decide (i=(0:Nat))
abbrev kD(a:BkS)(a1:Nat)(i:Nat):Int:=(jX a a1 i).a1
abbrev iP(a:BkS)(a1:Nat)(i:Nat):Int:=(jX a a1 i).b0
abbrev iQ(a:BkS)(a1:Nat)(i:Nat):Int:=(jX a a1 i).b1
abbrev AHT(a:Nat)(a1:BkS):Prop:=(↑a:Int)<(↑(AA (sB a1)).length:Int)
abbrev AHX(a:Nat)(a1:BkS):Bool:=decide (AHT a a1)
abbrev AIG(a:Nat):Prop:=(0:Int)<=(↑a:Int)
abbrev ADH(a:Nat)(a1:BkS):Prop:=AIG a/\AHT a a1
abbrev Wp:Prop:=(4:Nat)=(4:Nat)
abbrev AJJ:Prop:=(0:Nat)<(2:Nat)
abbrev vV(a:BkS)(a1:Nat):Nat:=(Gz (sB a) a.st a1).length+(2:Nat)
abbrev AFF(a:BkS)(a1:Nat)(a2:Nat):Prop:=(Gz (sB a) a.st a1).length=vV a a2
abbrev DQ(a:BkS):Prop:=(AA (sB a)).length=(AA (sB a)).length
abbrev DS(a:BkS):Prop:=∀(i:Nat),i<(AA (sB a)).length->(gD (AA (sB a)) i).st=(gD (AA (sB a)) i).st/\(gD (AA (sB a)) i).fl=(gD (AA (sB a)) i).fl
abbrev JC(a:BkS):Prop:=(↑(AA (sB a)).length:Int)=(↑(AA (sB a)).length:Int)
abbrev AFS(a:Nat)(a1:Nat):Prop:=(↑a:Int)=IntKind.i64.wrap ((↑a1:Int)+(1:Int))
abbrev jV(i:Nat)(a:BkS)(a1:Nat):Bool:=decide (xF i a a1)
abbrev kG(i:Nat)(a:BkS)(a1:Nat):Bool:=decide ((0:Nat)+(i-(Gz (sB a) a.st a1).length)=(0:Nat))
abbrev Qt(a:BkS)(a1:Nat):Nat:=(AA (sB a)).length-a1
abbrev AGC(a:BkS)(a1:Nat)(a2:Nat):Prop:=Qt a a1<Qt a a2
abbrev wG:Prop:=EB/\Py
abbrev AEZ(a:BkS)(a1:Nat):Prop:=(MJ (sB a) a.st).length=(Gz (sB a) a.st a1).length
abbrev bR(i:Nat)(a:BkS):Prop:=i<(MJ (sB a) a.st).length
abbrev oV(a:BkS)(i:Nat):Int:=(gD (MJ (sB a) a.st) i).a0
abbrev kX(a:BkS)(i:Nat):Int:=(gD (MJ (sB a) a.st) i).a1
abbrev mQ(a:BkS)(i:Nat):Int:=(gD (MJ (sB a) a.st) i).b0
abbrev mK(a:BkS)(i:Nat):Int:=(gD (MJ (sB a) a.st) i).b1
abbrev Zi(a:Nat)(a1:BkS):Prop:=a<=(MJ (sB a1) a1.st).length/\List.filter (yU (sB a1)) (List.take a (MJ (sB a1) a1.st))=[]
abbrev C1(a:Nat)(a1:BkS):Prop:=(↑a:Int)<(↑(MJ (sB a1) a1.st).length:Int)
abbrev oS(a:Nat):Nat:=(0:Nat)+a
abbrev Ib(a:BkS)(a1:Nat):Ln:=gD (MJ (sB a) a.st) (oS a1)
abbrev T7(a:BkS)(a1:Nat):Bool:=Va (Ib a a1)
abbrev Oe(a:BkS)(a1:Nat):Int:=(Ib a a1).a0
abbrev No(a:BkS)(a1:Nat):Int:=(Ib a a1).a1
abbrev Pd(a:BkS)(a1:Nat):Int:=(Ib a a1).b0
abbrev Rj(a:BkS)(a1:Nat):Int:=(Ib a a1).b1
abbrev Ir(a:BkS):Prop:=iA a<(4611686018427387904:Nat)
abbrev Ix(g:Gau)(a:BkS):Prop:=List.Mem g (XD a)
abbrev pN:Prop:=(0:Nat)<(1:Nat)
abbrev nR:Prop:=(1:Nat)<=(1:Nat)/\(pN->Wp)
abbrev Xw:Prop:=(True/\((0:Nat)<(0:Nat)->(0:Nat)=(4:Nat)))/\nR/\(true=true->pN)/\(1:Nat)<=(9223372036854775807:Nat)/\(32:Nat)<=(140737488355328:Nat)
abbrev R0(a:LnK):Prop:=a.l.length=(1:Nat)
abbrev TN(a:BkS):Prop:=(MJ (sB a) a.st).length=(MJ (sB a) a.st).length
abbrev Ie(a:BkS):Prop:=(↑(MJ (sB a) a.st).length:Int)=(↑(MJ (sB a) a.st).length:Int)
abbrev Ye(a:BkS):Prop:=∀(i:Nat),bR i a->oV a i=oV a i/\kX a i=kX a i/\mQ a i=mQ a i/\mK a i=mK a i
abbrev L8(a:LnK)(a1:BkS):Prop:=a.i<(MJ (sB a1) a1.st).length
abbrev YX(a:BkS)(a1:LnK):Nat:=(MJ (sB a) a.st).length-a1.i
abbrev ZJ(a:BkS)(a1:Nat):Nat:=(MJ (sB a) a.st).length-a1
abbrev C0(a:LnK)(a1:BkS):Prop:=a.l=SQ (sB a1) ++ List.filter (yU (sB a1)) (List.take (a.i+(1:Nat)) (MJ (sB a1) a1.st))
abbrev D7(a:LnK)(a1:BkS)(a2:Nat):Prop:=L8 a a1/\YX a1 a=ZJ a1 a2/\C0 a a1
abbrev T9(a:BkS):Prop:=Ek a/\El a/\Ef a/\Ed a/\FQ/\Ee a/\Eb a/\En a/\KB a/\KD a/\TN a/\Ye a
abbrev Z1(a:BkS)(a1:Nat):Prop:=List.filter (yU (sB a)) (List.take (a1+(1:Nat)) (MJ (sB a) a.st))=[]
abbrev Y1(a:Nat)(a1:BkS)(a2:Nat):Prop:=bR a a1/\ZJ a1 a=ZJ a1 a2/\Z1 a1 a
abbrev K4(a:BkS)(a1:Nat)(a2:Nat):Prop:=EB/\Py/\EB/\TN a/\Ie a/\AFS a1 a2/\T9 a
abbrev nX(a:LnK)(a1:LnK):Prop:=a.l.length=a1.l.length
abbrev Q4(a:BkS)(a1:LnK)(a2:LnK):Prop:=Ek a/\El a/\Ef a/\Ed a/\FQ/\Ee a/\Eb a/\En a/\KB a/\KD a/\TN a /\
 Ye a/\nX a1 a2/\∀(i:Nat),i<a1.l.length->(gD a1.l i).a0=(gD a2.l i).a0/\(gD a1.l i).a1=(gD a2.l i).a1/\(gD a1.l i).b0=(gD a2.l i).b0/\(gD a1.l i).b1=(gD a2.l i).b1
abbrev A8(a:LnK)(a1:LnK)(a2:BkS):Prop:=EB/\nX a a1/\EB/\TN a2/\Ie a2/\(↑a.i:Int)=IntKind.i64.wrap ((↑a1.i:Int)+(1:Int))/\Q4 a2 a a1
abbrev nN(a:LnK)(a1:BkS):Prop:=a.i<=(MJ (sB a1) a1.st).length/\a.l=SQ (sB a1) ++ List.filter (yU (sB a1)) (List.take a.i (MJ (sB a1) a1.st))
abbrev U5(a:BkS)(a1:Nat):Prop:=∀(a_1:LnK),D7 a_1 a a1->∃(a_3:LnK),A8 a_3 a_1 a/\nN a_3 a/\YX a a_3<ZJ a a1
abbrev F9(a:LnK)(a1:BkS):Prop:=(↑a.i:Int)<(↑(MJ (sB a1) a1.st).length:Int)
abbrev zV(a:LnK):Prop:=(0:Int)<=(↑a.i:Int)
abbrev Z4(a:LnK):Nat:=(0:Nat)+a.i
abbrev Ij(a:BkS)(a1:LnK):Ln:=gD (MJ (sB a) a.st) (Z4 a1)
abbrev Z2(a:BkS)(a1:LnK):Bool:=Va (Ij a a1)
abbrev Pm(a:BkS)(a1:LnK):Int:=(Ij a a1).a0
abbrev Nn(a:BkS)(a1:LnK):Int:=(Ij a a1).a1
abbrev Nv(a:BkS)(a1:LnK):Int:=(Ij a a1).b0
abbrev Qh(a:BkS)(a1:LnK):Int:=(Ij a a1).b1
abbrev B7:Prop:=false=true->pN
abbrev Yf(a:LnK):Nat:=a.l.length+(1:Nat)
abbrev U2(a:LnK):Prop:=(a.l.length=a.l.length/\((0:Nat)<a.l.length->Wp))/\nR/\B7/\Yf a<=(9223372036854775807:Nat)/\Yf a*(32:Nat)<=(140737488355328
 : Nat)
abbrev P3(a:LnK)(a1:LnK):Prop:=a.l.length=Yf a1
abbrev Q6(a:LnK)(a1:LnK):Prop:=(↑a.i:Int)=(↑a1.i:Int)
abbrev YI(i:Nat)(a:LnK):Bool:=decide (i<a.l.length)
abbrev lH(a:LnK)(a1:BkS)(a2:LnK):Prop:=L8 a a1/\YX a1 a=YX a1 a2/\C0 a a1
abbrev M3(a:BkS)(a1:LnK):Prop:=∀(a_1:LnK),lH a_1 a a1->∃(a_3:LnK),A8 a_3 a_1 a/\nN a_3 a/\YX a a_3<YX a a1
abbrev G5(a:LnK):Prop:=(0:Nat)+a.l.length<=a.l.length
abbrev Xm(a:LnK)(j:Nat):Ln:=gD a.l (oS j)
abbrev zO(a:LnK)(j:Nat):Int:=(Xm a j).a0
abbrev T3(a:LnK)(j:Nat):Int:=(Xm a j).a1
abbrev W8(a:LnK)(j:Nat):Int:=(Xm a j).b0
abbrev U0(a:LnK)(j:Nat):Int:=(Xm a j).b1
abbrev C8(a:BkS):Prop:=∀(a_1:One),True->bif bif decide ((↑(sB a).length:Int)>(0:Int)) then (↑(0:Nat):Int)==(0:Int) else false then AFT a else (AFE a/\AFE a) /\
 (Js a/\Ka a/\iA a<(1073741824:Nat)/\True)/\(∃(a_3:Nat),(EB/\AGO a a_3/\(AA (sB a)).length=AFI a/\(∀(i:Nat),i<(AA (sB a)).length->(gD (AA (sB a))
 i).st=(AHM a i).st/\(gD (AA (sB a)) i).fl=(AHM a i).fl)/\(↑(AA (sB a)).length:Int)=(↑(AFI a):Int)/\wT a_3/\Ek a/\El a/\Ef a/\Ed a/\FQ /\
 Ee a/\Eb a/\En a/\KB a/\KD a/\EB/\Py/\a.st=a.st/\AEI/\a.st=a.st/\AHK/\AGO a a_3/\∀(i:Nat),xF i a a_3->(iI a a_3 i =
 bif jE i then (BT (Pt.mk a.st (0:Int))).a0 else (BT (Pt.mk a.st (200000:Int))).a0)/\(kD a a_3 i=bif jE i then (BT (Pt.mk a.st (0:Int))).a1 else (BT (Pt.mk a.st (200000:Int))).a1) /\
 (iP a a_3 i=bif jE i then (BT (Pt.mk a.st (0:Int))).b0 else (BT (Pt.mk a.st (200000:Int))).b0)/\iQ a a_3 i=bif jE i then (BT (Pt.mk a.st (0:Int))).b1 else (BT (Pt.mk a.st
 (200000:Int))).b1)/\a_3.le (AA (sB a)).length)/\∀(a_3:Nat),a_3.le (AA (sB a)).length->bif AHX a_3 a then ADH a_3 a/\(((Gz (sB a) a.st a_3).length=(Gz (sB a) a.st a_3).length/\((0:Nat) <
 (Gz (sB a) a.st a_3).length->Wp))/\((2:Nat)<=(2:Nat)/\(AJJ->Wp))/\(false=true->AJJ)/\vV a a_3<=(9223372036854775807:Nat)/\vV a a_3*(32:Nat) <=
 (140737488355328:Nat))/\∃(a_5:Nat),(EB/\AFF a a_5 a_3/\DQ a/\DS a/\JC a/\AFS a_5 a_3/\Ek a/\El a/\Ef a/\Ed a/\FQ/\Ee a /\
 Eb a/\En a/\KB a/\KD a/\EB/\Py/\a.st=a.st/\AEI/\a.st=a.st/\AHK/\AFF a a_5 a_3/\∀(i:Nat),xF i a a_5->(iI a a_5 i=bif
 jV i a a_3 then iI a a_3 i else bif kG i a a_3 then a.st else (gD (AA (sB a)) a_3).st)/\(kD a a_5 i=bif jV i a a_3 then kD a a_3 i else bif kG i a a_3 then (0:Int)
 else (gD (AA (sB a)) a_3).fl)/\(iP a a_5 i=bif jV i a a_3 then iP a a_3 i else bif kG i a a_3 then (gD (AA (sB a)) a_3).st else a.st)/\iQ a a_5 i=bif jV i a a_3 then
 iQ a a_3 i else bif kG i a a_3 then (gD (AA (sB a)) a_3).fl else (200000:Int))/\a_5.le (AA (sB a)).length/\AGC a a_5 a_3 else wG/\(∃(a_5:Nat),(EB/\Py/\EB /\
 AEZ a a_3/\(↑(MJ (sB a) a.st).length:Int)=(↑(Gz (sB a) a.st a_3).length:Int)/\wT a_5/\Ek a/\El a/\Ef a/\Ed a/\FQ/\Ee a/\Eb a/\En a /\
 KB a/\KD a/\AEZ a a_3/\∀(i:Nat),bR i a->oV a i=iI a a_3 i/\kX a i=kD a a_3 i/\mQ a i=iP a a_3 i/\mK a i=iQ a a_3
 i)/\Zi a_5 a)/\(∀(a_5:Nat),Zi a_5 a->bif decide (C1 a_5 a) then (((AIG a_5/\C1 a_5 a)/\(oS a_5).succ.le (MJ (sB a) a.st).length)/\(T7 a a_5=true ->
 Js a/\Ka a/\Oe a a_5=Oe a a_5/\No a a_5=No a a_5/\Pd a a_5=Pd a a_5/\Rj a a_5=Rj a a_5/\Ir a/\∀(g:Gau),Ix g
 a->((0:Int)<=Oe a a_5/\Oe a a_5<Pd a a_5/\Pd a a_5<=(2000:Int)/\(0:Int)<=No a a_5/\No a a_5<=Rj a a_5/\Rj a a_5<=(200000:Int)) /\
 Jw g)/\bif bif T7 a a_5 then (XD a).all λ(g:Gau)=>LB (Ib a a_5) g else false then Xw/\∃(a_7:LnK),(EB/\R0 a_7/\EB/\TN a/\Ie a
 /\ (↑a_7.i:Int)=(↑a_5:Int)/\Ek a/\El a/\Ef a/\Ed a/\FQ/\Ee a/\Eb a/\En a/\KB a/\KD a/\TN a/\Ye a/\R0 a_7/\∀
 (i:Nat),i<a_7.l.length->(gD a_7.l i).a0=Oe a a_5/\(gD a_7.l i).a1=No a a_5/\(gD a_7.l i).b0=Pd a a_5/\(gD a_7.l i).b1=Rj a a_5)/\D7 a_7 a a_5 else ∃(a_7:Nat),
 (EB/\Py/\EB/\TN a/\Ie a/\(↑a_7:Int)=(↑a_5:Int)/\T9 a)/\Y1 a_7 a a_5)/\(∀(a_7:Nat),Y1 a_7 a a_5->∃(a_9:Nat),K4 a a_9 a_7 /\
 Zi a_9 a/\ZJ a a_9<ZJ a a_5)/\U5 a a_5/\U5 a a_5 else AFT a)/\∀(a_5:LnK),nN a_5 a->bif decide (F9 a_5 a) then (((zV a_5/\F9 a_5 a)
 /\ (Z4 a_5).succ.le (MJ (sB a) a.st).length)/\(Z2 a a_5=true->Js a/\Ka a/\Pm a a_5=Pm a a_5/\Nn a a_5=Nn a a_5/\Nv a a_5=Nv a
 a_5/\Qh a a_5=Qh a a_5/\Ir a/\∀(g:Gau),Ix g a->((0:Int)<=Pm a a_5/\Pm a a_5<Nv a a_5/\Nv a a_5<=(2000:Int)/\(0:Int)<=Nn a
 a_5/\Nn a a_5<=Qh a a_5/\Qh a a_5<=(200000:Int))/\Jw g)/\bif bif Z2 a a_5 then (XD a).all λ(g:Gau)=>LB (Ij a a_5) g else false then U2 a_5 /\
 ∃(a_7:LnK),(EB/\P3 a_7 a_5/\EB/\TN a/\Ie a/\Q6 a_7 a_5/\Ek a/\El a/\Ef a/\Ed a/\FQ/\Ee a/\Eb a/\En a
 /\ KB a/\KD a/\TN a/\Ye a/\P3 a_7 a_5/\∀(i:Nat),i<a_7.l.length->((gD a_7.l i).a0=bif YI i a_5 then (gD a_5.l i).a0 else Pm a a_5)/\((gD a_7.l i).a1 =
 bif YI i a_5 then (gD a_5.l i).a1 else Nn a a_5)/\((gD a_7.l i).b0=bif YI i a_5 then (gD a_5.l i).b0 else Nv a a_5)/\(gD a_7.l i).b1=bif YI i a_5 then (gD a_5.l i).b1 else
 Qh a a_5)/\lH a_7 a a_5 else ∃(a_7:LnK),(EB/\nX a_7 a_5/\EB/\TN a/\Ie a/\Q6 a_7 a_5/\Q4 a a_7 a_5)/\lH a_7 a a_5)/\(∀(a_7 :
 Nat),bR a_7 a/\ZJ a a_7=YX a a_5/\Z1 a a_7->∃(a_9:Nat),K4 a a_9 a_7/\Zi a_9 a/\ZJ a a_9<YX a a_5)/\M3 a a_5/\M3 a a_5 else
 (VP (sB a) a.st).length=a_5.l.length/\G5 a_5/\(∀(j:Nat),j<(VP (sB a) a.st).length->(gD (VP (sB a) a.st) j).a0=zO a_5 j/\(gD (VP (sB a) a.st) j).a1=T3 a_5 j/\(gD (VP (sB
 a) a.st) j).b0=W8 a_5 j/\(gD (VP (sB a) a.st) j).b1=U0 a_5 j)/\AFH a
abbrev V9(a:BkS):List Gau:=MK (xA a) λ(i:Nat)=>jN a i
abbrev bH(a:BkS):Nat:=(V9 a).length
abbrev bB(a:BkS)(i:Nat):Gau:=gD (V9 a) i
abbrev G1(a:BkS)(i:Nat):Int:=(bB a i).st
abbrev Y5(a:BkS)(i:Nat):Int:=(bB a i).lo
abbrev C3(a:BkS)(i:Nat):Int:=(bB a i).hi
abbrev lK(a:BkS):List Gau:=MK (bH a) λ(i:Nat)=>bB a i
abbrev nU(a:BkS):Nat:=(lK a).length
abbrev lG(a:BkS)(i:Nat):Gau:=gD (lK a) i
abbrev V0(a:BkS):List Pt:=AA (lK a)
abbrev N5(a:BkS):Nat:=(V0 a).length
abbrev M2(a:BkS):Prop:=(AA (sB a)).length=N5 a
abbrev G0(a:BkS)(i:Nat):Pt:=gD (V0 a) i
abbrev M1(a:BkS):Prop:=∀(i:Nat),i<(AA (sB a)).length->(gD (AA (sB a)) i).st=(G0 a i).st/\(gD (AA (sB a)) i).fl=(G0 a i).fl
abbrev QL(a:BkS):Prop:=a.w.g.length=a.w.g.length
abbrev QB(a:BkS):Prop:=∀(i:Nat),i<a.w.g.length->(gD a.w.g i).st=(gD a.w.g i).st/\(gD a.w.g i).lo=(gD a.w.g i).lo/\(gD a.w.g i).hi=(gD a.w.g i).hi
abbrev QT(a:BkS):Prop:=a.w.b.length=a.w.b.length
abbrev QF(a:BkS):Prop:=∀(i:Nat),i<a.w.b.length->gD a.w.b i=gD a.w.b i
abbrev QQ(a:BkS):Prop:=∀(n:Int),(QX a.w n).length=(QX a.w n).length/\∀(i:Nat),AGL i a n->(gD (QX a.w n) i).a0=(gD (QX a.w n) i).a0/\(gD (QX a.w n) i).a1=(gD (QX a.w n) i).a1 /\
 (gD (QX a.w n) i).b0=(gD (QX a.w n) i).b0/\(gD (QX a.w n) i).b1=(gD (QX a.w n) i).b1
abbrev bE(a:Nat)(a1:BkS):Prop:=a<=(AA (sB a1)).length/\List.filter (Hn (sB a1)) (Te (sB a1) a)=[]
abbrev oR(a:LnJ):Prop:=(↑a.j:Int)=(0:Int)
abbrev bF(a:LnJ):Prop:=a.l.length=(1:Nat)
abbrev I7(a:LnJ)(a1:BkS):Prop:=a.i<(AA (sB a1)).length
abbrev Y3(a:LnJ)(a1:BkS):Prop:=a.j<=(AA (sB a1)).length
abbrev X0(a:BkS)(a1:LnJ):Nat:=(AA (sB a)).length-a1.i
abbrev X6(a:LnJ)(a1:BkS):Prop:=a.l=List.filter (Hn (sB a1)) (TB (sB a1) a.i a.j)
abbrev Zh(a:LnJ)(a1:BkS)(a2:Nat):Prop:=I7 a a1/\Y3 a a1/\X0 a1 a=Qt a1 a2/\X6 a a1
abbrev T8(a:IJ)(a1:BkS):Prop:=a.i<(AA (sB a1)).length
abbrev K7(a:IJ)(a1:BkS):Prop:=a.j<=(AA (sB a1)).length
abbrev E2(a:BkS)(a1:IJ):Nat:=(AA (sB a)).length-a1.i
abbrev E5(a:BkS)(a1:IJ):Prop:=List.filter (Hn (sB a)) (TB (sB a) a1.i a1.j)=[]
abbrev lF(a:IJ)(a1:BkS)(a2:Nat):Prop:=T8 a a1/\K7 a a1/\E2 a1 a=Qt a1 a2/\E5 a1 a
abbrev Z0(a:IJ)(a1:BkS):Prop:=(↑a.j:Int)<(↑(AA (sB a1)).length:Int)
abbrev AAA(a:IJ)(a1:BkS):Bool:=decide (Z0 a a1)
abbrev B6(a:IJ)(a1:BkS):Prop:=(0:Int)<=(↑a.j:Int)/\Z0 a a1
abbrev N0(a:BkS)(a1:IJ):Ln:=Ln.mk (gD (AA (sB a)) a1.i).st (gD (AA (sB a)) a1.i).fl (gD (AA (sB a)) a1.j).st (gD (AA (sB a)) a1.j).fl
abbrev O2(a:BkS)(a1:IJ):Bool:=Va (N0 a a1)
abbrev U4(a:BkS)(a1:IJ):Bool:=if true=true then O2 a a1 else !O2 a a1
abbrev L6(a:BkS)(a1:IJ):Prop:=Js a/\Ka a/\(gD (AA (sB a)) a1.i).st=(gD (AA (sB a)) a1.i).st/\(gD (AA (sB a)) a1.i).fl=(gD (AA (sB a)) a1.i).fl/\(gD (AA (sB a))
 a1.j).st=(gD (AA (sB a)) a1.j).st/\(gD (AA (sB a)) a1.j).fl=(gD (AA (sB a)) a1.j).fl/\Ir a/\∀(g:Gau),Ix g a->((0:Int)<=(gD (AA (sB a)) a1.i).st/\(gD (AA (sB a)) a1.i).st <
 (gD (AA (sB a)) a1.j).st/\(gD (AA (sB a)) a1.j).st<=(2000:Int)/\(0:Int)<=(gD (AA (sB a)) a1.i).fl/\(gD (AA (sB a)) a1.i).fl<=(gD (AA (sB a)) a1.j).fl/\(gD (AA (sB a)) a1.j).fl<=(200000 :
 Int))/\Jw g
abbrev D3(a:BkS)(a1:IJ):Bool:=(XD a).all λ(g:Gau)=>LB (N0 a a1) g
abbrev J9(a:IJ):Int:=IntKind.i64.wrap ((↑a.j:Int)+(1:Int))
abbrev Z3(a:BkS)(a1:LnJ)(a2:IJ)(l:Nat):Prop:=DQ a/\DS a/\JC a/\(↑a1.j:Int)=J9 a2/\Fn.yield l=Fn.yield l/\DQ a/\DS a/\DQ a/\DS
 a/\JC a/\(↑a1.i:Int)=(↑a2.i:Int)/\(gD (AA (sB a)) a1.i).st=(gD (AA (sB a)) a2.i).st/\(gD (AA (sB a)) a1.i).fl=(gD (AA (sB a)) a2.i).fl/\QL a/\QB a/\QT a /\
 QF a/\FQ/\PW a/\PR a/\QQ a/\KB a/\KD a/\EB/\bF a1/\bF a1/\∀(i:Nat),i<a1.l.length->(gD a1.l i).a0=(gD (AA (sB a)) a2.i).st /\
 (gD a1.l i).a1=(gD (AA (sB a)) a2.i).fl/\(gD a1.l i).b0=(gD (AA (sB a)) a2.j).st/\(gD a1.l i).b1=(gD (AA (sB a)) a2.j).fl
abbrev mP(a:BkS)(a1:LnJ):Nat:=(AA (sB a)).length-a1.j
abbrev oH(a:BkS)(a1:IJ):Nat:=(AA (sB a)).length-a1.j
abbrev J1(a:BkS)(a1:LnJ)(a2:IJ):Prop:=mP a a1<oH a a2
abbrev mM(a:BkS):Prop:=QL a/\QB a/\QT a/\QF a/\FQ/\PW a/\PR a/\QQ a/\KB a/\KD a/\wG
abbrev R9(a:BkS)(a1:IJ)(a2:IJ)(l:Nat):Prop:=DQ a/\DS a/\JC a/\(↑a1.j:Int)=J9 a2/\Fn.yield l=Fn.yield l/\DQ a/\DS a/\DQ a/\DS
 a/\JC a/\(↑a1.i:Int)=(↑a2.i:Int)/\(gD (AA (sB a)) a1.i).st=(gD (AA (sB a)) a2.i).st/\(gD (AA (sB a)) a1.i).fl=(gD (AA (sB a)) a2.i).fl/\mM a
abbrev E4(a:BkS)(a1:IJ)(a2:IJ):Prop:=oH a a1<oH a a2
abbrev O6(a:BkS)(a1:IJ)(l:Nat)(a2:Nat):Prop:=∃(a_1:IJ),R9 a a_1 a1 l/\lF a_1 a a2/\E4 a a_1 a1
abbrev Z9(l:Nat)(a:BkS)(a1:Nat)(a2:IJ):Prop:=Fn.yield l=Fn.yield l/\DQ a/\DS a/\DQ a/\DS a/\JC a/\(↑a1:Int)=IntKind.i64.wrap ((↑a2.i:Int)+(1 :
 Int))/\mM a
abbrev W2(a:LnJ)(a1:BkS):Prop:=(↑a.j:Int)<(↑(AA (sB a1)).length:Int)
abbrev D6(a:LnJ)(a1:BkS):Bool:=decide (W2 a a1)
abbrev P1(a:LnJ)(a1:BkS):Prop:=(0:Int)<=(↑a.j:Int)/\W2 a a1
abbrev K9(a:BkS)(a1:LnJ):Ln:=Ln.mk (gD (AA (sB a)) a1.i).st (gD (AA (sB a)) a1.i).fl (gD (AA (sB a)) a1.j).st (gD (AA (sB a)) a1.j).fl
abbrev G7(a:BkS)(a1:LnJ):Bool:=Va (K9 a a1)
abbrev D0(a:BkS)(a1:LnJ):Bool:=if true=true then G7 a a1 else !G7 a a1
abbrev Z5(a:BkS)(a1:LnJ):Prop:=Js a/\Ka a/\(gD (AA (sB a)) a1.i).st=(gD (AA (sB a)) a1.i).st/\(gD (AA (sB a)) a1.i).fl=(gD (AA (sB a)) a1.i).fl/\(gD (AA (sB a))
 a1.j).st=(gD (AA (sB a)) a1.j).st/\(gD (AA (sB a)) a1.j).fl=(gD (AA (sB a)) a1.j).fl/\Ir a/\∀(g:Gau),Ix g a->((0:Int)<=(gD (AA (sB a)) a1.i).st/\(gD (AA (sB a)) a1.i).st <
 (gD (AA (sB a)) a1.j).st/\(gD (AA (sB a)) a1.j).st<=(2000:Int)/\(0:Int)<=(gD (AA (sB a)) a1.i).fl/\(gD (AA (sB a)) a1.i).fl<=(gD (AA (sB a)) a1.j).fl/\(gD (AA (sB a)) a1.j).fl<=(200000 :
 Int))/\Jw g
abbrev F2(a:BkS)(a1:LnJ):Bool:=(XD a).all λ(g:Gau)=>LB (K9 a a1) g
abbrev lU(a:LnJ):Nat:=a.l.length+(1:Nat)
abbrev L5(a:LnJ):Prop:=(a.l.length=a.l.length/\((0:Nat)<a.l.length->Wp))/\nR/\B7/\lU a<=(9223372036854775807:Nat)/\lU a*(32:Nat)<=(140737488355328
 : Nat)
abbrev M8(a:LnJ)(a1:LnJ):Prop:=(↑a.j:Int)=IntKind.i64.wrap ((↑a1.j:Int)+(1:Int))
abbrev A2(a:LnJ)(a1:LnJ):Prop:=(↑a.i:Int)=(↑a1.i:Int)
abbrev B8(a:BkS)(a1:LnJ)(a2:LnJ):Prop:=(gD (AA (sB a)) a1.i).st=(gD (AA (sB a)) a2.i).st
abbrev A1(a:BkS)(a1:LnJ)(a2:LnJ):Prop:=(gD (AA (sB a)) a1.i).fl=(gD (AA (sB a)) a2.i).fl
abbrev G4(a:LnJ)(a1:LnJ):Prop:=a.l.length=lU a1
abbrev Yn(i:Nat)(a:LnJ):Bool:=decide (i<a.l.length)
abbrev N6(a:BkS)(a1:LnJ)(a2:LnJ)(l:Nat):Prop:=DQ a/\DS a/\JC a/\M8 a1 a2/\Fn.yield l=Fn.yield l/\DQ a/\DS a/\DQ a/\DS a /\
 JC a/\A2 a1 a2/\B8 a a1 a2/\A1 a a1 a2/\QL a/\QB a/\QT a/\QF a/\FQ/\PW a/\PR a/\QQ a/\KB a/\KD a /\
 EB/\G4 a1 a2/\G4 a1 a2/\∀(i:Nat),i<a1.l.length->((gD a1.l i).a0=bif Yn i a2 then (gD a2.l i).a0 else (gD (AA (sB a)) a2.i).st)/\((gD a1.l i).a1=bif Yn i a2 then
 (gD a2.l i).a1 else (gD (AA (sB a)) a2.i).fl)/\((gD a1.l i).b0=bif Yn i a2 then (gD a2.l i).b0 else (gD (AA (sB a)) a2.j).st)/\(gD a1.l i).b1=bif Yn i a2 then (gD a2.l i).b1 else (gD (AA
 (sB a)) a2.j).fl
abbrev S3(a:BkS)(a1:LnJ)(a2:LnJ):Prop:=mP a a1<mP a a2
abbrev S0(a:LnJ)(a1:BkS)(a2:Nat)(a3:LnJ):Prop:=Zh a a1 a2/\S3 a1 a a3
abbrev Y4(a:LnJ)(a1:LnJ):Prop:=a.l.length=a1.l.length
abbrev X5(a:BkS)(a1:LnJ)(a2:LnJ)(l:Nat):Prop:=DQ a/\DS a/\JC a/\M8 a1 a2/\Fn.yield l=Fn.yield l/\DQ a/\DS a/\DQ a/\DS a /\
 JC a/\A2 a1 a2/\B8 a a1 a2/\A1 a a1 a2/\QL a/\QB a/\QT a/\QF a/\FQ/\PW a/\PR a/\QQ a/\KB a/\KD a /\
 EB/\Y4 a1 a2/\Y4 a1 a2/\∀(i:Nat),i<a1.l.length->(gD a1.l i).a0=(gD a2.l i).a0/\(gD a1.l i).a1=(gD a2.l i).a1/\(gD a1.l i).b0=(gD a2.l i).b0/\(gD a1.l i).b1=(gD a2.l i).b1
abbrev V4(a:BkS)(a1:LnJ)(l:Nat)(a2:Nat):Prop:=∃(a_1:LnJ),X5 a a_1 a1 l/\S0 a_1 a a2 a1
abbrev P7(a:LnK)(a1:LnJ):Prop:=a.l.length=a1.l.length
abbrev zW(l:Nat)(a:BkS)(a1:LnK)(a2:LnJ):Prop:=Fn.yield l=Fn.yield l/\DQ a/\DS a/\DQ a/\DS a/\JC a/\(↑a1.i:Int)=IntKind.i64.wrap ((↑a2.i:Int)+(1 :
 Int))/\QL a/\QB a/\QT a/\QF a/\FQ/\PW a/\PR a/\QQ a/\KB a/\KD a/\EB/\P7 a1 a2/\P7 a1 a2/\∀(i:Nat),i <
 a1.l.length->(gD a1.l i).a0=(gD a2.l i).a0/\(gD a1.l i).a1=(gD a2.l i).a1/\(gD a1.l i).b0=(gD a2.l i).b0/\(gD a1.l i).b1=(gD a2.l i).b1
abbrev nV(a:LnK)(a1:BkS):Prop:=a.i<=(AA (sB a1)).length/\a.l=List.filter (Hn (sB a1)) (Te (sB a1) a.i)
abbrev Hz(a:BkS)(a1:LnK):Nat:=(AA (sB a)).length-a1.i
abbrev U7(a:BkS)(a1:Nat)(l:Nat):Prop:=∀(a_1:LnJ),Zh a_1 a a1->bif D6 a_1 a then P1 a_1 a/\bif D0 a a_1 then l=l/\Z5 a a_1/\bif F2 a a_1 then
 L5 a_1/\∃(a_3:LnJ),N6 a a_3 a_1 l/\S0 a_3 a a1 a_1 else V4 a a_1 l a1 else V4 a a_1 l a1 else ∃(a_3:LnK),zW l a a_3 a_1/\nV a_3 a/\Hz a a_3 <
 Qt a a1
abbrev P8(a:BkS)(a1:Nat)(l:Nat):Prop:=(∀(a_1:IJ),lF a_1 a a1->bif AAA a_1 a then B6 a_1 a/\bif U4 a a_1 then l=l/\L6 a a_1/\bif D3 a a_1 then
 Xw/\∃(a_3:LnJ),Z3 a a_3 a_1 l/\Zh a_3 a a1/\J1 a a_3 a_1 else O6 a a_1 l a1 else O6 a a_1 l a1 else ∃(a_3:Nat),Z9 l a a_3 a_1/\bE a_3 a /\
 AGC a a_3 a1)/\U7 a a1 l/\U7 a a1 l
abbrev Y2(a:BkS):Prop:=(SQ (sB a)).length=(0:Nat)
abbrev Y9(a:LnK)(a1:BkS):Prop:=(↑a.i:Int)<(↑(AA (sB a1)).length:Int)
abbrev Qz(a:BkS)(a1:LnK):Int:=(BT (gD (AA (sB a)) a1.i)).a0
abbrev Oo(a:BkS)(a1:LnK):Int:=(BT (gD (AA (sB a)) a1.i)).a1
abbrev Ot(a:BkS)(a1:LnK):Int:=(BT (gD (AA (sB a)) a1.i)).b0
abbrev Oi(a:BkS)(a1:LnK):Int:=(BT (gD (AA (sB a)) a1.i)).b1
abbrev J2(a:LnJ)(a1:LnK):Prop:=(↑a.i:Int)=(↑a1.i:Int)
abbrev P4(a:BkS)(a1:LnJ)(a2:LnK):Prop:=(gD (AA (sB a)) a1.i).st=(gD (AA (sB a)) a2.i).st
abbrev P6(a:BkS)(a1:LnJ)(a2:LnK):Prop:=(gD (AA (sB a)) a1.i).fl=(gD (AA (sB a)) a2.i).fl
abbrev F4(a:LnJ)(a1:LnK):Prop:=a.l.length=Yf a1
abbrev Ov(a:LnJ)(a1:BkS)(a2:LnK):Prop:=I7 a a1/\Y3 a a1/\X0 a1 a=Hz a1 a2/\X6 a a1
abbrev Q8(a:IJ)(a1:BkS)(a2:LnK):Prop:=T8 a a1/\K7 a a1/\E2 a1 a=Hz a1 a2/\E5 a1 a
abbrev X7(a:BkS)(a1:IJ)(l:Nat)(a2:LnK):Prop:=∃(a_1:IJ),R9 a a_1 a1 l/\Q8 a_1 a a2/\E4 a a_1 a1
abbrev J8(a:LnJ)(a1:BkS)(a2:LnK)(a3:LnJ):Prop:=Ov a a1 a2/\S3 a1 a a3
abbrev N9(a:BkS)(a1:LnJ)(l:Nat)(a2:LnK):Prop:=∃(a_1:LnJ),X5 a a_1 a1 l/\J8 a_1 a a2 a1
abbrev O3(a:BkS)(a1:LnK)(l:Nat):Prop:=∀(a_1:LnJ),Ov a_1 a a1->bif D6 a_1 a then P1 a_1 a/\bif D0 a a_1 then l=l/\Z5 a a_1/\bif F2 a a_1 then
 L5 a_1/\∃(a_3:LnJ),N6 a a_3 a_1 l/\J8 a_3 a a1 a_1 else N9 a a_1 l a1 else N9 a a_1 l a1 else ∃(a_3:LnK),zW l a a_3 a_1/\nV a_3 a/\Hz a a_3 <
 Hz a a1
abbrev Q0(a:BkS)(a1:LnK)(l:Nat):Prop:=(∀(a_1:IJ),Q8 a_1 a a1->bif AAA a_1 a then B6 a_1 a/\bif U4 a a_1 then l=l/\L6 a a_1/\bif D3 a a_1 then
 Xw/\∃(a_3:LnJ),Z3 a a_3 a_1 l/\Ov a_3 a a1/\J1 a a_3 a_1 else X7 a a_1 l a1 else X7 a a_1 l a1 else ∃(a_3:Nat),Z9 l a a_3 a_1/\bE a_3 a /\
 Qt a a_3<Hz a a1)/\O3 a a1 l/\O3 a a1 l
abbrev X8(a:LnJ)(a1:LnK):Prop:=a.l.length=a1.l.length
abbrev Od(n:Int)(a:BkS):Bool:=decide (n=a.k)
abbrev X1(a:BkS):Prop:=∀(a_1:One),True->∃(a_3:One),(a.st=a.st/\AHO a/\AIN a/\AHV a/\AFR a/\FQ/\(∀(n:Int),(XU a.w a.k).has n=ZS a.w.has a.k n)/\(∀
 (n:Int),(XU a.w a.k).st n=yE a.w.has a.w.st a.k n)/\(∀(n:Int),((QX (XU a.w a.k) n).length=bif Od n a then (SQ (sB a)).length else (QX a.w n).length)/\∀(i:Nat),vU i a n->(gY
 a n i=bif Od n a then (gD (SQ (sB a)) i).a0 else (gD (QX a.w n) i).a0)/\(gT a n i=bif Od n a then (gD (SQ (sB a)) i).a1 else (gD (QX a.w n) i).a1)/\(kI a n i=bif Od n a
 then (gD (SQ (sB a)) i).b0 else (gD (QX a.w n) i).b0)/\iH a n i=bif Od n a then (gD (SQ (sB a)) i).b1 else (gD (QX a.w n) i).b1)/\KB a/\KD a/\(0:Nat)=(SQ (sB a)).length /\
 EB)/\True
theorem CDR(a:BkS):(CCL a)=((a.k=a.k/\rX a=a.w.g.length/\(∀(i:Nat),i<rX a->AQR a i=(gD a.w.g i).st/\ARF a i=(gD a.w.g i).lo/\AOE a i=(gD a.w.g i).hi) /\
 vA a=a.w.b.length/\(∀(i:Nat),i<vA a->AOD a i=gD a.w.b i)/\FQ/\PW a/\PR a/\(∀(n:Int),vI a n=(QX a.w n).length/\∀(i:Nat),i<vI a n ->
 AHR a n i=(gD (QX a.w n) i).a0/\AFK a n i=(gD (QX a.w n) i).a1/\AFV a n i=(gD (QX a.w n) i).b0/\AEA a n i=(gD (QX a.w n) i).b1)/\a.w.g.length=rX a/\(∀(i:Nat),i <
 a.w.g.length->(gD a.w.g i).st=AQR a i/\(gD a.w.g i).lo=ARF a i/\(gD a.w.g i).hi=AOE a i)/\a.w.b.length=vA a/\(∀(i:Nat),i<a.w.b.length->gD a.w.b i=AOD a i)/\FQ /\
 PW a/\PR a/\(∀(n:Int),(QX a.w n).length=vI a n/\∀(i:Nat),AGL i a n->(gD (QX a.w n) i).a0=AHR a n i/\(gD (QX a.w n) i).a1=AFK a n i/\(gD (QX a.w n) i).b0 =
 AFV a n i/\(gD (QX a.w n) i).b1=AEA a n i)/\(rX a<=(24:Nat)/\(∀(x:Gau),List.Mem x (sK a)->Jw x)/\vA a<=(24:Nat)/\List.Pairwise (λ(x1 x2:Int)=>x1<x2)
 (jT a)/\∀(x:Int),List.Mem x (jT a)->(1:Int)<=x/\x<=(2000:Int))/\True)/\FQ/\bif a.w.has a.k then (∃(a_1:One),(a.st=a.st/\AHO a/\AIN a/\AHV a/\AFR a /\
 FQ/\(∀(n:Int),(XU a.w a.k).has n=a.w.has n)/\(∀(n:Int),(XU a.w a.k).st n=a.w.st n)/\(∀(n:Int),(QX (XU a.w a.k) n).length=(QX a.w n).length/\∀(i:Nat),vU i a n->gY a n i
 = (gD (QX a.w n) i).a0/\gT a n i=(gD (QX a.w n) i).a1/\kI a n i=(gD (QX a.w n) i).b0/\iH a n i=(gD (QX a.w n) i).b1)/\AEU a/\AIS a/\(0:Nat)=(QX a.w a.k).length /\
 EB)/\True)/\C8 a else (((bH a=xA a/\∀(i:Nat),i<bH a->G1 a i=AGB a i/\Y5 a i=AGV a i/\C3 a i=AES a i)/\∀(l:Nat),
 (nU a=bH a/\(∀(i:Nat),i<nU a->(lG a i).st=G1 a i/\(lG a i).lo=Y5 a i/\(lG a i).hi=C3 a i)/\nU a<(1073741824:Nat) /\
 True)/\(∃(a_1:Nat),(Fn.yield l=Fn.yield l/\M2 a/\M1 a/\M2 a/\M1 a/\(↑(AA (sB a)).length:Int)=(↑(N5 a):Int)/\wT a_1/\QL a/\QB a /\
 QT a/\QF a/\FQ/\PW a/\PR a/\QQ a/\AEU a/\AIS a/\wG)/\bE a_1 a)/\(∀(a_1:Nat),bE a_1 a->bif AHX a_1 a then ADH a_1
 a/\((0:Int)<=(gD (AA (sB a)) a_1).st/\(gD (AA (sB a)) a_1).st<=(2000:Int))/\l=l/\(Js a/\Ka a/\(BT (gD (AA (sB a)) a_1)).a0=(BT (gD (AA (sB a)) a_1)).a0/\(BT (gD (AA (sB
 a)) a_1)).a1=(BT (gD (AA (sB a)) a_1)).a1/\(BT (gD (AA (sB a)) a_1)).b0=(BT (gD (AA (sB a)) a_1)).b0/\(BT (gD (AA (sB a)) a_1)).b1=(BT (gD (AA (sB a)) a_1)).b1/\Ir a/\∀(g :
 Gau),Ix g a->((0:Int)<=(BT (gD (AA (sB a)) a_1)).a0/\(BT (gD (AA (sB a)) a_1)).a0<(BT (gD (AA (sB a)) a_1)).b0/\(BT (gD (AA (sB a)) a_1)).b0<=(2000:Int)/\(0:Int)<=(BT (gD
 (AA (sB a)) a_1)).a1/\(BT (gD (AA (sB a)) a_1)).a1<=(BT (gD (AA (sB a)) a_1)).b1/\(BT (gD (AA (sB a)) a_1)).b1<=(200000:Int))/\Jw g)/\bif (XD a).all λ(g:Gau)=>LB (BT
 (gD (AA (sB a)) a_1)) g then Xw/\(∃(a_3:LnJ),(DQ a/\DS a/\JC a/\oR a_3/\Fn.yield l=Fn.yield l/\DQ a/\DS a/\DQ a/\DS a/\JC a /\
 (↑a_3.i:Int)=(↑a_1:Int)/\(gD (AA (sB a)) a_3.i).st=(gD (AA (sB a)) a_1).st/\(gD (AA (sB a)) a_3.i).fl=(gD (AA (sB a)) a_1).fl/\QL a/\QB a/\QT a/\QF a /\
 FQ/\PW a/\PR a/\QQ a/\KB a/\KD a/\EB/\bF a_3/\bF a_3/\∀(i:Nat),i<a_3.l.length->(gD a_3.l i).a0=(BT (gD (AA (sB a)) a_1)).a0/\(gD
 a_3.l i).a1=(BT (gD (AA (sB a)) a_1)).a1/\(gD a_3.l i).b0=(BT (gD (AA (sB a)) a_1)).b0/\(gD a_3.l i).b1=(BT (gD (AA (sB a)) a_1)).b1)/\Zh a_3 a a_1)/\P8 a a_1 l else (∃(a_3 :
 IJ),(DQ a/\DS a/\JC a/\(↑a_3.j:Int)=(0:Int)/\Fn.yield l=Fn.yield l/\DQ a/\DS a/\DQ a/\DS a/\JC a/\(↑a_3.i:Int)=(↑a_1:Int)/\(gD (AA (sB
 a)) a_3.i).st=(gD (AA (sB a)) a_1).st/\(gD (AA (sB a)) a_3.i).fl=(gD (AA (sB a)) a_1).fl/\mM a)/\lF a_3 a a_1)/\P8 a a_1 l else ∃(a_3:One),(a.k=a.k/\a.st=a.st /\
 QL a/\QB a/\QT a/\QF a/\FQ/\PW a/\PR a/\QQ a/\KB a/\KD a/\Y2 a/\Y2 a)/\True)/\∀(a_1:LnK),nV a_1 a->bif
 decide (Y9 a_1 a) then (zV a_1/\Y9 a_1 a)/\((0:Int)<=(gD (AA (sB a)) a_1.i).st/\(gD (AA (sB a)) a_1.i).st<=(2000:Int))/\l=l/\(Js a/\Ka a/\Qz a a_1 =
 Qz a a_1/\Oo a a_1=Oo a a_1/\Ot a a_1=Ot a a_1/\Oi a a_1=Oi a a_1/\Ir a/\∀(g:Gau),Ix g a->((0:Int)<=Qz a a_1/\Qz
 a a_1<Ot a a_1/\Ot a a_1<=(2000:Int)/\(0:Int)<=Oo a a_1/\Oo a a_1<=Oi a a_1/\Oi a a_1<=(200000:Int))/\Jw g)/\bif (XD a).all λ(g:Gau)=>
 LB (BT (gD (AA (sB a)) a_1.i)) g then U2 a_1/\(∃(a_3:LnJ),(DQ a/\DS a/\JC a/\oR a_3/\Fn.yield l=Fn.yield l/\DQ a/\DS a/\DQ a/\DS a /\
 JC a/\J2 a_3 a_1/\P4 a a_3 a_1/\P6 a a_3 a_1/\QL a/\QB a/\QT a/\QF a/\FQ/\PW a/\PR a/\QQ a/\KB a/\KD
 a/\EB/\F4 a_3 a_1/\F4 a_3 a_1/\∀(i:Nat),i<a_3.l.length->((gD a_3.l i).a0=bif YI i a_1 then (gD a_1.l i).a0 else Qz a a_1)/\((gD a_3.l i).a1=bif YI i a_1 then
 (gD a_1.l i).a1 else Oo a a_1)/\((gD a_3.l i).b0=bif YI i a_1 then (gD a_1.l i).b0 else Ot a a_1)/\(gD a_3.l i).b1=bif YI i a_1 then (gD a_1.l i).b1 else Oi a a_1) /\
 Ov a_3 a a_1)/\Q0 a a_1 l else (∃(a_3:LnJ),(DQ a/\DS a/\JC a/\oR a_3/\Fn.yield l=Fn.yield l/\DQ a/\DS a/\DQ a/\DS a/\JC a /\
 J2 a_3 a_1/\P4 a a_3 a_1/\P6 a a_3 a_1/\QL a/\QB a/\QT a/\QF a/\FQ/\PW a/\PR a/\QQ a/\KB a/\KD a/\EB
 /\ X8 a_3 a_1/\X8 a_3 a_1/\∀(i:Nat),i<a_3.l.length->(gD a_3.l i).a0=(gD a_1.l i).a0/\(gD a_3.l i).a1=(gD a_1.l i).a1/\(gD a_3.l i).b0=(gD a_1.l i).b0/\(gD a_3.l i).b1=(gD a_1.l i).b1) /\
 Ov a_3 a a_1)/\Q0 a a_1 l else ∃(a_3:One),(a.k=a.k/\a.st=a.st/\QL a/\QB a/\QT a/\QF a/\FQ/\PW a/\PR a/\QQ a/\KB a /\
 KD a/\(SQ (sB a)).length=a_1.l.length/\G5 a_1/\∀(j:Nat),j<(SQ (sB a)).length->(gD (SQ (sB a)) j).a0=zO a_1 j/\(gD (SQ (sB a)) j).a1=T3 a_1 j/\(gD (SQ (sB a)) j).b0 =
 W8 a_1 j/\(gD (SQ (sB a)) j).b1=U0 a_1 j)/\True)/\X1 a/\X1 a)/\C8 a):=by kernel_rfl
theorem Fa(w:Bk):Bk.mk w.g w.b w.has w.st=w:=rfl
theorem BDH(l:List Ln)(p:Ln)(i:Nat)(hi:i<(l ++ [p]).length):((gD (l ++ [p]) i).a0=bif decide (i<l.length) then (gD l i).a0 else p.a0)/\((gD (l ++ [p]) i).a1=bif decide (i<l.length) then (gD l i).a1 else p.a1)/\((gD (l ++ [p]) i).b0=bif decide (i<l.length) then (gD l i).b0 else p.b0)/\(gD (l ++ [p]) i).b1=bif decide (i<l.length) then (gD l i).b1 else p.b1:=by
 rw[AAC _ _ (by simpa using hi)]
 cases decide (i<l.length)<;>exact⟨rfl,rfl,rfl,rfl⟩
theorem oneL(p:Ln)(i:Nat)(hi:i<[p].length):(gD [p] i).a0=p.a0/\(gD [p] i).a1=p.a1/\(gD [p] i).b0=p.b0/\(gD [p] i).b1=p.b1:=by
 have:i=0:=by have hj:i<1:=hi;omega
 subst this;exact⟨rfl,rfl,rfl,rfl⟩
theorem CBG{s:List Gau}{i j:Nat}(h:j<(AA s).length)(h1:Va (nG (gD (AA s) i) (gD (AA s) j))=true)(h2:Hn s (nG (gD (AA s) i) (gD (AA s) j))=true):(TB s i (j+1)).filter (Hn s)=(TB s i j).filter (Hn s) ++ [nG (gD (AA s) i) (gD (AA s) j)]:=by
 rw[Wm h,if_pos h1,List.filter_append,List.filter_cons_of_pos h2];rfl
theorem BZW{s:List Gau}{i j:Nat}(h:j<(AA s).length)(h1:Va (nG (gD (AA s) i) (gD (AA s) j))=true)(h2:Hn s (nG (gD (AA s) i) (gD (AA s) j))=false):(TB s i (j+1)).filter (Hn s)=(TB s i j).filter (Hn s):=by
 rw[Wm h,if_pos h1,List.filter_append,List.filter_cons_of_neg (by rw[h2];simp)];simp
theorem BPL{s:List Gau}{i j:Nat}(h:j<(AA s).length)(h1:Va (nG (gD (AA s) i) (gD (AA s) j))=false):(TB s i (j+1)).filter (Hn s)=(TB s i j).filter (Hn s):=by
 rw[Wm h,if_neg (by rw[h1];simp),List.append_nil]
theorem ABU{s:List Gau}{i:Nat}:(TB s i 0).filter (Hn s)=(Te s i).filter (Hn s) ++ if Hn s (BT (gD (AA s) i))=true then [BT (gD (AA s) i)] else []:=by
 unfold TB
 rw[List.filter_append]
 congr 1
 simp[List.filter_cons]
theorem AVN{s:List Gau}{i j:Nat}(hN:(AA s).length<=48):((TB s i j).filter (Hn s)).length<=10000:=by
 refine Nat.le_trans (List.length_filter_le _ _) ?_
 have h1:∀a:Pt,(blk (AA s) a).length<=49:=λa=>by
  unfold blk
  have:=List.length_filter_le Va ((AA s).map (nG a))
  simp only[List.length_cons,List.length_map] at *;omega
 have h2:∀l:List Pt,l.length<=48->(l.flatMap (blk (AA s))).length<=l.length*49:=λl _=>by
  induction l with
  |nil=>simp
  |cons a l ih=>
   rw[List.flatMap_cons,List.length_append,List.length_cons]
   have:=h1 a;have:=ih (by simp at *;omega);omega
 unfold TB Te
 have h3:=h2 ((AA s).take i) (by simp;omega)
 have h4:=List.length_filter_le Va (((AA s).take j).map (nG (gD (AA s) i)))
 simp only[List.length_append,List.length_cons,List.length_map,List.length_take] at *
 omega
theorem BAB{s:List Gau}{q:Nat}(hs:s.length<=24)(hN:(AA s).length<=48)(hg:∀g∈s,RK g)(x:IJ)(hx:x.i<(AA s).length/\x.j<=(AA s).length/\(AA s).length-x.i=q/\(TB s x.i x.j).filter (Hn s)=[]) :
  ((x.j:Int)<(AA s).length->(0<=(x.j:Int)/\(x.j:Int)<(AA s).length)/\(Va ⟨(gD (AA s) x.i).st,(gD (AA s) x.i).fl,(gD (AA s) x.j).st,(gD (AA s) x.j).fl⟩=true->(s.length<4611686018427387904/\∀g:Gau,List.Mem g s->PJ ⟨(gD (AA s) x.i).st,(gD (AA s) x.i).fl,(gD (AA s) x.j).st,(gD (AA s) x.j).fl⟩/\RK g)/\((s.all λg=>LB ⟨(gD (AA s) x.i).st,(gD (AA s) x.i).fl,(gD (AA s) x.j).st,(gD (AA s) x.j).fl⟩ g)=true->((0<0->0=4)/\0<1/\0<1/\0<9223372036854775807/\31<140737488355328)/\∃y:LnJ,((y.j:Int)=IntKind.i64.wrap ((x.j:Int)+1)/\(y.i:Int)=x.i/\(gD (AA s) y.i).st=(gD (AA s) x.i).st/\(gD (AA s) y.i).fl=(gD (AA s) x.i).fl/\y.l.length=1/\y.l.length=1/\∀i:Nat,i<y.l.length->(gD y.l i).a0=(gD (AA s) x.i).st/\(gD y.l i).a1=(gD (AA s) x.i).fl/\(gD y.l i).b0=(gD (AA s) x.j).st/\(gD y.l i).b1=(gD (AA s) x.j).fl)/\(y.i<(AA s).length/\y.j<=(AA s).length/\(AA s).length-y.i=q/\y.l=(TB s y.i y.j).filter (Hn s))/\(AA s).length-y.j<(AA s).length-x.j)/\((s.all λg=>LB ⟨(gD (AA s) x.i).st,(gD (AA s) x.i).fl,(gD (AA s) x.j).st,(gD (AA s) x.j).fl⟩ g)=false->∃y:IJ,((y.j:Int)=IntKind.i64.wrap ((x.j:Int)+1)/\(y.i:Int)=x.i/\(gD (AA s) y.i).st=(gD (AA s) x.i).st/\(gD (AA s) y.i).fl=(gD (AA s) x.i).fl)/\(y.i<(AA s).length/\y.j<=(AA s).length/\(AA s).length-y.i=q/\(TB s y.i y.j).filter (Hn s)=[])/\(AA s).length-y.j<(AA s).length-x.j))/\(Va ⟨(gD (AA s) x.i).st,(gD (AA s) x.i).fl,(gD (AA s) x.j).st,(gD (AA s) x.j).fl⟩=false->∃y:IJ,((y.j:Int)=IntKind.i64.wrap ((x.j:Int)+1)/\(y.i:Int)=x.i/\(gD (AA s) y.i).st=(gD (AA s) x.i).st/\(gD (AA s) y.i).fl=(gD (AA s) x.i).fl)/\(y.i<(AA s).length/\y.j<=(AA s).length/\(AA s).length-y.i=q/\(TB s y.i y.j).filter (Hn s)=[])/\(AA s).length-y.j<(AA s).length-x.j))/\(¬(x.j:Int)<(AA s).length->∃y:Nat,(y:Int)=IntKind.i64.wrap ((x.i:Int)+1)/\(y<=(AA s).length/\(Te s y).filter (Hn s)=[])/\(AA s).length-y<q):=by
 obtain⟨h1,h2,h3,h4⟩:=hx
 refine⟨λhj=>?_,λhj=>⟨x.i+1,(CN (by omega)).symm,⟨by omega,?_⟩,by omega⟩⟩
 ·have hj':x.j<(AA s).length:=Int.ofNat_lt.1 hj
  have step:(TB s x.i (x.j+1)).filter (Hn s)=[]->∃y:IJ,((y.j:Int)=IntKind.i64.wrap ((x.j:Int)+1)/\(y.i:Int)=x.i/\(gD (AA s) y.i).st=(gD (AA s) x.i).st/\(gD (AA s) y.i).fl=(gD (AA s) x.i).fl)/\(y.i<(AA s).length/\y.j<=(AA s).length/\(AA s).length-y.i=q/\(TB s y.i y.j).filter (Hn s)=[])/\(AA s).length-y.j<(AA s).length-x.j:=λh=>⟨⟨x.i,x.j+1⟩,⟨(CN (by omega)).symm,rfl,rfl,rfl⟩,⟨h1,hj',h3,h⟩,by show (AA s).length-(x.j+1)<_;omega⟩
  refine⟨⟨by omega,hj⟩,λhr=>⟨⟨by omega,λg hgs=>⟨aQ.1 hr,hg g hgs⟩⟩,λhp=>⟨⟨by omega,by omega,by omega,by omega,by omega⟩,⟨x.i,x.j+1,[nG (gD (AA s) x.i) (gD (AA s) x.j)]⟩,⟨(CN (by omega)).symm,rfl,rfl,rfl,rfl,rfl,oneL _⟩,⟨h1,hj',h3,?_⟩,by show (AA s).length-(x.j+1)<_;omega⟩,λhp=>step ?_⟩,λhr=>step ?_⟩
  ·show _=(TB s x.i (x.j+1)).filter (Hn s)
   rw[CBG hj' hr hp,h4];rfl
  ·rw[BZW hj' hr hp,h4]
  ·rw[BPL hj' hr,h4]
 ·have:x.j=(AA s).length:=by omega
  rw[this] at h4;rw[<-tD h1];exact h4
theorem AZL{s:List Gau}{q:Nat}(hs:s.length<=24)(hN:(AA s).length<=48)(hg:∀g∈s,RK g)(x:LnJ)(hx:x.i<(AA s).length/\x.j<=(AA s).length/\(AA s).length-x.i=q/\x.l=(TB s x.i x.j).filter (Hn s)) :
  ((x.j:Int)<(AA s).length->(0<=(x.j:Int)/\(x.j:Int)<(AA s).length)/\(Va ⟨(gD (AA s) x.i).st,(gD (AA s) x.i).fl,(gD (AA s) x.j).st,(gD (AA s) x.j).fl⟩=true->(s.length<4611686018427387904/\∀g:Gau,List.Mem g s->PJ ⟨(gD (AA s) x.i).st,(gD (AA s) x.i).fl,(gD (AA s) x.j).st,(gD (AA s) x.j).fl⟩/\RK g)/\((s.all λg=>LB ⟨(gD (AA s) x.i).st,(gD (AA s) x.i).fl,(gD (AA s) x.j).st,(gD (AA s) x.j).fl⟩ g)=true->(0<1/\(false=true->0<1)/\x.l.length<9223372036854775807/\(x.l.length+1)*32<=140737488355328)/\∃y:LnJ,((y.j:Int)=IntKind.i64.wrap ((x.j:Int)+1)/\(y.i:Int)=x.i/\(gD (AA s) y.i).st=(gD (AA s) x.i).st/\(gD (AA s) y.i).fl=(gD (AA s) x.i).fl/\y.l.length=x.l.length+1/\y.l.length=x.l.length+1/\∀i:Nat,i<y.l.length->((gD y.l i).a0=bif decide (i<x.l.length) then (gD x.l i).a0 else (gD (AA s) x.i).st)/\((gD y.l i).a1=bif decide (i<x.l.length) then (gD x.l i).a1 else (gD (AA s) x.i).fl)/\((gD y.l i).b0=bif decide (i<x.l.length) then (gD x.l i).b0 else (gD (AA s) x.j).st)/\(gD y.l i).b1=bif decide (i<x.l.length) then (gD x.l i).b1 else (gD (AA s) x.j).fl)/\(y.i<(AA s).length/\y.j<=(AA s).length/\(AA s).length-y.i=q/\y.l=(TB s y.i y.j).filter (Hn s))/\(AA s).length-y.j<(AA s).length-x.j)/\((s.all λg=>LB ⟨(gD (AA s) x.i).st,(gD (AA s) x.i).fl,(gD (AA s) x.j).st,(gD (AA s) x.j).fl⟩ g)=false->(∃y:LnJ,((y.j:Int)=IntKind.i64.wrap ((x.j:Int)+1)/\(y.i:Int)=x.i/\(gD (AA s) y.i).st=(gD (AA s) x.i).st/\(gD (AA s) y.i).fl=(gD (AA s) x.i).fl/\y.l.length=x.l.length/\y.l.length=x.l.length/\∀i:Nat,i<y.l.length->(gD y.l i).a0=(gD x.l i).a0/\(gD y.l i).a1=(gD x.l i).a1/\(gD y.l i).b0=(gD x.l i).b0/\(gD y.l i).b1=(gD x.l i).b1)/\(y.i<(AA s).length/\y.j<=(AA s).length/\(AA s).length-y.i=q/\y.l=(TB s y.i y.j).filter (Hn s))/\(AA s).length-y.j<(AA s).length-x.j)))/\(Va ⟨(gD (AA s) x.i).st,(gD (AA s) x.i).fl,(gD (AA s) x.j).st,(gD (AA s) x.j).fl⟩=false->(∃y:LnJ,((y.j:Int)=IntKind.i64.wrap ((x.j:Int)+1)/\(y.i:Int)=x.i/\(gD (AA s) y.i).st=(gD (AA s) x.i).st/\(gD (AA s) y.i).fl=(gD (AA s) x.i).fl/\y.l.length=x.l.length/\y.l.length=x.l.length/\∀i:Nat,i<y.l.length->(gD y.l i).a0=(gD x.l i).a0/\(gD y.l i).a1=(gD x.l i).a1/\(gD y.l i).b0=(gD x.l i).b0/\(gD y.l i).b1=(gD x.l i).b1)/\(y.i<(AA s).length/\y.j<=(AA s).length/\(AA s).length-y.i=q/\y.l=(TB s y.i y.j).filter (Hn s))/\(AA s).length-y.j<(AA s).length-x.j)))/\(¬(x.j:Int)<(AA s).length->∃y:LnK,((y.i:Int)=IntKind.i64.wrap ((x.i:Int)+1)/\y.l.length=x.l.length/\y.l.length=x.l.length/\∀i:Nat,i<y.l.length->(gD y.l i).a0=(gD x.l i).a0/\(gD y.l i).a1=(gD x.l i).a1/\(gD y.l i).b0=(gD x.l i).b0/\(gD y.l i).b1=(gD x.l i).b1)/\(y.i<=(AA s).length/\y.l=(Te s y.i).filter (Hn s))/\(AA s).length-y.i<q):=by
 obtain⟨h1,h2,h3,h4⟩:=hx
 refine⟨λhj=>?_,λhj=>⟨⟨x.i+1,x.l⟩,⟨(CN (by omega)).symm,rfl,rfl,λ_ _=>⟨rfl,rfl,rfl,rfl⟩⟩,⟨h1,?_⟩,by show (AA s).length-(x.i+1)<_;omega⟩⟩
 ·have hj':x.j<(AA s).length:=Int.ofNat_lt.1 hj
  have hl:x.l.length<=10000:=h4 ▸ AVN hN
  have step:(TB s x.i (x.j+1)).filter (Hn s)=x.l->(∃y:LnJ,((y.j:Int)=IntKind.i64.wrap ((x.j:Int)+1)/\(y.i:Int)=x.i/\(gD (AA s) y.i).st=(gD (AA s) x.i).st/\(gD (AA s) y.i).fl=(gD (AA s) x.i).fl/\y.l.length=x.l.length/\y.l.length=x.l.length/\∀i:Nat,i<y.l.length->(gD y.l i).a0=(gD x.l i).a0/\(gD y.l i).a1=(gD x.l i).a1/\(gD y.l i).b0=(gD x.l i).b0/\(gD y.l i).b1=(gD x.l i).b1)/\(y.i<(AA s).length/\y.j<=(AA s).length/\(AA s).length-y.i=q/\y.l=(TB s y.i y.j).filter (Hn s))/\(AA s).length-y.j<(AA s).length-x.j):=λh=>⟨⟨x.i,x.j+1,x.l⟩,⟨(CN (by omega)).symm,rfl,rfl,rfl,rfl,rfl,λ_ _=>⟨rfl,rfl,rfl,rfl⟩⟩,⟨h1,hj',h3,h.symm⟩,by show (AA s).length-(x.j+1)<_;omega⟩
  refine⟨⟨by omega,hj⟩,λhr=>⟨⟨by omega,λg hgs=>⟨aQ.1 hr,hg g hgs⟩⟩,λhp=>⟨⟨by omega,λ_=>by omega,by omega,by omega⟩,⟨x.i,x.j+1,x.l ++ [nG (gD (AA s) x.i) (gD (AA s) x.j)]⟩,⟨(CN (by omega)).symm,rfl,rfl,rfl,by simp,by simp,BDH _ _⟩,⟨h1,hj',h3,?_⟩,by show (AA s).length-(x.j+1)<_;omega⟩,λhp=>step ?_⟩,λhr=>step ?_⟩
  ·show _=(TB s x.i (x.j+1)).filter (Hn s)
   rw[CBG hj' hr hp,<-h4]
  ·rw[BZW hj' hr hp,h4]
  ·rw[BPL hj' hr,h4]
 ·have:x.j=(AA s).length:=by omega
  rw[this] at h4;show x.l=(Te s (x.i+1)).filter (Hn s);rw[<-tD h1];exact h4
theorem COM{α:Type}[Inhabited α](l m:List α)(j:Nat):gD (l ++ m) j=bif decide (j<l.length) then gD l j else gD m (j-l.length):=by
 rw[wV];by_cases h:j<l.length<;>simp[h]
theorem BTX{α:Type}[Inhabited α](x y:α){j:Nat}(h:j<2):gD [x,y] j=bif decide (j=0) then x else y:=by
 match j,h with
 |0,_=>rfl
 |1,_=>rfl
theorem ACZ{s:List Gau}{t:Int}{i:Nat}(h:i<(AA s).length):Gz s t (i+1)=Gz s t i ++ [nG ⟨t,0⟩ (gD (AA s) i),nG (gD (AA s) i) ⟨t,200000⟩]:=by
 unfold Gz;rw[ND h,List.flatMap_append,<-List.append_assoc];simp
theorem AWE{s:List Gau}{t:Int}:∀i:Nat,i<=(AA s).length->(Gz s t i).length=2+2*i
 |0,_=>rfl
 |i+1,h=>by rw[ACZ (by omega),List.length_append,AWE i (by omega)];simp;omega
theorem AZQ{s:List Gau}{t:Int}:Gz s t (AA s).length=MJ s t:=by unfold Gz MJ;rw[List.take_length]
theorem BXC(s:List Gau)(t:Int):∃i:Nat,((Gz s t i).length=2/\(i:Int)=0/\(Gz s t i).length=2/\∀j:Nat,j<(Gz s t i).length->((gD (Gz s t i) j).a0=bif decide (j=0) then (BT ⟨t,0⟩).a0 else (BT ⟨t,200000⟩).a0)/\((gD (Gz s t i) j).a1=bif decide (j=0) then (BT ⟨t,0⟩).a1 else (BT ⟨t,200000⟩).a1)/\((gD (Gz s t i) j).b0=bif decide (j=0) then (BT ⟨t,0⟩).b0 else (BT ⟨t,200000⟩).b0)/\(gD (Gz s t i) j).b1=bif decide (j=0) then (BT ⟨t,0⟩).b1 else (BT ⟨t,200000⟩).b1)/\i<=(AA s).length:=by
 refine⟨0,⟨rfl,rfl,rfl,λj hj=>?_⟩,Nat.zero_le _⟩
 have hj:j<2:=hj
 rw[show Gz s t 0=[BT ⟨t,0⟩,BT ⟨t,200000⟩] from rfl,BTX _ _ hj]
 cases decide (j=0)<;>exact⟨rfl,rfl,rfl,rfl⟩
theorem BVC{s:List Gau}{t:Int}(hN:(AA s).length<=48){i:Nat}(h:(i:Int)<(AA s).length):(0<=(i:Int)/\(i:Int)<(AA s).length)/\(1<2/\(false=true->0<2)/\(Gz s t i).length+1<9223372036854775807/\((Gz s t i).length+2)*32<=140737488355328)/\∃k:Nat,((Gz s t k).length=(Gz s t i).length+2/\(k:Int)=IntKind.i64.wrap ((i:Int)+1)/\(Gz s t k).length=(Gz s t i).length+2/\∀j:Nat,j<(Gz s t k).length->((gD (Gz s t k) j).a0=bif decide (j<(Gz s t i).length) then (gD (Gz s t i) j).a0 else bif decide (j-(Gz s t i).length=0) then t else (gD (AA s) i).st)/\((gD (Gz s t k) j).a1=bif decide (j<(Gz s t i).length) then (gD (Gz s t i) j).a1 else bif decide (j-(Gz s t i).length=0) then 0 else (gD (AA s) i).fl)/\((gD (Gz s t k) j).b0=bif decide (j<(Gz s t i).length) then (gD (Gz s t i) j).b0 else bif decide (j-(Gz s t i).length=0) then (gD (AA s) i).st else t)/\(gD (Gz s t k) j).b1=bif decide (j<(Gz s t i).length) then (gD (Gz s t i) j).b1 else bif decide (j-(Gz s t i).length=0) then (gD (AA s) i).fl else 200000)/\k<=(AA s).length/\(AA s).length-k<(AA s).length-i:=by
 have h':i<(AA s).length:=Int.ofNat_lt.1 h
 have hl:=AWE (s:=s) (t:=t) i (by omega)
 refine⟨⟨by omega,h⟩,⟨by omega,λ_=>by omega,by omega,by omega⟩,i+1,⟨?_,(CN (by omega)).symm,?_,λj hj=>?_⟩,h',by omega⟩
 ·rw[ACZ h',List.length_append];rfl
 ·rw[ACZ h',List.length_append];rfl
 ·rw[ACZ h'] at hj ⊢
  rw[COM]
  by_cases h1:j<(Gz s t i).length
  ·simp[h1]
  ·rw[BTX _ _ (by simp at hj;omega)]
   simp only[h1,decide_false,cond_false]
   cases decide (j-(Gz s t i).length=0)<;>exact⟨rfl,rfl,rfl,rfl⟩
theorem BAY{s:List Gau}{l:List Ln}{i:Nat}(h:i<l.length):(l.take (i+1)).filter (yU s)=(l.take i).filter (yU s) ++ if yU s (gD l i)=true then [gD l i] else []:=by
 rw[ND h,List.filter_append];simp[List.filter_cons]
theorem ABR{s:List Gau}{t:Int}:(MJ s t).length=2+2*(AA s).length:=by rw[<-AZQ,AWE _ (Nat.le_refl _)]
theorem BVN{s:List Gau}{t:Int}{f:List Ln}(hs:s.length<=24)(hN:(AA s).length<=48)(hg:∀g∈s,RK g)(hf:f.length<=10000){x:LnK}(hx:x.i<=(MJ s t).length/\x.l=f ++ ((MJ s t).take x.i).filter (yU s))(h:(x.i:Int)<(MJ s t).length) :
  ((0<=(x.i:Int)/\(x.i:Int)<(MJ s t).length)/\x.i<(MJ s t).length)/\(Va (gD (MJ s t) x.i)=true->(s.length<4611686018427387904/\∀g:Gau,List.Mem g s->PJ (gD (MJ s t) x.i)/\RK g))/\((bif Va (gD (MJ s t) x.i) then s.all λg=>LB (gD (MJ s t) x.i) g else false)=true->(0<1/\(false=true->0<1)/\x.l.length<9223372036854775807/\(x.l.length+1)*32<=140737488355328)/\∃y:LnK,(y.l.length=x.l.length+1/\(y.i:Int)=x.i/\y.l.length=x.l.length+1/\∀j:Nat,j<y.l.length->((gD y.l j).a0=bif decide (j<x.l.length) then (gD x.l j).a0 else (gD (MJ s t) x.i).a0)/\((gD y.l j).a1=bif decide (j<x.l.length) then (gD x.l j).a1 else (gD (MJ s t) x.i).a1)/\((gD y.l j).b0=bif decide (j<x.l.length) then (gD x.l j).b0 else (gD (MJ s t) x.i).b0)/\(gD y.l j).b1=bif decide (j<x.l.length) then (gD x.l j).b1 else (gD (MJ s t) x.i).b1)/\(y.i<(MJ s t).length/\(MJ s t).length-y.i=(MJ s t).length-x.i/\y.l=f ++ (((MJ s t).take (y.i+1)).filter (yU s))))/\((bif Va (gD (MJ s t) x.i) then s.all λg=>LB (gD (MJ s t) x.i) g else false)=false->∃y:LnK,(y.l.length=x.l.length/\(y.i:Int)=x.i/\y.l.length=x.l.length/\∀j:Nat,j<y.l.length->(gD y.l j).a0=(gD x.l j).a0/\(gD y.l j).a1=(gD x.l j).a1/\(gD y.l j).b0=(gD x.l j).b0/\(gD y.l j).b1=(gD x.l j).b1)/\(y.i<(MJ s t).length/\(MJ s t).length-y.i=(MJ s t).length-x.i/\y.l=f ++ (((MJ s t).take (y.i+1)).filter (yU s)))):=by
 obtain⟨h1,h2⟩:=hx
 have h':x.i<(MJ s t).length:=Int.ofNat_lt.1 h
 have hl:x.l.length<=10098:=by
  rw[h2,List.length_append]
  have:=List.length_filter_le (yU s) ((MJ s t).take x.i)
  rw[List.length_take] at this
  have:=ABR (s:=s) (t:=t)
  omega
 refine⟨⟨⟨by omega,h⟩,h'⟩,λhr=>⟨by omega,λg hgs=>⟨aQ.1 hr,hg g hgs⟩⟩,λhp=>⟨⟨by omega,λ_=>by omega,by omega,by omega⟩,⟨x.i,x.l ++ [(gD (MJ s t) x.i)]⟩,⟨by simp,rfl,by simp,BDH _ _⟩,h',rfl,?_⟩,λhp=>⟨⟨x.i,x.l⟩,⟨rfl,rfl,rfl,λ_ _=>⟨rfl,rfl,rfl,rfl⟩⟩,h',rfl,?_⟩⟩
 ·show x.l ++ _=_
  rw[BAY h',if_pos (show yU s (gD (MJ s t) x.i)=true from hp),<-List.append_assoc,<-h2]
 ·show x.l=_
  rw[BAY h',if_neg (by intro hq;have hq:(bif Va (gD (MJ s t) x.i) then s.all λg=>LB (gD (MJ s t) x.i) g else false)=true:=hq;rw[hp] at hq;cases hq),List.append_nil,<-h2]
theorem BGL{s:List Gau}{t:Int}{f:List Ln}(hN:(AA s).length<=48){m:Nat}(x:LnK)(hx:x.i<(MJ s t).length/\(MJ s t).length-x.i=m/\x.l=f ++ ((MJ s t).take (x.i+1)).filter (yU s)):∃y:LnK,(y.l.length=x.l.length/\(y.i:Int)=IntKind.i64.wrap ((x.i:Int)+1)/\y.l.length=x.l.length/\∀j:Nat,j<y.l.length->(gD y.l j).a0=(gD x.l j).a0/\(gD y.l j).a1=(gD x.l j).a1/\(gD y.l j).b0=(gD x.l j).b0/\(gD y.l j).b1=(gD x.l j).b1)/\(y.i<=(MJ s t).length/\y.l=f ++ ((MJ s t).take y.i).filter (yU s))/\(MJ s t).length-y.i<m:=by
 have:=ABR (s:=s) (t:=t)
 exact⟨⟨x.i+1,x.l⟩,⟨rfl,(CN (by omega)).symm,rfl,λ_ _=>⟨rfl,rfl,rfl,rfl⟩⟩,⟨hx.1,hx.2.2⟩,by show (MJ s t).length-(x.i+1)<m;omega⟩
theorem aZ{w:Bk}{k:Int}(h:w.has k=true):XU w k=w:=by
 obtain⟨g,b,has,st⟩:=w
 have h:has k=true:=h
 unfold XU;congr 1
 ·funext n;unfold ZS;by_cases e:n=k
  ·subst e;simp[h]
  ·simp[e]
 ·funext n;unfold yE;simp[h]
theorem CQI{w:Bk}{k n:Int}:QX (XU w k) n=bif decide (n=k) then SQ (Ja w k) else QX w n:=by
 unfold QX
 show (bif ZS w.has k n then SQ (Ja w n) else [])=_
 unfold ZS
 by_cases e:n=k
 ·subst e;simp
 ·simp[e]
theorem BXY{w:Bk}{k:Int}(h:w.has k=true):QX w k=SQ (Ja w k):=by unfold QX;rw[h];rfl
theorem CHJ{s:List Gau}(h:s=[]):SQ s=[]:=by subst h;rfl
theorem BMT{s:List Gau}(hN:(AA s).length<=48):(SQ s).length<=10000:=by
 unfold SQ
 rw[<-rM]
 by_cases h:(AA s).length=0
 ·rw[h];simp[Te]
 ·obtain⟨i,hi⟩:∃i,(AA s).length=i+1:=⟨(AA s).length-1,by omega⟩
  rw[hi,<-tD (i:=i) (by omega)];exact AVN hN
theorem BYY{w:Bk}{k:Int}:∀n:Int,((QX (XU w k) n).length=bif decide (n=k) then (SQ (Ja w k)).length else (QX w n).length)/\∀j:Nat,j<(QX (XU w k) n).length->((gD (QX (XU w k) n) j).a0=bif decide (n=k) then (gD (SQ (Ja w k)) j).a0 else (gD (QX w n) j).a0)/\((gD (QX (XU w k) n) j).a1=bif decide (n=k) then (gD (SQ (Ja w k)) j).a1 else (gD (QX w n) j).a1)/\((gD (QX (XU w k) n) j).b0=bif decide (n=k) then (gD (SQ (Ja w k)) j).b0 else (gD (QX w n) j).b0)/\(gD (QX (XU w k) n) j).b1=bif decide (n=k) then (gD (SQ (Ja w k)) j).b1 else (gD (QX w n) j).b1:=λn=>by
 rw[CQI];cases decide (n=k)<;>exact⟨rfl,λ_ _=>⟨rfl,rfl,rfl,rfl⟩⟩
theorem CBY{a:BkS}(h:ZV a.w.g a.w.b):(sB a).length<=24/\(AA (sB a)).length<=48/\∀g∈sB a,RK g:=by
 have h1:(sB a).length<=24:=Nat.le_trans (List.length_filter_le _ _) h.1
 have he:=Wk (s:=sB a) (sB a).length (Nat.le_refl _)
 unfold Kd at he;rw[List.take_length] at he
 exact⟨h1,by unfold AA;omega,λg hg=>h.2.1 g (List.mem_filter.1 hg).1⟩
theorem M4{s:List Gau}{t:Int}:VP s t=bif (bif decide ((s.length:Int)>0) then ((SQ s).length:Int)==0 else false) then [] else SQ s ++ (MJ s t).filter (yU s):=by
 unfold VP
 rw[show decide (0<s.length)=decide ((s.length:Int)>0) by simp[Int.natCast_pos],show decide ((SQ s).length=0)=(((SQ s).length:Int)==0) by rw[Bool.eq_iff_iff];simp]
theorem CRB(a:BkS)(h:ZV a.w.g a.w.b)(h2:0<=a.st/\a.st<=2000)(h3:sB a≠[]):BYP a:=by
 rw[CGS];delta uP sF ABX AMX ASE AMK jC rY ARB ANG HD PO PT AFC AHN wH jW AIP AIY AFN AEH AEW Qb ADV AIF wF xV vS xJ AHL AEL AGE vY AIM wI gS jD kF gW iV AFQ wL ADX iO AJC ADL AEV AFJ AHF Pr Qw Pj Oc Oh Pu Qn AIZ AHI Ai jQ Rr xL Qv KF AEB AFO AHA AET AEQ LV LS vM wJ AHZ AIE xS gR hJ jR iC jJ jA AGM AEM AFP Wi AHP wR ADM DR DT JE jP iU Ri AIH AFY Wn iT AHB K3 C9 A4 Z6 U8 J7 oX mF oI lJ nW A7 D2 E1 Jg N7 Po Px Sb Oq Nt Qs pG pP N4 Xt Q7 W0 Nk lV F8 V3 ZA aJ pR lN Q3 J0 zY Xe O1 U1 zZ B5 O7 O4 Yr bL F6 Y6 U6 kZ mW lI zP zX E8 J4 D8 QM PZ QU PY QO W9 Zq nI oO Zn F5 A0 V8 E9 Yu X9 P5 N2 T1 nH H4 K0 V5 zT K2 H8 S1 C4 zU M9 oW kR H6 oQ H5 M0 X3 Q5 J5 K5 K8 C2 V7 D5 Y7 zN pF V6 S6 T2 zS B9 zR Xl N3 D9 C5 E6 T6 zQ G9 F0 mG Io L9 P2 F1 O5 Qd Pq Rc Sc R8 V2 K1 H3 Rq H9 Y0 O9 L4 D4 M5 V1 Pf E7;simp only[CC,eq_self,implies_true,forall_const,Fa,show Ja a.w a.k=sB a from rfl,if_true]
 obtain⟨hs,hN,hg⟩:=CBY h
 have hf:=BMT (s:=sB a) hN
 have h0:0<(sB a).length:=List.length_pos_iff.2 h3
 have ok:∀x,PJ x->(sB a).length<4611686018427387904/\∀g:Gau,List.Mem g (sB a)->PJ x/\RK g:=λx hx=>⟨by omega,λg hgs=>⟨hx,hg g hgs⟩⟩
 have e_ok:∀i,i<(AA (sB a)).length->okP (gD (AA (sB a)) i):=λi hi=>cM hg (CV hi)
 refine⟨h,λhh=>⟨?a,?b1⟩,λhh=>⟨⟨⟨by omega,⟨0,rfl,Nat.zero_le _,rfl⟩,λi ⟨hi,hp⟩=>?c,λx ⟨hi,hp⟩=>?d⟩,?e⟩,?b2⟩⟩
 case a=>
  refine⟨default,?_⟩
  rw[aZ hh,BXY hh]
  exact⟨rfl,λ_ _=>⟨rfl,rfl,rfl⟩,rfl,λ_ _=>rfl,λ_=>rfl,λ_=>rfl,λ_=>⟨rfl,λ_ _=>⟨rfl,rfl,rfl,rfl⟩⟩,rfl,λ_ _=>⟨rfl,rfl,rfl,rfl⟩⟩
 case e=>exact⟨default,rfl,λ_ _=>⟨rfl,rfl,rfl⟩,rfl,λ_ _=>rfl,λ_=>rfl,λ_=>rfl,BYY⟩
 case c=>
  refine⟨λhlt=>?_,λhge=>⟨default,?_⟩⟩
  ·have hlt':i<(AA (sB a)).length:=Int.ofNat_lt.1 hlt
   refine⟨⟨by omega,hlt⟩,⟨(e_ok i hlt').1,(e_ok i hlt').2.1⟩,ok _ (eQ (e_ok i hlt')),λhpa=>⟨⟨by omega,by omega,by omega,by omega,by omega⟩,⟨⟨i,0,[BT (gD (AA (sB a)) i)]⟩,⟨rfl,rfl,rfl,rfl,rfl,rfl,oneL _⟩,hlt',Nat.zero_le _,rfl,?_⟩,λx hx=>BAB hs hN hg x hx,λx hx=>AZL hs hN hg x hx⟩,λhpa=>⟨⟨⟨i,0⟩,⟨rfl,rfl,rfl,rfl⟩,hlt',Nat.zero_le _,rfl,?_⟩,λx hx=>BAB hs hN hg x hx,λx hx=>AZL hs hN hg x hx⟩⟩
   ·show _=(TB (sB a) i 0).filter (Hn (sB a))
    rw[ABU,hp,if_pos (show Hn (sB a) _=true from hpa)];rfl
   ·show (TB (sB a) i 0).filter (Hn (sB a))=[]
    rw[ABU,hp,if_neg (by rw[show Hn (sB a) (BT (gD (AA (sB a)) i))=false from hpa];simp)];rfl
  ·have:i=(AA (sB a)).length:=by omega
   rw[this,rM] at hp;unfold SQ;rw[hp];rfl
 case d=>
  refine⟨λhlt=>?_,λhge=>⟨default,?_⟩⟩
  ·have hlt':x.i<(AA (sB a)).length:=Int.ofNat_lt.1 hlt
   have hl:x.l.length<=10000:=by
    have:=AVN (s:=sB a) (i:=x.i) (j:=0) hN
    rw[ABU,<-hp,List.length_append] at this;omega
   refine⟨⟨by omega,hlt⟩,⟨(e_ok x.i hlt').1,(e_ok x.i hlt').2.1⟩,ok _ (eQ (e_ok x.i hlt')),λhpa=>⟨⟨by omega,λ_=>by omega,by omega,by omega⟩,⟨⟨x.i,0,x.l ++ [BT (gD (AA (sB a)) x.i)]⟩,⟨rfl,rfl,rfl,rfl,by simp,by simp,BDH _ _⟩,hlt',Nat.zero_le _,rfl,?_⟩,λx hx=>BAB hs hN hg x hx,λx hx=>AZL hs hN hg x hx⟩,λhpa=>⟨⟨⟨x.i,0,x.l⟩,⟨rfl,rfl,rfl,rfl,rfl,rfl,λ_ _=>⟨rfl,rfl,rfl,rfl⟩⟩,hlt',Nat.zero_le _,rfl,?_⟩,λx hx=>BAB hs hN hg x hx,λx hx=>AZL hs hN hg x hx⟩⟩
   ·show _=(TB (sB a) x.i 0).filter (Hn (sB a))
    rw[ABU,<-hp,if_pos (show Hn (sB a) _=true from hpa)]
   ·show x.l=(TB (sB a) x.i 0).filter (Hn (sB a))
    rw[ABU,<-hp,if_neg (by rw[show Hn (sB a) (BT (gD (AA (sB a)) x.i))=false from hpa];simp),List.append_nil]
  ·have hx:x.l=SQ (sB a):=by rw[hp,show x.i=(AA (sB a)).length by omega,rM];rfl
   rw[hx];exact⟨rfl,Nat.le_refl _,λ_ _=>⟨rfl,rfl,rfl,rfl⟩⟩
 all_goals
  ·have hmo:∀i:Nat,i<=(AA (sB a)).length->¬(i:Int)<(AA (sB a)).length->Gz (sB a) a.st i=MJ (sB a) a.st:=λi h1 h2=>by
    rw[show i=(AA (sB a)).length by omega,AZQ]
   refine⟨λhc=>by rw[M4,hc];rfl,λhc=>⟨h2,by omega,BXC _ _,λi hi=>⟨λhlt=>BVC hN hlt,λhge=>⟨⟨?_,by omega⟩,⟨⟨0,SQ (sB a)⟩,⟨rfl,by rw[hmo i hi hge],by rw[hmo i hi hge],rfl,by rw[hmo i hi hge],λj _=>by rw[hmo i hi hge];exact⟨rfl,rfl,rfl,rfl⟩,rfl,λ_ _=>⟨rfl,rfl,rfl,rfl⟩⟩,Nat.zero_le _,by simp⟩,λx hx=>⟨λhlt=>⟨BVN hs hN hg hf hx hlt,λy hy=>BGL hN y hy⟩,λhge=>?_⟩⟩⟩⟩⟩
   ·simp only[decide_eq_true (show ((sB a).length:Int)>0 by omega),cond_true,beq_eq_false_iff_ne,ne_eq] at hc
    omega
   ·have e:VP (sB a) a.st=x.l:=by rw[M4,hc,hx.2,List.take_of_length_le (by omega)];rfl
    rw[e];exact⟨rfl,Nat.le_refl _,λ_ _=>⟨rfl,rfl,rfl,rfl⟩⟩
theorem BZG{s:List Gau}{t:Int}(hN:(AA s).length<=48){m:Nat}(i:Nat)(hx:i<(MJ s t).length/\(MJ s t).length-i=m/\((MJ s t).take (i+1)).filter (yU s)=[]):∃y:Nat,(y:Int)=IntKind.i64.wrap ((i:Int)+1)/\(y<=(MJ s t).length/\((MJ s t).take y).filter (yU s)=[])/\(MJ s t).length-y<m:=by
 have:=ABR (s:=s) (t:=t)
 exact⟨i+1,(CN (by omega)).symm,⟨hx.1,hx.2.2⟩,by omega⟩
theorem CPP(a:BkS)(h:ZV a.w.g a.w.b)(h2:0<=a.st/\a.st<=2000)(h3:sB a=[]):CCL a:=by
 rw[CDR];delta sK rX ABP AQR ARF AOE jT vA AOD AQF FQ PW PR AEN AJD vI jK AHR AFK AFV AEA AGL Jw AHO AIJ vE wB wP xW AIN AHV AHE wM AFR vU jY gY gT kI iH AHD xA AEU jN AGB AGV AES AIS EB ADO Ek El Ef Ed Ee Eb En AFH AFT AFE XD iA Js vF Ka AGO AGI AFI AHM wT KB KD Py AEI AHK xF jX iI jE kD iP iQ AHT AHX AIG ADH Wp AJJ vV AFF DQ DS JC AFS jV kG Qt AGC wG AEZ bR oV kX mQ mK Zi C1 oS Ib T7 Oe No Pd Rj Ir Ix pN nR Xw R0 TN Ie Ye L8 YX ZJ C0 D7 T9 Z1 Y1 K4 nX Q4 A8 nN U5 F9 zV Z4 Ij Z2 Pm Nn Nv Qh B7 Yf U2 P3 Q6 YI lH M3 G5 Xm zO T3 W8 U0 C8 V9 bH bB G1 Y5 C3 lK nU lG V0 N5 M2 G0 M1 QL QB QT QF QQ bE oR bF I7 Y3 X0 X6 Zh T8 K7 E2 E5 lF Z0 AAA B6 N0 O2 U4 L6 D3 J9 Z3 mP oH J1 mM R9 E4 O6 Z9 W2 D6 P1 K9 G7 D0 Z5 F2 lU L5 M8 A2 B8 A1 G4 Yn N6 S3 S0 Y4 X5 V4 P7 zW nV Hz U7 P8 Y2 Y9 Qz Oo Ot Oi J2 P4 P6 F4 Ov Q8 X7 J8 N9 O3 Q0 X8 Od X1;simp only[CC,eq_self,implies_true,forall_const,Fa,show Ja a.w a.k=sB a from rfl,if_true]
 obtain⟨hs,hN,hg⟩:=CBY h
 have hf:SQ (sB a)=[]:=CHJ h3
 have h0:(AA (sB a)).length=0:=by rw[h3];rfl
 have hS:(sB a).length=0:=by rw[h3];rfl
 have ok:∀x,PJ x->(sB a).length<4611686018427387904/\∀g:Gau,List.Mem g (sB a)->PJ x/\RK g:=λx hx=>⟨by omega,λg hgs=>⟨hx,hg g hgs⟩⟩
 have hc:(bif decide (((sB a).length:Int)>0) then ((SQ (sB a)).length:Int)==0 else false)=false:=by rw[hS];rfl
 refine⟨h,λhh=>⟨?a,?b1⟩,λhh=>⟨⟨⟨by omega,⟨0,rfl,Nat.zero_le _,rfl⟩,λi ⟨hi,hp⟩=>?c,λx ⟨hi,hp⟩=>?d⟩,?e⟩,?b2⟩⟩
 case a=>
  refine⟨default,?_⟩
  rw[aZ hh,BXY hh]
  exact⟨rfl,λ_ _=>⟨rfl,rfl,rfl⟩,rfl,λ_ _=>rfl,λ_=>rfl,λ_=>rfl,λ_=>⟨rfl,λ_ _=>⟨rfl,rfl,rfl,rfl⟩⟩,by show 0=(SQ (sB a)).length;rw[hf];rfl⟩
 case e=>exact⟨default,rfl,λ_ _=>⟨rfl,rfl,rfl⟩,rfl,λ_ _=>rfl,λ_=>rfl,λ_=>rfl,BYY,by rw[hf];rfl⟩
 case c=>exact⟨λhlt=>absurd hlt (by omega),λhge=>⟨default,by rw[hf];rfl⟩⟩
 case d=>
  refine⟨λhlt=>absurd hlt (by omega),λhge=>⟨default,?_⟩⟩
  have hx:x.l=SQ (sB a):=by rw[hp,show x.i=(AA (sB a)).length by omega,rM];rfl
  rw[hx];exact⟨rfl,Nat.le_refl _,λ_ _=>⟨rfl,rfl,rfl,rfl⟩⟩
 all_goals
  have hmo:∀i:Nat,i<=(AA (sB a)).length->Gz (sB a) a.st i=MJ (sB a) a.st:=λi h1=>by
   rw[show i=(AA (sB a)).length by omega,AZQ]
  have hML:=ABR (s:=sB a) (t:=a.st)
  refine⟨λhc=>?_,λ_=>⟨h2,by omega,BXC _ _,λi hi=>⟨λhlt=>BVC hN hlt,λhge=>⟨⟨0,⟨by rw[hmo i hi],by rw[hmo i hi],rfl,by rw[hmo i hi],λj _=>by rw[hmo i hi];exact⟨rfl,rfl,rfl,rfl⟩⟩,Nat.zero_le _,rfl⟩,λx ⟨hx,hy⟩=>⟨λhlt=>⟨?_,λy hy=>BZG hN y hy,λy hy=>BGL hN y hy⟩,λhge=>?_⟩,λx hx=>⟨λhlt=>⟨BVN hs hN hg (by rw[hf];exact Nat.zero_le _) hx hlt,λy hy=>BZG hN y hy,λy hy=>BGL hN y hy⟩,λhge=>?_⟩⟩⟩⟩⟩
  ·rw[hS] at hc;cases hc
  ·have h':x<(MJ (sB a) a.st).length:=Int.ofNat_lt.1 hlt
   refine⟨⟨⟨by omega,hlt⟩,h'⟩,λhr=>ok _ (aQ.1 hr),λhp=>⟨⟨by omega,by omega,by omega,by omega,by omega⟩,⟨x,[gD (MJ (sB a) a.st) x]⟩,⟨rfl,rfl,rfl,oneL _⟩,h',rfl,?_⟩,λhp=>⟨x,rfl,h',rfl,?_⟩⟩
   ·show [_]=_
    rw[BAY h',if_pos (show yU (sB a) (gD (MJ (sB a) a.st) x)=true from hp),hy,hf];rfl
   ·rw[BAY h',if_neg (by intro hq;have hq:(bif Va (gD (MJ (sB a) a.st) x) then (sB a).all λg=>LB (gD (MJ (sB a) a.st) x) g else false)=true:=hq;rw[hp] at hq;cases hq),hy];rfl
  ·have hz:(MJ (sB a) a.st).filter (yU (sB a))=[]:=by rw[<-hy,List.take_of_length_le (by omega)]
   rw[M4,hc,hf,hz];rfl
  ·have e:VP (sB a) a.st=x.l:=by rw[M4,hc,hx.2,List.take_of_length_le (by omega)];rfl
   rw[e];exact⟨rfl,Nat.le_refl _,λ_ _=>⟨rfl,rfl,rfl,rfl⟩⟩
theorem AIC:AJ Try.prog ABH (C_lns.spec dBkS):=Ctr.spec_ok (C:=C_lns) (λ(a:BkS) h=>by
 have h:ZV a.w.g a.w.b/\0<=a.st/\a.st<=2000:=h
 by_cases h3:sB a=[]
 ·exact Mn (A:=BTH a) (ren:=[]) (fz:=[403]) BFC (by kernel_rfl) (AC xH (AC D1 (AC J3 (AC Wv (AC ADA (AC AOC (AC CGO AE))))))) (CPP a h.1 h.2 h3) (BZA Cr (BNS a) rfl rfl (AC ADA (AC Wv (AC AOC AE))) sR (by kernel_rfl) (by kernel_rfl))
 ·exact Mn (A:=CBK a) (ren:=[]) (fz:=[403]) BFC (by kernel_rfl) (AC xH (AC D1 (AC J3 (AC Wv (AC ADA (AC AOC (AC CDI AE))))))) (CRB a h.1 h.2 h3) (BZA Cr (BNS a) rfl rfl (AC ADA (AC Wv (AC AOC AE))) sR (by kernel_rfl) (by kernel_rfl))) _
end Go.Bal
