/- Package gauge: a gauging with one vertical at 5 between banks at 0 and 10. -/
import Derived.Test.YtbmlgdlbffmjjaaGreatGaA
import Derived.Test.YtbmlgdlbffmjjaaGreatGaJ
set_option linter.unusedVariables false
set_option linter.unusedSimpArgs false
namespace Go.Bal
open Go Go.Sym Go.Proofs
structure Vt where
 d:Span
 s:Span
 deriving Inhabited
def eVt(v:Vt):DVal:=.agg [EP 5,EP v.d.lo,EP v.d.hi,EP v.s.lo,EP v.s.hi]
def dVt:DVal->Vt
 | .agg [_,a,b,c,d]=>⟨⟨LO a,LO b⟩,⟨LO c,LO d⟩⟩
 |_=>default
theorem wM(v:Vt):dVt (eVt v)=v:=rfl
theorem dH(a b c d:Int):dVt (.agg [EP 5,EP a,EP b,EP c,EP d])=⟨⟨a,b⟩,⟨c,d⟩⟩:=rfl
def eVts(v:Vt):DVal:=.list 5 1 (λ_=>eVt v) false
def eGg(v:Vt):DVal:=.agg [EP 0,EP 10,eVts v]
def ggB(v:Vt):AObj:=.box [.int 0,.int 10,.d (eVts v)]
end Go.Bal
namespace Go.Bal.DL
theorem v1(v:Vt):dVt (eVt v)=v:=rfl
theorem v2(v:Vt):Vt.mk ⟨v.d.lo,v.d.hi⟩ ⟨v.s.lo,v.s.hi⟩=v:=rfl
theorem v3(a b c d:Int):dVt (.agg [EP 5,EP a,EP b,EP c,EP d])=Vt.mk ⟨a,b⟩ ⟨c,d⟩:=rfl
end Go.Bal.DL
namespace Go.Bal
open Go Go.Sym Go.Proofs
def CGU(x:I3):Prop:=AX Try.prog (ann 15 []) BSZ (AF BSZ) (xI3 x) (AC []) (.bool (MN x.a x.b x.c)) [] [] []
theorem CNC(x:I3):(CGU x)=(XE (MN (hd2 x) (hd3 x) (hd4 x)) (G4 (hd2 x) (hd3 x)) (hd2 x) (hd4 x)):=by kernel_rfl
structure SII where
 s:Span
 a:Int
 b:Int
def xSII(x:SII):List AVal:=[.d (UJ x.s),.int x.a,.int x.b]
def dSII:List AVal->Option SII
 |[.d (.agg [.v (.int .i64 p),.v (.int .i64 q)]),.d (.v (.int .i64 a)),.d (.v (.int .i64 b))]=>some ⟨⟨p,q⟩,a,b⟩
 |_=>none
theorem hSII(xs:List AVal)(a:SII)(h:dSII xs=some a):xs=xSII a:=by
 unfold dSII at h;split at h<;>cases h;rfl
def riV(x:SII):Bool:=MN x.s.lo x.a x.s.hi&&decide (x.s.hi<=x.b)
def AXJ(x:SII):Prop:=AX Try.prog (ann 19 [(J2,Fh)]) AKK (AF AKK) (xSII x) (AC []) (.bool (riV x)) [] [] []
theorem BKB(x:SII):(AXJ x)=(XE (riV x) (eZ (CE (SII.s x)) (SII.a x) (SII.s x)) (EE (SII.s x)) (SII.b x)):=by kernel_rfl
def AXV:=pD dSII λx=>.bool (riV x)
def shV(x:I2):Bool:=MN x.b 1 10000&&MN x.a 0 (wr (x.b-1))
def AYR(x:I2):Prop:=AX Try.prog (ann 13 [(J2,Fh)]) AJI (AF AJI) (xI2 x) (AC []) (.bool (shV x)) [] [] []
theorem BKY(x:I2):(AYR x)=(HX (shV x) (MN (Ow x) 1 10000) (FC (Ij x) (Re (Ow x)))):=by kernel_rfl
def AWL:=pD dI2 λx=>.bool (shV x)
def BFF(x:Int):Prop:=AX Try.prog (ann 6 []) ARR (AF ARR) (xI1 x) (AC []) (.d (UJ ⟨x,x⟩)) [] [] []
theorem BPQ(x:Int):(BFF x)=(hX (AJ x)):=by kernel_rfl
def BFK:=pD dI1 λx=>.d (UJ ⟨x,x⟩)
structure SpS where
 a:Span
 b:Span
def xSpS(x:SpS):List AVal:=[.d (UJ x.a),.d (UJ x.b)]
def dSpS:List AVal->Option SpS
 |[.d (.agg [.v (.int .i64 p),.v (.int .i64 q)]),.d (.agg [.v (.int .i64 a),.v (.int .i64 b)])]=>some ⟨⟨p,q⟩,⟨a,b⟩⟩
 |_=>none
theorem hSpS(xs:List AVal)(a:SpS)(h:dSpS xs=some a):xs=xSpS a:=by
 unfold dSpS at h;split at h<;>cases h;rfl
def plV(x:SpS):Span:=⟨wr (x.a.lo+x.b.lo),wr (x.a.hi+x.b.hi)⟩
def BGJ(x:SpS):Prop:=AX Try.prog (ann 16 []) ASM (AF ASM) (xSpS x) (AC []) (.d (UJ (plV x))) [] [] []
theorem BSD(x:SpS):(BGJ x)=(And (Iv (plV x) (DN (CE (SpS.a x)) (CE (SpS.b x)))) (SF (plV x) (AHK (SpS.a x) (EE (SpS.b x))))):=by kernel_rfl
def BFC:=pD dSpS λx=>.d (UJ (plV x))
structure Sp3 where
 a:Span
 b:Span
 c:Span
def mi4(a b c d:Int):Int:=O8 (O8 (O8 a b) c) d
def ma4(a b c d:Int):Int:=Ny (Ny (Ny a b) c) d
def tiV(o s:Span):Span:=⟨mi4 (wr (o.lo*s.lo)) (wr (o.lo*s.hi)) (wr (o.hi*s.lo)) (wr (o.hi*s.hi)),ma4 (wr (o.lo*s.lo)) (wr (o.lo*s.hi)) (wr (o.hi*s.lo)) (wr (o.hi*s.hi))⟩
def tmV(x:Sp3):Span:=tiV (tiV (tiV ⟨1,1⟩ x.a) x.b) x.c
def C_gTimes:Ctr:={ α:=Sp3,xs:=λx=>[.d (lst 2 3 λi=>UJ (bif Nat.beq i 0 then x.a else bif Nat.beq i 1 then x.b else x.c))],L:=λ_=>[],val:=λx=>.d (UJ (tmV x)),keep:=λ_=>[] }
def AXB:List AVal->Heap->Option (Sp3×List (Nat×Nat)×List Nat)
 |[a],H=>match xZ a H with
  |some (_,g,f)=>some (⟨eQ (g 0),eQ (g 1),eQ (g 2)⟩,[],f)
  |none=>none
 |_,_=>none
def tmS(x:Sp3)(o:Span)(i:Nat):ST:=⟨[(2,.bptr 1000 0),(3,.bptr 2016 0),(11,.d (lst 2 3 λi=>UJ (bif Nat.beq i 0 then x.a else bif Nat.beq i 1 then x.b else x.c))),(12,.int 3),(13,.int i)],[(1000,.live (.box [.int 0,.int 0])),(2016,.live (.box [.int o.lo,.int o.hi]))]⟩
def tmO(x:Sp3):Nat->Span
 |0=>⟨1,1⟩
 |i+1=>tiV (tmO x i) (bif Nat.beq i 0 then x.a else bif Nat.beq i 1 then x.b else x.c)
def AYQ(x:Sp3):Ann:={ ann 50 [] with loops:=λid=>if id=3 then some [{ α:=Nat,dflt:=0,T:=λk=>tmS x (tmO x k) k,inv:=λk=>k<=3,meas:=λk=>3-k }] else none }
def AVE(x:Sp3):Prop:=AX Try.prog (AYQ x) AFS (AF AFS) (C_gTimes.xs x) (AC []) (C_gTimes.val x) [] [] []
abbrev Wy a b c d e:=(@cond Span) (Db a 0) (Sp3.a b) ((@cond Span) (Db c 1) (Sp3.b d) (Sp3.c e))
attribute [go_sem] Wy
theorem BKM(x:Sp3):(AVE x)=(TU (λi=>And (HF FQ (AE (λj=>kK j 3 (Wy j x j x x))) Sb (XO (BD i) AL (Iv (tmO x i) 1) (SF (tmO x i) 1))) (NZ i 3)) (λi=>HK (NZ i 3) (Yp i) (BE i 3) (CG (λj=>EV (HF FQ (AE (λk=>kK k 3 (Wy k x k x x))) Sb (XO (AU j i) AL (Iv (tmO x j) (O8 (O8 (O8 (JB (CE (tmO x i)) (CE (Wy i x i x x))) (JB (CE (tmO x i)) (EE (Wy i x i x x)))) (JB (EE (tmO x i)) (CE (Wy i x i x x)))) (JB (EE (tmO x i)) (EE (Wy i x i x x))))) (SF (tmO x j) (sE (sE (sE (JB (CE (tmO x i)) (CE (Wy i x i x x))) (JB (CE (tmO x i)) (EE (Wy i x i x x)))) (JB (EE (tmO x i)) (CE (Wy i x i x x)))) (JB (EE (tmO x i)) (EE (Wy i x i x x))))))) (NZ j 3) (Sx j) (Sx i))) (And (Iv (tmV x) (CE (tmO x i))) (YH (tmV x) (tmO x i))))):=by kernel_rfl
def Rf(v:Vt):Bool:=riV ⟨v.d,0,2000⟩&&riV ⟨v.s,-5000,5000⟩
def C_gCk1:Ctr:={ ro:=[101],α:=Vt,xs:=λv=>[.d (eVt v),.bptr 101 0],L:=λv=>[(101,ggB v)],val:=λv=>.bool (Rf v),keep:=λv=>[(101,.live (ggB v))] }
def BOF:List AVal->Heap->Option (Vt×List (Nat×Nat)×List Nat)
 |[.d d,.bptr id _],_=>some (dVt d,[(101,id)],[])
 |_,_=>none
def BWQ:Ann:={ ann 23 [(J2,Fh),(AHB,AXV)] with E:=[101] }
def BTS(v:Vt):Prop:=AX Try.prog BWQ BAR (AF BAR) (C_gCk1.xs v) (AC (C_gCk1.L v)) (C_gCk1.val v) (C_gCk1.keep v) [] []
abbrev Fz:=Vt.d
abbrev Eu:=Vt.s
abbrev Jd a b c d e f:=LG a b c d (QC e) (Eh f) (QC f)
abbrev Fp a:=Eh (Fz a)
attribute [go_sem] Fz Eu Jd Fp
theorem CCD(v:Vt):(BTS v)=(LR (HX (Rf v) (BZ (MN 5 Dr (Re 10)) (riV (SII.mk (Fz v) 0 2000))) (riV (SII.mk (Eu v) (-5000) 5000))) AL BY AZ (λi=>Jd i 1 ED (Fp v) (Fz v) (Eu v))):=by kernel_rfl
def cfB:AObj:=.box [.fn (.func AJX) [] [.bptr 101 0]]
def vL(v:Vt):List (Nat×AObj):=[(100,cfB),(101,ggB v)]
def vK(v:Vt):List (Nat×HCell):=[(100,.live cfB),(101,.live (ggB v))]
def C_eV1:Ctr:={ ro:=[100,101],α:=Vt,xs:=λv=>[.d (eVt v),.bptr 100 0],L:=vL,val:=λv=>.bool (!Rf v),keep:=vK }
def d_cf(H:Heap)(id:Nat):Option Nat:=match H id with
 | .live (.box [.fn _ _ [.bptr j _]])=>some j
 |_=>none
def CHC:List AVal->Heap->Option (Vt×List (Nat×Nat)×List Nat)
 |[.d d,.bptr id _],H=>(d_cf H id).map λj=>(dVt d,[(100,id),(101,j)],[])
 |_,_=>none
def CHT:Ann:={ ann 8 [(AJX,C_gCk1.spec BOF)] with E:=[100,101] }
def CGZ(v:Vt):Prop:=AX Try.prog CHT BXQ (AF BXQ) (C_eV1.xs v) (AC (vL v)) (C_eV1.val v) (vK v) [] []
abbrev eM a b c:=AE (λi=>Jd i 1 ED a b c)
abbrev UV a b c:=eM (Fp a) (Fz b) (Eu c)
abbrev AFX a b c d:=AI a b c d a
attribute [go_sem] eM UV AFX
theorem COF(v:Vt):(CGZ v)=(AV (AS ED (Fp v) (QC (Fz v)) (Eh (Eu v)) (QC (Eu v)) AL BY AZ (AFX (UV v v v) AL BY AZ)) (Am (not (Rf v)) (Rf (Vt.mk (Fz v) (Eu v)))) AL BY AZ (UV v v v)):=by kernel_rfl
def C_ifV:Ctr:={ ro:=[100,101],α:=Vt,xs:=λv=>[.d (eVts v),.fn (.func BGU) [] [.bptr 100 0]],L:=vL,val:=λ_=>.int (-1),keep:=vK,pre:=λv=>[Rf v=true] }
def BHJ:List AVal->Heap->Option (Vt×List (Nat×Nat)×List Nat)
 |[.d (.list _ _ g _),.fn _ _ [.bptr id _]],H=>(d_cf H id).map λj=>(dVt (g 0),[(100,id),(101,j)],[])
 |_,_=>none
def CHH:Ann:={ ann 19 [(BGU,C_eV1.spec CHC)] with E:=[100,101],unr:=λid=>if id=2 then 2 else 0 }
def CII(v:Vt):Prop:=AX Try.prog CHH BNN (AF BNN) (C_ifV.xs v) (AC (vL v)) (C_ifV.val v) (vK v) [] []
theorem CMD(v:Vt):(CII v)=(GV (And (HW 1) (AS ED (Fp v) (QC (Fz v)) (Eh (Eu v)) (QC (Eu v)) AL BY AZ (AFX (UV v v v) AL BY AZ))) (not (Rf (Vt.mk (Fz v) (Eu v)))) (LR (JX (sL 0) 0) AL BY AZ (λi=>Jd i 1 ED (Fp v) (Fz v) (Eu v))) (LR (AJ (sL 0)) AL BY AZ (λi=>Jd i 1 ED (Fp v) (Fz v) (Eu v)))):=by kernel_rfl
def C_cfV:Ctr:={ C_ifV with val:=λ_=>.bool false }
def CHZ:Ann:={ ann 9 [(BYT,C_ifV.spec BHJ)] with E:=[100,101] }
def CHY(v:Vt):Prop:=AX Try.prog CHZ BNH (AF BNH) (C_ifV.xs v) (AC (vL v)) (.bool false) (vK v) [] []
abbrev AKW a b c d e f g:=M7 a b c d e f d g
abbrev eC a:=GI (Rf a)
attribute [go_sem] AKW eC
theorem COD(v:Vt):(CHY v)=(AV (AG AZ (UV v v v) (AKW AL BY AZ (UV v v v) AL BY (eC v))) RG AL BY AZ (UV v v v)):=by kernel_rfl
def C_eV:Ctr:={ ro:=[101],α:=Vt,xs:=λv=>[.d (eVts v),.fn (.func AJX) [] [.bptr 101 0]],L:=λv=>[(101,ggB v)],val:=λ_=>.bool true,keep:=λv=>[(101,.live (ggB v))],pre:=λv=>[Rf v=true] }
def d_eV:List AVal->Heap->Option (Vt×List (Nat×Nat)×List Nat)
 |[.d (.list _ _ g _),.fn _ _ [.bptr id _]],_=>some (dVt (g 0),[(101,id)],[])
 |_,_=>none
def A_eV:Ann:={ ann 9 [(BPW,C_cfV.spec BHJ)] with E:=[101] }
def V_eV(v:Vt):Prop:=AX Try.prog A_eV F_eV (AF F_eV) (C_eV.xs v) (AC (C_eV.L v)) (.bool true) (C_eV.keep v) [] []
theorem CQY(v:Vt):(V_eV v)=(AV (AG AZ (UV v v v) (AKW AL BY AZ (UV v v v) AL BY (eC v))) GW AL BY AZ (UV v v v)):=by kernel_rfl
def C_gRis:Ctr:={ ro:=[101],α:=Vt,xs:=λ_=>[.int 1,.fn (.func CPF) [] [.bptr 101 0]],L:=λv=>[(101,ggB v)],val:=λ_=>.bool true,keep:=λv=>[(101,.live (ggB v))] }
def BNF:List AVal->Heap->Option (Vt×List (Nat×Nat)×List Nat)
 |[_,.fn _ _ [.bptr id _]],H=>match H id with
  | .live (.box [_,_,.d (.list _ _ g _)])=>some (dVt (g 0),[(101,id)],[])
  |_=>none
 |_,_=>none
def BYB:Ann:={ ann 19 [] with E:=[101],unr:=λid=>if id=2 then 1 else 0 }
def BYM(v:Vt):Prop:=AX Try.prog BYB BCG (AF BCG) (C_gRis.xs v) (AC (C_gRis.L v)) (.bool true) (C_gRis.keep v) [] []
theorem CCB(v:Vt):(BYM v)=(LR GW AL BY AZ (λi=>Jd i 1 ED (Fp v) (Fz v) (Eu v))):=by kernel_rfl
def C_gCheck:Ctr:={ α:=Vt,xs:=λv=>[.d (eGg v)],L:=λ_=>[],val:=λ_=>.int 0,keep:=λ_=>[],pre:=λv=>[Rf v=true] }
def d_Gg:List AVal->Heap->Option (Vt×List (Nat×Nat)×List Nat)
 |[.d (.agg [_,_,.list _ _ g _])],_=>some (dVt (g 0),[],[])
 |[.agg [_,_,r]],H=>match xZ r H with
  |some (_,g,f)=>some (dVt (g 0),[],f)
  |none=>none
 |_,_=>none
def AVM:Ann:=ann 30 [(J2,Fh),(AFK,AWL),(n_eV,C_eV.spec d_eV),(BCK,C_gRis.spec BNF)]
def AZA(v:Vt):Prop:=AX Try.prog AVM AJE (AF AJE) [.d (eGg v)] (AC []) (.int 0) [] [] []
theorem BMA(v:Vt):(AZA v)=(AG (QM (AG AZ (UV v v v) (AKW AL BY AZ (UV v v v) AL BY (eC v)))) (AI YG AL BY AZ (AFX (UV v v v) AL BY AZ)) AL):=by kernel_rfl
def C_gWid:Ctr:={ α:=Vt,xs:=λv=>[.d (eGg v)],L:=λ_=>[],val:=λ_=>.fn (.func oU) [] [.bptr 0 0],keep:=λv=>[(0,.live (ggB v))] }
def BZQ(v:Vt):Prop:=AX Try.prog (ann 4 []) BAK (AF BAK) [.d (eGg v)] (AC []) (.fn (.func oU) [] [.bptr 0 0]) [(0,.live (ggB v))] [(0,1000)] []
theorem CAP(v:Vt):(BZQ v)=(AQ AL BY AZ (UV v v v)):=by kernel_rfl
def paV(v:Vt):Span:=tmV ⟨⟨10,10⟩,v.d,v.s⟩
noncomputable def itPa:IterAnn:={ fn:=E5,code:=AF E5,live:=[5],ann:={ base:=λid=>100000+1000*(id+1),Γ:=Sym.look [],E:=[5000,6016],n:=49,unr:=λid=>if id=1 then 2 else 0 } }
noncomputable def BQA:Ann:={ ann 29 [(M6,C_gCheck.spec d_Gg),(AQB,C_gWid.spec d_Gg),(ATG,BFK),(AKI,C_gTimes.spec AXB)] with mt:=λid=>id==8,iter:=λg=>if g=oU then some itPa else none }
def C_gPan:Ctr:={ α:=Vt,xs:=λv=>[.d (eGg v)],L:=λ_=>[],val:=λv=>.tup [.d (lst 2 1 λ_=>UJ (paV v)),.int 0],keep:=λ_=>[],pre:=λv=>[Rf v=true] }
def BRV(v:Vt):Prop:=AX Try.prog BQA BDQ (AF BDQ) [.d (eGg v)] (AC []) (C_gPan.val v) [] [] [9160]
abbrev G6:Prop:=Int.ofNat (0:Nat)=Int.ofNat (0:Nat)
abbrev AIC:Prop:=Int.ofNat (10:Nat)=Int.ofNat (10:Nat)
abbrev G0:Prop:=(1:Nat)=(1:Nat)
abbrev AFO(v:Vt):Prop:=∀(i:Nat),i<(1:Nat)->Int.ofNat (5:Nat)=Int.ofNat (5:Nat)/\v.d.lo=v.d.lo/\v.d.hi=v.d.hi/\v.s.lo=v.s.lo/\v.s.hi=v.s.hi
abbrev AJU:Bool:=decide ((0:Nat)=(0:Nat))
abbrev Oh:Int:=IntKind.i64.wrap ((10:Int)-(0:Int))
abbrev AGX:Bool:=decide ((0:Nat)-(1:Nat)=(0:Nat))
abbrev AEC(v:Vt):Span:=Span.mk (bif AJU then Oh else bif AGX then v.d.lo else v.s.lo) (bif AJU then Oh else bif AGX then v.d.hi else v.s.hi)
abbrev AHN:Bool:=decide ((1:Nat)=(0:Nat))
abbrev AIS:Bool:=decide ((1:Nat)-(1:Nat)=(0:Nat))
abbrev Y3(v:Vt):Span:=Span.mk (bif AHN then Oh else bif AIS then v.d.lo else v.s.lo) (bif AHN then Oh else bif AIS then v.d.hi else v.s.hi)
abbrev U3:Bool:=decide ((2:Nat)=(0:Nat))
abbrev V0:Bool:=decide ((2:Nat)-(1:Nat)=(0:Nat))
abbrev U5(v:Vt):Span:=Span.mk (bif U3 then Oh else bif V0 then v.d.lo else v.s.lo) (bif U3 then Oh else bif V0 then v.d.hi else v.s.hi)
abbrev X1(j:Nat)(v:Vt):Span:=bif j.beq (0:Nat) then AEC v else bif j.beq (1:Nat) then Y3 v else U5 v
abbrev Y6(j:Nat):Nat:=(0:Nat)+j
abbrev Q3(j:Nat):Bool:=decide (Y6 j=(0:Nat))
abbrev S2(j:Nat):Bool:=decide (Y6 j-(1:Nat)=(0:Nat))
abbrev Q9:Prop:=(1:Nat)<=(1:Nat)
abbrev V1:Prop:=(0:Nat)<(1:Nat)
abbrev O5(v:Vt):Span:=tmV (Sp3.mk (AEC v) (Y3 v) (U5 v))
theorem CEF(v:Vt):(BRV v)=((G6/\AIC/\G0/\AFO v/\Rf v=true)/\(G6/\AIC/\G0/\AFO v)/\∀(l:Nat),((0:Int)<=(0:Int)/\(0:Int)<(↑(1:Nat) :
 Int))/\l=l/\((3:Nat)=(3:Nat)/\(3:Nat)<=(3:Nat)/\(∀(j:Nat),j<(3:Nat)->((X1 j v).lo=bif Q3 j then Oh else bif S2 j then v.d.lo else v.s.lo)/\(X1 j v).hi=bif
 Q3 j then Oh else bif S2 j then v.d.hi else v.s.hi)/\(True/\((0:Nat)<(0:Nat)->(0:Nat)=(2:Nat)))/\(Q9/\(V1->(2:Nat)=(2:Nat)))/\(true=true->V1)/\(1 :
 Nat)<=(9223372036854775807:Nat)/\(16:Nat)<=(140737488355328:Nat))/\G0/\Q9/\(∀(j:Nat),j<(1:Nat)->(paV v).lo=(O5 v).lo/\(paV v).hi=(O5 v).hi)/\G6):=by
 kernel_rfl
def flV(v:Vt):Span:=plV ⟨⟨0,0⟩,paV v⟩
def C_gFlow:Ctr:={ α:=Vt,xs:=λv=>[.d (eGg v)],L:=λ_=>[],val:=λv=>.tup [.d (UJ (flV v)),.int 0],keep:=λ_=>[],pre:=λv=>[Rf v=true] }
def BHW:Ann:={ ann 26 [(BCC,C_gPan.spec d_Gg),(AQQ,BFC)] with unr:=λid=>if id=4 then 2 else 0 }
def BIO(v:Vt):Prop:=AX Try.prog BHW ARV (AF ARV) [.d (eGg v)] (AC []) (C_gFlow.val v) [] [] []
theorem BNQ(v:Vt):(BIO v)=(FG (AI AL BY AZ (UV v v v) (eC v)) (HW 1) (CE (flV v)) (CE (plV (SpS.mk (Span.mk 0 0) (paV v)))) (YH (flV v) (plV (SpS.mk (Span.mk 0 0) (paV v)))) AL):=by kernel_rfl
structure ReS where
 v:Vt
 a:Int
 b:Int
def one1(a:Int):DVal:=.list 1 1 (λ_=>EP a) false
def reV(x:ReS):Int:=wr (0+wr (wr (10*x.a)*x.b))
def C_gReal:Ctr:={ α:=ReS,xs:=λx=>[.d (eGg x.v),.d (one1 x.a),.d (one1 x.b)],L:=λ_=>[],val:=λx=>.tup [.int (reV x),.int 0],keep:=λ_=>[],pre:=λx=>[Rf x.v=true,MN x.a x.v.d.lo x.v.d.hi=true,MN x.b x.v.s.lo x.v.s.hi=true] }
noncomputable def itRe:IterAnn:={ fn:=E5,code:=AF E5,live:=[4,5,6,7,9,10],ann:={ base:=λid=>100000+1000*(id+1),Γ:=Sym.look [],E:=[1016,1032,1048,1064,7000,7016,8016],n:=49,unr:=λid=>if id=1 then 2 else 0 } }
noncomputable def BIW:Ann:={ ann 80 [(M6,C_gCheck.spec d_Gg),(AQB,C_gWid.spec d_Gg),(J2,Fh)] with iter:=λg=>if g=oU then some itRe else none }
def BGX(x:ReS):Prop:=AX Try.prog BIW ASV (AF ASV) (C_gReal.xs x) (AC []) (C_gReal.val x) [] [] []
theorem BSA(x:ReS):(BGX x)=((Int.ofNat (0:Nat)=Int.ofNat (0:Nat)/\Int.ofNat (10:Nat)=Int.ofNat (10:Nat)/\(1:Nat)=(1:Nat)/\(∀(i:Nat),i<(1:Nat)->Int.ofNat (5:Nat)=Int.ofNat
 (5:Nat)/\x.v.d.lo=x.v.d.lo/\x.v.d.hi=x.v.d.hi/\x.v.s.lo=x.v.s.lo/\x.v.s.hi=x.v.s.hi)/\Rf x.v=true)/\(Int.ofNat (0:Nat)=Int.ofNat (0:Nat)/\Int.ofNat (10:Nat)=Int.ofNat (10:Nat)/\(1:Nat)
 = (1:Nat)/\∀(i:Nat),i<(1:Nat)->Int.ofNat (5:Nat)=Int.ofNat (5:Nat)/\x.v.d.lo=x.v.d.lo/\x.v.d.hi=x.v.d.hi/\x.v.s.lo=x.v.s.lo/\x.v.s.hi=x.v.s.hi)/\∀(l:Nat),((0:Int)<=(0:Int)/\(0 :
 Int)<(↑(1:Nat):Int))/\l=l/\(((0:Int)<=(0:Int)/\(0:Int)<(↑(1:Nat):Int))/\((!!MN x.a x.v.d.lo x.v.d.hi)=true->(0:Int)<=(0:Int)/\(0:Int)<(↑(1:Nat):Int)))/\bif bif !MN x.a
 x.v.d.lo x.v.d.hi then true else !MN x.b x.v.s.lo x.v.s.hi then reV x=(0:Int)/\Int.ofNat (0:Nat)=Int.ofNat (7:Nat) else (((0:Int)<=(0:Int)/\(0:Int)<(↑(1:Nat):Int))/\(0:Int)<=(0:Int)/\(0 :
 Int)<(↑(1:Nat):Int))/\reV x=IntKind.i64.wrap ((0:Int)+IntKind.i64.wrap (IntKind.i64.wrap (IntKind.i64.wrap ((10:Int)-(0:Int))*x.a)*x.b))/\Int.ofNat (0:Nat)=Int.ofNat (0:Nat)):=by
 kernel_rfl
theorem AEU:AH Try.prog J2 Fh:=MA xI3 hI3 λx _=>Ee (A:=ann 15 []) (ren:=[]) (fz:=[]) CPN (by kernel_rfl) AD (by
 show CGU x;rw[CNC]<;> delta LI hd2 hd3 hd4 Wo G4 hd7 UD BZ HX XE;unfold MN;by_cases h:x.b<=x.a<;>simp[h])
theorem BLF:AH Try.prog AHB AXV:=MA xSII hSII λx _=>Ee (A:=ann 19 [(J2,Fh)]) (ren:=[]) (fz:=[]) BKG (by kernel_rfl) (AA AEU AD) (by
 show AXJ x;rw[BKB]<;> delta LI Wo hd7 UD CE EE BZ HX eZ XE;unfold riV;cases MN x.s.lo x.a x.s.hi<;>rfl)
theorem BNC:AH Try.prog AFK AWL:=MA xI2 hI2 λx _=>Ee (A:=ann 13 [(J2,Fh)]) (ren:=[]) (fz:=[]) BKQ (by kernel_rfl) (AA AEU AD) (by
 show AYR x;rw[BKY]<;> delta LI Wo UD Ij Ow NE Nn CS IV BZ FC HX Re;unfold shV;cases MN x.b 1 10000<;>rfl)
theorem BXG:AH Try.prog ATG BFK:=MA xI1 hI1 λx _=>Ee (A:=ann 6 []) (ren:=[]) (fz:=[]) BUX (by kernel_rfl) AD (by
 show BFF x;rw[BPQ]<;> delta AK AJ hX;simp)
theorem BRO:AH Try.prog AQQ BFC:=MA xSpS hSpS λx _=>Ee (A:=ann 16 []) (ren:=[]) (fz:=[]) BOB (by kernel_rfl) AD (by
 show BGJ x;rw[BSD]<;> delta AK NE TD CE EE CS AHK DN SF Iv;exact⟨rfl,rfl⟩)
theorem BLS:AH Try.prog AKI (C_gTimes.spec AXB):=PU C_gTimes AYQ [] [] BMR (λ_=>by kernel_rfl) (λ_=>AD) (λ(x:Sp3) _=>by
 show AVE x;rw[BKM]<;> delta NL FA AK AN AE BA BM BH sE DC ER NE TD KJ FF D8 CG NZ Db CE EE CS AG AI AO AJ AR XO CM IF BF DN BO GH PS EA DG FB FP EV DT JA AU AL EW QC JB BE IA Sx HK HF BD SF FQ YH kK TU Iv Sb Wy Yp;simp only[CC,CU,CF,wM,dH]
 refine⟨⟨0,⟨rfl,rfl,rfl⟩,Nat.zero_le _⟩,λk hk=>⟨λhlt=>⟨⟨by omega,by omega⟩,k+1,⟨(GJ (by omega)).symm,rfl,rfl⟩,by omega,by omega⟩,λhge=>?_⟩⟩
 have:k=3:=by omega
 subst this
 exact⟨rfl,rfl⟩) (λ_=>RR rfl rfl) _
theorem CAU:AH Try.prog AJX (C_gCk1.spec BOF):=PU C_gCk1 (λ_=>BWQ) [] [] CEQ (λ_=>by kernel_rfl) (λ_=>AA AEU (AA BLF AD)) (λ(v:Vt) _=>by
 show BTS v;rw[CCD]<;> delta LI Wo UD AK AN AE BA BM NE TD Nn FF CE EE Fz Eu CS AG AI AO AJ AR IV DN BO FP LG AL QC Eh AZ BZ ED BY LR Dr HX Fp Jd Re;simp only[CC,CU,CF,wM,dH]
 unfold Rf
 rw[show MN 5 (IntKind.i64.wrap (0+1)) (IntKind.i64.wrap (10-1))=true from rfl]
 cases riV ⟨v.d,0,2000⟩<;>rfl) (λ_=>RR rfl rfl) _
theorem CNS:AH Try.prog BGU (C_eV1.spec CHC):=PU C_eV1 (λ_=>CHT) [] [] COA (λ_=>by kernel_rfl) (λ_=>AA CAU AD) (λ(v:Vt) _=>by
 show CGZ v;rw[COF]<;> delta LI AK AN AE BA BM FF CE EE Fz Eu AG AI AO AJ AR AFX AS BO LG AV AL QC Eh AZ ED BY Fp Jd eM UV Am;simp only[CC,CU,CF,wM,dH]) (λ_=>RR rfl rfl) _
theorem CPD:AH Try.prog BYT (C_ifV.spec BHJ):=PU C_ifV (λ_=>CHH) [] [] COT (λ_=>by kernel_rfl) (λ_=>AA CNS AD) (λ(v:Vt) h=>by
 have h:Rf v=true:=h
 show CII v;rw[CMD]<;> delta FA AK AN AE BA BM BH DC ER FF sL CE EE Fz Eu AG AI AO AJ AR AFX AS BO DG LG AL QC Eh AZ ED BY SC JX LR HW GV Fp Jd eM UV;simp only[CC,CU,CF,wM,dH]
 refine⟨⟨by omega,by omega⟩,λhf=>?_⟩
 rw[show Rf ⟨v.d,v.s⟩=true from h] at hf;cases hf) (λ_=>RR rfl rfl) _
theorem CMH:AH Try.prog BPW (C_cfV.spec BHJ):=PU C_cfV (λ_=>CHZ) [] [] CKY (λ_=>by kernel_rfl) (λ_=>AA CPD AD) (λ(v:Vt) h=>by
 have h:Rf v=true:=h
 show CHY v;rw[COD]<;> delta LI UD HU AK AN AE BA BM FF CE EE Fz Eu AG AI AO AJ AR DR AS M7 AKW BO LG GI AV AL QC Eh AZ ED BY Fp Jd eM RG eC UV;simp only[CC,CU,CF,wM,dH];exact h) (λ_=>RR rfl rfl) _
theorem CTP:AH Try.prog n_eV (C_eV.spec d_eV):=PU C_eV (λ_=>A_eV) [] [] CRK (λ_=>by kernel_rfl) (λ_=>AA CMH AD) (λ(v:Vt) h=>by
 have h:Rf v=true:=h
 show V_eV v;rw[CQY]<;> delta LI HU AK AN AE BA BM FF CE EE Fz Eu AG AI AO AJ AR DR AS M7 AKW BO LG GI AV AL QC Eh AZ ED BY GW Fp Jd eM eC UV;simp only[CC,CU,CF,wM,dH];exact h) (λ_=>RR rfl rfl) _
theorem CAN:AH Try.prog BCK (C_gRis.spec BNF):=PU C_gRis (λ_=>BYB) [] [] CEG (λ_=>by kernel_rfl) (λ_=>AD) (λ(v:Vt) _=>by
 show BYM v;rw[CCB]<;> delta LI HU AK AN AE BA BM FF CE EE Fz Eu AG AI AO AJ AR DR BO LG AL QC Eh AZ ED BY GW LR Fp Jd;simp only[CC,CU,CF,wM,dH]) (λ_=>RR rfl rfl) _
theorem ANK:AH Try.prog M6 (C_gCheck.spec d_Gg):=PU C_gCheck (λ_=>AVM) [] [] BMV (λ_=>by kernel_rfl) (λ_=>AA AEU (AA BNC (AA CTP (AA CAN AD)))) (λ(v:Vt) h=>by
 have h:Rf v=true:=h
 show AZA v;rw[BMA]<;> delta LI HU AK AN AE BA BM FF CE EE Fz Eu AG AI AO AJ AR DR AFX AS M7 AKW BO LG GI AL QC Eh AZ ED BY GW QM Fp Jd eM YG eC UV;simp only[CC,CU,CF,wM,dH];exact h) (λ_=>RR rfl rfl) _
theorem BHG:AH Try.prog AQB (C_gWid.spec d_Gg):=PU C_gWid (λ_=>ann 4 []) [(0,1000)] [] CAG (λ_=>by kernel_rfl) (λ_=>AD) (λ(v:Vt) _=>by
 show BZQ v;rw[CAP]<;> delta AK AN AE BA BM FF CE EE Fz Eu AG AI AO AJ AR BO AQ LG AL QC Eh AZ ED BY Fp Jd eM UV;simp only[CC,CU,CF,wM,dH]) (λ_=>RR rfl rfl) _
theorem CCS:AH Try.prog BCC (C_gPan.spec d_Gg):=PU C_gPan (λ_=>BQA) [] [9160] CFC (λ_=>by kernel_rfl) (λ_=>AA ANK (AA BHG (AA BXG (AA BLS AD)))) (λ(v:Vt) h=>by
 have h:Rf v=true:=h
 show BRV v;rw[CEF];delta G6 AIC G0 AFO AJU Oh AGX AEC AHN AIS Y3 U3 V0 U5 X1 Y6 Q3 S2 Q9 V1 O5;simp only[CC,CU,CF,wM,dH]
 refine⟨h,⟨by omega,by omega⟩,⟨by omega,λj hj=>?_,by omega,by omega,by omega,by omega,by omega⟩,by omega,λj _=>⟨rfl,rfl⟩⟩
 match j,hj with
 |0,_=>exact⟨rfl,rfl⟩
 |1,_=>exact⟨rfl,rfl⟩
 |2,_=>exact⟨rfl,rfl⟩) (λ_=>N6 oU itPa rfl rfl AD AWX (by kernel_rfl) (by kernel_rfl)) _
end Go.Bal
