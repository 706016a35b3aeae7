/- Package gauge: a gauging with one vertical at 5 between banks at 0 and 10. -/
import Derived.Test.YtbmlgdlbffmjjaaGreatGaA
import Derived.Test.YtbmlgdlbffmjjaaGreatGaJ
set_option linter.unusedVariables false
set_option linter.unusedSimpArgs false
namespace Go.Bal
open Go Go.Sym Go.Proofs
structure Vt where
 d:Span
 s:Span
 deriving Inhabited
def eVt(v:Vt):DVal:=.agg [ES 5,ES v.d.lo,ES v.d.hi,ES v.s.lo,ES v.s.hi]
def dVt:DVal->Vt
 | .agg [_,a,b,c,d]=>⟨⟨LR a,LR b⟩,⟨LR c,LR d⟩⟩
 |_=>default
theorem vP(v:Vt):dVt (eVt v)=v:=rfl
theorem eC(a b c d:Int):dVt (.agg [ES 5,ES a,ES b,ES c,ES d])=⟨⟨a,b⟩,⟨c,d⟩⟩:=rfl
def eVts(v:Vt):DVal:=.list 5 1 (λ_=>eVt v) false
def eGg(v:Vt):DVal:=.agg [ES 0,ES 10,eVts v]
def ggB(v:Vt):AObj:=.box [.int 0,.int 10,.d (eVts v)]
end Go.Bal
namespace Go.Bal.DL
theorem v1(v:Vt):dVt (eVt v)=v:=rfl
theorem v2(v:Vt):Vt.mk ⟨v.d.lo,v.d.hi⟩ ⟨v.s.lo,v.s.hi⟩=v:=rfl
theorem v3(a b c d:Int):dVt (.agg [ES 5,ES a,ES b,ES c,ES d])=Vt.mk ⟨a,b⟩ ⟨c,d⟩:=rfl
end Go.Bal.DL
namespace Go.Bal
open Go Go.Sym Go.Proofs
def CGV(x:I3):Prop:=AX Try.prog (ann 15 []) BTJ (AF BTJ) (xI3 x) (AC []) (.bool (MN x.a x.b x.c)) [] [] []
theorem COY(x:I3):(CGV x)=(WQ (MN (hd2 x) (hd3 x) (hd4 x)) (N4 (hd2 x) (hd3 x)) (hd2 x) (hd4 x)):=by kernel_rfl
structure SII where
 s:Span
 a:Int
 b:Int
def xSII(x:SII):List AVal:=[.d (UJ x.s),.int x.a,.int x.b]
def dSII:List AVal->Option SII
 |[.d (.agg [.v (.int .i64 p),.v (.int .i64 q)]),.d (.v (.int .i64 a)),.d (.v (.int .i64 b))]=>some ⟨⟨p,q⟩,a,b⟩
 |_=>none
theorem hSII(xs:List AVal)(a:SII)(h:dSII xs=some a):xs=xSII a:=by
 unfold dSII at h;split at h<;>cases h;rfl
def riV(x:SII):Bool:=MN x.s.lo x.a x.s.hi&&decide (x.s.hi<=x.b)
def AXH(x:SII):Prop:=AX Try.prog (ann 19 [(L7,Fg)]) ADU (AF ADU) (xSII x) (AC []) (.bool (riV x)) [] [] []
theorem BLN(x:SII):(AXH x)=(WQ (riV x) (fW (CE (SII.s x)) (SII.a x) (SII.s x)) (EE (SII.s x)) (SII.b x)):=by kernel_rfl
def AYP:=pD dSII λx=>.bool (riV x)
def shV(x:I2):Bool:=MN x.b 1 10000&&MN x.a 0 (wr (x.b-1))
def AWL(x:I2):Prop:=AX Try.prog (ann 13 [(L7,Fg)]) AGR (AF AGR) (xI2 x) (AC []) (.bool (shV x)) [] [] []
theorem BMV(x:I2):(AWL x)=(HY (shV x) (MN (Oc x) 1 10000) (FC (Iv x) (Ox (Oc x)))):=by kernel_rfl
def AYO:=pD dI2 λx=>.bool (shV x)
def BJT(x:Int):Prop:=AX Try.prog (ann 6 []) AOW (AF AOW) (xI1 x) (AC []) (.d (UJ ⟨x,x⟩)) [] [] []
theorem BOT(x:Int):(BJT x)=(iC (AJ x)):=by kernel_rfl
def BHV:=pD dI1 λx=>.d (UJ ⟨x,x⟩)
structure SpS where
 a:Span
 b:Span
def xSpS(x:SpS):List AVal:=[.d (UJ x.a),.d (UJ x.b)]
def dSpS:List AVal->Option SpS
 |[.d (.agg [.v (.int .i64 p),.v (.int .i64 q)]),.d (.agg [.v (.int .i64 a),.v (.int .i64 b)])]=>some ⟨⟨p,q⟩,⟨a,b⟩⟩
 |_=>none
theorem hSpS(xs:List AVal)(a:SpS)(h:dSpS xs=some a):xs=xSpS a:=by
 unfold dSpS at h;split at h<;>cases h;rfl
def plV(x:SpS):Span:=⟨wr (x.a.lo+x.b.lo),wr (x.a.hi+x.b.hi)⟩
def BFS(x:SpS):Prop:=AX Try.prog (ann 16 []) AOR (AF AOR) (xSpS x) (AC []) (.d (UJ (plV x))) [] [] []
theorem BZN(x:SpS):(BFS x)=(And (Jj (plV x) (DK (CE (SpS.a x)) (CE (SpS.b x)))) (SR (plV x) (AHU (SpS.a x) (EE (SpS.b x))))):=by kernel_rfl
def BJH:=pD dSpS λx=>.d (UJ (plV x))
structure Sp3 where
 a:Span
 b:Span
 c:Span
def mi4(a b c d:Int):Int:=S4 (S4 (S4 a b) c) d
def ma4(a b c d:Int):Int:=Rb (Rb (Rb a b) c) d
def tiV(o s:Span):Span:=⟨mi4 (wr (o.lo*s.lo)) (wr (o.lo*s.hi)) (wr (o.hi*s.lo)) (wr (o.hi*s.hi)),ma4 (wr (o.lo*s.lo)) (wr (o.lo*s.hi)) (wr (o.hi*s.lo)) (wr (o.hi*s.hi))⟩
def tmV(x:Sp3):Span:=tiV (tiV (tiV ⟨1,1⟩ x.a) x.b) x.c
def C_gTimes:Ctr:={ α:=Sp3,xs:=λx=>[.d (lst 2 3 λi=>UJ (bif Nat.beq i 0 then x.a else bif Nat.beq i 1 then x.b else x.c))],L:=λ_=>[],val:=λx=>.d (UJ (tmV x)),keep:=λ_=>[] }
def AZJ:List AVal->Heap->Option (Sp3×List (Nat×Nat)×List Nat)
 |[a],H=>match xY a H with
  |some (_,g,f)=>some (⟨dX (g 0),dX (g 1),dX (g 2)⟩,[],f)
  |none=>none
 |_,_=>none
def tmS(x:Sp3)(o:Span)(i:Nat):ST:=⟨[(2,.bptr 1000 0),(3,.bptr 2016 0),(11,.d (lst 2 3 λi=>UJ (bif Nat.beq i 0 then x.a else bif Nat.beq i 1 then x.b else x.c))),(12,.int 3),(13,.int i)],[(1000,.live (.box [.int 0,.int 0])),(2016,.live (.box [.int o.lo,.int o.hi]))]⟩
def tmO(x:Sp3):Nat->Span
 |0=>⟨1,1⟩
 |i+1=>tiV (tmO x i) (bif Nat.beq i 0 then x.a else bif Nat.beq i 1 then x.b else x.c)
def AWJ(x:Sp3):Ann:={ ann 50 [] with loops:=λid=>if id=3 then some [{ α:=Nat,dflt:=0,T:=λk=>tmS x (tmO x k) k,inv:=λk=>k<=3,meas:=λk=>3-k }] else none }
def AWI(x:Sp3):Prop:=AX Try.prog (AWJ x) AHO (AF AHO) (C_gTimes.xs x) (AC []) (C_gTimes.val x) [] [] []
abbrev Xp a b c d e:=(@cond Span) (Dg a 0) (Sp3.a b) ((@cond Span) (Dg c 1) (Sp3.b d) (Sp3.c e))
attribute [go_sem] Xp
theorem BMG(x:Sp3):(AWI x)=(TS (λi=>And (HL FX (AE (λj=>kT j 3 (Xp j x j x x))) Ry (YG (BD i) AL (Jj (tmO x i) 1) (SR (tmO x i) 1))) (NZ i 3)) (λi=>HH (NZ i 3) (aH i) (BE i 3) (CG (λj=>EV (HL FX (AE (λk=>kT k 3 (Xp k x k x x))) Ry (YG (AU j i) AL (Jj (tmO x j) (S4 (S4 (S4 (JA (CE (tmO x i)) (CE (Xp i x i x x))) (JA (CE (tmO x i)) (EE (Xp i x i x x)))) (JA (EE (tmO x i)) (CE (Xp i x i x x)))) (JA (EE (tmO x i)) (EE (Xp i x i x x))))) (SR (tmO x j) (sD (sD (sD (JA (CE (tmO x i)) (CE (Xp i x i x x))) (JA (CE (tmO x i)) (EE (Xp i x i x x)))) (JA (EE (tmO x i)) (CE (Xp i x i x x)))) (JA (EE (tmO x i)) (EE (Xp i x i x x))))))) (NZ j 3) (Vi j) (Vi i))) (And (Jj (tmV x) (CE (tmO x i))) (XS (tmV x) (tmO x i))))):=by kernel_rfl
def Rf(v:Vt):Bool:=riV ⟨v.d,0,2000⟩&&riV ⟨v.s,-5000,5000⟩
def C_gCk1:Ctr:={ ro:=[101],α:=Vt,xs:=λv=>[.d (eVt v),.bptr 101 0],L:=λv=>[(101,ggB v)],val:=λv=>.bool (Rf v),keep:=λv=>[(101,.live (ggB v))] }
def BRL:List AVal->Heap->Option (Vt×List (Nat×Nat)×List Nat)
 |[.d d,.bptr id _],_=>some (dVt d,[(101,id)],[])
 |_,_=>none
def BSR:Ann:={ ann 23 [(L7,Fg),(AHN,AYP)] with E:=[101] }
def BOA(v:Vt):Prop:=AX Try.prog BSR BDH (AF BDH) (C_gCk1.xs v) (AC (C_gCk1.L v)) (C_gCk1.val v) (C_gCk1.keep v) [] []
abbrev Gi:=Vt.d
abbrev Fe:=Vt.s
abbrev Jg a b c d e f:=LF a b c d (QN e) (Ep f) (QN f)
abbrev Hm a:=Ep (Gi a)
attribute [go_sem] Gi Fe Jg Hm
theorem CAV(v:Vt):(BOA v)=(LQ (HY (Rf v) (BY (MN 5 Ee (Ox 10)) (riV (SII.mk (Gi v) 0 2000))) (riV (SII.mk (Fe v) (-5000) 5000))) AL BZ AZ (λi=>Jg i 1 ED (Hm v) (Gi v) (Fe v))):=by kernel_rfl
def cfB:AObj:=.box [.fn (.func AEE) [] [.bptr 101 0]]
def vL(v:Vt):List (Nat×AObj):=[(100,cfB),(101,ggB v)]
def vK(v:Vt):List (Nat×HCell):=[(100,.live cfB),(101,.live (ggB v))]
def C_eV1:Ctr:={ ro:=[100,101],α:=Vt,xs:=λv=>[.d (eVt v),.bptr 100 0],L:=vL,val:=λv=>.bool (!Rf v),keep:=vK }
def d_cf(H:Heap)(id:Nat):Option Nat:=match H id with
 | .live (.box [.fn _ _ [.bptr j _]])=>some j
 |_=>none
def CKS:List AVal->Heap->Option (Vt×List (Nat×Nat)×List Nat)
 |[.d d,.bptr id _],H=>(d_cf H id).map λj=>(dVt d,[(100,id),(101,j)],[])
 |_,_=>none
def CHF:Ann:={ ann 8 [(AEE,C_gCk1.spec BRL)] with E:=[100,101] }
def CKJ(v:Vt):Prop:=AX Try.prog CHF BUN (AF BUN) (C_eV1.xs v) (AC (vL v)) (C_eV1.val v) (vK v) [] []
abbrev fL a b c:=AE (λi=>Jg i 1 ED a b c)
abbrev UM a b c:=fL (Hm a) (Gi b) (Fe c)
abbrev AJB a b c d:=AI a b c d a
attribute [go_sem] fL UM AJB
theorem CMI(v:Vt):(CKJ v)=(AV (AS ED (Hm v) (QN (Gi v)) (Ep (Fe v)) (QN (Fe v)) AL BZ AZ (AJB (UM v v v) AL BZ AZ)) (Bt (not (Rf v)) (Rf (Vt.mk (Gi v) (Fe v)))) AL BZ AZ (UM v v v)):=by kernel_rfl
def C_ifV:Ctr:={ ro:=[100,101],α:=Vt,xs:=λv=>[.d (eVts v),.fn (.func BGW) [] [.bptr 100 0]],L:=vL,val:=λ_=>.int (-1),keep:=vK,pre:=λv=>[Rf v=true] }
def BHZ:List AVal->Heap->Option (Vt×List (Nat×Nat)×List Nat)
 |[.d (.list _ _ g _),.fn _ _ [.bptr id _]],H=>(d_cf H id).map λj=>(dVt (g 0),[(100,id),(101,j)],[])
 |_,_=>none
def CJN:Ann:={ ann 19 [(BGW,C_eV1.spec CKS)] with E:=[100,101],unr:=λid=>if id=2 then 2 else 0 }
def CKE(v:Vt):Prop:=AX Try.prog CJN BXY (AF BXY) (C_ifV.xs v) (AC (vL v)) (C_ifV.val v) (vK v) [] []
theorem CNK(v:Vt):(CKE v)=(GO (And (IC 1) (AS ED (Hm v) (QN (Gi v)) (Ep (Fe v)) (QN (Fe v)) AL BZ AZ (AJB (UM v v v) AL BZ AZ))) (not (Rf (Vt.mk (Gi v) (Fe v)))) (LQ (JN (wQ 0) 0) AL BZ AZ (λi=>Jg i 1 ED (Hm v) (Gi v) (Fe v))) (LQ (AJ (wQ 0)) AL BZ AZ (λi=>Jg i 1 ED (Hm v) (Gi v) (Fe v)))):=by kernel_rfl
def C_cfV:Ctr:={ C_ifV with val:=λ_=>.bool false }
def CJS:Ann:={ ann 9 [(BOU,C_ifV.spec BHZ)] with E:=[100,101] }
def CHP(v:Vt):Prop:=AX Try.prog CJS BXK (AF BXK) (C_ifV.xs v) (AC (vL v)) (.bool false) (vK v) [] []
abbrev AGB a b c d e f g:=M4 a b c d e f d g
abbrev gC a:=GI (Rf a)
attribute [go_sem] AGB gC
theorem COJ(v:Vt):(CHP v)=(AV (AG AZ (UM v v v) (AGB AL BZ AZ (UM v v v) AL BZ (gC v))) RF AL BZ AZ (UM v v v)):=by kernel_rfl
def C_eV:Ctr:={ ro:=[101],α:=Vt,xs:=λv=>[.d (eVts v),.fn (.func AEE) [] [.bptr 101 0]],L:=λv=>[(101,ggB v)],val:=λ_=>.bool true,keep:=λv=>[(101,.live (ggB v))],pre:=λv=>[Rf v=true] }
def d_eV:List AVal->Heap->Option (Vt×List (Nat×Nat)×List Nat)
 |[.d (.list _ _ g _),.fn _ _ [.bptr id _]],_=>some (dVt (g 0),[(101,id)],[])
 |_,_=>none
def A_eV:Ann:={ ann 9 [(BSZ,C_cfV.spec BHZ)] with E:=[101] }
def V_eV(v:Vt):Prop:=AX Try.prog A_eV F_eV (AF F_eV) (C_eV.xs v) (AC (C_eV.L v)) (.bool true) (C_eV.keep v) [] []
theorem CQF(v:Vt):(V_eV v)=(AV (AG AZ (UM v v v) (AGB AL BZ AZ (UM v v v) AL BZ (gC v))) GQ AL BZ AZ (UM v v v)):=by kernel_rfl
def C_gRis:Ctr:={ ro:=[101],α:=Vt,xs:=λ_=>[.int 1,.fn (.func CLV) [] [.bptr 101 0]],L:=λv=>[(101,ggB v)],val:=λ_=>.bool true,keep:=λv=>[(101,.live (ggB v))] }
def BVH:List AVal->Heap->Option (Vt×List (Nat×Nat)×List Nat)
 |[_,.fn _ _ [.bptr id _]],H=>match H id with
  | .live (.box [_,_,.d (.list _ _ g _)])=>some (dVt (g 0),[(101,id)],[])
  |_=>none
 |_,_=>none
def BUP:Ann:={ ann 19 [] with E:=[101],unr:=λid=>if id=2 then 1 else 0 }
def BWZ(v:Vt):Prop:=AX Try.prog BUP BCX (AF BCX) (C_gRis.xs v) (AC (C_gRis.L v)) (.bool true) (C_gRis.keep v) [] []
theorem CCY(v:Vt):(BWZ v)=(LQ GQ AL BZ AZ (λi=>Jg i 1 ED (Hm v) (Gi v) (Fe v))):=by kernel_rfl
def C_gCheck:Ctr:={ α:=Vt,xs:=λv=>[.d (eGg v)],L:=λ_=>[],val:=λ_=>.int 0,keep:=λ_=>[],pre:=λv=>[Rf v=true] }
def d_Gg:List AVal->Heap->Option (Vt×List (Nat×Nat)×List Nat)
 |[.d (.agg [_,_,.list _ _ g _])],_=>some (dVt (g 0),[],[])
 |[.agg [_,_,r]],H=>match xY r H with
  |some (_,g,f)=>some (dVt (g 0),[],f)
  |none=>none
 |_,_=>none
def AWO:Ann:=ann 30 [(L7,Fg),(ALL,AYO),(n_eV,C_eV.spec d_eV),(BBO,C_gRis.spec BVH)]
def AZI(v:Vt):Prop:=AX Try.prog AWO AID (AF AID) [.d (eGg v)] (AC []) (.int 0) [] [] []
theorem BLH(v:Vt):(AZI v)=(AG (PY (AG AZ (UM v v v) (AGB AL BZ AZ (UM v v v) AL BZ (gC v)))) (AI XL AL BZ AZ (AJB (UM v v v) AL BZ AZ)) AL):=by kernel_rfl
def C_gWid:Ctr:={ α:=Vt,xs:=λv=>[.d (eGg v)],L:=λ_=>[],val:=λ_=>.fn (.func oI) [] [.bptr 0 0],keep:=λv=>[(0,.live (ggB v))] }
def BWD(v:Vt):Prop:=AX Try.prog (ann 4 []) BAB (AF BAB) [.d (eGg v)] (AC []) (.fn (.func oI) [] [.bptr 0 0]) [(0,.live (ggB v))] [(0,1000)] []
theorem CEY(v:Vt):(BWD v)=(AQ AL BZ AZ (UM v v v)):=by kernel_rfl
def paV(v:Vt):Span:=tmV ⟨⟨10,10⟩,v.d,v.s⟩
noncomputable def itPa:IterAnn:={ fn:=G7,code:=AF G7,live:=[5],ann:={ base:=λid=>100000+1000*(id+1),Γ:=Sym.look [],E:=[5000,6016],n:=49,unr:=λid=>if id=1 then 2 else 0 } }
noncomputable def BUF:Ann:={ ann 29 [(M3,C_gCheck.spec d_Gg),(AQP,C_gWid.spec d_Gg),(APG,BHV),(AIU,C_gTimes.spec AZJ)] with mt:=λid=>id==8,iter:=λg=>if g=oI then some itPa else none }
def C_gPan:Ctr:={ α:=Vt,xs:=λv=>[.d (eGg v)],L:=λ_=>[],val:=λv=>.tup [.d (lst 2 1 λ_=>UJ (paV v)),.int 0],keep:=λ_=>[],pre:=λv=>[Rf v=true] }
def BWU(v:Vt):Prop:=AX Try.prog BUF BCF (AF BCF) [.d (eGg v)] (AC []) (C_gPan.val v) [] [] [9160]
abbrev G6:Prop:=Int.ofNat (0:Nat)=Int.ofNat (0:Nat)
abbrev AFD:Prop:=Int.ofNat (10:Nat)=Int.ofNat (10:Nat)
abbrev K9:Prop:=(1:Nat)=(1:Nat)
abbrev AIQ(v:Vt):Prop:=∀(i:Nat),i<(1:Nat)->Int.ofNat (5:Nat)=Int.ofNat (5:Nat)/\v.d.lo=v.d.lo/\v.d.hi=v.d.hi/\v.s.lo=v.s.lo/\v.s.hi=v.s.hi
abbrev AHZ:Bool:=decide ((0:Nat)=(0:Nat))
abbrev Qn:Int:=IntKind.i64.wrap ((10:Int)-(0:Int))
abbrev ALG:Bool:=decide ((0:Nat)-(1:Nat)=(0:Nat))
abbrev AKW(v:Vt):Span:=Span.mk (bif AHZ then Qn else bif ALG then v.d.lo else v.s.lo) (bif AHZ then Qn else bif ALG then v.d.hi else v.s.hi)
abbrev AEI:Bool:=decide ((1:Nat)=(0:Nat))
abbrev AFM:Bool:=decide ((1:Nat)-(1:Nat)=(0:Nat))
abbrev R5(v:Vt):Span:=Span.mk (bif AEI then Qn else bif AFM then v.d.lo else v.s.lo) (bif AEI then Qn else bif AFM then v.d.hi else v.s.hi)
abbrev Z1:Bool:=decide ((2:Nat)=(0:Nat))
abbrev X3:Bool:=decide ((2:Nat)-(1:Nat)=(0:Nat))
abbrev W2(v:Vt):Span:=Span.mk (bif Z1 then Qn else bif X3 then v.d.lo else v.s.lo) (bif Z1 then Qn else bif X3 then v.d.hi else v.s.hi)
abbrev U6(j:Nat)(v:Vt):Span:=bif j.beq (0:Nat) then AKW v else bif j.beq (1:Nat) then R5 v else W2 v
abbrev W6(j:Nat):Nat:=(0:Nat)+j
abbrev X1(j:Nat):Bool:=decide (W6 j=(0:Nat))
abbrev O5(j:Nat):Bool:=decide (W6 j-(1:Nat)=(0:Nat))
abbrev Z3:Prop:=(1:Nat)<=(1:Nat)
abbrev R0:Prop:=(0:Nat)<(1:Nat)
abbrev W9(v:Vt):Span:=tmV (Sp3.mk (AKW v) (R5 v) (W2 v))
theorem CBF(v:Vt):(BWU v)=((G6/\AFD/\K9/\AIQ v/\Rf v=true)/\(G6/\AFD/\K9/\AIQ v)/\∀(l:Nat),((0:Int)<=(0:Int)/\(0:Int)<(↑(1:Nat) :
 Int))/\l=l/\((3:Nat)=(3:Nat)/\(3:Nat)<=(3:Nat)/\(∀(j:Nat),j<(3:Nat)->((U6 j v).lo=bif X1 j then Qn else bif O5 j then v.d.lo else v.s.lo)/\(U6 j v).hi=bif
 X1 j then Qn else bif O5 j then v.d.hi else v.s.hi)/\(True/\((0:Nat)<(0:Nat)->(0:Nat)=(2:Nat)))/\(Z3/\(R0->(2:Nat)=(2:Nat)))/\(true=true->R0)/\(1 :
 Nat)<=(9223372036854775807:Nat)/\(16:Nat)<=(140737488355328:Nat))/\K9/\Z3/\(∀(j:Nat),j<(1:Nat)->(paV v).lo=(W9 v).lo/\(paV v).hi=(W9 v).hi)/\G6):=by
 kernel_rfl
def flV(v:Vt):Span:=plV ⟨⟨0,0⟩,paV v⟩
def C_gFlow:Ctr:={ α:=Vt,xs:=λv=>[.d (eGg v)],L:=λ_=>[],val:=λv=>.tup [.d (UJ (flV v)),.int 0],keep:=λ_=>[],pre:=λv=>[Rf v=true] }
def BIO:Ann:={ ann 26 [(BBL,C_gPan.spec d_Gg),(APR,BJH)] with unr:=λid=>if id=4 then 2 else 0 }
def BGV(v:Vt):Prop:=AX Try.prog BIO AQB (AF AQB) [.d (eGg v)] (AC []) (C_gFlow.val v) [] [] []
theorem BWT(v:Vt):(BGV v)=(FE (AI AL BZ AZ (UM v v v) (gC v)) (IC 1) (CE (flV v)) (CE (plV (SpS.mk (Span.mk 0 0) (paV v)))) (XS (flV v) (plV (SpS.mk (Span.mk 0 0) (paV v)))) AL):=by kernel_rfl
structure ReS where
 v:Vt
 a:Int
 b:Int
def one1(a:Int):DVal:=.list 1 1 (λ_=>ES a) false
def reV(x:ReS):Int:=wr (0+wr (wr (10*x.a)*x.b))
def C_gReal:Ctr:={ α:=ReS,xs:=λx=>[.d (eGg x.v),.d (one1 x.a),.d (one1 x.b)],L:=λ_=>[],val:=λx=>.tup [.int (reV x),.int 0],keep:=λ_=>[],pre:=λx=>[Rf x.v=true,MN x.a x.v.d.lo x.v.d.hi=true,MN x.b x.v.s.lo x.v.s.hi=true] }
noncomputable def itRe:IterAnn:={ fn:=G7,code:=AF G7,live:=[4,5,6,7,9,10],ann:={ base:=λid=>100000+1000*(id+1),Γ:=Sym.look [],E:=[1016,1032,1048,1064,7000,7016,8016],n:=49,unr:=λid=>if id=1 then 2 else 0 } }
noncomputable def BIQ:Ann:={ ann 80 [(M3,C_gCheck.spec d_Gg),(AQP,C_gWid.spec d_Gg),(L7,Fg)] with iter:=λg=>if g=oI then some itRe else none }
def BGR(x:ReS):Prop:=AX Try.prog BIQ ATE (AF ATE) (C_gReal.xs x) (AC []) (C_gReal.val x) [] [] []
theorem BYM(x:ReS):(BGR x)=((Int.ofNat (0:Nat)=Int.ofNat (0:Nat)/\Int.ofNat (10:Nat)=Int.ofNat (10:Nat)/\(1:Nat)=(1:Nat)/\(∀(i:Nat),i<(1:Nat)->Int.ofNat (5:Nat)=Int.ofNat
 (5:Nat)/\x.v.d.lo=x.v.d.lo/\x.v.d.hi=x.v.d.hi/\x.v.s.lo=x.v.s.lo/\x.v.s.hi=x.v.s.hi)/\Rf x.v=true)/\(Int.ofNat (0:Nat)=Int.ofNat (0:Nat)/\Int.ofNat (10:Nat)=Int.ofNat (10:Nat)/\(1:Nat)
 = (1:Nat)/\∀(i:Nat),i<(1:Nat)->Int.ofNat (5:Nat)=Int.ofNat (5:Nat)/\x.v.d.lo=x.v.d.lo/\x.v.d.hi=x.v.d.hi/\x.v.s.lo=x.v.s.lo/\x.v.s.hi=x.v.s.hi)/\∀(l:Nat),((0:Int)<=(0:Int)/\(0 :
 Int)<(↑(1:Nat):Int))/\l=l/\(((0:Int)<=(0:Int)/\(0:Int)<(↑(1:Nat):Int))/\((!!MN x.a x.v.d.lo x.v.d.hi)=true->(0:Int)<=(0:Int)/\(0:Int)<(↑(1:Nat):Int)))/\bif bif !MN x.a
 x.v.d.lo x.v.d.hi then true else !MN x.b x.v.s.lo x.v.s.hi then reV x=(0:Int)/\Int.ofNat (0:Nat)=Int.ofNat (7:Nat) else (((0:Int)<=(0:Int)/\(0:Int)<(↑(1:Nat):Int))/\(0:Int)<=(0:Int)/\(0 :
 Int)<(↑(1:Nat):Int))/\reV x=IntKind.i64.wrap ((0:Int)+IntKind.i64.wrap (IntKind.i64.wrap (IntKind.i64.wrap ((10:Int)-(0:Int))*x.a)*x.b))/\Int.ofNat (0:Nat)=Int.ofNat (0:Nat)):=by
 kernel_rfl
theorem AKE:AH Try.prog L7 Fg:=MC xI3 hI3 λx _=>Dy (A:=ann 15 []) (ren:=[]) (fz:=[]) CPO (by kernel_rfl) AD (by
 show CGV x;rw[COY]<;> delta LI hd2 hd3 hd4 Wo N4 hd7 UD BY HY WQ;unfold MN;by_cases h:x.b<=x.a<;>simp[h])
theorem BMW:AH Try.prog AHN AYP:=MC xSII hSII λx _=>Dy (A:=ann 19 [(L7,Fg)]) (ren:=[]) (fz:=[]) BLI (by kernel_rfl) (AA AKE AD) (by
 show AXH x;rw[BLN]<;> delta LI Wo hd7 UD CE EE BY HY fW WQ;unfold riV;cases MN x.s.lo x.a x.s.hi<;>rfl)
theorem BLG:AH Try.prog ALL AYO:=MC xI2 hI2 λx _=>Dy (A:=ann 13 [(L7,Fg)]) (ren:=[]) (fz:=[]) BMR (by kernel_rfl) (AA AKE AD) (by
 show AWL x;rw[BMV]<;> delta LI Wo UD Iv Oc NC No CS IR BY FC HY Ox;unfold shV;cases MN x.b 1 10000<;>rfl)
theorem BOQ:AH Try.prog APG BHV:=MC xI1 hI1 λx _=>Dy (A:=ann 6 []) (ren:=[]) (fz:=[]) BTE (by kernel_rfl) AD (by
 show BJT x;rw[BOT]<;> delta AK AJ iC;simp)
theorem BQW:AH Try.prog APR BJH:=MC xSpS hSpS λx _=>Dy (A:=ann 16 []) (ren:=[]) (fz:=[]) BRG (by kernel_rfl) AD (by
 show BFS x;rw[BZN]<;> delta AK NC TD CE EE CS AHU DK SR Jj;exact⟨rfl,rfl⟩)
theorem BLF:AH Try.prog AIU (C_gTimes.spec AZJ):=PU C_gTimes AWJ [] [] BKI (λ_=>by kernel_rfl) (λ_=>AD) (λ(x:Sp3) _=>by
 show AWI x;rw[BMG]<;> delta NX EZ AK AN AE BA BN BH sD DC ER NC TD KE FD J9 CG NZ Dg CE EE CS AG AI AO AJ AR YG CM IG BG DK BO GJ PS EB DR EX FP EV DT JD AU AL EY QN JA BE HX Vi HH HL BD SR FX XS kT TS Jj Ry Xp aH;simp only[CC,CU,CF,vP,eC]
 refine⟨⟨0,⟨rfl,rfl,rfl⟩,Nat.zero_le _⟩,λk hk=>⟨λhlt=>⟨⟨by omega,by omega⟩,k+1,⟨(GH (by omega)).symm,rfl,rfl⟩,by omega,by omega⟩,λhge=>?_⟩⟩
 have:k=3:=by omega
 subst this
 exact⟨rfl,rfl⟩) (λ_=>RU rfl rfl) _
theorem CFZ:AH Try.prog AEE (C_gCk1.spec BRL):=PU C_gCk1 (λ_=>BSR) [] [] CAZ (λ_=>by kernel_rfl) (λ_=>AA AKE (AA BMW AD)) (λ(v:Vt) _=>by
 show BOA v;rw[CAV]<;> delta LI Wo UD AK AN AE BA BN NC TD No FD CE EE Gi Fe CS AG AI AO AJ AR IR DK BO FP LF AL QN Ep AZ BY ED BZ LQ Ee HY Hm Jg Ox;simp only[CC,CU,CF,vP,eC]
 unfold Rf
 rw[show MN 5 (IntKind.i64.wrap (0+1)) (IntKind.i64.wrap (10-1))=true from rfl]
 cases riV ⟨v.d,0,2000⟩<;>rfl) (λ_=>RU rfl rfl) _
theorem CLW:AH Try.prog BGW (C_eV1.spec CKS):=PU C_eV1 (λ_=>CHF) [] [] CLS (λ_=>by kernel_rfl) (λ_=>AA CFZ AD) (λ(v:Vt) _=>by
 show CKJ v;rw[CMI]<;> delta LI AK AN AE BA BN FD CE EE Gi Fe AG AI AO AJ AR AJB AS BO LF AV AL QN Ep AZ ED BZ Hm Jg fL UM Bt;simp only[CC,CU,CF,vP,eC]) (λ_=>RU rfl rfl) _
theorem CPQ:AH Try.prog BOU (C_ifV.spec BHZ):=PU C_ifV (λ_=>CJN) [] [] CKY (λ_=>by kernel_rfl) (λ_=>AA CLW AD) (λ(v:Vt) h=>by
 have h:Rf v=true:=h
 show CKE v;rw[CNK]<;> delta EZ AK AN AE BA BN BH DC ER FD wQ CE EE Gi Fe AG AI AO AJ AR AJB AS BO DR LF AL QN Ep AZ ED BZ SV JN LQ IC GO Hm Jg fL UM;simp only[CC,CU,CF,vP,eC]
 refine⟨⟨by omega,by omega⟩,λhf=>?_⟩
 rw[show Rf ⟨v.d,v.s⟩=true from h] at hf;cases hf) (λ_=>RU rfl rfl) _
theorem CNR:AH Try.prog BSZ (C_cfV.spec BHZ):=PU C_cfV (λ_=>CJS) [] [] CNC (λ_=>by kernel_rfl) (λ_=>AA CPQ AD) (λ(v:Vt) h=>by
 have h:Rf v=true:=h
 show CHP v;rw[COJ]<;> delta LI UD HU AK AN AE BA BN FD CE EE Gi Fe AG AI AO AJ AR DF AS M4 AGB BO LF GI AV AL QN Ep AZ ED BZ Hm Jg fL RF gC UM;simp only[CC,CU,CF,vP,eC];exact h) (λ_=>RU rfl rfl) _
theorem CSZ:AH Try.prog n_eV (C_eV.spec d_eV):=PU C_eV (λ_=>A_eV) [] [] CSE (λ_=>by kernel_rfl) (λ_=>AA CNR AD) (λ(v:Vt) h=>by
 have h:Rf v=true:=h
 show V_eV v;rw[CQF]<;> delta LI HU AK AN AE BA BN FD CE EE Gi Fe AG AI AO AJ AR DF AS M4 AGB BO LF GI AV AL QN Ep AZ ED BZ GQ Hm Jg fL gC UM;simp only[CC,CU,CF,vP,eC];exact h) (λ_=>RU rfl rfl) _
theorem CEV:AH Try.prog BBO (C_gRis.spec BVH):=PU C_gRis (λ_=>BUP) [] [] CEC (λ_=>by kernel_rfl) (λ_=>AD) (λ(v:Vt) _=>by
 show BWZ v;rw[CCY]<;> delta LI HU AK AN AE BA BN FD CE EE Gi Fe AG AI AO AJ AR DF BO LF AL QN Ep AZ ED BZ GQ LQ Hm Jg;simp only[CC,CU,CF,vP,eC]) (λ_=>RU rfl rfl) _
theorem AMZ:AH Try.prog M3 (C_gCheck.spec d_Gg):=PU C_gCheck (λ_=>AWO) [] [] BLU (λ_=>by kernel_rfl) (λ_=>AA AKE (AA BLG (AA CSZ (AA CEV AD)))) (λ(v:Vt) h=>by
 have h:Rf v=true:=h
 show AZI v;rw[BLH]<;> delta LI HU AK AN AE BA BN FD CE EE Gi Fe AG AI AO AJ AR DF AJB AS M4 AGB BO LF GI AL QN Ep AZ ED BZ GQ PY Hm Jg fL XL gC UM;simp only[CC,CU,CF,vP,eC];exact h) (λ_=>RU rfl rfl) _
theorem BHI:AH Try.prog AQP (C_gWid.spec d_Gg):=PU C_gWid (λ_=>ann 4 []) [(0,1000)] [] CDR (λ_=>by kernel_rfl) (λ_=>AD) (λ(v:Vt) _=>by
 show BWD v;rw[CEY]<;> delta AK AN AE BA BN FD CE EE Gi Fe AG AI AO AJ AR BO AQ LF AL QN Ep AZ ED BZ Hm Jg fL UM;simp only[CC,CU,CF,vP,eC]) (λ_=>RU rfl rfl) _
theorem CGL:AH Try.prog BBL (C_gPan.spec d_Gg):=PU C_gPan (λ_=>BUF) [] [9160] CFX (λ_=>by kernel_rfl) (λ_=>AA AMZ (AA BHI (AA BOQ (AA BLF AD)))) (λ(v:Vt) h=>by
 have h:Rf v=true:=h
 show BWU v;rw[CBF];delta G6 AFD K9 AIQ AHZ Qn ALG AKW AEI AFM R5 Z1 X3 W2 U6 W6 X1 O5 Z3 R0 W9;simp only[CC,CU,CF,vP,eC]
 refine⟨h,⟨by omega,by omega⟩,⟨by omega,λj hj=>?_,by omega,by omega,by omega,by omega,by omega⟩,by omega,λj _=>⟨rfl,rfl⟩⟩
 match j,hj with
 |0,_=>exact⟨rfl,rfl⟩
 |1,_=>exact⟨rfl,rfl⟩
 |2,_=>exact⟨rfl,rfl⟩) (λ_=>K2 oI itPa rfl rfl AD AVC (by kernel_rfl) (by kernel_rfl)) _
end Go.Bal
