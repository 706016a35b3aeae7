/- Package daily: the example of four days (closed). -/
import Derived.Test.YtbmlgdlbffmjjaaGreatGaH
set_option linter.unusedVariables false
set_option linter.unusedSimpArgs false
set_option maxRecDepth 8000
namespace Go.Bal
open Go Go.Sym Go.Proofs
structure Vl where
 k:Bool
 lo:Int
 hi:Int
 deriving Inhabited
def eVl(x:Vl):DVal:=.agg [AWM x.k,ES x.lo,ES x.hi]
def dVl:DVal->Vl
 | .agg [a,b,c]=>⟨CRG a,LR b,LR c⟩
 |_=>default
def dyX(i:Nat):DVal:=.agg [AWM (bif Nat.beq i 0 then true else Nat.beq i 3),ES (bif Nat.beq i 0 then 20 else bif Nat.beq i 3 then 58 else 0),ES (bif Nat.beq i 0 then 30 else bif Nat.beq i 3 then 90 else 0)]
def G9:DVal:=.list 3 4 dyX false
def L3:DVal:=.agg [ES 10,ES 5,G9]
def CKH(x:I3):Prop:=AX Try.prog (ann 15 []) BUU (AF BUU) (xI3 x) (AC []) (.bool (MN x.a x.b x.c)) [] [] []
theorem CPW(x:I3):(CKH x)=(WQ (MN (hd2 x) (hd3 x) (hd4 x)) (N4 (hd2 x) (hd3 x)) (hd2 x) (hd4 x)):=by kernel_rfl
def BFQ(x:Int):Prop:=AX Try.prog (ann 5 [(Z7,Fg)]) AOV (AF AOV) (xI1 x) (AC []) (.bool (MN x 0 1000000000)) [] [] []
theorem BYO(x:Int):(BFQ x)=(DF (FC x 1000000000)):=by kernel_rfl
def xSp1(x:Span):List AVal:=[.d (UJ x)]
def dSp1:List AVal->Option Span
 |[.d (.agg [.v (.int .i64 p),.v (.int .i64 q)])]=>some ⟨p,q⟩
 |_=>none
theorem hSp1(xs:List AVal)(a:Span)(h:dSp1 xs=some a):xs=xSp1 a:=by
 unfold dSp1 at h;split at h<;>cases h;rfl
def flsV(x:Span):Bool:=MN x.lo 0 x.hi&&MN x.hi 0 1000000000
def BDR:=pD dSp1 λx=>.bool (flsV x)
def BSF(x:Span):Prop:=AX Try.prog (ann 13 [(Z7,Fg),(L9,B7)]) AIS (AF AIS) (xSp1 x) (AC []) (.bool (flsV x)) [] [] []
abbrev CE:=Span.lo
abbrev EE:=Span.hi
attribute [go_sem] CE EE
theorem CDN(x:Span):(BSF x)=(HY (flsV x) (FC (CE x) (EE x)) (FC (EE x) 1000000000)):=by kernel_rfl
def okVl(x:Vl):Bool:=bif !x.k then true else flsV ⟨x.lo,x.hi⟩
def xVl1(x:Vl):List AVal:=[.d (eVl x)]
def dVl1:List AVal->Option Vl
 |[.d (.agg [.v (.bool k),.v (.int .i64 p),.v (.int .i64 q)])]=>some ⟨k,p,q⟩
 |_=>none
theorem hVl1(xs:List AVal)(a:Vl)(h:dVl1 xs=some a):xs=xVl1 a:=by
 unfold dVl1 at h;split at h<;>cases h;rfl
def BPB:=pD dVl1 λx=>.bool (okVl x)
def BTM(x:Vl):Prop:=AX Try.prog (ann 11 [(I8,BDR)]) BDN (AF BDN) (xVl1 x) (AC []) (.bool (okVl x)) [] [] []
theorem CDT(x:Vl):(BTM x)=(LI (okVl x) (OZ (not (Vl.k x)) (flsV (Span.mk (Vl.lo x) (Vl.hi x))))):=by kernel_rfl
def spVl(x:Vl):Span:=⟨bif x.k then x.lo else 0,bif x.k then x.hi else 1000000000⟩
def BGX:=pD dVl1 λx=>.d (UJ (spVl x))
def BJC(x:Vl):Prop:=AX Try.prog (ann 8 []) ARX (AF ARX) (xVl1 x) (AC []) (.d (UJ (spVl x))) [] [] []
abbrev SR a b:=AK (EE a) b
abbrev Jj a b:=AK (CE a) b
attribute [go_sem] SR Jj
theorem BXJ(x:Vl):(BJC x)=(EY (Vl.k x) (Jj (spVl x) (Vl.lo x)) (SR (spVl x) (Vl.hi x)) (And (CQ (CE (spVl x))) (SR (spVl x) 1000000000))):=by kernel_rfl
def dcB:AObj:=.box [.fn (.func S8) [] []]
def dcL:List (Nat×AObj):=[(100,dcB)]
def dcK:List (Nat×HCell):=[(100,.live dcB)]
def C_eD1:Ctr:={ ro:=[100],α:=Vl,xs:=λx=>[.d (eVl x),.bptr 100 0],L:=λ_=>dcL,val:=λx=>.bool (!okVl x),keep:=λ_=>dcK }
def CHR:List AVal->Heap->Option (Vl×List (Nat×Nat)×List Nat)
 |[.d d,.bptr id _],_=>some (dVl d,[(100,id)],[])
 |_,_=>none
def CIU:Ann:={ ann 8 [(S8,BPB)] with E:=[100] }
def CKF(x:Vl):Prop:=AX Try.prog CIU BRT (AF BRT) (C_eD1.xs x) (AC dcL) (C_eD1.val x) dcK [] []
theorem COG(x:Vl):(CKF x)=(Bt (not (okVl x)) (okVl (Vl.mk (Vl.k x) (Vl.lo x) (Vl.hi x)))):=by kernel_rfl
def xIfD:List AVal:=[.d G9,.fn (.func BJS) [] [.bptr 100 0]]
def C_ifD:Ctr:={ ro:=[100],α:=One,xs:=λ_=>xIfD,L:=λ_=>dcL,val:=λ_=>.int (-1),keep:=λ_=>dcK }
def BGE:List AVal->Heap->Option (One×List (Nat×Nat)×List Nat)
 |[_,.fn _ _ [.bptr id _]],_=>some (default,[(100,id)],[])
 |_,_=>none
def CKP:Ann:={ ann 19 [(BJS,C_eD1.spec CHR)] with E:=[100],unr:=λid=>if id=2 then 5 else 0 }
def CJE(_x:One):Prop:=AX Try.prog CKP BYT (AF BYT) xIfD (AC dcL) (.int (-1)) dcK [] []
abbrev WF a:=DT a 4
abbrev Rp a b:=AG a b b
abbrev Qo a b c:=And a (Rp b c)
abbrev RF:=DF UD
attribute [go_sem] WF Rp Qo RF
theorem CPD(_x:One):(CJE _x)=(AI (And (IC 4) (HZ GQ (FD 20) (FD 30))) (Qo (WF 1) RF AL) (Qo (WF 2) RF AL) (And (WF 3) (HZ GQ (FD 58) (FD 90))) (AJ (wQ 0))):=by kernel_rfl
def C_cfD:Ctr:={ C_ifD with val:=λ_=>.bool false }
def CJK:Ann:={ ann 9 [(BXT,C_ifD.spec BGE)] with E:=[100] }
def CIS(_x:One):Prop:=AX Try.prog CJK BXZ (AF BXZ) xIfD (AC dcL) (.bool false) dcK [] []
abbrev Ce a(b:Nat->Prop):=EX (AR a) b
abbrev Pn a b:=AO a 4 b
attribute [go_sem] Ce Pn
theorem COE(x:One):CIS x=(And (Ce 4 (λi=>Pn i (HN (Kj (dyX i) (dyX i))))) RF):=by kernel_rfl
def C_eD:Ctr:={ α:=One,xs:=λ_=>[.d G9,.fn (.func S8) [] []],L:=λ_=>[],val:=λ_=>.bool true,keep:=λ_=>[] }
def d_eD:List AVal->Heap->Option (One×List (Nat×Nat)×List Nat)
 |[_,_],_=>some (default,[],[])
 |_,_=>none
def A_eD:Ann:=ann 9 [(BPX,C_cfD.spec BGE)]
def V_eD(_x:One):Prop:=AX Try.prog A_eD F_eD (AF F_eD) [.d G9,.fn (.func S8) [] []] (AC []) (.bool true) [] [] []
theorem CSD(x:One):V_eD x=(And (Ce 4 (λi=>Pn i (HN (Kj (dyX i) (dyX i))))) GQ):=by kernel_rfl
def C_dCheck:Ctr:={ α:=One,xs:=λ_=>[.d L3],L:=λ_=>[],val:=λ_=>.int 0,keep:=λ_=>[] }
def AYR:Ann:=ann 26 [(Z7,Fg),(L9,B7),(n_eD,C_eD.spec d_eD)]
def AWQ(_x:One):Prop:=AX Try.prog AYR ALA (AF ALA) [.d L3] (AC []) (.int 0) [] [] []
theorem BME(_x:One):(AWQ _x)=((true=true->(4:Nat)=(4:Nat)/\∀(i:Nat),i<(4:Nat)->((bif i.beq (0:Nat) then true else i.beq (3:Nat))=bif i.beq (0:Nat) then true else i.beq (3 :
 Nat))/\((bif i.beq (0:Nat) then (20:Int) else bif i.beq (3:Nat) then (58:Int) else (0:Int))=bif i.beq (0:Nat) then (20:Int) else bif i.beq (3:Nat) then (58:Int) else (0:Int))/\(bif i.beq (0:Nat)
 then (30:Int) else bif i.beq (3:Nat) then (90:Int) else (0:Int))=bif i.beq (0:Nat) then (30:Int) else bif i.beq (3:Nat) then (90:Int) else (0:Int))/\Int.ofNat (0:Nat)=Int.ofNat (0:Nat)):=by
 kernel_rfl
def wkO:AObj:=.box [.int 10,.int 5,.d G9,.own 101 2 0 4]
def spO(s:Nat->Span):AObj:=.row 2 4 λi=>UJ (s i)
def wkL(s:Nat->Span):List (Nat×AObj):=[(100,wkO),(101,spO s)]
def wkQ(s:Nat->Span):List (Nat×HCell):=[(100,.live wkO),(101,.live (spO s))]
structure PaS where
 s:Nat->Span
 b:Bool
def d_wk(H:Heap)(id:Nat):Option (Nat×(Nat->Span)):=match H id with
 | .live (.box [_,_,_,.own j _ _ _])=>match H j with
  | .live (.row _ _ g)=>some (j,λi=>dX (g i))
  |_=>none
 |_=>none
def C_dPrs:Ctr:={ ro:=[100,101],α:=PaS,xs:=λx=>[.bptr 100 0,.bool x.b],L:=λx=>wkL x.s,val:=λ_=>.fn (.func wS) [] [.bptr 0 0,.bptr 1 0],keep:=λx=>wkQ x.s ++ [(0,.live (.box [.bptr 100 0])),(1,.live (.box [.bool x.b]))] }
def BVG:List AVal->Heap->Option (PaS×List (Nat×Nat)×List Nat)
 |[.bptr id _,.d (.v (.bool b))],H=>(d_wk H id).map λp=>(⟨p.2,b⟩,[(100,id),(101,p.1)],[])
 |_,_=>none
def BOE(x:PaS):Prop:=AX Try.prog { ann 6 [] with E:=[100,101] } AGE (AF AGE) (C_dPrs.xs x) (AC (wkL x.s)) (C_dPrs.val x) (C_dPrs.keep x) [(0,1000),(1,1016)] []
abbrev YG a b c d:=AI a b b c d
abbrev QN a:=AJ (EE a)
abbrev kT a b c:=PS a b (CE c) (QN c)
abbrev TU a b:=kT a 4 b
abbrev EK:=AR 4
abbrev nZ a b c:=Ea a b 3 c
abbrev Im a:=nZ a 30 90
abbrev Iw a:=nZ a 20 58
abbrev iP a b c:=OZ a (Dg b c)
abbrev Jv a:=iP (Dg a 0) a 3
abbrev ZA:=AE (λi=>Pn i (HZ (DF (Jv i)) (Iw i) (Im i)))
abbrev ED:=BO 5
abbrev BZ:=BO 10
attribute [go_sem] YG QN kT TU EK nZ Im Iw iP Jv ZA ED BZ
theorem CDH(x:PaS):(BOE x)=(AI BZ ED EK ZA (YG AM EK (AE (λi=>TU i (PaS.s x i))) (DF (PaS.b x)))):=by kernel_rfl
structure NaS where
 s:Nat->Span
 i:Int
 a:Int
 b:Int
def naV(x:NaS)(j:Nat):Span:=⟨bif decide (j=x.i.toNat) then Rb (x.s x.i.toNat).lo x.a else (x.s j).lo,bif decide (j=x.i.toNat) then S4 (x.s x.i.toNat).hi x.b else (x.s j).hi⟩
def C_dNar:Ctr:={ ro:=[100,102],α:=NaS,xs:=λx=>[.int x.i,.int x.a,.int x.b,.bptr 102 0],L:=λx=>wkL x.s ++ [(102,.box [.bptr 100 0])],val:=λ_=>.d (.tup []),keep:=λx=>wkQ (naV x) ++ [(102,.live (.box [.bptr 100 0]))],pre:=λx=>[0<=x.i/\x.i<4] }
def BRV:List AVal->Heap->Option (NaS×List (Nat×Nat)×List Nat)
 |[.d (.v (.int .i64 i)),.d (.v (.int .i64 a)),.d (.v (.int .i64 b)),.bptr c _],H=>match H c with
  | .live (.box [.bptr id _])=>(d_wk H id).map λp=>(⟨p.2,i,a,b⟩,[(100,id),(101,p.1),(102,c)],[])
  |_=>none
 |_,_=>none
def BVK:Ann:={ ann 32 [] with E:=[100,101,102] }
def BZT(x:NaS):Prop:=AX Try.prog BVK ASY (AF ASY) (C_dNar.xs x) (AC (C_dNar.L x)) (.d (.tup [])) (C_dNar.keep x) [] []
abbrev L5:=NaS.s
abbrev Qv a b c d:=AI a b c c d
abbrev Sf a b c:=Qv a AM b c
abbrev Iz a b(c:Nat->Prop):=Sf a b (AE c)
abbrev Un a b c d e:=IG a b (AK c d) e
abbrev rQ a:=AP (MW a)
abbrev Jk a:=rQ (NaS.i a)
abbrev Dp a b c:=And (BN a b) c
abbrev iB a b:=AG a a b
abbrev PL a b:=NZ (Nat.succ a) b
abbrev Ot a:=BN a 4
attribute [go_sem] L5 Qv Sf Iz Un rQ Jk Dp iB PL Ot
theorem CBP(x:NaS):(BZT x)=(AV (WF (NaS.i x)) (Dp (Jk x) 4 (iB (Ot (Jk x)) (PL (Jk x) 4))) BZ ED EK (Iz ZA EK (λi=>Un i 4 (CE (naV x i)) (HR (ZP i (Jk x)) (HR (ZP (Jk x) (Jk x)) (sD (CE (L5 x (Jk x))) (NaS.a x)) (CE (L5 x (Jk x)))) (HR (ZP i (Jk x)) (sD (CE (L5 x (Jk x))) (NaS.a x)) (CE (L5 x i)))) (SR (naV x i) (HR (ZP i (Jk x)) (S4 (EE (L5 x (Jk x))) (NaS.b x)) (HR (ZP i (Jk x)) (EE (L5 x (Jk x))) (EE (L5 x i)))))))):=by kernel_rfl
def BSB:=pD dSp1 λx=>.bool (decide (x.lo<=x.hi))
def BVU(x:Span):Prop:=AX Try.prog (ann 8 []) ATD (AF ATD) (xSp1 x) (AC []) (.bool (decide (x.lo<=x.hi))) [] [] []
theorem CEI(x:Span):(BVU x)=(DF (hd7 (CE x) (EE x))):=by kernel_rfl
def doB:AObj:=.box [.fn (.func E8) [] []]
def C_eS1:Ctr:={ ro:=[100],α:=Span,xs:=λx=>[.d (UJ x),.bptr 100 0],L:=λ_=>[(100,doB)],val:=λx=>.bool (!decide (x.lo<=x.hi)),keep:=λ_=>[(100,.live doB)] }
def CIJ:List AVal->Heap->Option (Span×List (Nat×Nat)×List Nat)
 |[.d d,.bptr id _],_=>some (dX d,[(100,id)],[])
 |_,_=>none
def CIO:Ann:={ ann 8 [(E8,BSB)] with E:=[100] }
def CJM(x:Span):Prop:=AX Try.prog CIO BNG (AF BNG) (C_eS1.xs x) (AC [(100,doB)]) (C_eS1.val x) [(100,.live doB)] [] []
theorem CMT(x:Span):(CJM x)=(Dm (hd7 (CE x) (EE x))):=by kernel_rfl
def seL(s:Nat->Span):List (Nat×AObj):=[(100,doB),(101,spO s)]
def seK(s:Nat->Span):List (Nat×HCell):=[(100,.live doB),(101,.live (spO s))]
def xIfS:List AVal:=[.own 101 2 0 4,.fn (.func BGO) [] [.bptr 100 0]]
def okSp(s:Nat->Span):Prop:=(s 0).lo<=(s 0).hi/\(s 1).lo<=(s 1).hi/\(s 2).lo<=(s 2).hi/\(s 3).lo<=(s 3).hi
def C_ifS:Ctr:={ ro:=[100,101],α:=Nat->Span,xs:=λ_=>xIfS,L:=seL,val:=λ_=>.int (-1),keep:=seK,pre:=λs=>[okSp s] }
def BII:List AVal->Heap->Option ((Nat->Span)×List (Nat×Nat)×List Nat)
 |[.own j _ _ _,.fn _ _ [.bptr id _]],H=>match H j with
  | .live (.row _ _ g)=>some (λi=>dX (g i),[(100,id),(101,j)],[])
  |_=>none
 |_,_=>none
def CJZ:Ann:={ ann 19 [(BGO,C_eS1.spec CIJ)] with E:=[100,101],unr:=λid=>if id=2 then 5 else 0 }
def CIG(s:Nat->Span):Prop:=AX Try.prog CJZ BTH (AF BTH) xIfS (AC (seL s)) (.int (-1)) (seK s) [] []
abbrev APN(s:Nat->Span):Span:=s ((0:Nat)+(0:Nat))
abbrev ADE(s:Nat->Span):Int:=(APN s).lo
abbrev ACS(s:Nat->Span):Int:=(APN s).hi
abbrev xA(s:Nat->Span):Prop:=(4:Nat)=(4:Nat)/\∀(i:Nat),i<(4:Nat)->(s i).lo=(s i).lo/\(s i).hi=(s i).hi
abbrev ATZ:Nat:=(0:Nat)+(1:Nat)
abbrev APD(s:Nat->Span):Span:=s ATZ
abbrev ACN(s:Nat->Span):Int:=(APD s).lo
abbrev ADA(s:Nat->Span):Int:=(APD s).hi
abbrev ACR:Nat:=((2:Int) ^ IntKind.i64.bits).natAbs
abbrev APX:Nat:=ATZ % ACR
abbrev AJM(s:Nat->Span):Span:=s ((0:Nat)+(2:Nat))
abbrev I9(s:Nat->Span):Int:=(AJM s).lo
abbrev H4(s:Nat->Span):Int:=(AJM s).hi
abbrev AEJ:Nat:=(APX+(1:Nat)) % ACR
abbrev AJN(s:Nat->Span):Span:=s ((0:Nat)+Int.toNat (3:Int))
abbrev G8(s:Nat->Span):Int:=(AJN s).lo
abbrev J2(s:Nat->Span):Int:=(AJN s).hi
theorem COW(s:Nat->Span):(CIG s)=((((0:Int)<=(0:Int)/\(0:Int)<(↑(4:Nat):Int))/\(0:Nat)<(4:Nat)/\ADE s=ADE s/\ACS s=ACS s)/\bif !decide (ADE s<=ACS s) then
 Int.negSucc (0:Nat)=Int.ofNat (0:Nat)/\xA s else (((0:Int)<=(1:Int)/\(1:Int)<(↑(4:Nat):Int))/\(1:Nat)<(4:Nat)/\ACN s=ACN s/\ADA s=ADA s)/\bif !decide (ACN s <=
 ADA s) then Int.negSucc (0:Nat)=Int.ofNat APX/\xA s else (((0:Int)<=(2:Int)/\(2:Int)<(↑(4:Nat):Int))/\(2:Nat)<(4:Nat)/\I9 s=I9 s/\H4 s=H4 s)/\bif
 !decide (I9 s<=H4 s) then Int.negSucc (0:Nat)=Int.ofNat AEJ/\xA s else (((0:Int)<=(3:Int)/\(3:Int)<(↑(4:Nat):Int))/\(3:Nat)<(4:Nat)/\G8 s=G8 s/\J2 s
 = J2 s)/\bif !decide (G8 s<=J2 s) then Int.negSucc (0:Nat)=Int.ofNat ((AEJ+(1:Nat)) % ACR)/\xA s else Int.negSucc (0:Nat)=Int.negSucc (0:Nat)/\xA s):=by kernel_rfl
def C_cfS:Ctr:={ C_ifS with val:=λ_=>.bool false }
def CHV:Ann:={ ann 9 [(BRE,C_ifS.spec BII)] with E:=[100,101] }
def CKN(s:Nat->Span):Prop:=AX Try.prog CHV BUB (AF BUB) xIfS (AC (seL s)) (.bool false) (seK s) [] []
theorem CLE(s:Nat->Span):(CKN s)=((0=0/\4=4/\4=4/\(∀(i:Nat),i<4->(s i).lo=(s i).lo/\(s i).hi=(s i).hi)/\4=4/\(∀(i:Nat),i<4->(s i).lo=(s i).lo/\(s i).hi=(s i).hi)/\(s
 0).lo<=(s 0).hi/\(s 1).lo<=(s 1).hi/\(s 2).lo<=(s 2).hi/\(s 3).lo<=(s 3).hi)/\false=false/\4=4/\∀(i:Nat),i<4->(s i).lo=(s i).lo/\(s i).hi=(s i).hi):=by kernel_rfl
def xES:List AVal:=[.own 101 2 0 4,.fn (.func E8) [] []]
def C_eS:Ctr:={ ro:=[101],α:=Nat->Span,xs:=λ_=>xES,L:=λs=>[(101,spO s)],val:=λ_=>.bool true,keep:=λs=>[(101,.live (spO s))],pre:=λs=>[okSp s] }
def d_eS:List AVal->Heap->Option ((Nat->Span)×List (Nat×Nat)×List Nat)
 |[.own j _ _ _,_],H=>match H j with
  | .live (.row _ _ g)=>some (λi=>dX (g i),[(101,j)],[])
  |_=>none
 |_,_=>none
def A_eS:Ann:={ ann 9 [(BWM,C_cfS.spec BII)] with E:=[101] }
def V_eS(s:Nat->Span):Prop:=AX Try.prog A_eS F_eS (AF F_eS) xES (AC [(101,spO s)]) (.bool true) [(101,.live (spO s))] [] []
theorem CTD(s:Nat->Span):(V_eS s)=((0=0/\4=4/\4=4/\(∀(i:Nat),i<4->(s i).lo=(s i).lo/\(s i).hi=(s i).hi)/\4=4/\(∀(i:Nat),i<4->(s i).lo=(s i).lo/\(s i).hi=(s i).hi)/\(s 0).lo
 <= (s 0).hi/\(s 1).lo<=(s 1).hi/\(s 2).lo<=(s 2).hi/\(s 3).lo<=(s 3).hi)/\true=true/\4=4/\∀(i:Nat),i<4->(s i).lo=(s i).lo/\(s i).hi=(s i).hi):=by kernel_rfl
def fin4(i:Nat):Span:=⟨bif Nat.beq i 0 then 28 else bif Nat.beq i 1 then 38 else bif Nat.beq i 2 then 48 else 58,bif Nat.beq i 0 then 30 else bif Nat.beq i 1 then 40 else bif Nat.beq i 2 then 50 else 60⟩
def C_dOpd:Ctr:={ α:=One,xs:=λ_=>[.d L3],L:=λ_=>[],val:=λ_=>.tup [.bptr 0 0,.bool true,.int 0],keep:=λ_=>[(0,.live (.box [.int 10,.int 5,.d G9,.own 1 2 0 4])),(1,.live (spO fin4))] }
def ini4(i:Nat):Span:=⟨bif Nat.beq i 0 then 20 else bif Nat.beq i 3 then 58 else 0,bif Nat.beq i 0 then 30 else bif Nat.beq i 3 then 90 else 1000000000⟩
def dp11:Shape:={ α:=One,dflt:=default,T:=λ_=>⟨[(6,.bptr 5048 0),(9,.bptr 11016 0)],[(5032,.live (.box [.int 10,.int 5,.d G9,.own 300 2 0 4])),(5048,.live (.box [.bptr 5032 0])),(11016,.live (.box [.fn (.func ACX) [] [.bptr 5048 0]])),(300,.live (spO ini4))]⟩,inv:=λ_=>True,meas:=λ_=>0,first:=[(300,4009128)] }
def off1:List Nat->Nat
 |[t]=>t
 |_=>0
noncomputable def itDp:IterAnn:={ fn:=U4,code:=AF U4,live:=[6,9],ann:={ base:=λid=>100000+1000*(id+1),Γ:=Sym.look [],E:=[5048,11016],n:=45,unr:=λid=>if id=1 then 4 else 0 } }
noncomputable def BQE:Ann:={ ann 118 [(M9,C_dCheck.spec N8),(AUX,BGX),(AGP,C_dPrs.spec BVG),(ACX,C_dNar.spec BRV),(n_eS,C_eS.spec d_eS)] with mt:=λid=>id==8,unr:=λid=>if id=6 then 5 else 0,off:=off1,iter:=λg=>if g=wS then some itDp else none,cut:=λid=>if id=11 then some [dp11] else none }
def BSH(_x:One):Prop:=AX Try.prog BQE BDM (AF BDM) [.d L3] (AC []) (.tup [.bptr 0 0,.bool true,.int 0]) [(0,.live (.box [.int 10,.int 5,.d G9,.own 1 2 0 4])),(1,.live (spO fin4))] [(0,5032),(1,300)] []
abbrev CY:=ini4
abbrev We:=λ(x0 x1:Nat)=>decide (x0<x1)
abbrev ZV:=λ(f:One->Prop)=>∀(x:One),f x
abbrev uT:=@HPow.hPow Int Nat Int (@instHPow Int Nat (@instPowNat Int Int.instNatPow))
abbrev rS:=fin4
abbrev Ma a b:=ZV (λi=>BA a b)
abbrev ABE a b c:=AQ a b a c
abbrev XS a b:=SR a (EE b)
abbrev AXD(a:Nat->Span) b c d e:=naV (NaS.mk a b c d) e
abbrev AHU a b:=CS (TD (EE a) b)
abbrev AVY a b:=No (CE a) b
abbrev AFU(a:Nat->Span) b c d:=AXD a b (CS (AVY c 10)) (AHU c 5) d
abbrev AYB a b c:=IR (AAL a b) c
abbrev AKK:=AYB 4 2 2
abbrev A0(a:Nat->Span) b c:=AFU a AKK b c
abbrev rR a b:=AYB 4 a b
abbrev AFO(a:Nat->Span) b c:=AFU a (rR 2 1) b c
abbrev AAE a:=rR a 0
abbrev D0(a:Nat->Span) b c:=AFU a (AAE 2) b c
abbrev BJM(a:Nat->Span) b c d e:=AXD a b (CS (AVY c 5)) (AHU d 10) e
abbrev sS(a:Nat->Span) b c:=BJM a 3 b b c
abbrev Pr(a:Nat->Span) b c:=BJM a 2 b b c
abbrev QI a b c:=AXD CY 1 (CS (AVY a 5)) (AHU b 10) c
abbrev AWN a:=QI (CY (AP 0)) (CY (AP 0)) a
abbrev Nt:=AP 1
abbrev AVW a:=Pr AWN (AWN Nt) a
abbrev C1 a:=sS AVW (AVW Aa) a
abbrev AEZ a:=D0 C1 (C1 (rQ (AAE 1))) a
abbrev ADX:=AYB 4 1 1
abbrev cA a:=AFO AEZ (AEZ (rQ ADX)) a
abbrev LB a:=And AM a
abbrev YR a b c d:=AI a a b c d
abbrev jZ a:=A0 (λi=>AFO (λj=>D0 (λk=>sS (λl=>Pr (λm=>QI (CY 0) (CY 0) m) (QI (CY 0) (CY 0) 1) l) (Pr (λl=>QI (CY 0) (CY 0) l) (QI (CY 0) (CY 0) 1) 2) k) (sS (λk=>Pr (λl=>QI (CY 0) (CY 0) l) (QI (CY 0) (CY 0) 1) k) (Pr (λk=>QI (CY 0) (CY 0) k) (QI (CY 0) (CY 0) 1) 2) 3) j) (D0 (λj=>sS (λk=>Pr (λl=>QI (CY 0) (CY 0) l) (QI (CY 0) (CY 0) 1) k) (Pr (λk=>QI (CY 0) (CY 0) k) (QI (CY 0) (CY 0) 1) 2) j) (sS (λj=>Pr (λk=>QI (CY 0) (CY 0) k) (QI (CY 0) (CY 0) 1) j) (Pr (λj=>QI (CY 0) (CY 0) j) (QI (CY 0) (CY 0) 1) 2) 3) 2) i) (AFO (λi=>D0 (λj=>sS (λk=>Pr (λl=>QI (CY 0) (CY 0) l) (QI (CY 0) (CY 0) 1) k) (Pr (λk=>QI (CY 0) (CY 0) k) (QI (CY 0) (CY 0) 1) 2) j) (sS (λj=>Pr (λk=>QI (CY 0) (CY 0) k) (QI (CY 0) (CY 0) 1) j) (Pr (λj=>QI (CY 0) (CY 0) j) (QI (CY 0) (CY 0) 1) 2) 3) i) (D0 (λi=>sS (λj=>Pr (λk=>QI (CY 0) (CY 0) k) (QI (CY 0) (CY 0) 1) j) (Pr (λj=>QI (CY 0) (CY 0) j) (QI (CY 0) (CY 0) 1) 2) i) (sS (λi=>Pr (λj=>QI (CY 0) (CY 0) j) (QI (CY 0) (CY 0) 1) i) (Pr (λi=>QI (CY 0) (CY 0) i) (QI (CY 0) (CY 0) 1) 2) 3) 2) 1) a
abbrev lF a:=Sf ZA EK a
abbrev cY a b c d e f g h:=AS a b c d e f d g h
abbrev Ua a:=(@HMod.hMod Nat Nat Nat (@instHMod Nat Nat.instMod)) a (V6 (uT 2 (IntKind.bits IntKind.i64)))
abbrev aP a b:=Ua (HA a b)
abbrev tQ a:=aP a 10
abbrev Wq a b:=Ua (KE a (Nat.succ b))
abbrev iH a b:=BO (Wq a b)
abbrev U1 a:=tQ (tQ a)
abbrev Cl(a:Nat->Prop) b c d e:=AI (AE a) b c d e
abbrev oA:=Ua Nt
abbrev kN:=BG 1
abbrev HW a:=BN 0 a
abbrev Co a b:=(@Exists One) (λi=>And a b)
abbrev NM a:=Co a FT
abbrev KB a b c d:=HR (We a b) c d
abbrev lJ a b c:=spVl (Vl.mk a b c)
abbrev tC:=MW 3
abbrev KX a b c d e f:=AI a b c (CV d e) f
abbrev LO a:=CV a 140737488355328
abbrev RB a b c:=And a (AO 0 b (AR c))
abbrev Eh a b:=RB (VR a) a b
abbrev UY a:=Eh 1 a
abbrev Ns a b c d e:=KX a (UY b) c d 9223372036854775807 (LO e)
abbrev GI a:=LI a HU
abbrev FW a b:=BA (GI a) b
abbrev JE:=FW UD (HW 1)
abbrev UT a b c d:=Ns a b JE c d
abbrev Lj a b:=RB (AR a) a b
abbrev AZ:=AR 1
abbrev Bf a b c:=And a (AO b b c)
abbrev XA a:=Bf FT 0 (AN 0 a)
abbrev Cj a b c d e:=Ns (XA a) b c d e
abbrev PY a:=BA GQ a
abbrev GV:=PY (HW 1)
attribute [go_sem] CY We ZV uT rS Ma ABE XS AXD AHU AVY AFU AYB AKK A0 rR AFO AAE D0 BJM sS Pr QI AWN Nt AVW C1 AEZ ADX cA LB YR jZ lF cY Ua aP tQ Wq iH U1 Cl oA kN HW Co NM KB lJ tC KX LO RB Eh UY Ns GI FW JE UT Lj AZ Bf XA Cj PY GV
theorem CFB(_x:One):(BSH _x)=(AG (AQ BZ ED EK ZA) (IC 4) (AS (Cj 2 2 GV 1 16) (WF 1) (UT (RB AZ 1 2) 2 2 32) (WF 2) (UT (RB CO 2 2) 2 3 48) (WF 3) (UT (Lj 3 2) 2 4 64) (NM (AQ BZ ED EK (Iz ZA EK (λi=>Un i 4 (CE (CY i)) (KB i (CL (CL Nt)) (KB i (CL Nt) (KB i Nt (CE (lJ (iP (ANJ 0) 0 3) (oH 20 (Gt 0 3 58)) (oH 30 (Gt 0 3 90)))) (CE (lJ (Jv 1) (Iw 1) (Im 1)))) (CE (lJ (Jv 2) (Iw 2) (Im 2)))) (CE (lJ (Jv tC) (Iw tC) (Im tC)))) (SR (CY i) (KB i (CL (CL Nt)) (KB i (CL Nt) (KB i Nt (EE (lJ (iP (ANJ 0) 0 3) (oH 20 (Gt 0 3 58)) (oH 30 (Gt 0 3 90)))) (EE (lJ (Jv 1) (Iw 1) (Im 1)))) (EE (lJ (Jv 2) (Iw 2) (Im 2)))) (EE (lJ (Jv tC) (Iw tC) (Im tC))))))))) (Ma FT (EX (AI RF BZ ED EK (lF (Cl (λi=>TU i (CY i)) BZ ED EK (Iz ZA EK (λi=>TU i (CY i)))))) (λi=>ABE (AR i) (AG (IC 4) (HW 4) (AS (IC 4) (HW 4) (BO oA) (iH 20 4) (BO (tQ 30)) BZ ED EK (lF (cY (AE (λj=>TU j (CY j))) BZ ED EK ZA AM kN (ER 1 4))))) (LQ (AG (WF 1) (Ot 1) (AS (WF 1) (Ot 1) (BO (Ua (CL oA))) (iH (Wq 20 4) 4) (BO (U1 30)) BZ ED EK (lF (cY (AE (λj=>TU j (AWN j))) BZ ED EK ZA AM (BG 2) (ER 2 4))))) (AR i) (AG (WF 2) (Ot 2) (AS (WF 2) (Ot 2) (BO (Ua (CL (Ua (CL oA))))) (iH (Wq (Wq 20 4) 4) 4) (BO (tQ (U1 30))) BZ ED EK (lF (cY (AE (λj=>TU j (AVW j))) BZ ED EK ZA AM (BG 3) (ER 3 4))))) (AI GQ BZ ED EK (lF (Cl (λj=>TU j (C1 j)) BZ ED EK (Iz ZA EK (λj=>TU j (C1 j)))))) (λj=>KS (AR j) (AG (WF (AAE 1)) (Ot 3) (AS (WF (AAE 1)) (Ot 3) (BO (aP (Wq 4 1) 0)) (iH 58 9) (BO (aP (tQ (U1 30)) 5)) BZ ED EK (lF (cY (AE (λk=>TU k (C1 k))) BZ ED EK ZA AM (BG (AAE 2)) (ER (AAE 2) 4))))) (AG (WF ADX) (Ot 2) (AS (WF ADX) (Ot 2) (iH (Wq 4 1) 0) (iH (Wq 58 9) 9) (BO (aP (U1 30) 5)) BZ ED EK (lF (cY (AE (λk=>TU k (AEZ k))) BZ ED EK ZA AM (BG (rR 2 1)) (ER (rR 2 1) 4))))) (AS (AR j) (AG (WF (rR 1 2)) (Ot 1) (AS (WF (rR 1 2)) (Ot 1) (iH (Wq 4 1) 1) (iH (Wq (Wq 58 9) 9) 9) (BO (aP (tQ 30) 5)) BZ ED EK (lF (cY (AE (λk=>TU k (cA k))) BZ ED EK ZA AM (BG AKK) (ER AKK 4))))) (LB (YR EK (AE (λk=>TU k (A0 cA (cA (rQ (rR 1 2))) k))) EK (UA (AE (λk=>TU k (A0 cA (cA (rQ (rR 1 2))) k))) (DC (CE (jZ 0)) (EE (jZ 0))) (DC (CE (jZ 1)) (EE (jZ 1))) (CE (jZ 2)) (EE (jZ 2)) (DC (CE (jZ 3)) (EE (jZ 3)))))) GQ AL BZ ED EK (Iz ZA EK (λk=>Un k 4 (CE (rS k)) (CE (A0 cA (cA (rQ (rR 1 2))) k)) (XS (rS k) (A0 cA (cA (rQ (rR 1 2))) k)))))))))))):=by kernel_rfl
def C_dAgr:Ctr:={ C_dOpd with val:=λ_=>.tup [.bptr 0 0,.int 0] }
def BSK:Ann:=ann 21 [(BBF,C_dOpd.spec N8)]
def BVN(_x:One):Prop:=AX Try.prog BSK BDS (AF BDS) [.d L3] (AC []) (.tup [.bptr 0 0,.int 0]) [(0,.live (.box [.int 10,.int 5,.d G9,.own 1 2 0 4])),(1,.live (spO fin4))] [(0,2016),(1,2017)] []
theorem CBK(_x:One):(BVN _x)=((Int.ofNat (10:Nat)=Int.ofNat (10:Nat)/\Int.ofNat (5:Nat)=Int.ofNat (5:Nat)/\(4:Nat)=(4:Nat)/\∀(i:Nat),i<(4:Nat)->((bif i.beq (0:Nat) then true
 else i.beq (3:Nat))=bif i.beq (0:Nat) then true else i.beq (3:Nat))/\((bif i.beq (0:Nat) then (20:Int) else bif i.beq (3:Nat) then (58:Int) else (0:Int))=bif i.beq (0:Nat) then (20:Int) else bif
 i.beq (3:Nat) then (58:Int) else (0:Int))/\(bif i.beq (0:Nat) then (30:Int) else bif i.beq (3:Nat) then (90:Int) else (0:Int))=bif i.beq (0:Nat) then (30:Int) else bif i.beq (3:Nat) then (90 :
 Int) else (0:Int))/\Int.ofNat (0:Nat)=Int.ofNat (0:Nat)/\Int.ofNat (10:Nat)=Int.ofNat (10:Nat)/\Int.ofNat (5:Nat)=Int.ofNat (5:Nat)/\(4:Nat)=(4:Nat)/\(∀(i:Nat),i<(4:Nat)->((bif
 i.beq (0:Nat) then true else i.beq (3:Nat))=bif i.beq (0:Nat) then true else i.beq (3:Nat))/\((bif i.beq (0:Nat) then (20:Int) else bif i.beq (3:Nat) then (58:Int) else (0:Int))=bif i.beq (0:Nat)
 then (20:Int) else bif i.beq (3:Nat) then (58:Int) else (0:Int))/\(bif i.beq (0:Nat) then (30:Int) else bif i.beq (3:Nat) then (90:Int) else (0:Int))=bif i.beq (0:Nat) then (30:Int) else bif
 i.beq (3:Nat) then (90:Int) else (0:Int))/\(0:Nat)=(0:Nat)/\(4:Nat)=(4:Nat)/\(4:Nat)=(4:Nat)/\∀(i:Nat),i<(4:Nat)->(fin4 i).lo=(fin4 i).lo/\(fin4 i).hi=(fin4 i).hi):=by
 kernel_rfl
def CKA:AVal:=.agg [.fn (.func tM) [] [],.fn (.func mC) [] []]
def C_dBoth:Ctr:={ α:=One,xs:=λ_=>[],L:=λ_=>[],val:=λ_=>CKA,keep:=λ_=>[] }
def BIG(_x:One):Prop:=AX Try.prog (ann 4 []) APA (AF APA) [] (AC []) CKA [] [] []
theorem BWS(_x:One):(BIG _x)=(FT):=by kernel_rfl
def CHU:=pD dSp1 λx=>.int x.lo
def CGQ(x:Span):Prop:=AX Try.prog (ann 5 []) ADY (AF ADY) (xSp1 x) (AC []) (.int x.lo) [] [] []
abbrev Ep a:=AJ (CE a)
attribute [go_sem] Ep
theorem CLX(x:Span):(CGQ x)=(Ep x):=by kernel_rfl
def CGP:=pD dSp1 λx=>.int x.hi
def CKU(x:Span):Prop:=AX Try.prog (ann 5 []) AIH (AF AIH) (xSp1 x) (AC []) (.int x.hi) [] [] []
theorem CLY(x:Span):(CKU x)=(QN x):=by kernel_rfl
structure EnS where
 s:Nat->Span
 h:Bool
def xEn(h:Bool):List AVal:=match h with
 |false=>[.own 101 2 1 2,.agg [.fn (.func tM) [] []]]
 |true=>[.own 101 2 1 2,.agg [.fn (.func mC) [] []]]
def vEn(x:EnS)(h:Bool):DVal:=lst 1 2 λi=>ES (match h with
 |false=>(x.s (1+i)).lo
 |true=>(x.s (1+i)).hi)
def C_dEnds:Ctr:={ ro:=[101],α:=EnS,xs:=λx=>xEn x.h,L:=λx=>[(101,spO x.s)],val:=λx=>.d (vEn x x.h),keep:=λx=>[(101,.live (spO x.s))] }
def BGB:List AVal->Heap->Option (EnS×List (Nat×Nat)×List Nat)
 |[.own j _ _ _,.agg [.fn (.func g) _ _]],H=>match H j with
  | .live (.row _ _ s)=>match Nat.beq g mC with
   |true=>some (⟨λi=>dX (s i),true⟩,[(101,j)],[])
   |false=>some (⟨λi=>dX (s i),false⟩,[(101,j)],[])
  |_=>none
 |_,_=>none
def ACH:Ann:={ ann 23 [(tM,CHU),(mC,CGP)] with E:=[101],mt:=λid=>id==5,unr:=λid=>if id=3 then 3 else 0,off:=off1 }
def BRN(x:EnS):Prop:=AX Try.prog ACH E7 (AF E7) (xEn false) (AC [(101,spO x.s)]) (.d (vEn x false)) [(101,.live (spO x.s))] [] [4006096]
abbrev sR:=EnS.s
abbrev ZI a b c d e f(g:Nat->Prop) h(p:Nat->Prop):=JQ a b c d e f (AE g) h p
abbrev XZ a b c d:=KB (AP a) b c d
abbrev La a:=HA 1 a
abbrev As a b c:=And a (PL b c)
abbrev Qc:=gE 2
abbrev Oj:=IC 2
attribute [go_sem] sR ZI XZ La As Qc Oj
theorem CEZ(x:EnS):(BRN x)=(ZI (As Oj (La 0) 4) (Cj 1 1 GV 1 8) (As Qc (CL 1) 4) (UT (RB AZ 1 1) 1 2 16) CO By (λi=>TP i (Jj (sR x (La i)) (XZ i Nt (CE (sR x (La 0))) (CE (sR x (CL 1)))))) EK (λi=>TU i (sR x i))):=by kernel_rfl
def BRM(x:EnS):Prop:=AX Try.prog ACH E7 (AF E7) (xEn true) (AC [(101,spO x.s)]) (.d (vEn x true)) [(101,.live (spO x.s))] [] [4006096]
theorem CFK(x:EnS):(BRM x)=(ZI (As Oj (La 0) 4) (Cj 1 1 GV 1 8) (As Qc (CL 1) 4) (UT (RB AZ 1 1) 1 2 16) CO By (λi=>TP i (SR (sR x (La i)) (XZ i Nt (EE (sR x (La 0))) (EE (sR x (CL 1)))))) EK (λi=>TU i (sR x i))):=by kernel_rfl
def BTQ(l:List Int):Prop:=AX Try.prog (AQR l) BCL (AF BCL) (C_lSum.xs l) (AC []) (C_lSum.val l) [] [] []
theorem CFP(l:List Int):(BTQ l)=(TS (λi=>And (AI (CQ (eG i l)) (HS l) (EG l) (PC l) (BD i)) (NZ i (FI l))) (λi=>HF (NZ i (FI l)) i (FI l) (BE i (FI l)) (CG (λj=>FB (AI (AK (eG j l) (DK (eG i l) (IQ l i))) (HS l) (EG l) (PC l) (AU j i)) (NZ j (FI l)) (FI l) j i)) (AK (oP l) (eG i l)))):=by kernel_rfl
def C_dVol:Ctr:={ α:=One,xs:=λ_=>[.d L3,.int 1,.int 2],L:=λ_=>[],val:=λ_=>.tup [.d (UJ ⟨86,90⟩),.int 0],keep:=λ_=>[] }
def d_3:List AVal->Heap->Option (One×List (Nat×Nat)×List Nat)
 |[_,_,_],_=>some (default,[],[])
 |_,_=>none
def BSN:Ann:=ann 60 [(M9,C_dCheck.spec N8),(Z7,Fg),(BDU,C_dAgr.spec N8),(ARU,C_dBoth.spec T7),(ATG,C_dEnds.spec BGB),(BEK,C_lSum.spec d_Is)]
def BNY(_x:One):Prop:=AX Try.prog BSN BDL (AF BDL) [.d L3,.int 1,.int 2] (AC []) (.tup [.d (UJ ⟨86,90⟩),.int 0]) [] [] []
abbrev JN a b:=AK a (FD b)
abbrev UB a b:=JN (FD a) b
abbrev Gz a b c:=KS a b b c
abbrev Ib a b c d e f g h:=AS a b c d e d f g h
abbrev I0 a b c d e f g:=Ib a b c d c e f g
abbrev cO(a:Nat->Int):=Ff 2 a
abbrev Ar a:=BN a 1073741824
abbrev Ej a:=DC 1 a
attribute [go_sem] JN UB Gz Ib I0 cO Ar Ej
theorem CAD(_x:One):(BNY _x)=(iB (AQ BZ ED EK ZA) (FE (AQ kN (Ej 3) (DC 3 (BH 4)) (Or (CQ 1) (ER 1 3))) (AQ Oj AZ CO (Gz EK (AE (λi=>TU i (rS i))) (AI CO (AE (λi=>TP i (MM (cO (λj=>CE (rS (La j)))) i (CE (rS (La i)))))) (Ar 2) Qc (I0 AZ CO EK (AE (λi=>TU i (rS i))) CO (AE (λi=>TP i (MM (cO (λj=>EE (rS (La j)))) i (EE (rS (La i)))))) (PL (FI (cO (λi=>EE (rS (La i))))) 1073741824))))) (FD 86) (FD (aP (Ua (AP 38)) 48)) (UB 90 (aP (Ua (AP 40)) 50)) AL)):=by kernel_rfl
def BBE:=pD dI2 λx=>.d (UJ ⟨x.a,x.b⟩)
def BOB(x:I2):Prop:=AX Try.prog (ann 8 []) BEJ (AF BEJ) (xI2 x) (AC []) (.d (UJ ⟨x.a,x.b⟩)) [] [] []
theorem CFV(x:I2):(BOB x)=(And (AJ (Iv x)) (AJ (Oc x))):=by kernel_rfl
def BDZ:=pD dI2 λx=>.d (eVl ⟨true,x.a,x.b⟩)
def BRH(x:I2):Prop:=AX Try.prog (ann 9 [(APS,BBE)]) BCA (AF BCA) (xI2 x) (AC []) (.d (eVl ⟨true,x.a,x.b⟩)) [] [] []
theorem CEF(x:I2):(BRH x)=(HZ GQ (Iv x) (Oc x)):=by kernel_rfl
def C_l7Four:Ctr:={ α:=One,xs:=λ_=>[.int 58],L:=λ_=>[],val:=λ_=>.d L3,keep:=λ_=>[] }
def AYK(_x:One):Prop:=AX Try.prog (ann 10 [(ATM,BDZ)]) AEB (AF AEB) [.int 58] (AC []) (.d L3) [] [] [2080]
abbrev LN a b c d:=AK a (SD b c d)
attribute [go_sem] LN
theorem BLQ(_x:One):(AYK _x)=(LQ BZ ED EK (VR 4) (λi=>Pn i (AG (LI (Jv i) (OZ (Qk i) (Wo (XJ (kV i)) UD (Wo (XJ (qY (kV i))) UD HU)))) (LN (Iw i) i 20 (Fq i 0 (HG (qY (kV i)) 0 58))) (LN (Im i) i 30 (Fq i 0 (HG (qY (kV i)) 0 90)))))):=by kernel_rfl
theorem AUQ:AH Try.prog Z7 Fg:=MC xI3 hI3 λx _=>Dy (A:=ann 15 []) (ren:=[]) (fz:=[]) COV (by kernel_rfl) AD (by
 show CKH x;rw[CPW]<;> delta LI hd2 hd3 hd4 Wo N4 hd7 UD BY HY WQ;unfold MN;by_cases h:x.b<=x.a<;>simp[h])
theorem AYD:AH Try.prog L9 B7:=MC xI1 hI1 λx _=>Dy (A:=ann 5 [(Z7,Fg)]) (ren:=[]) (fz:=[]) BQG (by kernel_rfl) (AA AUQ AD) (by
 show BFQ x;rw[BYO]<;> delta LI DF FC)
theorem CDC:AH Try.prog I8 BDR:=MC xSp1 hSp1 λx _=>Dy (A:=ann 13 [(Z7,Fg),(L9,B7)]) (ren:=[]) (fz:=[]) BMF (by kernel_rfl) (AA AUQ (AA AYD AD)) (by
 show BSF x;rw[CDN]<;> delta LI Wo UD CE EE BY FC HY;unfold flsV;cases MN x.lo 0 x.hi<;>rfl)
theorem CCF:AH Try.prog S8 BPB:=MC xVl1 hVl1 λx _=>Dy (A:=ann 11 [(I8,BDR)]) (ren:=[]) (fz:=[]) CAA (by kernel_rfl) (AA CDC AD) (by
 show BTM x;rw[CDT]<;> delta LI Wo HU OZ;rfl)
theorem BVS:AH Try.prog AUX BGX:=MC xVl1 hVl1 λx _=>Dy (A:=ann 8 []) (ren:=[]) (fz:=[]) BSC (by kernel_rfl) AD (by
 show BJC x;rw[BXJ]<;> delta EZ AK CE EE EY CQ SR Jj;unfold spVl;cases x.k<;>simp)
theorem CNX:AH Try.prog BJS (C_eD1.spec CHR):=PU C_eD1 (λ_=>CIU) [] [] CNM (λ_=>by kernel_rfl) (λ_=>AA CCF AD) (λ(x:Vl) _=>by
 show CKF x;rw[COG]<;> delta LI Bt) (λ_=>RU rfl rfl) _
theorem CMQ:AH Try.prog BXT (C_ifD.spec BGE):=PU C_ifD (λ_=>CKP) [] [] CPT (λ_=>by kernel_rfl) (λ_=>AA CNX AD) (λ(x:One) _=>by
 show CJE x;rw[CPD]<;> delta LI UD HU AK BH DC ER FD wQ AG AI AJ Rp DF CM HZ BG BO EB DR DT AL GQ SV IC RF WF Qo;simp only[CC,CU,CF];decide +kernel) (λ_=>RU rfl rfl) _
theorem COO:AH Try.prog BPX (C_cfD.spec BGE):=PU C_cfD (λ_=>CJK) [] [] CMD (λ_=>by kernel_rfl) (λ_=>AA CMQ AD) (λ(x:One) _=>by
 show CIS x;rw[COE]<;> delta LI UD AN AE BA BN AO AR DF EX Ce Pn RF;exact⟨⟨rfl,λ_ _=>⟨rfl,rfl,rfl⟩⟩,rfl⟩) (λ_=>RU rfl rfl) _
theorem CQN:AH Try.prog n_eD (C_eD.spec d_eD):=PU C_eD (λ_=>A_eD) [] [] CSC (λ_=>by kernel_rfl) (λ_=>AA COO AD) (λ(x:One) _=>by
 show V_eD x;rw[CSD]<;> delta LI HU AN AE BA BN AO AR DF EX Ce GQ Pn;exact⟨⟨rfl,λ_ _=>⟨rfl,rfl,rfl⟩⟩,rfl⟩) (λ_=>RU rfl rfl) _
theorem ANN:AH Try.prog M9 (C_dCheck.spec N8):=PU C_dCheck (λ_=>AYR) [] [] BMH (λ_=>by kernel_rfl) (λ_=>AA AUQ (AA AYD (AA CQN AD))) (λ(x:One) _=>by
 show AWQ x;rw[BME];simp only[CC,CU,CF]) (λ_=>RU rfl rfl) _
theorem CFO:AH Try.prog AGP (C_dPrs.spec BVG):=PU C_dPrs (λ_=>{ ann 6 [] with E:=[100,101] }) [(0,1000),(1,1016)] [] BNB (λ_=>by kernel_rfl) (λ_=>AD) (λ(x:PaS) _=>by
 show BOE x;rw[CDH]<;> delta LI Wo HU AK AN AE BA BN FD HR Dg CE EE AG AI AO AJ AR DF YG CM HZ IG ZZ BO AM PS Gt Dd QN Ea OZ ED nZ BZ EK iP Jv Im Iw Pn ZA kT TU;simp only[CC,CU,CF]) (λ_=>RU rfl rfl) _
theorem CAR:AH Try.prog ACX (C_dNar.spec BRV):=PU C_dNar (λ_=>BVK) [] [] BZG (λ_=>by kernel_rfl) (λ_=>AD) (λ(x:NaS) h=>by
 have h:0<=x.i/\x.i<4:=h
 show BZT x;rw[CBP]<;> delta LI Wo HU AK AN AE BA BN BH sD DC ER FD MW HA NZ HR Dg ZP CE EE L5 AG AP AI AO AJ AR DF iB Qv CM HZ IG ZZ BG BO AM rQ EB DR Gt AV Dd DT Ea PL OZ Sf Iz ED nZ BZ EK Dp iP Jv SR Un Im Iw Pn ZA Jk WF Ot;simp only[CC,CU,CF]
 refine⟨⟨by omega,by omega⟩,by omega,λi _=>?_⟩
 unfold naV
 cases decide (i=x.i.toNat)<;>exact⟨rfl,rfl⟩) (λ_=>RU rfl rfl) _
theorem BZZ:AH Try.prog E8 BSB:=MC xSp1 hSp1 λx _=>Dy (A:=ann 8 []) (ren:=[]) (fz:=[]) BXQ (by kernel_rfl) AD (by
 show BVU x;rw[CEI]<;> delta LI hd7 CE EE DF)
theorem CPH:AH Try.prog BGO (C_eS1.spec CIJ):=PU C_eS1 (λ_=>CIO) [] [] CPA (λ_=>by kernel_rfl) (λ_=>AA BZZ AD) (λ(x:Span) _=>by
 show CJM x;rw[CMT]<;> delta LI hd7 CE EE DF Dm) (λ_=>RU rfl rfl) _
theorem COQ:AH Try.prog BRE (C_ifS.spec BII):=PU C_ifS (λ_=>CJZ) [] [] CLH (λ_=>by kernel_rfl) (λ_=>AA CPH AD) (λ(s:Nat->Span) h=>by
 obtain⟨h0,h1,h2,h3⟩:okSp s:=h
 show CIG s;rw[COW];delta APN ADE ACS xA ATZ APD ACN ADA ACR APX AJM I9 H4 AEJ AJN G8 J2;simp only[CC,CU,CF]
 exact⟨⟨⟨by omega,by omega⟩,by omega⟩,λh=>absurd h0 h,λ_=>⟨⟨⟨by omega,by omega⟩,by omega⟩,λh=>absurd h1 h,λ_=>⟨⟨⟨by omega,by omega⟩,by omega⟩,λh=>absurd h2 h,λ_=>⟨⟨⟨by omega,by omega⟩,by omega⟩,λh=>absurd h3 h⟩⟩⟩⟩) (λ_=>RU rfl rfl) _
theorem COZ:AH Try.prog BWM (C_cfS.spec BII):=PU C_cfS (λ_=>CHV) [] [] CPS (λ_=>by kernel_rfl) (λ_=>AA COQ AD) (λ(s:Nat->Span) h=>by
 have h:okSp s:=h
 show CKN s;rw[CLE];simp only[CC,CU,CF];exact h) (λ_=>RU rfl rfl) _
theorem CQK:AH Try.prog n_eS (C_eS.spec d_eS):=PU C_eS (λ_=>A_eS) [] [] CRT (λ_=>by kernel_rfl) (λ_=>AA COZ AD) (λ(s:Nat->Span) h=>by
 have h:okSp s:=h
 show V_eS s;rw[CTD];simp only[CC,CU,CF];exact h) (λ_=>RU rfl rfl) _
theorem CGF:AH Try.prog BBF (C_dOpd.spec N8):=PU C_dOpd (λ_=>BQE) [(0,5032),(1,300)] [] CEQ (λ_=>by kernel_rfl) (λ_=>AA ANN (AA BVS (AA CFO (AA CAR (AA CQK AD))))) (λ(x:One) _=>by
 show BSH x;rw[CFB]<;> delta LI Wo UD HU AK AN AE BA BN BH CV DC ER NC TD KE No FD V6 FT MW HA HR Dg CE EE CY We ZV uT rS CS AG AP AVY AXD AHU AI AO AJ AR DF ANJ VR KS YR Qv QI BJM Nt IR AS CM Pr cY AWN HZ IG AAL ZZ BG sS Aa BO AYB AM AQ rQ CL PS ABE AVW rR EB DR AAE EX Gt KB GI AYW Dd DT AL FW QN AFU Ea RB HW AZ UA Eh KX C1 OZ Sf UY oH D0 LO Iz ED CO nZ BZ Ns GQ EK Ua SV iP JE Bf LQ PY Co Jv Lj SR Un AEZ GV IC Im XA Iw AFO Pn LB aP ZA NM Wq RF XS kT WF TU AKK ADX tQ Cl Ot A0 UT iH cA Ma Cj lJ jZ U1 oA kN tC lF;simp only[CC,CU,CF]
 repeat' apply And.intro
 all_goals first
  |decide +kernel
  |(refine⟨default,λi hi=>?_⟩
    match i,hi with
    |0,_=>decide +kernel
    |1,_=>decide +kernel
    |2,_=>decide +kernel
    |3,_=>decide +kernel)
  |(intro a;((repeat' apply And.intro)<;>first | decide +kernel | exact alH4 (by decide +kernel)))) (λ_=>K2 wS itDp rfl rfl AD BDP (by kernel_rfl) (by kernel_rfl)) _
theorem CDK:AH Try.prog BDU (C_dAgr.spec N8):=PU C_dAgr (λ_=>BSK) [(0,2016),(1,2017)] [] CDJ (λ_=>by kernel_rfl) (λ_=>AA CGF AD) (λ(x:One) _=>by
 show BVN x;rw[CBK];simp only[CC,CU,CF]) (λ_=>RU rfl rfl) _
theorem BWH:AH Try.prog ARU (C_dBoth.spec T7):=PU C_dBoth (λ_=>ann 4 []) [] [] BPJ (λ_=>by kernel_rfl) (λ_=>AD) (λ(x:One) _=>by
 show BIG x;rw[BWS]<;> delta FT;simp only[CC,CU,CF]) (λ_=>RU rfl rfl) _
theorem BUH:AH Try.prog tM CHU:=MC xSp1 hSp1 λx _=>Dy (A:=ann 5 []) (ren:=[]) (fz:=[]) BLJ (by kernel_rfl) AD (by
 show CGQ x;rw[CLX]<;> delta AK CE AJ Ep)
theorem BZQ:AH Try.prog mC CGP:=MC xSp1 hSp1 λx _=>Dy (A:=ann 5 []) (ren:=[]) (fz:=[]) BLE (by kernel_rfl) AD (by
 show CKU x;rw[CLY]<;> delta AK EE AJ QN)
theorem BUE:AH Try.prog ATG (C_dEnds.spec BGB):=Ctr.spec_ok (C:=C_dEnds) (λ(x:EnS) _=>by
 obtain⟨s,h⟩:=x
 cases h with
 |false=>
  refine Dy (A:=ACH) (ren:=[]) (fz:=[4006096]) AWS (by kernel_rfl) (AA BUH (AA BZQ AD)) ?_
  show BRN ⟨s,false⟩;rw[CEZ]<;> delta LI UD HU AK AN AE BA BN BH CV DC ER FT HA NZ HR CE EE We sR AG AP AI AO AJ AR DF VR Nt AS IG BG CL PS EB DR KB GI DT FW QN RB HW PL AZ Eh KX UY LO CO JQ Ns GQ EK SV JE Bf PY GV IC XA ZI XZ As TP kT TU By Jj La gE UT Qc Oj Cj;simp only[CC,CU,CF]
  refine⟨⟨⟨by omega,by omega⟩,by omega⟩,⟨λh=>(by omega),by omega,by omega,by omega,by omega⟩,⟨⟨by omega,by omega⟩,by omega⟩,⟨by omega,λh=>(by cases h),by omega,by omega⟩,by omega,λj hj=>?_⟩
  match j,hj with
  |0,_=>rfl
  |1,_=>rfl
 |true=>
  refine Dy (A:=ACH) (ren:=[]) (fz:=[4006096]) AWS (by kernel_rfl) (AA BUH (AA BZQ AD)) ?_
  show BRM ⟨s,true⟩;rw[CFK]<;> delta LI UD HU AK AN AE BA BN BH CV DC ER FT HA NZ HR CE EE We sR AG AP AI AO AJ AR DF VR Nt AS IG BG CL PS EB DR KB GI DT FW QN RB HW PL AZ Eh KX UY LO CO JQ Ns GQ EK SV JE Bf PY SR GV IC XA ZI XZ As TP kT TU By La gE UT Qc Oj Cj;simp only[CC,CU,CF]
  refine⟨⟨⟨by omega,by omega⟩,by omega⟩,⟨λh=>(by omega),by omega,by omega,by omega,by omega⟩,⟨⟨by omega,by omega⟩,by omega⟩,⟨by omega,λh=>(by cases h),by omega,by omega⟩,by omega,λj hj=>?_⟩
  match j,hj with
  |0,_=>rfl
  |1,_=>rfl) _
theorem CFH:AH Try.prog BEK (C_lSum.spec d_Is):=PU C_lSum AQR [] [] CCB (λ_=>by kernel_rfl) (λ_=>AD) (λ(l:List Int) h=>by
 have h:l.length<1073741824:=h
 show BTQ l;rw[CFP]<;> delta NX EZ AK AN FI AE BA BN IQ BH yB DC ER NC TD KE CG NZ CS AG AI AO AJ AR BG DK GJ HD EJ EB DR EX HS FP EV DT Mz JD AU EY PI BE EG HX LA HH BD HF SA CQ TM FB PC TS eG;simp only[CC,CU,CF]
 refine⟨⟨0,⟨rfl,rfl⟩,Nat.zero_le _⟩,λk hk=>⟨λhlt=>?_,λhge=>?_⟩⟩
 ·have hlt:k<l.length:=by omega
  exact⟨⟨by omega,by omega⟩,k+1,⟨AOJ l k hlt,(GH (by omega)).symm⟩,by omega,by omega⟩
 ·have:k=l.length:=by omega
  rw[this,List.take_length]) (λ_=>RU rfl rfl) _
theorem CEW:AH Try.prog BBK (C_dVol.spec d_3):=PU C_dVol (λ_=>BSN) [] [] CFR (λ_=>by kernel_rfl) (λ_=>AA ANN (AA AUQ (AA CDK (AA BWH (AA BUE (AA CFH AD)))))) (λ(x:One) _=>by
 show BNY x;rw[CAD]<;> delta LI Wo HU AK AN FI AE BA BN IQ BH DC ER Ff FD V6 HA NZ HR Dg CE EE uT rS AG AP AI AO AJ AR DF KS iB Gz AS CM Ib I0 HZ IG ZZ BG BO AQ PS EB MM DR Gt Dd DT AL QN Ea FE PL AZ OZ ED CO nZ BZ EK Ua SV iP JN CQ Jv IC Im Iw Pn aP ZA TP kT UB Ar TU La gE Qc Oj cO Ej kN;simp only[CC,CU,CF]
 repeat' apply And.intro
 all_goals first
  |decide +kernel
  |exact alH2 (by decide +kernel)) (λ_=>RU rfl rfl) _
theorem CDY:AH Try.prog APS BBE:=MC xI2 hI2 λx _=>Dy (A:=ann 8 []) (ren:=[]) (fz:=[]) CAS (by kernel_rfl) AD (by
 show BOB x;rw[CFV]<;> delta Iv Oc AK AJ;simp)
theorem CBY:AH Try.prog ATM BDZ:=MC xI2 hI2 λx _=>Dy (A:=ann 9 [(APS,BBE)]) (ren:=[]) (fz:=[]) CED (by kernel_rfl) (AA CDY AD) (by
 show BRH x;rw[CEF]<;> delta LI Iv Oc HU AK AG AJ DF CM HZ GQ;simp)
def d_1:List AVal->Heap->Option (One×List (Nat×Nat)×List Nat)
 |[.d (.v (.int .i64 58))],_=>some (default,[],[])
 |_,_=>none
theorem BMI:AH Try.prog AEY (C_l7Four.spec d_1):=PU C_l7Four (λ_=>ann 10 [(ATM,BDZ)]) [] [2080] BMZ (λ_=>by kernel_rfl) (λ_=>AA CBY AD) (λ(x:One) _=>by
 show AYK x;rw[BLQ]<;> delta LI Wo UD HU AK AN AE BA BN CV KE FD HA HR Dg ZP AG AP AI AO AJ AR VR ZZ BO XJ Gt Qk Dd SD Ea OZ ED nZ BZ HG EK iP LQ LN Jv Im Iw Pn qY kV Fq;simp only[CC,CU,CF]
 refine⟨by omega,λj hj=>?_⟩
 match j,hj with
 |0,_=>exact⟨rfl,rfl,rfl⟩
 |1,_=>exact⟨rfl,rfl,rfl⟩
 |2,_=>exact⟨rfl,rfl,rfl⟩
 |3,_=>exact⟨rfl,rfl,rfl⟩) (λ_=>RU rfl rfl) _
end Go.Bal
