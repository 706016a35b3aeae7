/- Package daily: the example of four days (closed). -/
import Derived.Test.YtbmlgdlbffmjjaaGreatGaH
set_option linter.unusedVariables false
set_option linter.unusedSimpArgs false
set_option maxRecDepth 8000
namespace Go.Bal
open Go Go.Sym Go.Proofs
structure Vl where
 k:Bool
 lo:Int
 hi:Int
 deriving Inhabited
def eVl(x:Vl):DVal:=.agg [AWR x.k,EP x.lo,EP x.hi]
def dVl:DVal->Vl
 | .agg [a,b,c]=>⟨CSL a,LO b,LO c⟩
 |_=>default
def dyX(i:Nat):DVal:=.agg [AWR (bif Nat.beq i 0 then true else Nat.beq i 3),EP (bif Nat.beq i 0 then 20 else bif Nat.beq i 3 then 58 else 0),EP (bif Nat.beq i 0 then 30 else bif Nat.beq i 3 then 90 else 0)]
def J5:DVal:=.list 3 4 dyX false
def L0:DVal:=.agg [EP 10,EP 5,J5]
def CKU(x:I3):Prop:=AX Try.prog (ann 15 []) BPY (AF BPY) (xI3 x) (AC []) (.bool (MN x.a x.b x.c)) [] [] []
theorem COY(x:I3):(CKU x)=(XE (MN (hd2 x) (hd3 x) (hd4 x)) (G4 (hd2 x) (hd3 x)) (hd2 x) (hd4 x)):=by kernel_rfl
def BHZ(x:Int):Prop:=AX Try.prog (ann 5 [(AAQ,Fh)]) AQE (AF AQE) (xI1 x) (AC []) (.bool (MN x 0 1000000000)) [] [] []
theorem BVE(x:Int):(BHZ x)=(DR (FC x 1000000000)):=by kernel_rfl
def xSp1(x:Span):List AVal:=[.d (UJ x)]
def dSp1:List AVal->Option Span
 |[.d (.agg [.v (.int .i64 p),.v (.int .i64 q)])]=>some ⟨p,q⟩
 |_=>none
theorem hSp1(xs:List AVal)(a:Span)(h:dSp1 xs=some a):xs=xSp1 a:=by
 unfold dSp1 at h;split at h<;>cases h;rfl
def flsV(x:Span):Bool:=MN x.lo 0 x.hi&&MN x.hi 0 1000000000
def AZV:=pD dSp1 λx=>.bool (flsV x)
def BWE(x:Span):Prop:=AX Try.prog (ann 13 [(AAQ,Fh),(J0,A7)]) ADR (AF ADR) (xSp1 x) (AC []) (.bool (flsV x)) [] [] []
abbrev CE:=Span.lo
abbrev EE:=Span.hi
attribute [go_sem] CE EE
theorem CCR(x:Span):(BWE x)=(HX (flsV x) (FC (CE x) (EE x)) (FC (EE x) 1000000000)):=by kernel_rfl
def okVl(x:Vl):Bool:=bif !x.k then true else flsV ⟨x.lo,x.hi⟩
def xVl1(x:Vl):List AVal:=[.d (eVl x)]
def dVl1:List AVal->Option Vl
 |[.d (.agg [.v (.bool k),.v (.int .i64 p),.v (.int .i64 q)])]=>some ⟨k,p,q⟩
 |_=>none
theorem hVl1(xs:List AVal)(a:Vl)(h:dVl1 xs=some a):xs=xVl1 a:=by
 unfold dVl1 at h;split at h<;>cases h;rfl
def BQH:=pD dVl1 λx=>.bool (okVl x)
def BRC(x:Vl):Prop:=AX Try.prog (ann 11 [(E2,AZV)]) BEC (AF BEC) (xVl1 x) (AC []) (.bool (okVl x)) [] [] []
theorem CAT(x:Vl):(BRC x)=(LI (okVl x) (PD (not (Vl.k x)) (flsV (Span.mk (Vl.lo x) (Vl.hi x))))):=by kernel_rfl
def spVl(x:Vl):Span:=⟨bif x.k then x.lo else 0,bif x.k then x.hi else 1000000000⟩
def BGF:=pD dVl1 λx=>.d (UJ (spVl x))
def BFR(x:Vl):Prop:=AX Try.prog (ann 8 []) APM (AF APM) (xVl1 x) (AC []) (.d (UJ (spVl x))) [] [] []
abbrev SF a b:=AK (EE a) b
abbrev Iv a b:=AK (CE a) b
attribute [go_sem] SF Iv
theorem BQP(x:Vl):(BFR x)=(EW (Vl.k x) (Iv (spVl x) (Vl.lo x)) (SF (spVl x) (Vl.hi x)) (And (CP (CE (spVl x))) (SF (spVl x) 1000000000))):=by kernel_rfl
def dcB:AObj:=.box [.fn (.func S1) [] []]
def dcL:List (Nat×AObj):=[(100,dcB)]
def dcK:List (Nat×HCell):=[(100,.live dcB)]
def C_eD1:Ctr:={ ro:=[100],α:=Vl,xs:=λx=>[.d (eVl x),.bptr 100 0],L:=λ_=>dcL,val:=λx=>.bool (!okVl x),keep:=λ_=>dcK }
def CJW:List AVal->Heap->Option (Vl×List (Nat×Nat)×List Nat)
 |[.d d,.bptr id _],_=>some (dVl d,[(100,id)],[])
 |_,_=>none
def CGP:Ann:={ ann 8 [(S1,BQH)] with E:=[100] }
def CJF(x:Vl):Prop:=AX Try.prog CGP BXW (AF BXW) (C_eD1.xs x) (AC dcL) (C_eD1.val x) dcK [] []
theorem COM(x:Vl):(CJF x)=(Am (not (okVl x)) (okVl (Vl.mk (Vl.k x) (Vl.lo x) (Vl.hi x)))):=by kernel_rfl
def xIfD:List AVal:=[.d J5,.fn (.func BIN) [] [.bptr 100 0]]
def C_ifD:Ctr:={ ro:=[100],α:=One,xs:=λ_=>xIfD,L:=λ_=>dcL,val:=λ_=>.int (-1),keep:=λ_=>dcK }
def BFU:List AVal->Heap->Option (One×List (Nat×Nat)×List Nat)
 |[_,.fn _ _ [.bptr id _]],_=>some (default,[(100,id)],[])
 |_,_=>none
def CIN:Ann:={ ann 19 [(BIN,C_eD1.spec CJW)] with E:=[100],unr:=λid=>if id=2 then 5 else 0 }
def CHA(_x:One):Prop:=AX Try.prog CIN BUO (AF BUO) xIfD (AC dcL) (.int (-1)) dcK [] []
abbrev WN a:=DT a 4
abbrev Rn a b:=AG a b b
abbrev Nr a b c:=And a (Rn b c)
abbrev RG:=DR UD
attribute [go_sem] WN Rn Nr RG
theorem CLD(_x:One):(CHA _x)=(AI (And (HW 4) (HY GW (FF 20) (FF 30))) (Nr (WN 1) RG AL) (Nr (WN 2) RG AL) (And (WN 3) (HY GW (FF 58) (FF 90))) (AJ (sL 0))):=by kernel_rfl
def C_cfD:Ctr:={ C_ifD with val:=λ_=>.bool false }
def CKN:Ann:={ ann 9 [(BZM,C_ifD.spec BFU)] with E:=[100] }
def CKG(_x:One):Prop:=AX Try.prog CKN BQS (AF BQS) xIfD (AC dcL) (.bool false) dcK [] []
abbrev Cs a(b:Nat->Prop):=FB (AR a) b
abbrev Qj a b:=AO a 4 b
attribute [go_sem] Cs Qj
theorem CLL(x:One):CKG x=(And (Cs 4 (λi=>Qj i (HN (Kg (dyX i) (dyX i))))) RG):=by kernel_rfl
def C_eD:Ctr:={ α:=One,xs:=λ_=>[.d J5,.fn (.func S1) [] []],L:=λ_=>[],val:=λ_=>.bool true,keep:=λ_=>[] }
def d_eD:List AVal->Heap->Option (One×List (Nat×Nat)×List Nat)
 |[_,_],_=>some (default,[],[])
 |_,_=>none
def A_eD:Ann:=ann 9 [(BQG,C_cfD.spec BFU)]
def V_eD(_x:One):Prop:=AX Try.prog A_eD F_eD (AF F_eD) [.d J5,.fn (.func S1) [] []] (AC []) (.bool true) [] [] []
theorem CSR(x:One):V_eD x=(And (Cs 4 (λi=>Qj i (HN (Kg (dyX i) (dyX i))))) GW):=by kernel_rfl
def C_dCheck:Ctr:={ α:=One,xs:=λ_=>[.d L0],L:=λ_=>[],val:=λ_=>.int 0,keep:=λ_=>[] }
def AWK:Ann:=ann 26 [(AAQ,Fh),(J0,A7),(n_eD,C_eD.spec d_eD)]
def AVK(_x:One):Prop:=AX Try.prog AWK AEF (AF AEF) [.d L0] (AC []) (.int 0) [] [] []
theorem BLW(_x:One):(AVK _x)=((true=true->(4:Nat)=(4:Nat)/\∀(i:Nat),i<(4:Nat)->((bif i.beq (0:Nat) then true else i.beq (3:Nat))=bif i.beq (0:Nat) then true else i.beq (3 :
 Nat))/\((bif i.beq (0:Nat) then (20:Int) else bif i.beq (3:Nat) then (58:Int) else (0:Int))=bif i.beq (0:Nat) then (20:Int) else bif i.beq (3:Nat) then (58:Int) else (0:Int))/\(bif i.beq (0:Nat)
 then (30:Int) else bif i.beq (3:Nat) then (90:Int) else (0:Int))=bif i.beq (0:Nat) then (30:Int) else bif i.beq (3:Nat) then (90:Int) else (0:Int))/\Int.ofNat (0:Nat)=Int.ofNat (0:Nat)):=by
 kernel_rfl
def wkO:AObj:=.box [.int 10,.int 5,.d J5,.own 101 2 0 4]
def spO(s:Nat->Span):AObj:=.row 2 4 λi=>UJ (s i)
def wkL(s:Nat->Span):List (Nat×AObj):=[(100,wkO),(101,spO s)]
def wkQ(s:Nat->Span):List (Nat×HCell):=[(100,.live wkO),(101,.live (spO s))]
structure PaS where
 s:Nat->Span
 b:Bool
def d_wk(H:Heap)(id:Nat):Option (Nat×(Nat->Span)):=match H id with
 | .live (.box [_,_,_,.own j _ _ _])=>match H j with
  | .live (.row _ _ g)=>some (j,λi=>eQ (g i))
  |_=>none
 |_=>none
def C_dPrs:Ctr:={ ro:=[100,101],α:=PaS,xs:=λx=>[.bptr 100 0,.bool x.b],L:=λx=>wkL x.s,val:=λ_=>.fn (.func xR) [] [.bptr 0 0,.bptr 1 0],keep:=λx=>wkQ x.s ++ [(0,.live (.box [.bptr 100 0])),(1,.live (.box [.bool x.b]))] }
def BQE:List AVal->Heap->Option (PaS×List (Nat×Nat)×List Nat)
 |[.bptr id _,.d (.v (.bool b))],H=>(d_wk H id).map λp=>(⟨p.2,b⟩,[(100,id),(101,p.1)],[])
 |_,_=>none
def BWF(x:PaS):Prop:=AX Try.prog { ann 6 [] with E:=[100,101] } AEP (AF AEP) (C_dPrs.xs x) (AC (wkL x.s)) (C_dPrs.val x) (C_dPrs.keep x) [(0,1000),(1,1016)] []
abbrev XO a b c d:=AI a b b c d
abbrev QC a:=AJ (EE a)
abbrev kK a b c:=PS a b (CE c) (QC c)
abbrev TE a b:=kK a 4 b
abbrev EK:=AR 4
abbrev pU a b c:=En a b 3 c
abbrev Im a:=pU a 30 90
abbrev Jl a:=pU a 20 58
abbrev jX a b c:=PD a (Db b c)
abbrev Is a:=jX (Db a 0) a 3
abbrev YE:=AE (λi=>Qj i (HY (DR (Is i)) (Jl i) (Im i)))
abbrev ED:=BO 5
abbrev BY:=BO 10
attribute [go_sem] XO QC kK TE EK pU Im Jl jX Is YE ED BY
theorem CDW(x:PaS):(BWF x)=(AI BY ED EK YE (XO AM EK (AE (λi=>TE i (PaS.s x i))) (DR (PaS.b x)))):=by kernel_rfl
structure NaS where
 s:Nat->Span
 i:Int
 a:Int
 b:Int
def naV(x:NaS)(j:Nat):Span:=⟨bif decide (j=x.i.toNat) then Ny (x.s x.i.toNat).lo x.a else (x.s j).lo,bif decide (j=x.i.toNat) then O8 (x.s x.i.toNat).hi x.b else (x.s j).hi⟩
def C_dNar:Ctr:={ ro:=[100,102],α:=NaS,xs:=λx=>[.int x.i,.int x.a,.int x.b,.bptr 102 0],L:=λx=>wkL x.s ++ [(102,.box [.bptr 100 0])],val:=λ_=>.d (.tup []),keep:=λx=>wkQ (naV x) ++ [(102,.live (.box [.bptr 100 0]))],pre:=λx=>[0<=x.i/\x.i<4] }
def BTU:List AVal->Heap->Option (NaS×List (Nat×Nat)×List Nat)
 |[.d (.v (.int .i64 i)),.d (.v (.int .i64 a)),.d (.v (.int .i64 b)),.bptr c _],H=>match H c with
  | .live (.box [.bptr id _])=>(d_wk H id).map λp=>(⟨p.2,i,a,b⟩,[(100,id),(101,p.1),(102,c)],[])
  |_=>none
 |_,_=>none
def BTH:Ann:={ ann 32 [] with E:=[100,101,102] }
def BWT(x:NaS):Prop:=AX Try.prog BTH AQI (AF AQI) (C_dNar.xs x) (AC (C_dNar.L x)) (.d (.tup [])) (C_dNar.keep x) [] []
abbrev I8:=NaS.s
abbrev Rc a b c d:=AI a b c c d
abbrev Tr a b c:=Rc a AM b c
abbrev Jw a b(c:Nat->Prop):=Tr a b (AE c)
abbrev Ty a b c d e:=IF a b (AK c d) e
abbrev rS a:=AP (MW a)
abbrev Ip a:=rS (NaS.i a)
abbrev Dv a b c:=And (BM a b) c
abbrev iB a b:=AG a a b
abbrev PK a b:=NZ (Nat.succ a) b
abbrev Qk a:=BM a 4
attribute [go_sem] I8 Rc Tr Jw Ty rS Ip Dv iB PK Qk
theorem CFP(x:NaS):(BWT x)=(AV (WN (NaS.i x)) (Dv (Ip x) 4 (iB (Qk (Ip x)) (PK (Ip x) 4))) BY ED EK (Jw YE EK (λi=>Ty i 4 (CE (naV x i)) (HS (ZU i (Ip x)) (HS (ZU (Ip x) (Ip x)) (sE (CE (I8 x (Ip x))) (NaS.a x)) (CE (I8 x (Ip x)))) (HS (ZU i (Ip x)) (sE (CE (I8 x (Ip x))) (NaS.a x)) (CE (I8 x i)))) (SF (naV x i) (HS (ZU i (Ip x)) (O8 (EE (I8 x (Ip x))) (NaS.b x)) (HS (ZU i (Ip x)) (EE (I8 x (Ip x))) (EE (I8 x i)))))))):=by kernel_rfl
def BTZ:=pD dSp1 λx=>.bool (decide (x.lo<=x.hi))
def BRF(x:Span):Prop:=AX Try.prog (ann 8 []) AOP (AF AOP) (xSp1 x) (AC []) (.bool (decide (x.lo<=x.hi))) [] [] []
theorem CDN(x:Span):(BRF x)=(DR (hd7 (CE x) (EE x))):=by kernel_rfl
def doB:AObj:=.box [.fn (.func K8) [] []]
def C_eS1:Ctr:={ ro:=[100],α:=Span,xs:=λx=>[.d (UJ x),.bptr 100 0],L:=λ_=>[(100,doB)],val:=λx=>.bool (!decide (x.lo<=x.hi)),keep:=λ_=>[(100,.live doB)] }
def CKF:List AVal->Heap->Option (Span×List (Nat×Nat)×List Nat)
 |[.d d,.bptr id _],_=>some (eQ d,[(100,id)],[])
 |_,_=>none
def CJQ:Ann:={ ann 8 [(K8,BTZ)] with E:=[100] }
def CIB(x:Span):Prop:=AX Try.prog CJQ BVR (AF BVR) (C_eS1.xs x) (AC [(100,doB)]) (C_eS1.val x) [(100,.live doB)] [] []
theorem CNZ(x:Span):(CIB x)=(Eb (hd7 (CE x) (EE x))):=by kernel_rfl
def seL(s:Nat->Span):List (Nat×AObj):=[(100,doB),(101,spO s)]
def seK(s:Nat->Span):List (Nat×HCell):=[(100,.live doB),(101,.live (spO s))]
def xIfS:List AVal:=[.own 101 2 0 4,.fn (.func BHQ) [] [.bptr 100 0]]
def okSp(s:Nat->Span):Prop:=(s 0).lo<=(s 0).hi/\(s 1).lo<=(s 1).hi/\(s 2).lo<=(s 2).hi/\(s 3).lo<=(s 3).hi
def C_ifS:Ctr:={ ro:=[100,101],α:=Nat->Span,xs:=λ_=>xIfS,L:=seL,val:=λ_=>.int (-1),keep:=seK,pre:=λs=>[okSp s] }
def BHO:List AVal->Heap->Option ((Nat->Span)×List (Nat×Nat)×List Nat)
 |[.own j _ _ _,.fn _ _ [.bptr id _]],H=>match H j with
  | .live (.row _ _ g)=>some (λi=>eQ (g i),[(100,id),(101,j)],[])
  |_=>none
 |_,_=>none
def CJC:Ann:={ ann 19 [(BHQ,C_eS1.spec CKF)] with E:=[100,101],unr:=λid=>if id=2 then 5 else 0 }
def CHB(s:Nat->Span):Prop:=AX Try.prog CJC BPL (AF BPL) xIfS (AC (seL s)) (.int (-1)) (seK s) [] []
abbrev AQJ(s:Nat->Span):Span:=s ((0:Nat)+(0:Nat))
abbrev ADC(s:Nat->Span):Int:=(AQJ s).lo
abbrev ACA(s:Nat->Span):Int:=(AQJ s).hi
abbrev xQ(s:Nat->Span):Prop:=(4:Nat)=(4:Nat)/\∀(i:Nat),i<(4:Nat)->(s i).lo=(s i).lo/\(s i).hi=(s i).hi
abbrev ATC:Nat:=(0:Nat)+(1:Nat)
abbrev ATE(s:Nat->Span):Span:=s ATC
abbrev ACB(s:Nat->Span):Int:=(ATE s).lo
abbrev ACS(s:Nat->Span):Int:=(ATE s).hi
abbrev ADJ:Nat:=((2:Int) ^ IntKind.i64.bits).natAbs
abbrev ATL:Nat:=ATC % ADJ
abbrev ADX(s:Nat->Span):Span:=s ((0:Nat)+(2:Nat))
abbrev H5(s:Nat->Span):Int:=(ADX s).lo
abbrev J4(s:Nat->Span):Int:=(ADX s).hi
abbrev AKY:Nat:=(ATL+(1:Nat)) % ADJ
abbrev ALE(s:Nat->Span):Span:=s ((0:Nat)+Int.toNat (3:Int))
abbrev E4(s:Nat->Span):Int:=(ALE s).lo
abbrev M2(s:Nat->Span):Int:=(ALE s).hi
theorem CMX(s:Nat->Span):(CHB s)=((((0:Int)<=(0:Int)/\(0:Int)<(↑(4:Nat):Int))/\(0:Nat)<(4:Nat)/\ADC s=ADC s/\ACA s=ACA s)/\bif !decide (ADC s<=ACA s) then
 Int.negSucc (0:Nat)=Int.ofNat (0:Nat)/\xQ s else (((0:Int)<=(1:Int)/\(1:Int)<(↑(4:Nat):Int))/\(1:Nat)<(4:Nat)/\ACB s=ACB s/\ACS s=ACS s)/\bif !decide (ACB s <=
 ACS s) then Int.negSucc (0:Nat)=Int.ofNat ATL/\xQ s else (((0:Int)<=(2:Int)/\(2:Int)<(↑(4:Nat):Int))/\(2:Nat)<(4:Nat)/\H5 s=H5 s/\J4 s=J4 s)/\bif
 !decide (H5 s<=J4 s) then Int.negSucc (0:Nat)=Int.ofNat AKY/\xQ s else (((0:Int)<=(3:Int)/\(3:Int)<(↑(4:Nat):Int))/\(3:Nat)<(4:Nat)/\E4 s=E4 s/\M2 s
 = M2 s)/\bif !decide (E4 s<=M2 s) then Int.negSucc (0:Nat)=Int.ofNat ((AKY+(1:Nat)) % ADJ)/\xQ s else Int.negSucc (0:Nat)=Int.negSucc (0:Nat)/\xQ s):=by kernel_rfl
def C_cfS:Ctr:={ C_ifS with val:=λ_=>.bool false }
def CIA:Ann:={ ann 9 [(BXK,C_ifS.spec BHO)] with E:=[100,101] }
def CKJ(s:Nat->Span):Prop:=AX Try.prog CIA BQR (AF BQR) xIfS (AC (seL s)) (.bool false) (seK s) [] []
theorem CLH(s:Nat->Span):(CKJ s)=((0=0/\4=4/\4=4/\(∀(i:Nat),i<4->(s i).lo=(s i).lo/\(s i).hi=(s i).hi)/\4=4/\(∀(i:Nat),i<4->(s i).lo=(s i).lo/\(s i).hi=(s i).hi)/\(s
 0).lo<=(s 0).hi/\(s 1).lo<=(s 1).hi/\(s 2).lo<=(s 2).hi/\(s 3).lo<=(s 3).hi)/\false=false/\4=4/\∀(i:Nat),i<4->(s i).lo=(s i).lo/\(s i).hi=(s i).hi):=by kernel_rfl
def xES:List AVal:=[.own 101 2 0 4,.fn (.func K8) [] []]
def C_eS:Ctr:={ ro:=[101],α:=Nat->Span,xs:=λ_=>xES,L:=λs=>[(101,spO s)],val:=λ_=>.bool true,keep:=λs=>[(101,.live (spO s))],pre:=λs=>[okSp s] }
def d_eS:List AVal->Heap->Option ((Nat->Span)×List (Nat×Nat)×List Nat)
 |[.own j _ _ _,_],H=>match H j with
  | .live (.row _ _ g)=>some (λi=>eQ (g i),[(101,j)],[])
  |_=>none
 |_,_=>none
def A_eS:Ann:={ ann 9 [(BUH,C_cfS.spec BHO)] with E:=[101] }
def V_eS(s:Nat->Span):Prop:=AX Try.prog A_eS F_eS (AF F_eS) xES (AC [(101,spO s)]) (.bool true) [(101,.live (spO s))] [] []
theorem CQB(s:Nat->Span):(V_eS s)=((0=0/\4=4/\4=4/\(∀(i:Nat),i<4->(s i).lo=(s i).lo/\(s i).hi=(s i).hi)/\4=4/\(∀(i:Nat),i<4->(s i).lo=(s i).lo/\(s i).hi=(s i).hi)/\(s 0).lo
 <= (s 0).hi/\(s 1).lo<=(s 1).hi/\(s 2).lo<=(s 2).hi/\(s 3).lo<=(s 3).hi)/\true=true/\4=4/\∀(i:Nat),i<4->(s i).lo=(s i).lo/\(s i).hi=(s i).hi):=by kernel_rfl
def fin4(i:Nat):Span:=⟨bif Nat.beq i 0 then 28 else bif Nat.beq i 1 then 38 else bif Nat.beq i 2 then 48 else 58,bif Nat.beq i 0 then 30 else bif Nat.beq i 1 then 40 else bif Nat.beq i 2 then 50 else 60⟩
def C_dOpd:Ctr:={ α:=One,xs:=λ_=>[.d L0],L:=λ_=>[],val:=λ_=>.tup [.bptr 0 0,.bool true,.int 0],keep:=λ_=>[(0,.live (.box [.int 10,.int 5,.d J5,.own 1 2 0 4])),(1,.live (spO fin4))] }
def ini4(i:Nat):Span:=⟨bif Nat.beq i 0 then 20 else bif Nat.beq i 3 then 58 else 0,bif Nat.beq i 0 then 30 else bif Nat.beq i 3 then 90 else 1000000000⟩
def dp11:Shape:={ α:=One,dflt:=default,T:=λ_=>⟨[(6,.bptr 5048 0),(9,.bptr 11016 0)],[(5032,.live (.box [.int 10,.int 5,.d J5,.own 300 2 0 4])),(5048,.live (.box [.bptr 5032 0])),(11016,.live (.box [.fn (.func ACO) [] [.bptr 5048 0]])),(300,.live (spO ini4))]⟩,inv:=λ_=>True,meas:=λ_=>0,first:=[(300,4009128)] }
def off1:List Nat->Nat
 |[t]=>t
 |_=>0
noncomputable def itDp:IterAnn:={ fn:=P6,code:=AF P6,live:=[6,9],ann:={ base:=λid=>100000+1000*(id+1),Γ:=Sym.look [],E:=[5048,11016],n:=45,unr:=λid=>if id=1 then 4 else 0 } }
noncomputable def BVU:Ann:={ ann 118 [(L7,C_dCheck.spec J8),(AOU,BGF),(AFQ,C_dPrs.spec BQE),(ACO,C_dNar.spec BTU),(n_eS,C_eS.spec d_eS)] with mt:=λid=>id==8,unr:=λid=>if id=6 then 5 else 0,off:=off1,iter:=λg=>if g=xR then some itDp else none,cut:=λid=>if id=11 then some [dp11] else none }
def BUI(_x:One):Prop:=AX Try.prog BVU BBX (AF BBX) [.d L0] (AC []) (.tup [.bptr 0 0,.bool true,.int 0]) [(0,.live (.box [.int 10,.int 5,.d J5,.own 1 2 0 4])),(1,.live (spO fin4))] [(0,5032),(1,300)] []
abbrev CY:=ini4
abbrev Wm:=λ(x0 x1:Nat)=>decide (x0<x1)
abbrev Ac:=λ(f:One->Prop)=>∀(x:One),f x
abbrev tX:=@HPow.hPow Int Nat Int (@instHPow Int Nat (@instPowNat Int Int.instNatPow))
abbrev rI:=fin4
abbrev Mp a b:=Ac (λi=>BA a b)
abbrev ABC a b c:=AQ a b a c
abbrev YH a b:=SF a (EE b)
abbrev AXL(a:Nat->Span) b c d e:=naV (NaS.mk a b c d) e
abbrev AHK a b:=CS (TD (EE a) b)
abbrev AZI a b:=Nn (CE a) b
abbrev AGB(a:Nat->Span) b c d:=AXL a b (CS (AZI c 10)) (AHK c 5) d
abbrev AVH a b c:=IV (AAG a b) c
abbrev AIY:=AVH 4 2 2
abbrev A8(a:Nat->Span) b c:=AGB a AIY b c
abbrev rY a b:=AVH 4 a b
abbrev ADZ(a:Nat->Span) b c:=AGB a (rY 2 1) b c
abbrev AAN a:=rY a 0
abbrev yW(a:Nat->Span) b c:=AGB a (AAN 2) b c
abbrev BFY(a:Nat->Span) b c d e:=AXL a b (CS (AZI c 5)) (AHK d 10) e
abbrev vY(a:Nat->Span) b c:=BFY a 3 b b c
abbrev Ox(a:Nat->Span) b c:=BFY a 2 b b c
abbrev QP a b c:=AXL CY 1 (CS (AZI a 5)) (AHK b 10) c
abbrev AYS a:=QP (CY (AP 0)) (CY (AP 0)) a
abbrev Qd:=AP 1
abbrev AYA a:=Ox AYS (AYS Qd) a
abbrev yZ a:=vY AYA (AYA ZZ) a
abbrev AIL a:=yW yZ (yZ (rS (AAN 1))) a
abbrev ALG:=AVH 4 1 1
abbrev cM a:=ADZ AIL (AIL (rS ALG)) a
abbrev KU a:=And AM a
abbrev XS a b c d:=AI a a b c d
abbrev lC a:=A8 (λi=>ADZ (λj=>yW (λk=>vY (λl=>Ox (λm=>QP (CY 0) (CY 0) m) (QP (CY 0) (CY 0) 1) l) (Ox (λl=>QP (CY 0) (CY 0) l) (QP (CY 0) (CY 0) 1) 2) k) (vY (λk=>Ox (λl=>QP (CY 0) (CY 0) l) (QP (CY 0) (CY 0) 1) k) (Ox (λk=>QP (CY 0) (CY 0) k) (QP (CY 0) (CY 0) 1) 2) 3) j) (yW (λj=>vY (λk=>Ox (λl=>QP (CY 0) (CY 0) l) (QP (CY 0) (CY 0) 1) k) (Ox (λk=>QP (CY 0) (CY 0) k) (QP (CY 0) (CY 0) 1) 2) j) (vY (λj=>Ox (λk=>QP (CY 0) (CY 0) k) (QP (CY 0) (CY 0) 1) j) (Ox (λj=>QP (CY 0) (CY 0) j) (QP (CY 0) (CY 0) 1) 2) 3) 2) i) (ADZ (λi=>yW (λj=>vY (λk=>Ox (λl=>QP (CY 0) (CY 0) l) (QP (CY 0) (CY 0) 1) k) (Ox (λk=>QP (CY 0) (CY 0) k) (QP (CY 0) (CY 0) 1) 2) j) (vY (λj=>Ox (λk=>QP (CY 0) (CY 0) k) (QP (CY 0) (CY 0) 1) j) (Ox (λj=>QP (CY 0) (CY 0) j) (QP (CY 0) (CY 0) 1) 2) 3) i) (yW (λi=>vY (λj=>Ox (λk=>QP (CY 0) (CY 0) k) (QP (CY 0) (CY 0) 1) j) (Ox (λj=>QP (CY 0) (CY 0) j) (QP (CY 0) (CY 0) 1) 2) i) (vY (λi=>Ox (λj=>QP (CY 0) (CY 0) j) (QP (CY 0) (CY 0) 1) i) (Ox (λi=>QP (CY 0) (CY 0) i) (QP (CY 0) (CY 0) 1) 2) 3) 2) 1) a
abbrev lP a:=Tr YE EK a
abbrev eR a b c d e f g h:=AS a b c d e f d g h
abbrev Uo a:=(@HMod.hMod Nat Nat Nat (@instHMod Nat Nat.instMod)) a (W2 (tX 2 (IntKind.bits IntKind.i64)))
abbrev Xe a b:=Uo (HD a b)
abbrev uD a:=Xe a 10
abbrev Zg a b:=Uo (KJ a (Nat.succ b))
abbrev kS a b:=BO (Zg a b)
abbrev X6 a:=uD (uD a)
abbrev Af(a:Nat->Prop) b c d e:=AI (AE a) b c d e
abbrev pC:=Uo Qd
abbrev iK:=BF 1
abbrev IC a:=BM 0 a
abbrev Cr a b:=(@Exists One) (λi=>And a b)
abbrev NF a:=Cr a FW
abbrev KC a b c d:=HS (Wm a b) c d
abbrev kA a b c:=spVl (Vl.mk a b c)
abbrev sY:=MW 3
abbrev KY a b c d e f:=AI a b c (CW d e) f
abbrev LS a:=CW a 140737488355328
abbrev RF a b c:=And a (AO 0 b (AR c))
abbrev Ei a b:=RF (VS a) a b
abbrev VF a:=Ei 1 a
abbrev Om a b c d e:=KY a (VF b) c d 9223372036854775807 (LS e)
abbrev GI a:=LI a HU
abbrev FV a b:=BA (GI a) b
abbrev JE:=FV UD (IC 1)
abbrev VE a b c d:=Om a b JE c d
abbrev Ku a b:=RF (AR a) a b
abbrev AZ:=AR 1
abbrev Ay a b c:=And a (AO b b c)
abbrev XD a:=Ay FW 0 (AN 0 a)
abbrev Ao a b c d e:=Om (XD a) b c d e
abbrev QM a:=BA GW a
abbrev GO:=QM (IC 1)
attribute [go_sem] CY Wm Ac tX rI Mp ABC YH AXL AHK AZI AGB AVH AIY A8 rY ADZ AAN yW BFY vY Ox QP AYS Qd AYA yZ AIL ALG cM KU XS lC lP eR Uo Xe uD Zg kS X6 Af pC iK IC Cr NF KC kA sY KY LS RF Ei VF Om GI FV JE VE Ku AZ Ay XD Ao QM GO
theorem CFT(_x:One):(BUI _x)=(AG (AQ BY ED EK YE) (HW 4) (AS (Ao 2 2 GO 1 16) (WN 1) (VE (RF AZ 1 2) 2 2 32) (WN 2) (VE (RF CO 2 2) 2 3 48) (WN 3) (VE (Ku 3 2) 2 4 64) (NF (AQ BY ED EK (Jw YE EK (λi=>Ty i 4 (CE (CY i)) (KC i (CL (CL Qd)) (KC i (CL Qd) (KC i Qd (CE (kA (jX (AMZ 0) 0 3) (nO 20 (Gz 0 3 58)) (nO 30 (Gz 0 3 90)))) (CE (kA (Is 1) (Jl 1) (Im 1)))) (CE (kA (Is 2) (Jl 2) (Im 2)))) (CE (kA (Is sY) (Jl sY) (Im sY)))) (SF (CY i) (KC i (CL (CL Qd)) (KC i (CL Qd) (KC i Qd (EE (kA (jX (AMZ 0) 0 3) (nO 20 (Gz 0 3 58)) (nO 30 (Gz 0 3 90)))) (EE (kA (Is 1) (Jl 1) (Im 1)))) (EE (kA (Is 2) (Jl 2) (Im 2)))) (EE (kA (Is sY) (Jl sY) (Im sY))))))))) (Mp FW (FB (AI RG BY ED EK (lP (Af (λi=>TE i (CY i)) BY ED EK (Jw YE EK (λi=>TE i (CY i)))))) (λi=>ABC (AR i) (AG (HW 4) (IC 4) (AS (HW 4) (IC 4) (BO pC) (kS 20 4) (BO (uD 30)) BY ED EK (lP (eR (AE (λj=>TE j (CY j))) BY ED EK YE AM iK (ER 1 4))))) (LR (AG (WN 1) (Qk 1) (AS (WN 1) (Qk 1) (BO (Uo (CL pC))) (kS (Zg 20 4) 4) (BO (X6 30)) BY ED EK (lP (eR (AE (λj=>TE j (AYS j))) BY ED EK YE AM (BF 2) (ER 2 4))))) (AR i) (AG (WN 2) (Qk 2) (AS (WN 2) (Qk 2) (BO (Uo (CL (Uo (CL pC))))) (kS (Zg (Zg 20 4) 4) 4) (BO (uD (X6 30))) BY ED EK (lP (eR (AE (λj=>TE j (AYA j))) BY ED EK YE AM (BF 3) (ER 3 4))))) (AI GW BY ED EK (lP (Af (λj=>TE j (yZ j)) BY ED EK (Jw YE EK (λj=>TE j (yZ j)))))) (λj=>KQ (AR j) (AG (WN (AAN 1)) (Qk 3) (AS (WN (AAN 1)) (Qk 3) (BO (Xe (Zg 4 1) 0)) (kS 58 9) (BO (Xe (uD (X6 30)) 5)) BY ED EK (lP (eR (AE (λk=>TE k (yZ k))) BY ED EK YE AM (BF (AAN 2)) (ER (AAN 2) 4))))) (AG (WN ALG) (Qk 2) (AS (WN ALG) (Qk 2) (kS (Zg 4 1) 0) (kS (Zg 58 9) 9) (BO (Xe (X6 30) 5)) BY ED EK (lP (eR (AE (λk=>TE k (AIL k))) BY ED EK YE AM (BF (rY 2 1)) (ER (rY 2 1) 4))))) (AS (AR j) (AG (WN (rY 1 2)) (Qk 1) (AS (WN (rY 1 2)) (Qk 1) (kS (Zg 4 1) 1) (kS (Zg (Zg 58 9) 9) 9) (BO (Xe (uD 30) 5)) BY ED EK (lP (eR (AE (λk=>TE k (cM k))) BY ED EK YE AM (BF AIY) (ER AIY 4))))) (KU (XS EK (AE (λk=>TE k (A8 cM (cM (rS (rY 1 2))) k))) EK (UC (AE (λk=>TE k (A8 cM (cM (rS (rY 1 2))) k))) (DC (CE (lC 0)) (EE (lC 0))) (DC (CE (lC 1)) (EE (lC 1))) (CE (lC 2)) (EE (lC 2)) (DC (CE (lC 3)) (EE (lC 3)))))) GW AL BY ED EK (Jw YE EK (λk=>Ty k 4 (CE (rI k)) (CE (A8 cM (cM (rS (rY 1 2))) k)) (YH (rI k) (A8 cM (cM (rS (rY 1 2))) k)))))))))))):=by kernel_rfl
def C_dAgr:Ctr:={ C_dOpd with val:=λ_=>.tup [.bptr 0 0,.int 0] }
def BRI:Ann:=ann 21 [(BEP,C_dOpd.spec J8)]
def BZP(_x:One):Prop:=AX Try.prog BRI BEY (AF BEY) [.d L0] (AC []) (.tup [.bptr 0 0,.int 0]) [(0,.live (.box [.int 10,.int 5,.d J5,.own 1 2 0 4])),(1,.live (spO fin4))] [(0,2016),(1,2017)] []
theorem CAB(_x:One):(BZP _x)=((Int.ofNat (10:Nat)=Int.ofNat (10:Nat)/\Int.ofNat (5:Nat)=Int.ofNat (5:Nat)/\(4:Nat)=(4:Nat)/\∀(i:Nat),i<(4:Nat)->((bif i.beq (0:Nat) then true
 else i.beq (3:Nat))=bif i.beq (0:Nat) then true else i.beq (3:Nat))/\((bif i.beq (0:Nat) then (20:Int) else bif i.beq (3:Nat) then (58:Int) else (0:Int))=bif i.beq (0:Nat) then (20:Int) else bif
 i.beq (3:Nat) then (58:Int) else (0:Int))/\(bif i.beq (0:Nat) then (30:Int) else bif i.beq (3:Nat) then (90:Int) else (0:Int))=bif i.beq (0:Nat) then (30:Int) else bif i.beq (3:Nat) then (90 :
 Int) else (0:Int))/\Int.ofNat (0:Nat)=Int.ofNat (0:Nat)/\Int.ofNat (10:Nat)=Int.ofNat (10:Nat)/\Int.ofNat (5:Nat)=Int.ofNat (5:Nat)/\(4:Nat)=(4:Nat)/\(∀(i:Nat),i<(4:Nat)->((bif
 i.beq (0:Nat) then true else i.beq (3:Nat))=bif i.beq (0:Nat) then true else i.beq (3:Nat))/\((bif i.beq (0:Nat) then (20:Int) else bif i.beq (3:Nat) then (58:Int) else (0:Int))=bif i.beq (0:Nat)
 then (20:Int) else bif i.beq (3:Nat) then (58:Int) else (0:Int))/\(bif i.beq (0:Nat) then (30:Int) else bif i.beq (3:Nat) then (90:Int) else (0:Int))=bif i.beq (0:Nat) then (30:Int) else bif
 i.beq (3:Nat) then (90:Int) else (0:Int))/\(0:Nat)=(0:Nat)/\(4:Nat)=(4:Nat)/\(4:Nat)=(4:Nat)/\∀(i:Nat),i<(4:Nat)->(fin4 i).lo=(fin4 i).lo/\(fin4 i).hi=(fin4 i).hi):=by
 kernel_rfl
def CJH:AVal:=.agg [.fn (.func uI) [] [],.fn (.func lT) [] []]
def C_dBoth:Ctr:={ α:=One,xs:=λ_=>[],L:=λ_=>[],val:=λ_=>CJH,keep:=λ_=>[] }
def BGN(_x:One):Prop:=AX Try.prog (ann 4 []) ASZ (AF ASZ) [] (AC []) CJH [] [] []
theorem BNK(_x:One):(BGN _x)=(FW):=by kernel_rfl
def CJA:=pD dSp1 λx=>.int x.lo
def CKB(x:Span):Prop:=AX Try.prog (ann 5 []) AFU (AF AFU) (xSp1 x) (AC []) (.int x.lo) [] [] []
abbrev Eh a:=AJ (CE a)
attribute [go_sem] Eh
theorem CMN(x:Span):(CKB x)=(Eh x):=by kernel_rfl
def CIO:=pD dSp1 λx=>.int x.hi
def CJJ(x:Span):Prop:=AX Try.prog (ann 5 []) ADW (AF ADW) (xSp1 x) (AC []) (.int x.hi) [] [] []
theorem CKW(x:Span):(CJJ x)=(QC x):=by kernel_rfl
structure EnS where
 s:Nat->Span
 h:Bool
def xEn(h:Bool):List AVal:=match h with
 |false=>[.own 101 2 1 2,.agg [.fn (.func uI) [] []]]
 |true=>[.own 101 2 1 2,.agg [.fn (.func lT) [] []]]
def vEn(x:EnS)(h:Bool):DVal:=lst 1 2 λi=>EP (match h with
 |false=>(x.s (1+i)).lo
 |true=>(x.s (1+i)).hi)
def C_dEnds:Ctr:={ ro:=[101],α:=EnS,xs:=λx=>xEn x.h,L:=λx=>[(101,spO x.s)],val:=λx=>.d (vEn x x.h),keep:=λx=>[(101,.live (spO x.s))] }
def BGP:List AVal->Heap->Option (EnS×List (Nat×Nat)×List Nat)
 |[.own j _ _ _,.agg [.fn (.func g) _ _]],H=>match H j with
  | .live (.row _ _ s)=>match Nat.beq g lT with
   |true=>some (⟨λi=>eQ (s i),true⟩,[(101,j)],[])
   |false=>some (⟨λi=>eQ (s i),false⟩,[(101,j)],[])
  |_=>none
 |_,_=>none
def ACE:Ann:={ ann 23 [(uI,CJA),(lT,CIO)] with E:=[101],mt:=λid=>id==5,unr:=λid=>if id=3 then 3 else 0,off:=off1 }
def BNP(x:EnS):Prop:=AX Try.prog ACE N0 (AF N0) (xEn false) (AC [(101,spO x.s)]) (.d (vEn x false)) [(101,.live (spO x.s))] [] [4006096]
abbrev sZ:=EnS.s
abbrev ZF a b c d e f(g:Nat->Prop) h(p:Nat->Prop):=JS a b c d e f (AE g) h p
abbrev XZ a b c d:=KC (AP a) b c d
abbrev Kx a:=HD 1 a
abbrev Ax a b c:=And a (PK b c)
abbrev Pv:=cY 2
abbrev Qp:=HW 2
attribute [go_sem] sZ ZF XZ Kx Ax Pv Qp
theorem CAV(x:EnS):(BNP x)=(ZF (Ax Qp (Kx 0) 4) (Ao 1 1 GO 1 8) (Ax Pv (CL 1) 4) (VE (RF AZ 1 1) 1 2 16) CO Cc (λi=>TJ i (Iv (sZ x (Kx i)) (XZ i Qd (CE (sZ x (Kx 0))) (CE (sZ x (CL 1)))))) EK (λi=>TE i (sZ x i))):=by kernel_rfl
def BVO(x:EnS):Prop:=AX Try.prog ACE N0 (AF N0) (xEn true) (AC [(101,spO x.s)]) (.d (vEn x true)) [(101,.live (spO x.s))] [] [4006096]
theorem CBP(x:EnS):(BVO x)=(ZF (Ax Qp (Kx 0) 4) (Ao 1 1 GO 1 8) (Ax Pv (CL 1) 4) (VE (RF AZ 1 1) 1 2 16) CO Cc (λi=>TJ i (SF (sZ x (Kx i)) (XZ i Qd (EE (sZ x (Kx 0))) (EE (sZ x (CL 1)))))) EK (λi=>TE i (sZ x i))):=by kernel_rfl
def BPG(l:List Int):Prop:=AX Try.prog (AUQ l) BEZ (AF BEZ) (C_lSum.xs l) (AC []) (C_lSum.val l) [] [] []
theorem CFA(l:List Int):(BPG l)=(TU (λi=>And (AI (CP (bZ i l)) (HT l) (EF l) (PH l) (BD i)) (NZ i (FI l))) (λi=>HE (NZ i (FI l)) i (FI l) (BE i (FI l)) (CG (λj=>EY (AI (AK (bZ j l) (DN (bZ i l) (IR l i))) (HT l) (EF l) (PH l) (AU j i)) (NZ j (FI l)) (FI l) j i)) (AK (qF l) (bZ i l)))):=by kernel_rfl
def C_dVol:Ctr:={ α:=One,xs:=λ_=>[.d L0,.int 1,.int 2],L:=λ_=>[],val:=λ_=>.tup [.d (UJ ⟨86,90⟩),.int 0],keep:=λ_=>[] }
def d_3:List AVal->Heap->Option (One×List (Nat×Nat)×List Nat)
 |[_,_,_],_=>some (default,[],[])
 |_,_=>none
def BOV:Ann:=ann 60 [(L7,C_dCheck.spec J8),(AAQ,Fh),(BDO,C_dAgr.spec J8),(ARY,C_dBoth.spec V3),(AOV,C_dEnds.spec BGP),(BDL,C_lSum.spec d_Is)]
def BPC(_x:One):Prop:=AX Try.prog BOV BBW (AF BBW) [.d L0,.int 1,.int 2] (AC []) (.tup [.d (UJ ⟨86,90⟩),.int 0]) [] [] []
abbrev JX a b:=AK a (FF b)
abbrev TY a b:=JX (FF a) b
abbrev Fx a b c:=KQ a b b c
abbrev Hy a b c d e f g h:=AS a b c d e d f g h
abbrev I6 a b c d e f g:=Hy a b c d c e f g
abbrev dF(a:Nat->Int):=Ff 2 a
abbrev Bc a:=BM a 1073741824
abbrev Dt a:=DC 1 a
attribute [go_sem] JX TY Fx Hy I6 dF Bc Dt
theorem CGN(_x:One):(BPC _x)=(iB (AQ BY ED EK YE) (FG (AQ iK (Dt 3) (DC 3 (BH 4)) (Or (CP 1) (ER 1 3))) (AQ Qp AZ CO (Fx EK (AE (λi=>TE i (rI i))) (AI CO (AE (λi=>TJ i (ML (dF (λj=>CE (rI (Kx j)))) i (CE (rI (Kx i)))))) (Bc 2) Pv (I6 AZ CO EK (AE (λi=>TE i (rI i))) CO (AE (λi=>TJ i (ML (dF (λj=>EE (rI (Kx j)))) i (EE (rI (Kx i)))))) (PK (FI (dF (λi=>EE (rI (Kx i))))) 1073741824))))) (FF 86) (FF (Xe (Uo (AP 38)) 48)) (TY 90 (Xe (Uo (AP 40)) 50)) AL)):=by kernel_rfl
def BCW:=pD dI2 λx=>.d (UJ ⟨x.a,x.b⟩)
def BWC(x:I2):Prop:=AX Try.prog (ann 8 []) BAF (AF BAF) (xI2 x) (AC []) (.d (UJ ⟨x.a,x.b⟩)) [] [] []
theorem CGF(x:I2):(BWC x)=(And (AJ (Ij x)) (AJ (Ow x))):=by kernel_rfl
def BAI:=pD dI2 λx=>.d (eVl ⟨true,x.a,x.b⟩)
def BXL(x:I2):Prop:=AX Try.prog (ann 9 [(ASH,BCW)]) BDF (AF BDF) (xI2 x) (AC []) (.d (eVl ⟨true,x.a,x.b⟩)) [] [] []
theorem CBJ(x:I2):(BXL x)=(HY GW (Ij x) (Ow x)):=by kernel_rfl
def C_l7Four:Ctr:={ α:=One,xs:=λ_=>[.int 58],L:=λ_=>[],val:=λ_=>.d L0,keep:=λ_=>[] }
def AYY(_x:One):Prop:=AX Try.prog (ann 10 [(ATH,BAI)]) ALD (AF ALD) [.int 58] (AC []) (.d L0) [] [] [2080]
abbrev LL a b c d:=AK a (RV b c d)
attribute [go_sem] LL
theorem BMY(_x:One):(AYY _x)=(LR BY ED EK (VS 4) (λi=>Qj i (AG (LI (Is i) (PD (Pj i) (Wo (XJ (jI i)) UD (Wo (XJ (nW (jI i))) UD HU)))) (LL (Jl i) i 20 (Hc i 0 (HG (nW (jI i)) 0 58))) (LL (Im i) i 30 (Hc i 0 (HG (nW (jI i)) 0 90)))))):=by kernel_rfl
theorem AOZ:AH Try.prog AAQ Fh:=MA xI3 hI3 λx _=>Ee (A:=ann 15 []) (ren:=[]) (fz:=[]) COH (by kernel_rfl) AD (by
 show CKU x;rw[COY]<;> delta LI hd2 hd3 hd4 Wo G4 hd7 UD BZ HX XE;unfold MN;by_cases h:x.b<=x.a<;>simp[h])
theorem AYF:AH Try.prog J0 A7:=MA xI1 hI1 λx _=>Ee (A:=ann 5 [(AAQ,Fh)]) (ren:=[]) (fz:=[]) BZE (by kernel_rfl) (AA AOZ AD) (by
 show BHZ x;rw[BVE]<;> delta LI DR FC)
theorem CET:AH Try.prog E2 AZV:=MA xSp1 hSp1 λx _=>Ee (A:=ann 13 [(AAQ,Fh),(J0,A7)]) (ren:=[]) (fz:=[]) BLG (by kernel_rfl) (AA AOZ (AA AYF AD)) (by
 show BWE x;rw[CCR]<;> delta LI Wo UD CE EE BZ FC HX;unfold flsV;cases MN x.lo 0 x.hi<;>rfl)
theorem CCF:AH Try.prog S1 BQH:=MA xVl1 hVl1 λx _=>Ee (A:=ann 11 [(E2,AZV)]) (ren:=[]) (fz:=[]) CDU (by kernel_rfl) (AA CET AD) (by
 show BRC x;rw[CAT]<;> delta LI Wo HU PD;rfl)
theorem BXS:AH Try.prog AOU BGF:=MA xVl1 hVl1 λx _=>Ee (A:=ann 8 []) (ren:=[]) (fz:=[]) BTB (by kernel_rfl) AD (by
 show BFR x;rw[BQP]<;> delta FA AK CE EE EW CP SF Iv;unfold spVl;cases x.k<;>simp)
theorem CLM:AH Try.prog BIN (C_eD1.spec CJW):=PU C_eD1 (λ_=>CGP) [] [] CNX (λ_=>by kernel_rfl) (λ_=>AA CCF AD) (λ(x:Vl) _=>by
 show CJF x;rw[COM]<;> delta LI Am) (λ_=>RR rfl rfl) _
theorem CNJ:AH Try.prog BZM (C_ifD.spec BFU):=PU C_ifD (λ_=>CIN) [] [] CLG (λ_=>by kernel_rfl) (λ_=>AA CLM AD) (λ(x:One) _=>by
 show CHA x;rw[CLD]<;> delta LI UD HU AK BH DC ER FF sL AG AI AJ Rn DR CM HY BF BO EA DG DT AL GW SC HW RG WN Nr;simp only[CC,CU,CF];decide +kernel) (λ_=>RR rfl rfl) _
theorem CNY:AH Try.prog BQG (C_cfD.spec BFU):=PU C_cfD (λ_=>CKN) [] [] COG (λ_=>by kernel_rfl) (λ_=>AA CNJ AD) (λ(x:One) _=>by
 show CKG x;rw[CLL]<;> delta LI UD AN AE BA BM AO AR DR FB Cs Qj RG;exact⟨⟨rfl,λ_ _=>⟨rfl,rfl,rfl⟩⟩,rfl⟩) (λ_=>RR rfl rfl) _
theorem CSU:AH Try.prog n_eD (C_eD.spec d_eD):=PU C_eD (λ_=>A_eD) [] [] CQW (λ_=>by kernel_rfl) (λ_=>AA CNY AD) (λ(x:One) _=>by
 show V_eD x;rw[CSR]<;> delta LI HU AN AE BA BM AO AR DR FB Cs GW Qj;exact⟨⟨rfl,λ_ _=>⟨rfl,rfl,rfl⟩⟩,rfl⟩) (λ_=>RR rfl rfl) _
theorem AMX:AH Try.prog L7 (C_dCheck.spec J8):=PU C_dCheck (λ_=>AWK) [] [] BKP (λ_=>by kernel_rfl) (λ_=>AA AOZ (AA AYF (AA CSU AD))) (λ(x:One) _=>by
 show AVK x;rw[BLW];simp only[CC,CU,CF]) (λ_=>RR rfl rfl) _
theorem CGA:AH Try.prog AFQ (C_dPrs.spec BQE):=PU C_dPrs (λ_=>{ ann 6 [] with E:=[100,101] }) [(0,1000),(1,1016)] [] BMZ (λ_=>by kernel_rfl) (λ_=>AD) (λ(x:PaS) _=>by
 show BWF x;rw[CDW]<;> delta LI Wo HU AK AN AE BA BM FF HS Db CE EE AG AI AO AJ AR DR XO CM HY IF ZY BO AM PS Gz Da QC En PD ED pU BY EK jX Is Im Jl Qj YE kK TE;simp only[CC,CU,CF]) (λ_=>RR rfl rfl) _
theorem CFR:AH Try.prog ACO (C_dNar.spec BTU):=PU C_dNar (λ_=>BTH) [] [] BVW (λ_=>by kernel_rfl) (λ_=>AD) (λ(x:NaS) h=>by
 have h:0<=x.i/\x.i<4:=h
 show BWT x;rw[CFP]<;> delta LI Wo HU AK AN AE BA BM BH sE DC ER FF MW HD NZ HS Db ZU CE EE I8 AG AP AI AO AJ AR DR iB Rc CM HY IF ZY BF BO AM rS EA DG Gz AV Da DT En PK PD Tr Jw ED pU BY EK Dv jX Is SF Ty Im Jl Qj YE Ip WN Qk;simp only[CC,CU,CF]
 refine⟨⟨by omega,by omega⟩,by omega,λi _=>?_⟩
 unfold naV
 cases decide (i=x.i.toNat)<;>exact⟨rfl,rfl⟩) (λ_=>RR rfl rfl) _
theorem CCG:AH Try.prog K8 BTZ:=MA xSp1 hSp1 λx _=>Ee (A:=ann 8 []) (ren:=[]) (fz:=[]) BNS (by kernel_rfl) AD (by
 show BRF x;rw[CDN]<;> delta LI hd7 CE EE DR)
theorem CMY:AH Try.prog BHQ (C_eS1.spec CKF):=PU C_eS1 (λ_=>CJQ) [] [] CME (λ_=>by kernel_rfl) (λ_=>AA CCG AD) (λ(x:Span) _=>by
 show CIB x;rw[CNZ]<;> delta LI hd7 CE EE DR Eb) (λ_=>RR rfl rfl) _
theorem CLQ:AH Try.prog BXK (C_ifS.spec BHO):=PU C_ifS (λ_=>CJC) [] [] CMO (λ_=>by kernel_rfl) (λ_=>AA CMY AD) (λ(s:Nat->Span) h=>by
 obtain⟨h0,h1,h2,h3⟩:okSp s:=h
 show CHB s;rw[CMX];delta AQJ ADC ACA xQ ATC ATE ACB ACS ADJ ATL ADX H5 J4 AKY ALE E4 M2;simp only[CC,CU,CF]
 exact⟨⟨⟨by omega,by omega⟩,by omega⟩,λh=>absurd h0 h,λ_=>⟨⟨⟨by omega,by omega⟩,by omega⟩,λh=>absurd h1 h,λ_=>⟨⟨⟨by omega,by omega⟩,by omega⟩,λh=>absurd h2 h,λ_=>⟨⟨⟨by omega,by omega⟩,by omega⟩,λh=>absurd h3 h⟩⟩⟩⟩) (λ_=>RR rfl rfl) _
theorem COU:AH Try.prog BUH (C_cfS.spec BHO):=PU C_cfS (λ_=>CIA) [] [] CNO (λ_=>by kernel_rfl) (λ_=>AA CLQ AD) (λ(s:Nat->Span) h=>by
 have h:okSp s:=h
 show CKJ s;rw[CLH];simp only[CC,CU,CF];exact h) (λ_=>RR rfl rfl) _
theorem CRY:AH Try.prog n_eS (C_eS.spec d_eS):=PU C_eS (λ_=>A_eS) [] [] CRR (λ_=>by kernel_rfl) (λ_=>AA COU AD) (λ(s:Nat->Span) h=>by
 have h:okSp s:=h
 show V_eS s;rw[CQB];simp only[CC,CU,CF];exact h) (λ_=>RR rfl rfl) _
theorem CAE:AH Try.prog BEP (C_dOpd.spec J8):=PU C_dOpd (λ_=>BVU) [(0,5032),(1,300)] [] CAM (λ_=>by kernel_rfl) (λ_=>AA AMX (AA BXS (AA CGA (AA CFR (AA CRY AD))))) (λ(x:One) _=>by
 show BUI x;rw[CFT]<;> delta LI Wo UD HU AK AN AE BA BM BH CW DC ER NE TD KJ Nn FF W2 FW MW HD HS Db CE EE CY Wm Ac tX rI CS AG AP AZI AXL AHK AI AO AJ AR DR AMZ VS KQ XS Rc QP BFY Qd IV AS CM Ox eR AYS HY IF AAG ZY BF vY ZZ BO AVH AM AQ rS CL PS ABC AYA rY EA DG AAN FB Gz KC GI AYO Da DT AL FV QC AGB En RF IC AZ UC Ei KY yZ PD Tr VF nO yW LS Jw ED CO pU BY Om GW EK Uo SC jX JE Ay LR QM Cr Is Ku SF Ty AIL GO HW Im XD Jl ADZ Qj KU Xe YE NF Zg RG YH kK WN TE AIY ALG uD Af Qk A8 VE kS cM Mp Ao kA lC X6 pC iK sY lP;simp only[CC,CU,CF]
 repeat' apply And.intro
 all_goals first
  |decide +kernel
  |(refine⟨default,λi hi=>?_⟩
    match i,hi with
    |0,_=>decide +kernel
    |1,_=>decide +kernel
    |2,_=>decide +kernel
    |3,_=>decide +kernel)
  |(intro a;((repeat' apply And.intro)<;>first | decide +kernel | exact alH4 (by decide +kernel)))) (λ_=>N6 xR itDp rfl rfl AD BDR (by kernel_rfl) (by kernel_rfl)) _
theorem CDS:AH Try.prog BDO (C_dAgr.spec J8):=PU C_dAgr (λ_=>BRI) [(0,2016),(1,2017)] [] CEN (λ_=>by kernel_rfl) (λ_=>AA CAE AD) (λ(x:One) _=>by
 show BZP x;rw[CAB];simp only[CC,CU,CF]) (λ_=>RR rfl rfl) _
theorem BYN:AH Try.prog ARY (C_dBoth.spec V3):=PU C_dBoth (λ_=>ann 4 []) [] [] BQJ (λ_=>by kernel_rfl) (λ_=>AD) (λ(x:One) _=>by
 show BGN x;rw[BNK]<;> delta FW;simp only[CC,CU,CF]) (λ_=>RR rfl rfl) _
theorem BPS:AH Try.prog uI CJA:=MA xSp1 hSp1 λx _=>Ee (A:=ann 5 []) (ren:=[]) (fz:=[]) BLZ (by kernel_rfl) AD (by
 show CKB x;rw[CMN]<;> delta AK CE AJ Eh)
theorem BPV:AH Try.prog lT CIO:=MA xSp1 hSp1 λx _=>Ee (A:=ann 5 []) (ren:=[]) (fz:=[]) BLP (by kernel_rfl) AD (by
 show CJJ x;rw[CKW]<;> delta AK EE AJ QC)
theorem BVC:AH Try.prog AOV (C_dEnds.spec BGP):=Ctr.spec_ok (C:=C_dEnds) (λ(x:EnS) _=>by
 obtain⟨s,h⟩:=x
 cases h with
 |false=>
  refine Ee (A:=ACE) (ren:=[]) (fz:=[4006096]) AVY (by kernel_rfl) (AA BPS (AA BPV AD)) ?_
  show BNP ⟨s,false⟩;rw[CAV]<;> delta LI UD HU AK AN AE BA BM BH CW DC ER FW HD NZ HS CE EE Wm sZ AG AP AI AO AJ AR DR VS Qd AS IF BF CL PS EA DG KC GI DT FV QC RF IC PK AZ Ei KY VF LS CO JS Om GW EK SC JE Ay QM GO HW XD ZF XZ Ax TJ kK TE Cc Iv Kx cY VE Pv Qp Ao;simp only[CC,CU,CF]
  refine⟨⟨⟨by omega,by omega⟩,by omega⟩,⟨λh=>(by omega),by omega,by omega,by omega,by omega⟩,⟨⟨by omega,by omega⟩,by omega⟩,⟨by omega,λh=>(by cases h),by omega,by omega⟩,by omega,λj hj=>?_⟩
  match j,hj with
  |0,_=>rfl
  |1,_=>rfl
 |true=>
  refine Ee (A:=ACE) (ren:=[]) (fz:=[4006096]) AVY (by kernel_rfl) (AA BPS (AA BPV AD)) ?_
  show BVO ⟨s,true⟩;rw[CBP]<;> delta LI UD HU AK AN AE BA BM BH CW DC ER FW HD NZ HS CE EE Wm sZ AG AP AI AO AJ AR DR VS Qd AS IF BF CL PS EA DG KC GI DT FV QC RF IC PK AZ Ei KY VF LS CO JS Om GW EK SC JE Ay QM SF GO HW XD ZF XZ Ax TJ kK TE Cc Kx cY VE Pv Qp Ao;simp only[CC,CU,CF]
  refine⟨⟨⟨by omega,by omega⟩,by omega⟩,⟨λh=>(by omega),by omega,by omega,by omega,by omega⟩,⟨⟨by omega,by omega⟩,by omega⟩,⟨by omega,λh=>(by cases h),by omega,by omega⟩,by omega,λj hj=>?_⟩
  match j,hj with
  |0,_=>rfl
  |1,_=>rfl) _
theorem CAK:AH Try.prog BDL (C_lSum.spec d_Is):=PU C_lSum AUQ [] [] CDZ (λ_=>by kernel_rfl) (λ_=>AD) (λ(l:List Int) h=>by
 have h:l.length<1073741824:=h
 show BPG l;rw[CFA]<;> delta NL FA AK AN FI AE BA BM IR BH xY DC ER NE TD KJ CG NZ CS AG AI AO AJ AR BF DN GH HA EI EA DG FB HT FP EV DT Mw JA AU EW OV BE EF IA LB HK BD HE SG CP TF EY PH TU bZ;simp only[CC,CU,CF]
 refine⟨⟨0,⟨rfl,rfl⟩,Nat.zero_le _⟩,λk hk=>⟨λhlt=>?_,λhge=>?_⟩⟩
 ·have hlt:k<l.length:=by omega
  exact⟨⟨by omega,by omega⟩,k+1,⟨AMM l k hlt,(GJ (by omega)).symm⟩,by omega,by omega⟩
 ·have:k=l.length:=by omega
  rw[this,List.take_length]) (λ_=>RR rfl rfl) _
theorem CAF:AH Try.prog BBR (C_dVol.spec d_3):=PU C_dVol (λ_=>BOV) [] [] BZZ (λ_=>by kernel_rfl) (λ_=>AA AMX (AA AOZ (AA CDS (AA BYN (AA BVC (AA CAK AD)))))) (λ(x:One) _=>by
 show BPC x;rw[CGN]<;> delta LI Wo HU AK AN FI AE BA BM IR BH DC ER Ff FF W2 HD NZ HS Db CE EE tX rI AG AP AI AO AJ AR DR KQ iB Fx AS CM Hy I6 HY IF ZY BF BO AQ PS EA ML DG Gz Da DT AL QC En FG PK AZ PD ED CO pU BY EK Uo SC jX JX CP Is HW Im Jl Qj Xe YE TJ kK TY Bc TE Kx cY Pv Qp dF Dt iK;simp only[CC,CU,CF]
 repeat' apply And.intro
 all_goals first
  |decide +kernel
  |exact alH2 (by decide +kernel)) (λ_=>RR rfl rfl) _
theorem CBQ:AH Try.prog ASH BCW:=MA xI2 hI2 λx _=>Ee (A:=ann 8 []) (ren:=[]) (fz:=[]) CBG (by kernel_rfl) AD (by
 show BWC x;rw[CGF]<;> delta Ij Ow AK AJ;simp)
theorem CDJ:AH Try.prog ATH BAI:=MA xI2 hI2 λx _=>Ee (A:=ann 9 [(ASH,BCW)]) (ren:=[]) (fz:=[]) CCX (by kernel_rfl) (AA CBQ AD) (by
 show BXL x;rw[CBJ]<;> delta LI Ij Ow HU AK AG AJ DR CM HY GW;simp)
def d_1:List AVal->Heap->Option (One×List (Nat×Nat)×List Nat)
 |[.d (.v (.int .i64 58))],_=>some (default,[],[])
 |_,_=>none
theorem BLB:AH Try.prog AGO (C_l7Four.spec d_1):=PU C_l7Four (λ_=>ann 10 [(ATH,BAI)]) [] [2080] BMP (λ_=>by kernel_rfl) (λ_=>AA CDJ AD) (λ(x:One) _=>by
 show AYY x;rw[BMY]<;> delta LI Wo UD HU AK AN AE BA BM CW KJ FF HD HS Db ZU AG AP AI AO AJ AR VS ZY BO XJ Gz Pj Da RV En PD ED pU BY HG EK jX LR LL Is Im Jl Qj nW jI Hc;simp only[CC,CU,CF]
 refine⟨by omega,λj hj=>?_⟩
 match j,hj with
 |0,_=>exact⟨rfl,rfl,rfl⟩
 |1,_=>exact⟨rfl,rfl,rfl⟩
 |2,_=>exact⟨rfl,rfl,rfl⟩
 |3,_=>exact⟨rfl,rfl,rfl⟩) (λ_=>RR rfl rfl) _
end Go.Bal
