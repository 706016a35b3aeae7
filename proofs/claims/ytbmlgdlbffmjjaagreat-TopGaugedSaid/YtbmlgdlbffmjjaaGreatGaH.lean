/- Package share: the example of two states (closed). -/
import Derived.Test.YtbmlgdlbffmjjaaGreatGaA
import Derived.Test.YtbmlgdlbffmjjaaGreatRatE
set_option linter.unusedVariables false
set_option linter.unusedSimpArgs false
set_option maxRecDepth 8000
namespace Go.Bal.DL
open Go Go.Sym Go.Proofs
theorem s2:Int.toNat 0=0:=rfl
theorem s3:Int.toNat 1=1:=rfl
theorem s4:IntKind.i64.wrap (0+1)=1:=rfl
theorem s5:IntKind.i64.wrap (1+1)=2:=rfl
end Go.Bal.DL
namespace Go.Bal
open Go Go.Sym Go.Proofs
structure Rgh where
 s:Int
 a:Int
 l:Int
 deriving Inhabited
def eRgh(x:Rgh):DVal:=.agg [ES x.s,ES x.a,ES x.l]
def dRgh:DVal->Rgh
 | .agg [a,b,c]=>⟨LR a,LR b,LR c⟩
 |_=>default
def rX(i:Nat):DVal:=.agg [ES (bif Nat.beq i 1 then 1 else 0),ES (bif Nat.beq i 0 then 100 else bif Nat.beq i 1 then 60 else 40),ES (bif Nat.beq i 0 then 50 else bif Nat.beq i 1 then 100 else 0)]
def ABN:DVal:=.list 3 3 rX false
def eTwo:DVal:=.agg [ES 2,ABN]
def twB:AObj:=.box [.int 2,.d ABN]
def CHZ(x:I3):Prop:=AX Try.prog (ann 15 []) BUL (AF BUL) (xI3 x) (AC []) (.bool (MN x.a x.b x.c)) [] [] []
theorem CPX(x:I3):(CHZ x)=(WQ (MN (hd2 x) (hd3 x) (hd4 x)) (N4 (hd2 x) (hd3 x)) (hd2 x) (hd4 x)):=by kernel_rfl
def B7:=pD dI1 λx=>.bool (MN x 0 1000000000)
def BOJ(x:Int):Prop:=AX Try.prog (ann 5 [(ANG,Fg)]) AEL (AF AEL) (xI1 x) (AC []) (.bool (MN x 0 1000000000)) [] [] []
theorem CAF(x:Int):(BOJ x)=(DF (FC x 1000000000)):=by kernel_rfl
def okRg(x:Rgh):Bool:=MN x.s 0 1&&(MN x.a 0 1000000000&&MN x.l 0 1000)
def C_sCk1:Ctr:={ ro:=[101],α:=Rgh,xs:=λx=>[.d (eRgh x),.bptr 101 0],L:=λ_=>[(101,twB)],val:=λx=>.bool (okRg x),keep:=λ_=>[(101,.live twB)] }
def BUK:List AVal->Heap->Option (Rgh×List (Nat×Nat)×List Nat)
 |[.d d,.bptr id _],_=>some (dRgh d,[(101,id)],[])
 |_,_=>none
def BSJ:Ann:={ ann 20 [(ANG,Fg),(I4,B7)] with E:=[101] }
def BZA(x:Rgh):Prop:=AX Try.prog BSJ BBA (AF BBA) (C_sCk1.xs x) (AC (C_sCk1.L x)) (C_sCk1.val x) (C_sCk1.keep x) [] []
abbrev yC:=Rgh.s
abbrev yE:=Rgh.a
abbrev yM:=Rgh.l
abbrev HR:=@cond Int
abbrev Dg:=Nat.beq
abbrev QP a b:=AO a 3 b
abbrev ZZ a b c d:=HR (Dg a b) c d
abbrev Dd a b c:=ZZ a 0 b c
abbrev Gt a b c:=ZZ a b c 0
abbrev Ea a b c d:=Dd a b (Gt a c d)
abbrev Dt a:=Ea a 50 1 100
abbrev Sq a b:=Dd a 100 b
abbrev Dq a:=Sq a (ZZ a 1 60 40)
abbrev Ug a b:=Gt a 1 b
abbrev Hk a:=Ug a 1
abbrev OK a b c d:=QP a (MK (Hk b) (Dq c) (Dt d))
abbrev FX:=AR 3
abbrev BL:=BO 2
attribute [go_sem] yC yE yM HR Dg QP ZZ Dd Gt Ea Dt Sq Dq Ug Hk OK FX BL
theorem CCH(x:Rgh):(BZA x)=(AQ (HY (okRg x) (BY (FC (yC x) (Ox 2)) (FC (yE x) 1000000000)) (FC (yM x) 1000)) BL FX (AE (λi=>OK i i i i))):=by kernel_rfl
def scB:AObj:=.box [.fn (.func W8) [] [.bptr 101 0]]
def sLL:List (Nat×AObj):=[(100,scB),(101,twB)]
def sKK:List (Nat×HCell):=[(100,.live scB),(101,.live twB)]
def CHA(H:Heap)(id:Nat):Option Nat:=match H id with
 | .live (.box [.fn _ _ [.bptr j _]])=>some j
 |_=>none
def C_eR1:Ctr:={ ro:=[100,101],α:=Rgh,xs:=λx=>[.d (eRgh x),.bptr 100 0],L:=λ_=>sLL,val:=λx=>.bool (!okRg x),keep:=λ_=>sKK }
def CHB:List AVal->Heap->Option (Rgh×List (Nat×Nat)×List Nat)
 |[.d d,.bptr id _],H=>(CHA H id).map λj=>(dRgh d,[(100,id),(101,j)],[])
 |_,_=>none
def CIF:Ann:={ ann 8 [(W8,C_sCk1.spec BUK)] with E:=[100,101] }
def CJG(x:Rgh):Prop:=AX Try.prog CIF BNI (AF BNI) (C_eR1.xs x) (AC sLL) (C_eR1.val x) sKK [] []
abbrev ANB:=DVal.agg
abbrev LQ a b c d(e:Nat->Prop):=AI a b c d (AE e)
abbrev V1 a b c:=Hz a (Hz b c)
abbrev FE a b c d e f:=AI a b (AK c d) e f
abbrev OR a b c d e f g:=FE a (AK b c) d e f g
abbrev sN a b c:=AI a b c a b
attribute [go_sem] ANB LQ V1 FE OR sN
theorem COC(x:Rgh):(CJG x)=(LQ (OR (AK (yC (dRgh (ANB (Hz (yC x) (V1 (yE x) (yM x) Nm))))) (yC x)) (yE (dRgh (ANB (Hz (yC x) (V1 (yE x) (yM x) Nm))))) (yE x) (yM (dRgh (ANB (Hz (yC x) (V1 (yE x) (yM x) Nm))))) (yM x) BL (sN FX (AE (λi=>OK i i i i)) BL)) (Bt (not (okRg x)) (okRg (dRgh (ANB (Hz (yC x) (V1 (yE x) (yM x) Nm)))))) BL FX (λi=>OK i i i i)):=by kernel_rfl
def C_ifR:Ctr:={ ro:=[100,101],α:=One,xs:=λ_=>[.d ABN,.fn (.func ANU) [] [.bptr 100 0]],L:=λ_=>sLL,val:=λ_=>.int (-1),keep:=λ_=>sKK }
def BGY:List AVal->Heap->Option (One×List (Nat×Nat)×List Nat)
 |[_,.fn _ _ [.bptr id _]],H=>(CHA H id).map λj=>(default,[(100,id),(101,j)],[])
 |_,_=>none
def CIT:Ann:={ ann 19 [(ANU,C_eR1.spec CHB)] with E:=[100,101],unr:=λid=>if id=2 then 4 else 0 }
def CIA(_x:One):Prop:=AX Try.prog CIT BUD (AF BUD) [.d ABN,.fn (.func ANU) [] [.bptr 100 0]] (AC sLL) (.int (-1)) sKK [] []
abbrev wQ:=Int.negSucc
abbrev FK a b c d e f g:=AG a b (AI c d e f g)
abbrev KS a b c d:=AI a b a c d
abbrev XL:=BO 1
abbrev gE a:=DT 1 a
abbrev SV a b:=And (DC a a) b
abbrev IC a:=SV 0 (DR 0 a)
attribute [go_sem] wQ FK KS XL gE SV IC
theorem CMV(_x:One):(CIA _x)=(FK (AV (IC 3) AL (BO 100) (BO 50) BL (sN FX (AE (λi=>OK i i i i)) BL)) (AV (gE 3) XL (BO 60) (BO 100) BL (sN FX (AE (λi=>OK i i i i)) BL)) (And (DT 2 3) (KS AL (BO 40) BL (sN FX (AE (λi=>OK i i i i)) BL))) (AJ (wQ 0)) BL FX (AE (λi=>OK i i i i))):=by kernel_rfl
def C_cfR:Ctr:={ C_ifR with val:=λ_=>.bool false }
def CHH:Ann:={ ann 9 [(BWX,C_ifR.spec BGY)] with E:=[100,101] }
def CHT(_x:One):Prop:=AX Try.prog CHH BWQ (AF BWQ) [.d ABN,.fn (.func ANU) [] [.bptr 100 0]] (AC sLL) (.bool false) sKK [] []
theorem CNZ(_x:One):(CHT _x)=(((3:Nat)=(3:Nat)/\(∀(i:Nat),i<(3:Nat)->((bif i.beq (1:Nat) then (1:Int) else (0:Int))=bif i.beq (1:Nat) then (1:Int) else (0:Int))/\((bif i.beq (0
 : Nat) then (100:Int) else bif i.beq (1:Nat) then (60:Int) else (40:Int))=bif i.beq (0:Nat) then (100:Int) else bif i.beq (1:Nat) then (60:Int) else (40:Int))/\(bif i.beq (0:Nat) then (50:Int)
 else bif i.beq (1:Nat) then (100:Int) else (0:Int))=bif i.beq (0:Nat) then (50:Int) else bif i.beq (1:Nat) then (100:Int) else (0:Int))/\Int.ofNat (2:Nat)=Int.ofNat (2:Nat)/\(3:Nat)=(3 :
 Nat)/\(∀(i:Nat),i<(3:Nat)->((bif i.beq (1:Nat) then (1:Int) else (0:Int))=bif i.beq (1:Nat) then (1:Int) else (0:Int))/\((bif i.beq (0:Nat) then (100:Int) else bif i.beq (1:Nat) then (60 :
 Int) else (40:Int))=bif i.beq (0:Nat) then (100:Int) else bif i.beq (1:Nat) then (60:Int) else (40:Int))/\(bif i.beq (0:Nat) then (50:Int) else bif i.beq (1:Nat) then (100:Int) else (0:Int)) =
 bif i.beq (0:Nat) then (50:Int) else bif i.beq (1:Nat) then (100:Int) else (0:Int))/\Int.ofNat (2:Nat)=Int.ofNat (2:Nat)/\(3:Nat)=(3:Nat)/\∀(i:Nat),i<(3:Nat)->((bif i.beq (1:Nat) then
 (1:Int) else (0:Int))=bif i.beq (1:Nat) then (1:Int) else (0:Int))/\((bif i.beq (0:Nat) then (100:Int) else bif i.beq (1:Nat) then (60:Int) else (40:Int))=bif i.beq (0:Nat) then (100:Int)
 else bif i.beq (1:Nat) then (60:Int) else (40:Int))/\(bif i.beq (0:Nat) then (50:Int) else bif i.beq (1:Nat) then (100:Int) else (0:Int))=bif i.beq (0:Nat) then (50:Int) else bif i.beq (1:Nat)
 then (100:Int) else (0:Int))/\false=false/\Int.ofNat (2:Nat)=Int.ofNat (2:Nat)/\(3:Nat)=(3:Nat)/\∀(i:Nat),i<(3:Nat)->((bif i.beq (1:Nat) then (1:Int) else (0:Int))=bif i.beq (1 :
 Nat) then (1:Int) else (0:Int))/\((bif i.beq (0:Nat) then (100:Int) else bif i.beq (1:Nat) then (60:Int) else (40:Int))=bif i.beq (0:Nat) then (100:Int) else bif i.beq (1:Nat) then (60:Int) else
 (40:Int))/\(bif i.beq (0:Nat) then (50:Int) else bif i.beq (1:Nat) then (100:Int) else (0:Int))=bif i.beq (0:Nat) then (50:Int) else bif i.beq (1:Nat) then (100:Int) else (0:Int)):=by
 kernel_rfl
def C_eR:Ctr:={ ro:=[101],α:=One,xs:=λ_=>[.d ABN,.fn (.func W8) [] [.bptr 101 0]],L:=λ_=>[(101,twB)],val:=λ_=>.bool true,keep:=λ_=>[(101,.live twB)] }
def d_eR:List AVal->Heap->Option (One×List (Nat×Nat)×List Nat)
 |[_,.fn _ _ [.bptr id _]],_=>some (default,[(101,id)],[])
 |_,_=>none
def A_eR:Ann:={ ann 9 [(BZS,C_cfR.spec BGY)] with E:=[101] }
def V_eR(_x:One):Prop:=AX Try.prog A_eR F_eR (AF F_eR) [.d ABN,.fn (.func W8) [] [.bptr 101 0]] (AC [(101,twB)]) (.bool true) [(101,.live twB)] [] []
abbrev Xw:=FD 2
attribute [go_sem] Xw
theorem CQP(_x:One):(V_eR _x)=(LQ (HL FX (AE (λi=>OK i i i i)) Xw (sN FX (AE (λi=>OK i i i i)) BL)) GQ BL FX (λi=>OK i i i i)):=by kernel_rfl
def C_sCheck:Ctr:={ α:=One,xs:=λ_=>[.d eTwo],L:=λ_=>[],val:=λ_=>.int 0,keep:=λ_=>[] }
def N8:List AVal->Heap->Option (One×List (Nat×Nat)×List Nat)
 |[_],_=>some (default,[],[])
 |_,_=>none
def AYX:Ann:=ann 21 [(ANG,Fg),(n_eR,C_eR.spec d_eR)]
def AXX(_x:One):Prop:=AX Try.prog AYX AFZ (AF AFZ) [.d eTwo] (AC []) (.int 0) [] [] []
theorem BMD(_x:One):(AXX _x)=(And (HL FX (AE (λi=>OK i i i i)) Xw (sN FX (AE (λi=>OK i i i i)) BL)) AL):=by kernel_rfl
def ofG(a b:Int)(j:Nat):Int:=bif Nat.beq j 2 then a else bif Nat.beq j 3 then b else 0
def ofO(a b:Int):AObj:=.nbox [ES 2,ABN] 12 0 (ofG a b)
def C_sTkn:Ctr:={ ro:=[100],α:=I2,xs:=λ_=>[.bptr 100 0,.int 120],L:=λx=>[(100,ofO x.a x.b)],val:=λ_=>.fn (.func xM) [] [.bptr 0 0,.bptr 1 0],keep:=λx=>[(100,.live (ofO x.a x.b)),(0,.live (.box [.bptr 100 0])),(1,.live (.box [.int 120]))] }
def BNV:List AVal->Heap->Option (I2×List (Nat×Nat)×List Nat)
 |[.bptr id _,_],H=>match H id with
  | .live (.nbox _ _ _ g)=>some (⟨g 2,g 3⟩,[(100,id)],[])
  |_=>none
 |_,_=>none
def BWL(x:I2):Prop:=AX Try.prog { ann 6 [] with E:=[100] } AIZ (AF AIZ) (C_sTkn.xs x) (AC (C_sTkn.L x)) (C_sTkn.val x) (C_sTkn.keep x) [(0,1000),(1,1016)] []
abbrev AM:=AR 0
attribute [go_sem] AM
theorem CDI(x:I2):(BWL x)=(AV BL FX (AE (λi=>OK i i i i)) AM (AE (λi=>Af 2 i 14 (AJ (ofG (Iv x) (Oc x) i)))) (BO 120)):=by kernel_rfl
def cl2(a b:Int)(i:Nat):DVal:=ES (bif Nat.beq i 0 then a else b)
def C_clI:Ctr:={ α:=I2,xs:=λx=>[.d (.list 1 2 (cl2 x.a x.b) false)],L:=λ_=>[],val:=λx=>.d (.list 1 2 (cl2 x.a x.b) false),keep:=λ_=>[] }
def CIP:List AVal->Heap->Option (I2×List (Nat×Nat)×List Nat)
 |[.d (.list _ _ g _)],_=>some (⟨LR (g 0),LR (g 1)⟩,[],[])
 |_,_=>none
def CKL(x:I2):Prop:=AX Try.prog (ann 8 []) AKB (AF AKB) (C_clI.xs x) (AC []) (C_clI.val x) [] [] []
theorem CLG(x:I2):(CKL x)=((Nat.succ 0).le 2/\((0=0/\(0<0->1=1))/\(True/\(0<2->1=1))/\(false=true->0<2)/\2<=9223372036854775807/\16<=140737488355328)/\2=2/\∀(i:Nat),i<2 ->
 (bif i.beq 0 then x.a else x.b)=bif (i-0).beq 0 then x.a else x.b):=by kernel_rfl
noncomputable def itTk:IterAnn:={ fn:=S9,code:=AF S9,live:=[5],ann:={ base:=λid=>100000+1000*(id+1),Γ:=Sym.look [],E:=[2032,2048,3032,3033],n:=30,unr:=λid=>if id=1 then 4 else 0,pack:=λid=>if id=5 then some ⟨[0,2,11,12,13,28],[2032,2048,3032,3033],[]⟩ else none } }
noncomputable def BOD:Ann:={ ann 43 [(AJH,C_sTkn.spec BNV),(AIJ,C_clI.spec CIP)] with iter:=λg=>if g=xM then some itTk else none }
def C_sSrv:Ctr:={ α:=One,xs:=λ_=>[.d eTwo,.int 120],L:=λ_=>[],val:=λ_=>.d (.list 1 2 (cl2 95 18) false),keep:=λ_=>[] }
def S2:List AVal->Heap->Option (One×List (Nat×Nat)×List Nat)
 |[_,_],_=>some (default,[],[])
 |_,_=>none
def BTX(_x:One):Prop:=AX Try.prog BOD AJW (AF AJW) [.d eTwo,.int 120] (AC []) (.d (.list 1 2 (cl2 95 18) false)) [] [] []
abbrev JQ a b c d e f g h(p:Nat->Prop):=AS a b c d e f g h (AE p)
abbrev TP a b:=AO a 2 b
abbrev zQ a b:=DK a (CS b)
abbrev oE a b c:=zQ a (Int.tdiv b c)
abbrev ARR a b c:=oE a (AHA b 1000 c) 1000
abbrev Fo a b c d e f:=ZZ a b (ARR c d e) f
abbrev ANJ a:=Dg a a
abbrev AYW a b c:=HR (ANJ a) b c
abbrev oH a b:=AYW 0 a b
abbrev oK:=S4 (oH 100 (ZZ 0 1 60 40)) 120
abbrev jQ a b:=HA (MW a) b
abbrev AP a:=HA 0 a
abbrev Aa:=AP 2
abbrev Ub a:=Gt a (jQ (Hk 0) Aa) (ARR 0 oK (oH 50 (Ug 0 100)))
abbrev CL a:=HA a 1
abbrev uG:=CL Aa
abbrev AUL a b:=AYW 1 a b
abbrev AFG a:=AUL a 0
abbrev Wv:=Dd 1 50 (AFG 100)
abbrev wE a b c:=S4 a (IR b c)
abbrev Gy:=wE (Sq 1 (AUL 60 40)) 120 oK
abbrev Tq:=jQ (AFG 1) Aa
abbrev Ya:=Ub Tq
abbrev Gq:=jQ (Hk 2) Aa
abbrev V4 a:=HA Aa a
abbrev tD:=V4 0
abbrev CO:=AR 2
abbrev WV a b(c:Nat->Prop):=AG a b (AE c)
abbrev By:=VR 2
abbrev AYC a b c d e:=AV a b c a d e
attribute [go_sem] JQ TP zQ oE ARR Fo ANJ AYW oH oK jQ AP Aa Ub CL uG AUL AFG Wv wE Gy Tq Ya Gq V4 tD CO WV By AYC
theorem CBB(_x:One):(BTX _x)=(EX (CM (BO 120) Xw (AS FX (AE (λi=>OK i i i i)) AM (AE (λi=>Af 2 i 14 (CQ (ofG 0 0 i)))) BL FX (AE (λi=>OK i i i i)) AM (AE (λi=>Af 2 i 14 (AK 0 (ofG 0 0 i)))))) (λi=>AQ (IC 3) (AR i) (AYC (DT (Hk 0) 12) (And By (BN 2 14)) (Vf 1000) By (BN 2 14)) (JQ (gE 3) (AR i) (AYC (DT (AFG 1) 12) (CJ 2 3 (BN 3 14)) (Vf 1000) (CV 2 3) (BN 3 14)) (DT 2 3) (AR i) (AYC (DT (Hk 2) 12) (And By (BN 2 14)) (Vf 1000) By (BN 2 14)) (WV (AQ (ER 0 2) (DC 2 (BH 12)) By (CV 4 14)) CO (λj=>TP j (AK (Dd j (Fo tD Gq (Fo Gq Tq Ya Gy Wv (Ub Gq)) (wE (Dq 2) (IR 120 oK) Gy) (Dt 2) (Fo tD Tq Ya Gy Wv (Ub tD))) (Fo uG Gq (Fo Gq Tq Ya Gy Wv (Ub Gq)) (wE (Dq 2) (IR 120 oK) Gy) (Dt 2) (Fo uG Tq Ya Gy Wv (Ub uG)))) (Fo (V4 j) Gq (Fo Gq Tq Ya Gy Wv (Ub Gq)) (wE (Dq 2) (IR 120 oK) Gy) (Dt 2) (Fo (V4 j) Tq Ya Gy Wv (Ub (V4 j))))))) CO (λj=>TP j (AK (Dd j 95 18) (Dd j (Fo tD Gq (Fo Gq Tq Ya Gy Wv (Ub Gq)) (wE (Dq 2) (IR 120 oK) Gy) (Dt 2) (Fo tD Tq Ya Gy Wv (Ub tD))) (Fo uG Gq (Fo Gq Tq Ya Gy Wv (Ub Gq)) (wE (Dq 2) (IR 120 oK) Gy) (Dt 2) (Fo uG Tq Ya Gy Wv (Ub uG))))))))):=by kernel_rfl
def C_sReal:Ctr:={ C_sSrv with val:=λ_=>.tup [.d (.list 1 2 (cl2 95 18) false),.int 0] }
def BFW:Ann:=ann 20 [(AGH,C_sCheck.spec N8),(I4,B7),(AHB,C_sSrv.spec S2)]
def BJX(_x:One):Prop:=AX Try.prog BFW ASI (AF ASI) [.d eTwo,.int 120] (AC []) (.tup [.d (.list 1 2 (cl2 95 18) false),.int 0]) [] [] []
abbrev SI a b(c:Nat->Prop) d:=AQ a b (AE c) d
attribute [go_sem] SI
theorem BUI(_x:One):(BJX _x)=(AI (WV BL FX (λi=>OK i i i i)) (SI BL FX (λi=>OK i i i i) (BO 120)) CO (AE (λi=>TP i (AJ (Dd i 95 18)))) AL):=by kernel_rfl
def C_l9Two:Ctr:={ α:=One,xs:=λ_=>[],L:=λ_=>[],val:=λ_=>.d eTwo,keep:=λ_=>[] }
def BIV(_x:One):Prop:=AX Try.prog (ann 6 []) AQF (AF AQF) [] (AC []) (.d eTwo) [] [] [2048]
abbrev ZP:=λ(x0 x1:Nat)=>decide (x0=x1)
abbrev XJ a:=ZP a 0
abbrev Qk a:=XJ (AP a)
abbrev SD a b c:=HR (Qk a) b c
abbrev HG a b c:=HR (XJ a) b c
abbrev qY a:=KE a 1
abbrev kV a:=qY (AP a)
abbrev Fq a b c:=HG (kV a) b c
attribute [go_sem] ZP XJ Qk SD HG qY kV Fq
theorem BYL(_x:One):(BIV _x)=(AQ BL FX (VR 3) (AE (λi=>QP i (KC (Hk i) (SD i 0 (Fq i 1 0)) (Dq i) (SD i 100 (Fq i 60 40)) (Dt i) (SD i 50 (Fq i 100 0)))))):=by kernel_rfl
theorem BCU:AH Try.prog ANG Fg:=MC xI3 hI3 λx _=>Dy (A:=ann 15 []) (ren:=[]) (fz:=[]) CKX (by kernel_rfl) AD (by
 show CHZ x;rw[CPX]<;> delta LI hd2 hd3 hd4 Wo N4 hd7 UD BY HY WQ;unfold MN;by_cases h:x.b<=x.a<;>simp[h])
theorem BIN:AH Try.prog I4 B7:=MC xI1 hI1 λx _=>Dy (A:=ann 5 [(ANG,Fg)]) (ren:=[]) (fz:=[]) BKD (by kernel_rfl) (AA BCU AD) (by
 show BOJ x;rw[CAF]<;> delta LI DF FC)
theorem CEO:AH Try.prog W8 (C_sCk1.spec BUK):=PU C_sCk1 (λ_=>BSJ) [] [] CEE (λ_=>by kernel_rfl) (λ_=>AA BCU (AA BIN AD)) (λ(x:Rgh) _=>by
 show BZA x;rw[CCH]<;> delta LI Wo UD AK AN AE BA BN NC No FD yC yE yM HR Dg CS AG AO AJ AR IR CM HZ ZZ MK BO AQ Gt Dd Ea Ug BY BL Hk FC QP Sq FX HY Dq Dt OK Ox;simp only[CC,CU,CF]
 unfold okRg
 rw[show IntKind.i64.wrap (2-1)=1 from rfl]
 cases MN x.s 0 1<;>cases MN x.a 0 1000000000<;>rfl) (λ_=>RU rfl rfl) _
theorem CNH:AH Try.prog ANU (C_eR1.spec CHB):=PU C_eR1 (λ_=>CIF) [] [] CLZ (λ_=>by kernel_rfl) (λ_=>AA CEO AD) (λ(x:Rgh) _=>by
 show CJG x;rw[COC]<;> delta LI AK AN AE BA BN FD Wc Nm yC yE yM HR Dg ANB AG AI AO AJ AR sN CM HZ ZZ MK BO Hz Gt Dd Ea FE Ug BL OR Hk QP Sq LQ FX Dq Dt OK Bt V1;simp only[CC,CU,CF];exact⟨⟨rfl,rfl,rfl⟩,rfl⟩) (λ_=>RU rfl rfl) _
theorem CMA:AH Try.prog BWX (C_ifR.spec BGY):=PU C_ifR (λ_=>CIT) [] [] CNI (λ_=>by kernel_rfl) (λ_=>AA CNH AD) (λ(x:One) _=>by
 show CIA x;rw[CMV]<;> delta AK AN AE BA BN BH DC ER FD HR Dg wQ AG AI AO AJ AR KS sN CM HZ ZZ BG MK BO EB DR Gt AV Dd DT AL FK Ea Ug BL Hk SV QP Sq FX IC Dq Dt OK XL gE;simp only[CC,CU,CF];decide +kernel) (λ_=>RU rfl rfl) _
theorem CLD:AH Try.prog BZS (C_cfR.spec BGY):=PU C_cfR (λ_=>CHH) [] [] CMB (λ_=>by kernel_rfl) (λ_=>AA CMA AD) (λ(x:One) _=>by
 show CHT x;rw[CNZ];simp only[CC,CU,CF]) (λ_=>RU rfl rfl) _
theorem CQG:AH Try.prog n_eR (C_eR.spec d_eR):=PU C_eR (λ_=>A_eR) [] [] CTI (λ_=>by kernel_rfl) (λ_=>AA CLD AD) (λ(x:One) _=>by
 show V_eR x;rw[CQP]<;> delta LI HU AK AN AE BA BN FD HR Dg AG AI AO AJ AR DF sN CM HZ ZZ MK BO Gt Dd Ea Ug HL BL Hk GQ QP Sq LQ FX Dq Dt OK Xw;simp only[CC,CU,CF]) (λ_=>RU rfl rfl) _
theorem BKN:AH Try.prog AGH (C_sCheck.spec N8):=PU C_sCheck (λ_=>AYX) [] [] BKT (λ_=>by kernel_rfl) (λ_=>AA BCU (AA CQG AD)) (λ(x:One) _=>by
 show AXX x;rw[BMD]<;> delta AK AN AE BA BN FD HR Dg AG AI AO AJ AR sN CM HZ ZZ MK BO Gt Dd AL Ea Ug HL BL Hk QP Sq FX Dq Dt OK Xw;simp only[CC,CU,CF]) (λ_=>RU rfl rfl) _
theorem CDZ:AH Try.prog AJH (C_sTkn.spec BNV):=PU C_sTkn (λ_=>{ ann 6 [] with E:=[100] }) [(0,1000),(1,1016)] [] BLT (λ_=>by kernel_rfl) (λ_=>AD) (λ(x:I2) _=>by
 show BWL x;rw[CDI]<;> delta Iv Oc AK AN AE BA BN CV FD HR Dg AG AI AO AJ AR CM HZ ZZ MK BO AM Gt AV Dd TG Ea Ug Af BL Hk QP Sq FX Dq Dt OK;simp only[CC,CU,CF]) (λ_=>RU rfl rfl) _
theorem CPV:AH Try.prog AIJ (C_clI.spec CIP):=PU C_clI (λ_=>ann 8 []) [] [] BKW (λ_=>by kernel_rfl) (λ_=>AD) (λ(x:I2) _=>by
 show CKL x;rw[CLG];simp only[CC,CU,CF]
 exact⟨by omega,⟨λh=>(by cases h),by omega,by omega⟩,λi _=>rfl⟩) (λ_=>RU rfl rfl) _
theorem alH2{p:Nat->Prop}(h:p 0/\p 1):∀i,i<2->p i
 |0,_=>h.1
 |1,_=>h.2
 |i+2,h=>absurd h (by omega)
theorem alH4{p:Nat->Prop}(h:p 0/\p 1/\p 2/\p 3):∀i,i<4->p i
 |0,_=>h.1
 |1,_=>h.2.1
 |2,_=>h.2.2.1
 |3,_=>h.2.2.2
 |i+4,h=>absurd h (by omega)
theorem CRY{p:Nat->Prop}(h:p 2/\p 3/\p 4/\p 5/\p 6/\p 7/\p 8/\p 9/\p 10/\p 11/\p 12/\p 13)(i:Nat)(h1:1<i)(h2:i<14):p i:=by
 obtain⟨a,b,c,d,e,f,g,h,k,l,m,n⟩:=h
 match i,h1,h2 with
 |2,_,_=>exact a
 |3,_,_=>exact b
 |4,_,_=>exact c
 |5,_,_=>exact d
 |6,_,_=>exact e
 |7,_,_=>exact f
 |8,_,_=>exact g
 |9,_,_=>exact h
 |10,_,_=>exact k
 |11,_,_=>exact l
 |12,_,_=>exact m
 |13,_,_=>exact n
 |i+14,_,h=>omega
theorem CBT:AH Try.prog AHB (C_sSrv.spec S2):=PU C_sSrv (λ_=>BOD) [] [] BLW (λ_=>by kernel_rfl) (λ_=>AA CDZ (AA CPV AD)) (λ(x:One) _=>by
 show BTX x;rw[CBB]<;> delta AK AN AE BA BN BH CV DC ER NC TD No FD J9 MW HA HR Dg CS AG AP AI AO AJ AR ANJ VR IR AS CM HZ ZZ BG DK Aa MK BO AM AQ CL EB DR EX Gt AV AYW Dd DT AYC TG JA Ea jQ CJ Ug Af oH BL CO Hk zQ JQ AHA oE AUL SV QP Sq oK CQ ARR AFG FX IC Dq wE Tq Dt WV TP OK Gq Ub By Fo Gy Ya gE V4 Xw Wv tD Vf uG;simp only[CC,CU,CF]
 repeat' apply And.intro
 all_goals first
  |exact CRY (by decide)
  |decide +kernel
  |exact alH2 (by decide +kernel)) (λ_=>K2 xM itTk rfl rfl AD BEF (by kernel_rfl) (by kernel_rfl)) _
theorem BSE:AH Try.prog AQW (C_sReal.spec S2):=PU C_sReal (λ_=>BFW) [] [] BYY (λ_=>by kernel_rfl) (λ_=>AA BKN (AA BIN (AA CBT AD))) (λ(x:One) _=>by
 show BJX x;rw[BUI]<;> delta AK AN AE BA BN FD HR Dg AG AI AO AJ AR CM HZ ZZ MK BO AQ Gt Dd AL Ea Ug BL CO Hk QP Sq FX Dq Dt WV TP OK SI;simp only[CC,CU,CF]) (λ_=>RU rfl rfl) _
def T7:List AVal->Heap->Option (One×List (Nat×Nat)×List Nat)
 |[],_=>some (default,[],[])
 |_,_=>none
theorem BYW:AH Try.prog AUV (C_l9Two.spec T7):=PU C_l9Two (λ_=>ann 6 []) [] [2048] BVR (λ_=>by kernel_rfl) (λ_=>AD) (λ(x:One) _=>by
 show BIV x;rw[BYL]<;> delta AK AN AE BA BN CV KE FD HA HR Dg ZP AG AP AO AJ AR VR ZZ HC BO AQ JO KC XJ Gt Qk Dd SD Ea Ug BL Hk HG QP Sq FX Dq Dt qY kV Fq;simp only[CC,CU,CF]
 refine⟨by omega,λj hj=>?_⟩
 match j,hj with
 |0,_=>exact⟨rfl,rfl,rfl⟩
 |1,_=>exact⟨rfl,rfl,rfl⟩
 |2,_=>exact⟨rfl,rfl,rfl⟩) (λ_=>RU rfl rfl) _
end Go.Bal
