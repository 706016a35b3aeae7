/- Package share: the example of two states (closed). -/
import Derived.Test.YtbmlgdlbffmjjaaGreatGaA
import Derived.Test.YtbmlgdlbffmjjaaGreatRatE
set_option linter.unusedVariables false
set_option linter.unusedSimpArgs false
set_option maxRecDepth 8000
namespace Go.Bal.DL
open Go Go.Sym Go.Proofs
theorem s1 : (#[Field.mk "Compact" 122 0 true "" "" 0, Field.mk "got" 207 2 false "" "nilometer/share" 32][1]).offset = 2 := rfl
theorem s2:Int.toNat 0=0:=rfl
theorem s3:Int.toNat 1=1:=rfl
theorem s4:IntKind.i64.wrap (0+1)=1:=rfl
theorem s5:IntKind.i64.wrap (1+1)=2:=rfl
end Go.Bal.DL
namespace Go.Bal
open Go Go.Sym Go.Proofs
structure Rgh where
 s:Int
 a:Int
 l:Int
 deriving Inhabited
def eRgh(x:Rgh):DVal:=.agg [EP x.s,EP x.a,EP x.l]
def dRgh:DVal->Rgh
 | .agg [a,b,c]=>⟨LO a,LO b,LO c⟩
 |_=>default
def rX(i:Nat):DVal:=.agg [EP (bif Nat.beq i 1 then 1 else 0),EP (bif Nat.beq i 0 then 100 else bif Nat.beq i 1 then 60 else 40),EP (bif Nat.beq i 0 then 50 else bif Nat.beq i 1 then 100 else 0)]
def ABS:DVal:=.list 3 3 rX false
def eTwo:DVal:=.agg [EP 2,ABS]
def twB:AObj:=.box [.int 2,.d ABS]
def CKL(x:I3):Prop:=AX Try.prog (ann 15 []) BOZ (AF BOZ) (xI3 x) (AC []) (.bool (MN x.a x.b x.c)) [] [] []
theorem CNU(x:I3):(CKL x)=(XE (MN (hd2 x) (hd3 x) (hd4 x)) (G4 (hd2 x) (hd3 x)) (hd2 x) (hd4 x)):=by kernel_rfl
def A7:=pD dI1 λx=>.bool (MN x 0 1000000000)
def BYH(x:Int):Prop:=AX Try.prog (ann 5 [(AMA,Fh)]) AHZ (AF AHZ) (xI1 x) (AC []) (.bool (MN x 0 1000000000)) [] [] []
theorem CDC(x:Int):(BYH x)=(DR (FC x 1000000000)):=by kernel_rfl
def okRg(x:Rgh):Bool:=MN x.s 0 1&&(MN x.a 0 1000000000&&MN x.l 0 1000)
def C_sCk1:Ctr:={ ro:=[101],α:=Rgh,xs:=λx=>[.d (eRgh x),.bptr 101 0],L:=λ_=>[(101,twB)],val:=λx=>.bool (okRg x),keep:=λ_=>[(101,.live twB)] }
def BRT:List AVal->Heap->Option (Rgh×List (Nat×Nat)×List Nat)
 |[.d d,.bptr id _],_=>some (dRgh d,[(101,id)],[])
 |_,_=>none
def BNE:Ann:={ ann 20 [(AMA,Fh),(K6,A7)] with E:=[101] }
def BWM(x:Rgh):Prop:=AX Try.prog BNE BEG (AF BEG) (C_sCk1.xs x) (AC (C_sCk1.L x)) (C_sCk1.val x) (C_sCk1.keep x) [] []
abbrev yQ:=Rgh.s
abbrev yD:=Rgh.a
abbrev yF:=Rgh.l
abbrev HS:=@cond Int
abbrev Db:=Nat.beq
abbrev QN a b:=AO a 3 b
abbrev ZY a b c d:=HS (Db a b) c d
abbrev Da a b c:=ZY a 0 b c
abbrev Gz a b c:=ZY a b c 0
abbrev En a b c d:=Da a b (Gz a c d)
abbrev Dy a:=En a 50 1 100
abbrev Up a b:=Da a 100 b
abbrev Ep a:=Up a (ZY a 1 60 40)
abbrev Ta a b:=Gz a 1 b
abbrev Gy a:=Ta a 1
abbrev OM a b c d:=QN a (MM (Gy b) (Ep c) (Dy d))
abbrev FQ:=AR 3
abbrev BL:=BO 2
attribute [go_sem] yQ yD yF HS Db QN ZY Da Gz En Dy Up Ep Ta Gy OM FQ BL
theorem CDV(x:Rgh):(BWM x)=(AQ (HX (okRg x) (BZ (FC (yQ x) (Re 2)) (FC (yD x) 1000000000)) (FC (yF x) 1000)) BL FQ (AE (λi=>OM i i i i))):=by kernel_rfl
def scB:AObj:=.box [.fn (.func Q6) [] [.bptr 101 0]]
def sLL:List (Nat×AObj):=[(100,scB),(101,twB)]
def sKK:List (Nat×HCell):=[(100,.live scB),(101,.live twB)]
def CKK(H:Heap)(id:Nat):Option Nat:=match H id with
 | .live (.box [.fn _ _ [.bptr j _]])=>some j
 |_=>none
def C_eR1:Ctr:={ ro:=[100,101],α:=Rgh,xs:=λx=>[.d (eRgh x),.bptr 100 0],L:=λ_=>sLL,val:=λx=>.bool (!okRg x),keep:=λ_=>sKK }
def CIL:List AVal->Heap->Option (Rgh×List (Nat×Nat)×List Nat)
 |[.d d,.bptr id _],H=>(CKK H id).map λj=>(dRgh d,[(100,id),(101,j)],[])
 |_,_=>none
def CIU:Ann:={ ann 8 [(Q6,C_sCk1.spec BRT)] with E:=[100,101] }
def CIJ(x:Rgh):Prop:=AX Try.prog CIU BXI (AF BXI) (C_eR1.xs x) (AC sLL) (C_eR1.val x) sKK [] []
abbrev AOB:=DVal.agg
abbrev LR a b c d(e:Nat->Prop):=AI a b c d (AE e)
abbrev Y0 a b c:=Ia a (Ia b c)
abbrev FG a b c d e f:=AI a b (AK c d) e f
abbrev OD a b c d e f g:=FG a (AK b c) d e f g
abbrev uQ a b c:=AI a b c a b
attribute [go_sem] AOB LR Y0 FG OD uQ
theorem CLP(x:Rgh):(CIJ x)=(LR (OD (AK (yQ (dRgh (AOB (Ia (yQ x) (Y0 (yD x) (yF x) Mz))))) (yQ x)) (yD (dRgh (AOB (Ia (yQ x) (Y0 (yD x) (yF x) Mz))))) (yD x) (yF (dRgh (AOB (Ia (yQ x) (Y0 (yD x) (yF x) Mz))))) (yF x) BL (uQ FQ (AE (λi=>OM i i i i)) BL)) (Am (not (okRg x)) (okRg (dRgh (AOB (Ia (yQ x) (Y0 (yD x) (yF x) Mz)))))) BL FQ (λi=>OM i i i i)):=by kernel_rfl
def C_ifR:Ctr:={ ro:=[100,101],α:=One,xs:=λ_=>[.d ABS,.fn (.func ANO) [] [.bptr 100 0]],L:=λ_=>sLL,val:=λ_=>.int (-1),keep:=λ_=>sKK }
def BFQ:List AVal->Heap->Option (One×List (Nat×Nat)×List Nat)
 |[_,.fn _ _ [.bptr id _]],H=>(CKK H id).map λj=>(default,[(100,id),(101,j)],[])
 |_,_=>none
def CGR:Ann:={ ann 19 [(ANO,C_eR1.spec CIL)] with E:=[100,101],unr:=λid=>if id=2 then 4 else 0 }
def CJG(_x:One):Prop:=AX Try.prog CGR BYA (AF BYA) [.d ABS,.fn (.func ANO) [] [.bptr 100 0]] (AC sLL) (.int (-1)) sKK [] []
abbrev sL:=Int.negSucc
abbrev FJ a b c d e f g:=AG a b (AI c d e f g)
abbrev KQ a b c d:=AI a b a c d
abbrev YG:=BO 1
abbrev cY a:=DT 1 a
abbrev SC a b:=And (DC a a) b
abbrev HW a:=SC 0 (DG 0 a)
attribute [go_sem] sL FJ KQ YG cY SC HW
theorem COC(_x:One):(CJG _x)=(FJ (AV (HW 3) AL (BO 100) (BO 50) BL (uQ FQ (AE (λi=>OM i i i i)) BL)) (AV (cY 3) YG (BO 60) (BO 100) BL (uQ FQ (AE (λi=>OM i i i i)) BL)) (And (DT 2 3) (KQ AL (BO 40) BL (uQ FQ (AE (λi=>OM i i i i)) BL))) (AJ (sL 0)) BL FQ (AE (λi=>OM i i i i))):=by kernel_rfl
def C_cfR:Ctr:={ C_ifR with val:=λ_=>.bool false }
def CIT:Ann:={ ann 9 [(BWU,C_ifR.spec BFQ)] with E:=[100,101] }
def CJM(_x:One):Prop:=AX Try.prog CIT BOX (AF BOX) [.d ABS,.fn (.func ANO) [] [.bptr 100 0]] (AC sLL) (.bool false) sKK [] []
theorem CNR(_x:One):(CJM _x)=(((3:Nat)=(3:Nat)/\(∀(i:Nat),i<(3:Nat)->((bif i.beq (1:Nat) then (1:Int) else (0:Int))=bif i.beq (1:Nat) then (1:Int) else (0:Int))/\((bif i.beq (0
 : Nat) then (100:Int) else bif i.beq (1:Nat) then (60:Int) else (40:Int))=bif i.beq (0:Nat) then (100:Int) else bif i.beq (1:Nat) then (60:Int) else (40:Int))/\(bif i.beq (0:Nat) then (50:Int)
 else bif i.beq (1:Nat) then (100:Int) else (0:Int))=bif i.beq (0:Nat) then (50:Int) else bif i.beq (1:Nat) then (100:Int) else (0:Int))/\Int.ofNat (2:Nat)=Int.ofNat (2:Nat)/\(3:Nat)=(3 :
 Nat)/\(∀(i:Nat),i<(3:Nat)->((bif i.beq (1:Nat) then (1:Int) else (0:Int))=bif i.beq (1:Nat) then (1:Int) else (0:Int))/\((bif i.beq (0:Nat) then (100:Int) else bif i.beq (1:Nat) then (60 :
 Int) else (40:Int))=bif i.beq (0:Nat) then (100:Int) else bif i.beq (1:Nat) then (60:Int) else (40:Int))/\(bif i.beq (0:Nat) then (50:Int) else bif i.beq (1:Nat) then (100:Int) else (0:Int)) =
 bif i.beq (0:Nat) then (50:Int) else bif i.beq (1:Nat) then (100:Int) else (0:Int))/\Int.ofNat (2:Nat)=Int.ofNat (2:Nat)/\(3:Nat)=(3:Nat)/\∀(i:Nat),i<(3:Nat)->((bif i.beq (1:Nat) then
 (1:Int) else (0:Int))=bif i.beq (1:Nat) then (1:Int) else (0:Int))/\((bif i.beq (0:Nat) then (100:Int) else bif i.beq (1:Nat) then (60:Int) else (40:Int))=bif i.beq (0:Nat) then (100:Int)
 else bif i.beq (1:Nat) then (60:Int) else (40:Int))/\(bif i.beq (0:Nat) then (50:Int) else bif i.beq (1:Nat) then (100:Int) else (0:Int))=bif i.beq (0:Nat) then (50:Int) else bif i.beq (1:Nat)
 then (100:Int) else (0:Int))/\false=false/\Int.ofNat (2:Nat)=Int.ofNat (2:Nat)/\(3:Nat)=(3:Nat)/\∀(i:Nat),i<(3:Nat)->((bif i.beq (1:Nat) then (1:Int) else (0:Int))=bif i.beq (1 :
 Nat) then (1:Int) else (0:Int))/\((bif i.beq (0:Nat) then (100:Int) else bif i.beq (1:Nat) then (60:Int) else (40:Int))=bif i.beq (0:Nat) then (100:Int) else bif i.beq (1:Nat) then (60:Int) else
 (40:Int))/\(bif i.beq (0:Nat) then (50:Int) else bif i.beq (1:Nat) then (100:Int) else (0:Int))=bif i.beq (0:Nat) then (50:Int) else bif i.beq (1:Nat) then (100:Int) else (0:Int)):=by
 kernel_rfl
def C_eR:Ctr:={ ro:=[101],α:=One,xs:=λ_=>[.d ABS,.fn (.func Q6) [] [.bptr 101 0]],L:=λ_=>[(101,twB)],val:=λ_=>.bool true,keep:=λ_=>[(101,.live twB)] }
def d_eR:List AVal->Heap->Option (One×List (Nat×Nat)×List Nat)
 |[_,.fn _ _ [.bptr id _]],_=>some (default,[(101,id)],[])
 |_,_=>none
def A_eR:Ann:={ ann 9 [(BWV,C_cfR.spec BFQ)] with E:=[101] }
def V_eR(_x:One):Prop:=AX Try.prog A_eR F_eR (AF F_eR) [.d ABS,.fn (.func Q6) [] [.bptr 101 0]] (AC [(101,twB)]) (.bool true) [(101,.live twB)] [] []
abbrev Zw:=FF 2
attribute [go_sem] Zw
theorem CTG(_x:One):(V_eR _x)=(LR (HF FQ (AE (λi=>OM i i i i)) Zw (uQ FQ (AE (λi=>OM i i i i)) BL)) GW BL FQ (λi=>OM i i i i)):=by kernel_rfl
def C_sCheck:Ctr:={ α:=One,xs:=λ_=>[.d eTwo],L:=λ_=>[],val:=λ_=>.int 0,keep:=λ_=>[] }
def J8:List AVal->Heap->Option (One×List (Nat×Nat)×List Nat)
 |[_],_=>some (default,[],[])
 |_,_=>none
def AXC:Ann:=ann 21 [(AMA,Fh),(n_eR,C_eR.spec d_eR)]
def AVI(_x:One):Prop:=AX Try.prog AXC AFF (AF AFF) [.d eTwo] (AC []) (.int 0) [] [] []
theorem BMC(_x:One):(AVI _x)=(And (HF FQ (AE (λi=>OM i i i i)) Zw (uQ FQ (AE (λi=>OM i i i i)) BL)) AL):=by kernel_rfl
def ofG(a b:Int)(j:Nat):Int:=bif Nat.beq j 2 then a else bif Nat.beq j 3 then b else 0
def ofO(a b:Int):AObj:=.nbox [EP 2,ABS] 12 0 (ofG a b)
def C_sTkn:Ctr:={ ro:=[100],α:=I2,xs:=λ_=>[.bptr 100 0,.int 120],L:=λx=>[(100,ofO x.a x.b)],val:=λ_=>.fn (.func xM) [] [.bptr 0 0,.bptr 1 0],keep:=λx=>[(100,.live (ofO x.a x.b)),(0,.live (.box [.bptr 100 0])),(1,.live (.box [.int 120]))] }
def BQX:List AVal->Heap->Option (I2×List (Nat×Nat)×List Nat)
 |[.bptr id _,_],H=>match H id with
  | .live (.nbox _ _ _ g)=>some (⟨g 2,g 3⟩,[(100,id)],[])
  |_=>none
 |_,_=>none
def BSC(x:I2):Prop:=AX Try.prog { ann 6 [] with E:=[100] } AHJ (AF AHJ) (C_sTkn.xs x) (AC (C_sTkn.L x)) (C_sTkn.val x) (C_sTkn.keep x) [(0,1000),(1,1016)] []
abbrev AM:=AR 0
attribute [go_sem] AM
theorem CDT(x:I2):(BSC x)=(AV BL FQ (AE (λi=>OM i i i i)) AM (AE (λi=>Bd 2 i 14 (AJ (ofG (Ij x) (Ow x) i)))) (BO 120)):=by kernel_rfl
def cl2(a b:Int)(i:Nat):DVal:=EP (bif Nat.beq i 0 then a else b)
def C_clI:Ctr:={ α:=I2,xs:=λx=>[.d (.list 1 2 (cl2 x.a x.b) false)],L:=λ_=>[],val:=λx=>.d (.list 1 2 (cl2 x.a x.b) false),keep:=λ_=>[] }
def CIP:List AVal->Heap->Option (I2×List (Nat×Nat)×List Nat)
 |[.d (.list _ _ g _)],_=>some (⟨LO (g 0),LO (g 1)⟩,[],[])
 |_,_=>none
def CHK(x:I2):Prop:=AX Try.prog (ann 8 []) AEB (AF AEB) (C_clI.xs x) (AC []) (C_clI.val x) [] [] []
theorem CLT(x:I2):(CHK x)=((Nat.succ 0).le 2/\((0=0/\(0<0->1=1))/\(True/\(0<2->1=1))/\(false=true->0<2)/\2<=9223372036854775807/\16<=140737488355328)/\2=2/\∀(i:Nat),i<2 ->
 (bif i.beq 0 then x.a else x.b)=bif (i-0).beq 0 then x.a else x.b):=by kernel_rfl
noncomputable def itTk:IterAnn:={ fn:=U8,code:=AF U8,live:=[5],ann:={ base:=λid=>100000+1000*(id+1),Γ:=Sym.look [],E:=[2032,2048,3032,3033],n:=30,unr:=λid=>if id=1 then 4 else 0,pack:=λid=>if id=5 then some ⟨[0,2,11,12,13,28],[2032,2048,3032,3033],[]⟩ else none } }
noncomputable def BSW:Ann:={ ann 43 [(AKS,C_sTkn.spec BQX),(AEA,C_clI.spec CIP)] with iter:=λg=>if g=xM then some itTk else none }
def C_sSrv:Ctr:={ α:=One,xs:=λ_=>[.d eTwo,.int 120],L:=λ_=>[],val:=λ_=>.d (.list 1 2 (cl2 95 18) false),keep:=λ_=>[] }
def U4:List AVal->Heap->Option (One×List (Nat×Nat)×List Nat)
 |[_,_],_=>some (default,[],[])
 |_,_=>none
def BTY(_x:One):Prop:=AX Try.prog BSW AKM (AF AKM) [.d eTwo,.int 120] (AC []) (.d (.list 1 2 (cl2 95 18) false)) [] [] []
abbrev JS a b c d e f g h(p:Nat->Prop):=AS a b c d e f g h (AE p)
abbrev TJ a b:=AO a 2 b
abbrev C0 a b:=DN a (CS b)
abbrev oP a b c:=C0 a (Int.tdiv b c)
abbrev APR a b c:=oP a (AFI b 1000 c) 1000
abbrev Gf a b c d e f:=ZY a b (APR c d e) f
abbrev AMZ a:=Db a a
abbrev AYO a b c:=HS (AMZ a) b c
abbrev nO a b:=AYO 0 a b
abbrev pV:=O8 (nO 100 (ZY 0 1 60 40)) 120
abbrev iI a b:=HD (MW a) b
abbrev AP a:=HD 0 a
abbrev ZZ:=AP 2
abbrev Tg a:=Gz a (iI (Gy 0) ZZ) (APR 0 pV (nO 50 (Ta 0 100)))
abbrev CL a:=HD a 1
abbrev tG:=CL ZZ
abbrev ATD a b:=AYO 1 a b
abbrev AJL a:=ATD a 0
abbrev Yw:=Da 1 50 (AJL 100)
abbrev vS a b c:=O8 a (IV b c)
abbrev Gt:=vS (Up 1 (ATD 60 40)) 120 pV
abbrev Tn:=iI (AJL 1) ZZ
abbrev Yu:=Tg Tn
abbrev Gx:=iI (Gy 2) ZZ
abbrev R6 a:=HD ZZ a
abbrev tM:=R6 0
abbrev CO:=AR 2
abbrev WM a b(c:Nat->Prop):=AG a b (AE c)
abbrev Cc:=VS 2
abbrev AVD a b c d e:=AV a b c a d e
attribute [go_sem] JS TJ C0 oP APR Gf AMZ AYO nO pV iI AP ZZ Tg CL tG ATD AJL Yw vS Gt Tn Yu Gx R6 tM CO WM Cc AVD
theorem CCP(_x:One):(BTY _x)=(FB (CM (BO 120) Zw (AS FQ (AE (λi=>OM i i i i)) AM (AE (λi=>Bd 2 i 14 (CP (ofG 0 0 i)))) BL FQ (AE (λi=>OM i i i i)) AM (AE (λi=>Bd 2 i 14 (AK 0 (ofG 0 0 i)))))) (λi=>AQ (HW 3) (AR i) (AVD (DT (Gy 0) 12) (And Cc (BM 2 14)) (Sf 1000) Cc (BM 2 14)) (JS (cY 3) (AR i) (AVD (DT (AJL 1) 12) (CJ 2 3 (BM 3 14)) (Sf 1000) (CW 2 3) (BM 3 14)) (DT 2 3) (AR i) (AVD (DT (Gy 2) 12) (And Cc (BM 2 14)) (Sf 1000) Cc (BM 2 14)) (WM (AQ (ER 0 2) (DC 2 (BH 12)) Cc (CW 4 14)) CO (λj=>TJ j (AK (Da j (Gf tM Gx (Gf Gx Tn Yu Gt Yw (Tg Gx)) (vS (Ep 2) (IV 120 pV) Gt) (Dy 2) (Gf tM Tn Yu Gt Yw (Tg tM))) (Gf tG Gx (Gf Gx Tn Yu Gt Yw (Tg Gx)) (vS (Ep 2) (IV 120 pV) Gt) (Dy 2) (Gf tG Tn Yu Gt Yw (Tg tG)))) (Gf (R6 j) Gx (Gf Gx Tn Yu Gt Yw (Tg Gx)) (vS (Ep 2) (IV 120 pV) Gt) (Dy 2) (Gf (R6 j) Tn Yu Gt Yw (Tg (R6 j))))))) CO (λj=>TJ j (AK (Da j 95 18) (Da j (Gf tM Gx (Gf Gx Tn Yu Gt Yw (Tg Gx)) (vS (Ep 2) (IV 120 pV) Gt) (Dy 2) (Gf tM Tn Yu Gt Yw (Tg tM))) (Gf tG Gx (Gf Gx Tn Yu Gt Yw (Tg Gx)) (vS (Ep 2) (IV 120 pV) Gt) (Dy 2) (Gf tG Tn Yu Gt Yw (Tg tG))))))))):=by kernel_rfl
def C_sReal:Ctr:={ C_sSrv with val:=λ_=>.tup [.d (.list 1 2 (cl2 95 18) false),.int 0] }
def BHN:Ann:=ann 20 [(ADY,C_sCheck.spec J8),(K6,A7),(AKH,C_sSrv.spec U4)]
def BGM(_x:One):Prop:=AX Try.prog BHN AQA (AF AQA) [.d eTwo,.int 120] (AC []) (.tup [.d (.list 1 2 (cl2 95 18) false),.int 0]) [] [] []
abbrev RY a b(c:Nat->Prop) d:=AQ a b (AE c) d
attribute [go_sem] RY
theorem BSI(_x:One):(BGM _x)=(AI (WM BL FQ (λi=>OM i i i i)) (RY BL FQ (λi=>OM i i i i) (BO 120)) CO (AE (λi=>TJ i (AJ (Da i 95 18)))) AL):=by kernel_rfl
def C_l9Two:Ctr:={ α:=One,xs:=λ_=>[],L:=λ_=>[],val:=λ_=>.d eTwo,keep:=λ_=>[] }
def BIB(_x:One):Prop:=AX Try.prog (ann 6 []) ARS (AF ARS) [] (AC []) (.d eTwo) [] [] [2048]
abbrev ZU:=λ(x0 x1:Nat)=>decide (x0=x1)
abbrev XJ a:=ZU a 0
abbrev Pj a:=XJ (AP a)
abbrev RV a b c:=HS (Pj a) b c
abbrev HG a b c:=HS (XJ a) b c
abbrev nW a:=KJ a 1
abbrev jI a:=nW (AP a)
abbrev Hc a b c:=HG (jI a) b c
attribute [go_sem] ZU XJ Pj RV HG nW jI Hc
theorem BYU(_x:One):(BIB _x)=(AQ BL FQ (VS 3) (AE (λi=>QN i (KD (Gy i) (RV i 0 (Hc i 1 0)) (Ep i) (RV i 100 (Hc i 60 40)) (Dy i) (RV i 50 (Hc i 100 0)))))):=by kernel_rfl
theorem BCH:AH Try.prog AMA Fh:=MA xI3 hI3 λx _=>Ee (A:=ann 15 []) (ren:=[]) (fz:=[]) COP (by kernel_rfl) AD (by
 show CKL x;rw[CNU]<;> delta LI hd2 hd3 hd4 Wo G4 hd7 UD BZ HX XE;unfold MN;by_cases h:x.b<=x.a<;>simp[h])
theorem BHK:AH Try.prog K6 A7:=MA xI1 hI1 λx _=>Ee (A:=ann 5 [(AMA,Fh)]) (ren:=[]) (fz:=[]) BLJ (by kernel_rfl) (AA BCH AD) (by
 show BYH x;rw[CDC]<;> delta LI DR FC)
theorem CBA:AH Try.prog Q6 (C_sCk1.spec BRT):=PU C_sCk1 (λ_=>BNE) [] [] CAA (λ_=>by kernel_rfl) (λ_=>AA BCH (AA BHK AD)) (λ(x:Rgh) _=>by
 show BWM x;rw[CDV]<;> delta LI Wo UD AK AN AE BA BM NE Nn FF yQ yD yF HS Db CS AG AO AJ AR IV CM HY ZY MM BO AQ Gz Da En Ta BZ BL Gy FC QN Up FQ HX Ep Dy OM Re;simp only[CC,CU,CF]
 unfold okRg
 rw[show IntKind.i64.wrap (2-1)=1 from rfl]
 cases MN x.s 0 1<;>cases MN x.a 0 1000000000<;>rfl) (λ_=>RR rfl rfl) _
theorem CPI:AH Try.prog ANO (C_eR1.spec CIL):=PU C_eR1 (λ_=>CIU) [] [] CLB (λ_=>by kernel_rfl) (λ_=>AA CBA AD) (λ(x:Rgh) _=>by
 show CIJ x;rw[CLP]<;> delta LI AK AN AE BA BM FF Vw Mz yQ yD yF HS Db AOB AG AI AO AJ AR uQ CM HY ZY MM BO Ia Gz Da En FG Ta BL OD Gy QN Up LR FQ Ep Dy OM Am Y0;simp only[CC,CU,CF];exact⟨⟨rfl,rfl,rfl⟩,rfl⟩) (λ_=>RR rfl rfl) _
theorem CMF:AH Try.prog BWU (C_ifR.spec BFQ):=PU C_ifR (λ_=>CGR) [] [] CPX (λ_=>by kernel_rfl) (λ_=>AA CPI AD) (λ(x:One) _=>by
 show CJG x;rw[COC]<;> delta AK AN AE BA BM BH DC ER FF HS Db sL AG AI AO AJ AR KQ uQ CM HY ZY BF MM BO EA DG Gz AV Da DT AL FJ En Ta BL Gy SC QN Up FQ HW Ep Dy OM YG cY;simp only[CC,CU,CF];decide +kernel) (λ_=>RR rfl rfl) _
theorem COB:AH Try.prog BWV (C_cfR.spec BFQ):=PU C_cfR (λ_=>CIT) [] [] CKZ (λ_=>by kernel_rfl) (λ_=>AA CMF AD) (λ(x:One) _=>by
 show CJM x;rw[CNR];simp only[CC,CU,CF]) (λ_=>RR rfl rfl) _
theorem CTO:AH Try.prog n_eR (C_eR.spec d_eR):=PU C_eR (λ_=>A_eR) [] [] CQR (λ_=>by kernel_rfl) (λ_=>AA COB AD) (λ(x:One) _=>by
 show V_eR x;rw[CTG]<;> delta LI HU AK AN AE BA BM FF HS Db AG AI AO AJ AR DR uQ CM HY ZY MM BO Gz Da En Ta HF BL Gy GW QN Up LR FQ Ep Dy OM Zw;simp only[CC,CU,CF]) (λ_=>RR rfl rfl) _
theorem BLA:AH Try.prog ADY (C_sCheck.spec J8):=PU C_sCheck (λ_=>AXC) [] [] BLT (λ_=>by kernel_rfl) (λ_=>AA BCH (AA CTO AD)) (λ(x:One) _=>by
 show AVI x;rw[BMC]<;> delta AK AN AE BA BM FF HS Db AG AI AO AJ AR uQ CM HY ZY MM BO Gz Da AL En Ta HF BL Gy QN Up FQ Ep Dy OM Zw;simp only[CC,CU,CF]) (λ_=>RR rfl rfl) _
theorem CDG:AH Try.prog AKS (C_sTkn.spec BQX):=PU C_sTkn (λ_=>{ ann 6 [] with E:=[100] }) [(0,1000),(1,1016)] [] BMO (λ_=>by kernel_rfl) (λ_=>AD) (λ(x:I2) _=>by
 show BSC x;rw[CDT]<;> delta Ij Ow AK AN AE BA BM CW FF HS Db AG AI AO AJ AR CM HY ZY MM BO AM Gz AV Da TP En Ta Bd BL Gy QN Up FQ Ep Dy OM;simp only[CC,CU,CF]) (λ_=>RR rfl rfl) _
theorem CMR:AH Try.prog AEA (C_clI.spec CIP):=PU C_clI (λ_=>ann 8 []) [] [] BLC (λ_=>by kernel_rfl) (λ_=>AD) (λ(x:I2) _=>by
 show CHK x;rw[CLT];simp only[CC,CU,CF]
 exact⟨by omega,⟨λh=>(by cases h),by omega,by omega⟩,λi _=>rfl⟩) (λ_=>RR rfl rfl) _
theorem alH2{p:Nat->Prop}(h:p 0/\p 1):∀i,i<2->p i
 |0,_=>h.1
 |1,_=>h.2
 |i+2,h=>absurd h (by omega)
theorem alH4{p:Nat->Prop}(h:p 0/\p 1/\p 2/\p 3):∀i,i<4->p i
 |0,_=>h.1
 |1,_=>h.2.1
 |2,_=>h.2.2.1
 |3,_=>h.2.2.2
 |i+4,h=>absurd h (by omega)
theorem CTQ{p:Nat->Prop}(h:p 2/\p 3/\p 4/\p 5/\p 6/\p 7/\p 8/\p 9/\p 10/\p 11/\p 12/\p 13)(i:Nat)(h1:1<i)(h2:i<14):p i:=by
 obtain⟨a,b,c,d,e,f,g,h,k,l,m,n⟩:=h
 match i,h1,h2 with
 |2,_,_=>exact a
 |3,_,_=>exact b
 |4,_,_=>exact c
 |5,_,_=>exact d
 |6,_,_=>exact e
 |7,_,_=>exact f
 |8,_,_=>exact g
 |9,_,_=>exact h
 |10,_,_=>exact k
 |11,_,_=>exact l
 |12,_,_=>exact m
 |13,_,_=>exact n
 |i+14,_,h=>omega
theorem CAZ:AH Try.prog AKH (C_sSrv.spec U4):=PU C_sSrv (λ_=>BSW) [] [] BKS (λ_=>by kernel_rfl) (λ_=>AA CDG (AA CMR AD)) (λ(x:One) _=>by
 show BTY x;rw[CCP]<;> delta AK AN AE BA BM BH CW DC ER NE TD Nn FF D8 MW HD HS Db CS AG AP AI AO AJ AR AMZ VS IV AS CM HY ZY BF DN ZZ MM BO AM AQ CL EA DG FB Gz AV AYO Da DT AVD TP JB En iI CJ Ta Bd nO BL CO Gy C0 JS AFI oP ATD SC QN Up pV CP APR AJL FQ HW Ep vS Tn Dy WM TJ OM Gx Tg Cc Gf Gt Yu cY R6 Zw Yw tM Sf tG;simp only[CC,CU,CF]
 repeat' apply And.intro
 all_goals first
  |exact CTQ (by decide)
  |decide +kernel
  |exact alH2 (by decide +kernel)) (λ_=>N6 xM itTk rfl rfl AD BBH (by kernel_rfl) (by kernel_rfl)) _
theorem BUF:AH Try.prog AQU (C_sReal.spec U4):=PU C_sReal (λ_=>BHN) [] [] BYJ (λ_=>by kernel_rfl) (λ_=>AA BLA (AA BHK (AA CAZ AD))) (λ(x:One) _=>by
 show BGM x;rw[BSI]<;> delta AK AN AE BA BM FF HS Db AG AI AO AJ AR CM HY ZY MM BO AQ Gz Da AL En Ta BL CO Gy QN Up FQ Ep Dy WM TJ OM RY;simp only[CC,CU,CF]) (λ_=>RR rfl rfl) _
def V3:List AVal->Heap->Option (One×List (Nat×Nat)×List Nat)
 |[],_=>some (default,[],[])
 |_,_=>none
theorem BPF:AH Try.prog ARA (C_l9Two.spec V3):=PU C_l9Two (λ_=>ann 6 []) [] [2048] BZT (λ_=>by kernel_rfl) (λ_=>AD) (λ(x:One) _=>by
 show BIB x;rw[BYU]<;> delta AK AN AE BA BM CW KJ FF HD HS Db ZU AG AP AO AJ AR VS ZY HB BO AQ JK KD XJ Gz Pj Da RV En Ta BL Gy HG QN Up FQ Ep Dy nW jI Hc;simp only[CC,CU,CF]
 refine⟨by omega,λj hj=>?_⟩
 match j,hj with
 |0,_=>exact⟨rfl,rfl,rfl⟩
 |1,_=>exact⟨rfl,rfl,rfl⟩
 |2,_=>exact⟨rfl,rfl,rfl⟩) (λ_=>RR rfl rfl) _
end Go.Bal
