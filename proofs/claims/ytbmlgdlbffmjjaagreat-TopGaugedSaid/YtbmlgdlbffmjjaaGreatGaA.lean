/- Package level: data; ends of a leg, what it can rise, sums. -/
import Derived.Test.YtbmlgdlbffmjjaaGreatRatA
set_option linter.unusedVariables false
set_option linter.unusedSimpArgs false
namespace Go.Bal
open Go Go.Sym Go.Proofs
structure Lin where
 f:Int
 t:Int
 d:Int
 r:Int
 e:Int
 deriving Inhabited,DecidableEq
def eLin(x:Lin):DVal:=.agg [EP x.f,EP x.t,EP x.d,EP x.r,EP x.e]
def F2(l:List Lin):DVal:=lst 5 l.length λi=>eLin (gD l i)
def tQ:DVal->Lin
 | .agg [a,b,c,d,e]=>⟨LO a,LO b,LO c,LO d,LO e⟩
 |_=>default
theorem CF(x:Lin):tQ (eLin x)=x:=rfl
theorem CDY(a b c d e:Int):tQ (.agg [EP a,EP b,EP c,EP d,EP e])=⟨a,b,c,d,e⟩:=rfl
def R3(l:List Lin):DVal:=.agg [EP 3,F2 l]
end Go.Bal
namespace Go.Bal.DL
theorem n1(x:Lin):tQ (eLin x)=x:=rfl
theorem n3(a b c d e:Int):tQ (.agg [EP a,EP b,EP c,EP d,EP e])=Lin.mk a b c d e:=rfl
theorem n2(x:Lin):Lin.mk x.f x.t x.d x.r x.e=x:=rfl
end Go.Bal.DL
namespace Go.Bal
open Go Go.Sym Go.Proofs
def svO(l:List Lin)(g:Nat->Int):AObj:=.nbox [EP 3,F2 l] 169 338 g
def Oy(a b:Nat):Nat:=b+(2+a*13)
def CJE(x:I3):Prop:=AX Try.prog (ann 15 []) BYY (AF BYY) (xI3 x) (AC []) (.bool (MN x.a x.b x.c)) [] [] []
theorem CNW(x:I3):(CJE x)=(XE (MN (hd2 x) (hd3 x) (hd4 x)) (G4 (hd2 x) (hd3 x)) (hd2 x) (hd4 x)):=by kernel_rfl
theorem ATO:AH Try.prog ANL Fh:=MA xI3 hI3 λx _=>Ee (A:=ann 15 []) (ren:=[]) (fz:=[]) CNA (by kernel_rfl) AD (by
 show CJE x;rw[CNW]<;> delta LI hd2 hd3 hd4 Wo G4 hd7 UD BZ HX XE;unfold MN;by_cases h:x.b<=x.a<;>simp[h])
def dLi1:List AVal->Option Lin
 |[.d (.agg [.v (.int .i64 a),.v (.int .i64 b),.v (.int .i64 c),.v (.int .i64 d),.v (.int .i64 e)])]=>some ⟨a,b,c,d,e⟩
 |_=>none
def xLi1(x:Lin):List AVal:=[.d (eLin x)]
theorem hLi1(xs:List AVal)(a:Lin)(h:dLi1 xs=some a):xs=xLi1 a:=by
 unfold dLi1 at h;split at h<;>cases h;rfl
def BUL(x:Lin):Prop:=AX Try.prog (ann 5 []) BAO (AF BAO) (xLi1 x) (AC []) (.int x.t) [] [] []
abbrev TK:=Lin.t
attribute [go_sem] TK
theorem CFU(x:Lin):(BUL x)=(AJ (TK x)):=by kernel_rfl
def BUB(x:Lin):Prop:=AX Try.prog (ann 5 []) BBC (AF BBC) (xLi1 x) (AC []) (.int x.f) [] [] []
abbrev TC:=Lin.f
attribute [go_sem] TC
theorem CFV(x:Lin):(BUB x)=(AJ (TC x)):=by kernel_rfl
def BAY:=pD dLi1 λx=>.int x.t
def BCU:=pD dLi1 λx=>.int x.f
def vSts(b:Bool):AVal:=match b with
 |true=>.agg [.fn (.func AFY) [] []]
 |false=>.agg [.fn (.func AHE) [] []]
def BZW(b:Bool):Prop:=AX Try.prog (ann 6 []) X9 (AF X9) [.bool b] (AC []) (vSts b) [] [] []
def BHP(_x:One):Prop:=BZW true
def BFZ(_x:One):Prop:=BZW false
abbrev FW:=True
attribute [go_sem] FW
theorem BXN(_x:One):(BHP _x)=(FW):=by kernel_rfl
theorem BRN(_x:One):(BFZ _x)=(FW):=by kernel_rfl
theorem CEZ:AH Try.prog AFY BAY:=MA xLi1 hLi1 λx _=>Ee (A:=ann 5 []) (ren:=[]) (fz:=[]) CBO (by kernel_rfl) AD (by
 show BUL x;rw[CFU]<;> delta AK TK AJ;try simp)
theorem CAQ:AH Try.prog AHE BCU:=MA xLi1 hLi1 λx _=>Ee (A:=ann 5 []) (ren:=[]) (fz:=[]) CCA (by kernel_rfl) AD (by
 show BUB x;rw[CFV]<;> delta AK TC AJ;try simp)
structure LgS where
 l:List Lin
 g:Nat->Int
 i:Int
 b:Bool
def lsM(x:Lin)(b:Bool):Int:=bif b then x.t else x.f
def goM(x:Lin)(b:Bool):Int:=bif b then x.f else x.t
def sA(x:Lin)(b:Bool):Int:=bif b then wr (x.e-x.r) else wr (x.e+x.r)
def xLg(i:Int)(b:Bool):List AVal:=[.bptr 100 0,.d (.agg [EP i,AWR b])]
def d_lg:List AVal->Heap->Option (LgS×List (Nat×Nat)×List Nat)
 |[.bptr id _,.d (.agg [.v (.int .i64 i),.v (.bool b)])],H=>match H id with
  | .live (.nbox [_,.list _ n f _] _ _ g)=>some (⟨VZ n λj=>tQ (f j),g,i,b⟩,[(100,id)],[])
  |_=>none
 |_,_=>none
def C_lg(val:LgS->Int):Ctr:={ ro:=[100],α:=LgS,xs:=λa=>xLg a.i a.b,L:=λa=>[(100,svO a.l a.g)],val:=λa=>.int (val a),keep:=λa=>[(100,.live (svO a.l a.g))],pre:=λa=>[0<=a.i/\a.i<a.l.length] }
def C_lStart:Ctr:=C_lg λa=>lsM (gD a.l a.i.toNat) a.b
def C_lGoal:Ctr:=C_lg λa=>goM (gD a.l a.i.toNat) a.b
def C_lRise:Ctr:=C_lg λa=>sA (gD a.l a.i.toNat) a.b
def BDX:Sym.Spec:=K2 λxs=>match xs with
 |[.d (.v (.bool true))]=>some (vSts true,[])
 |[.d (.v (.bool false))]=>some (vSts false,[])
 |_=>none
def A_lSt:Ann:={ ann 19 [(wT,BDX),(AFY,BAY),(AHE,BCU)] with E:=[100] }
def BFL:Ann:={ ann 20 [(wT,BDX),(AFY,BAY),(AHE,BCU)] with E:=[100] }
def CHF:Ann:={ ann 27 [] with E:=[100] }
def svK(l:List Lin)(g:Nat->Int):List (Nat×HCell):=[(100,.live (svO l g))]
def AMJ(a:LgS):Prop:=AX Try.prog A_lSt wN (AF wN) (xLg a.i true) (AC [(100,svO a.l a.g)]) (.int (gD a.l a.i.toNat).t) (svK a.l a.g) [] []
abbrev hd91:=LgS.i
abbrev OG:=@List.length Lin
abbrev Hr:=LgS.l
abbrev Fg:=@gD Lin instInhabitedLin
abbrev MW:=Int.toNat
abbrev ZN:=Lin.d
abbrev ZK:=Lin.r
abbrev ZM:=Lin.e
abbrev Vw:=@List.cons DVal
abbrev Mz:=@List.nil DVal
abbrev HD:=@HAdd.hAdd Nat Nat Nat (@instHAdd Nat instAddNat)
abbrev rO:=LgS.g
abbrev CM a b c:=AG a (AJ b) c
abbrev FU a b(c:Nat->Prop) d e:=AI a b (AE c) d e
abbrev AT:=BO 3
abbrev Hn a(b:Nat->Prop) c d:=FU AT a b c d
abbrev CH:=AR 338
abbrev Ue a(b:Nat->Prop) c:=Hn a b CH c
abbrev Ge a(b:Nat->Prop)(c:Nat->Prop):=Ue a b (AE c)
abbrev TP a b c:=BA (CW a b) c
abbrev Bd a b c d:=TP a b (AO b c d)
abbrev Ia a b:=Vw (EP a) b
abbrev TO a:=(@List.length DVal) (Ia 3 (Vw (F2 a) Mz))
abbrev Cj a:=HD (TO a) 169
abbrev Jn a b c:=Bd (TO a) b (Cj a) c
abbrev TV a b c:=Jn a b (AJ c)
abbrev LG a b c d e f g:=AO a b (AI c d e f g)
abbrev FX a b c d e f g:=LG a (OG b) c d e f g
abbrev JP a b:=ZM (Fg a b)
abbrev YL a b:=AJ (JP a b)
abbrev JR a b:=ZK (Fg a b)
abbrev YB a b:=AJ (JR a b)
abbrev FN a b:=ZN (Fg a b)
abbrev XN a b:=AJ (FN a b)
abbrev EN a b:=TK (Fg a b)
abbrev YR a b:=AJ (EN a b)
abbrev IW a b:=TC (Fg a b)
abbrev XL a b:=AJ (IW a b)
abbrev ND a b:=FX a b (XL b a) (YR b a) (XN b a) (YB b a) (YL b a)
abbrev JC a:=AR (OG a)
abbrev aN a:=JC (Hr a)
abbrev Iu a:=MW (hd91 a)
attribute [go_sem] hd91 OG Hr Fg MW ZN ZK ZM Vw Mz HD rO CM FU AT Hn CH Ue Ge TP Bd Ia TO Cj Jn TV LG FX JP YL JR YB FN XN EN YR IW XL ND JC aN Iu
theorem BDI(a:LgS):(AMJ a)=(CM (DT (hd91 a) (OG (Hr a))) (EN (Hr a) (Iu a)) (Ge (aN a) (λi=>ND i (Hr a)) (λi=>TV (Hr a) i (rO a i)))):=by kernel_rfl
def AOE(a:LgS):Prop:=AX Try.prog A_lSt wN (AF wN) (xLg a.i false) (AC [(100,svO a.l a.g)]) (.int (gD a.l a.i.toNat).f) (svK a.l a.g) [] []
theorem BCA(a:LgS):(AOE a)=(CM (DT (hd91 a) (OG (Hr a))) (IW (Hr a) (Iu a)) (Ge (aN a) (λi=>ND i (Hr a)) (λi=>TV (Hr a) i (rO a i)))):=by kernel_rfl
def AVC(a:LgS):Prop:=AX Try.prog BFL F5 (AF F5) (xLg a.i true) (AC [(100,svO a.l a.g)]) (.int (gD a.l a.i.toNat).f) (svK a.l a.g) [] []
theorem BLH(a:LgS):(AVC a)=(CM (DT (hd91 a) (OG (Hr a))) (IW (Hr a) (Iu a)) (Ge (aN a) (λi=>ND i (Hr a)) (λi=>TV (Hr a) i (rO a i)))):=by kernel_rfl
def AZK(a:LgS):Prop:=AX Try.prog BFL F5 (AF F5) (xLg a.i false) (AC [(100,svO a.l a.g)]) (.int (gD a.l a.i.toNat).t) (svK a.l a.g) [] []
theorem BLO(a:LgS):(AZK a)=(CM (DT (hd91 a) (OG (Hr a))) (EN (Hr a) (Iu a)) (Ge (aN a) (λi=>ND i (Hr a)) (λi=>TV (Hr a) i (rO a i)))):=by kernel_rfl
def BIZ(a:LgS):Prop:=AX Try.prog CHF ATJ (AF ATJ) (xLg a.i a.b) (AC [(100,svO a.l a.g)]) (.int (sA (gD a.l a.i.toNat) a.b)) (svK a.l a.g) [] []
abbrev GV a b c d:=And a (FA b c d)
abbrev AV a b c d e f:=And a (AI b c d e f)
abbrev RD a:=AE (λi=>ND i a)
attribute [go_sem] GV AV RD
theorem BVD(a:LgS):(BIZ a)=(GV (DT (hd91 a) (OG (Hr a))) (LgS.b a) (AV (AK (sA (Fg (Hr a) (Iu a)) (LgS.b a)) (IV (JP (Hr a) (Iu a)) (JR (Hr a) (Iu a)))) AT (aN a) (RD (Hr a)) CH (AE (λi=>TV (Hr a) i (rO a i)))) (AV (AK (sA (Fg (Hr a) (Iu a)) (LgS.b a)) (DN (JP (Hr a) (Iu a)) (JR (Hr a) (Iu a)))) AT (aN a) (RD (Hr a)) CH (AE (λi=>TV (Hr a) i (rO a i))))):=by kernel_rfl
structure LmS where
 l:List Lin
 g:Nat->Int
 m:Int
def d_lm:List AVal->Heap->Option (LmS×List (Nat×Nat)×List Nat)
 |[.bptr id _,.d (.v (.int .i64 m))],H=>match H id with
  | .live (.nbox [_,.list _ n f _] _ _ g)=>some (⟨VZ n λj=>tQ (f j),g,m⟩,[(100,id)],[])
  |_=>none
 |_,_=>none
def CQS(a b:Nat):AVal:=.fn (.func lY) [] [.bptr a 0,.bptr b 0]
def C_lLegs:Ctr:={ ro:=[100],α:=LmS,xs:=λa=>[.bptr 100 0,.int a.m],L:=λa=>[(100,svO a.l a.g)],val:=λ_=>CQS 0 1,keep:=λa=>[(100,.live (svO a.l a.g)),(0,.live (.box [.bptr 100 0])),(1,.live (.box [.int a.m]))] }
def BGQ:Ann:={ ann 6 [] with E:=[100] }
def BHB(a:LmS):Prop:=AX Try.prog BGQ ASX (AF ASX) (C_lLegs.xs a) (AC (C_lLegs.L a)) (C_lLegs.val a) (C_lLegs.keep a) [(0,1000),(1,1016)] []
theorem BSP(a:LmS):(BHB a)=(AV AT (JC (LmS.l a)) (RD (LmS.l a)) CH (AE (λi=>TV (LmS.l a) i (LmS.g a i))) (AJ (LmS.m a))):=by kernel_rfl
def qF(l:List Int):Int:=l.foldl (λa x=>wr (a+x)) 0
def C_lSum:Ctr:={ α:=List Int,xs:=λl=>[.d (II l)],L:=λ_=>[],val:=λl=>.int (qF l),keep:=λ_=>[],pre:=λl=>[l.length<1073741824] }
def d_Is:List AVal->Heap->Option (List Int×List (Nat×Nat)×List Nat)
 |[a],H=>match F6 a H with
  |some (l,f)=>some (l,[],f)
  |none=>none
 |_,_=>none
def AUQ(l:List Int):Ann:={ ann 17 [] with loops:=λid=>if id=3 then some [{ α:=Nat,dflt:=0,T:=λk=>⟨[(3,.int (qF (l.take k))),(6,.d (II l)),(7,.int l.length),(8,.int k)],[]⟩,inv:=λk=>k<=l.length,meas:=λk=>l.length-k }] else none }
def BVS(l:List Int):Prop:=AX Try.prog (AUQ l) BBF (AF BBF) (C_lSum.xs l) (AC []) (C_lSum.val l) [] [] []
abbrev CG:=@Exists Nat
abbrev NZ:=Nat.le
abbrev FB a(b:Nat->Prop):=And a (AE b)
abbrev TU(a:Nat->Prop)(b:Nat->Prop):=FB (CG a) b
abbrev bZ a b:=qF (xY a b)
attribute [go_sem] CG NZ FB TU bZ
theorem CCM(l:List Int):(BVS l)=(TU (λi=>And (AI (CP (bZ i l)) (HT l) (EF l) (PH l) (BD i)) (NZ i (FI l))) (λi=>HE (NZ i (FI l)) i (FI l) (BE i (FI l)) (CG (λj=>EY (AI (AK (bZ j l) (DN (bZ i l) (IR l i))) (HT l) (EF l) (PH l) (AU j i)) (NZ j (FI l)) (FI l) j i)) (AK (qF l) (bZ i l)))):=by kernel_rfl
theorem CFO:AH Try.prog wT BDX:=AAU λxs v p h _=>by
 split at h
 ·cases h;exact Ee (A:=ann 6 []) (ren:=[]) (fz:=[]) AIW (by kernel_rfl) AD (by
   show BHP default;rw[BXN]<;> delta FW;trivial)
 ·cases h;exact Ee (A:=ann 6 []) (ren:=[]) (fz:=[]) AIW (by kernel_rfl) AD (by
   show BFZ default;rw[BRN]<;> delta FW;trivial)
 ·cases h
theorem ABY:GOk Try.prog A_lSt.Γ:=AA CFO (AA CEZ (AA CAQ AD))
theorem AME:AH Try.prog E3 (C_lStart.spec d_lg):=Ctr.spec_ok (C:=C_lStart) (λ(a:LgS) h=>by
 have h:0<=a.i/\a.i<a.l.length:=h
 obtain⟨l,g,i,b⟩:=a
 cases b with
 |true=>exact Ee (A:=A_lSt) (ren:=[]) (fz:=[]) AND (by kernel_rfl) ABY (by show AMJ ⟨l,g,i,true⟩;rw[BDI]<;> delta AK AN AE BA BM BH CW DC ER FF TK TC hd91 OG Hr Fg MW ZN ZK ZM Vw Mz HD rO AG AI AO AJ AR CM BF BO Ia EA DG LG JP JR AT DT IW EN TO FX FN TP Cj Bd JC XN Jn CH YR XL FU YB YL TV ND Iu Hn Ue Ge aN;simp only[CC,CU,CF];exact h)
 |false=>exact Ee (A:=A_lSt) (ren:=[]) (fz:=[]) AND (by kernel_rfl) ABY (by show AOE ⟨l,g,i,false⟩;rw[BCA]<;> delta AK AN AE BA BM BH CW DC ER FF TK TC hd91 OG Hr Fg MW ZN ZK ZM Vw Mz HD rO AG AI AO AJ AR CM BF BO Ia EA DG LG JP JR AT DT IW EN TO FX FN TP Cj Bd JC XN Jn CH YR XL FU YB YL TV ND Iu Hn Ue Ge aN;simp only[CC,CU,CF];exact h)) _
theorem AVG:AH Try.prog ACF (C_lGoal.spec d_lg):=Ctr.spec_ok (C:=C_lGoal) (λ(a:LgS) h=>by
 have h:0<=a.i/\a.i<a.l.length:=h
 obtain⟨l,g,i,b⟩:=a
 cases b with
 |true=>exact Ee (A:=BFL) (ren:=[]) (fz:=[]) AXZ (by kernel_rfl) ABY (by show AVC ⟨l,g,i,true⟩;rw[BLH]<;> delta AK AN AE BA BM BH CW DC ER FF TK TC hd91 OG Hr Fg MW ZN ZK ZM Vw Mz HD rO AG AI AO AJ AR CM BF BO Ia EA DG LG JP JR AT DT IW EN TO FX FN TP Cj Bd JC XN Jn CH YR XL FU YB YL TV ND Iu Hn Ue Ge aN;simp only[CC,CU,CF];exact h)
 |false=>exact Ee (A:=BFL) (ren:=[]) (fz:=[]) AXZ (by kernel_rfl) ABY (by show AZK ⟨l,g,i,false⟩;rw[BLO]<;> delta AK AN AE BA BM BH CW DC ER FF TK TC hd91 OG Hr Fg MW ZN ZK ZM Vw Mz HD rO AG AI AO AJ AR CM BF BO Ia EA DG LG JP JR AT DT IW EN TO FX FN TP Cj Bd JC XN Jn CH YR XL FU YB YL TV ND Iu Hn Ue Ge aN;simp only[CC,CU,CF];exact h)) _
theorem AXA:AH Try.prog ACX (C_lRise.spec d_lg):=PU C_lRise (λ_=>CHF) [] [] BPX (λ_=>by kernel_rfl) (λ_=>AD) (λ(a:LgS) h=>by
 have h:0<=a.i/\a.i<a.l.length:=h
 show BIZ a;rw[BVD]<;> delta FA AK AN AE BA BM BH CW DC ER NE TD Nn FF TK TC hd91 OG Hr Fg MW ZN ZK ZM Vw Mz HD rO CS AG AI AO AJ AR IV BF DN BO Ia EA DG LG JP JR AV AT DT IW EN TO FX FN TP Cj Bd JC XN Jn CH YR XL YB YL TV ND RD GV Iu aN;simp only[CC,CU,CF]
 refine⟨h,λhb=>?_,λhb=>?_⟩<;>rw[hb]<;>rfl) (λ_=>RR rfl rfl) _
theorem AWW:AH Try.prog ACJ (C_lLegs.spec d_lm):=PU C_lLegs (λ_=>BGQ) [(0,1000),(1,1016)] [] BPA (λ_=>by kernel_rfl) (λ_=>AD) (λ(a:LmS) _=>by
 show BHB a;rw[BSP]<;> delta AK AN AE BA BM CW FF TK TC OG Fg ZN ZK ZM Vw Mz HD AG AI AO AJ AR BO Ia LG JP JR AV AT IW EN TO FX FN TP Cj Bd JC XN Jn CH YR XL YB YL TV ND RD;simp only[CC,CU,CF]) (λ_=>RR rfl rfl) _
theorem AMM(l:List Int)(k:Nat)(h:k<l.length):qF (l.take (k+1))=wr (qF (l.take k)+gD l k):=by
 unfold qF
 rw[List.take_add_one,List.getElem?_eq_getElem h,Option.toList_some,List.foldl_append]
 simp[gD,List.getD_eq_getElem?_getD,h]
theorem CEE:AH Try.prog BAC (C_lSum.spec d_Is):=PU C_lSum AUQ [] [] CEU (λ_=>by kernel_rfl) (λ_=>AD) (λ(l:List Int) h=>by
 have h:l.length<1073741824:=h
 show BVS l;rw[CCM]<;> delta NL FA AK AN FI AE BA BM IR BH xY DC ER NE TD KJ CG NZ CS AG AI AO AJ AR BF DN GH HA EI EA DG FB HT FP EV DT Mw JA AU EW OV BE EF IA LB HK BD HE SG CP TF EY PH TU bZ;simp only[CC,CU,CF]
 refine⟨⟨0,⟨rfl,rfl⟩,Nat.zero_le _⟩,λk hk=>⟨λhlt=>?_,λhge=>?_⟩⟩
 ·have hlt:k<l.length:=by omega
  exact⟨⟨by omega,by omega⟩,k+1,⟨AMM l k hlt,(GJ (by omega)).symm⟩,by omega,by omega⟩
 ·have:k=l.length:=by omega
  rw[this,List.take_length]) (λ_=>RR rfl rfl) _
end Go.Bal
