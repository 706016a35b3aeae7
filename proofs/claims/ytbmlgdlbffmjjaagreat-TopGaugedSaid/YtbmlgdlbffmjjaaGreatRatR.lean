/- Package rating: the order of gaugings. -/
import Derived.Test.YtbmlgdlbffmjjaaGreatRatK
set_option linter.unusedVariables false
set_option linter.unusedSimpArgs false
namespace Go.Bal
open Go Go.Sym Go.Proofs
structure GAB where
 g:List Gau
 a:Int
 b:Int
def PX(g:List Gau)(x:Int):Int:=(gD g x.toNat).st
def bxG(g:List Gau):AObj:=.box [.d (KB g)]
def dGAB:List AVal->Heap->Option (GAB×List (Nat×Nat)×List Nat)
 |[.d x,.d y,.bptr id _],H=>match H id with
  | .live (.box [.d (.list _ n h _)])=>some (⟨VZ n λi=>gH (h i),LO x,LO y⟩,[(100,id)],[])
  |_=>none
 |_,_=>none
def C_fw1:Ctr:={ ro:=[100],α:=GAB,xs:=λa=>[.int a.a,.int a.b,.bptr 100 0],L:=λa=>[(100,bxG a.g)],val:=λa=>.int (kJ (PX a.g a.a) (PX a.g a.b)),keep:=λa=>[(100,.live (bxG a.g))],pre:=λa=>[(0<=a.a/\a.a<a.g.length)/\0<=a.b/\a.b<a.g.length] }
def CGY:Ann:={ ann 17 [(zA,Z4)] with E:=[100] }
def CJP(a:GAB):Prop:=AX Try.prog CGY V2 (AF V2) (C_fw1.xs a) (AC (C_fw1.L a)) (C_fw1.val a) (C_fw1.keep a) [] []
abbrev yR:=GAB.g
abbrev fH:=PX
attribute [go_sem] yR fH
theorem CLY(a:GAB):(CJP a)=(And (Bi (TT (GAB.a a) (yR a)) (GAB.b a) (dY (GAB.b a) (yR a))) (HB (kW (fH (yR a) (GAB.a a)) (fH (yR a) (GAB.b a))) (kW (Aq (yR a) (GAB.a a)) (Aq (yR a) (GAB.b a))) (BW (yR a)) (BX (yR a)))):=by kernel_rfl
def rowI(l:List Int):AObj:=.row 1 l.length λi=>EP (gD l i)
def CSB(n:Nat)(l:List Int):AObj:=.row 1 n λi=>EP (gD l i)
def swL(l:List Int)(j:Nat):List Int:=(l.set j (gD l (j+1))).set (j+1) (gD l j)
def M0(key:Int->Int):Nat->List Int->List Int
 |0,l=>l
 |j+1,l=>bif decide (kJ (key (gD l (j+1))) (key (gD l j))<0) then M0 key j (swL l j) else l
def stR(key:Int->Int):Nat->Nat->List Int->List Int
 |0,_,l=>l
 |n+1,i,l=>stR key n (i+1) (M0 key i l)
def stM(key:Int->Int)(l:List Int):List Int:=stR key (l.length-1) 1 l
structure GL where
 g:List Gau
 l:List Int
 a:Int
 b:Int
structure IL2 where
 i:Nat
 l:List Int
 deriving Inhabited
structure IJL where
 i:Nat
 j:Nat
 l:List Int
 deriving Inhabited
def fnW1:AVal:=.fn (.func Si) [] [.bptr 101 0]
def glK(a:GL)(l:List Int):List (Nat×HCell):=[(100,.live (CSB a.l.length l)),(101,.live (bxG a.g))]
def glIn(a:GL)(l:List Int):Prop:=l.length=a.l.length/\∀i,i<a.l.length->0<=gD l i/\gD l i<a.g.length
def glOk(a:GL):Prop:=a.l.length<1073741824/\∀i,i<a.l.length->0<=gD a.l i/\gD a.l i<a.g.length
def dGL:List AVal->Heap->Option (GL×List (Nat×Nat)×List Nat)
 |[.own id _ _ n,.d x,.d y,.fn (.func f) [] [.bptr c _]],H=>if f=Si then match H id,H c with
  | .live (.row _ m r),.live (.box [.d (.list _ k h _)])=>some (⟨VZ k λi=>gH (h i),VZ n λi=>LO (r i),LO x,LO y⟩,[(100,id),(101,c)],[])
  |_,_=>none else none
 |_,_=>none
def C_ins:Ctr:={ ro:=[101],α:=GL,xs:=λa=>[.own 100 1 0 a.l.length,.int a.a,.int a.b,fnW1],L:=λa=>[(100,rowI a.l),(101,bxG a.g)],val:=λ_=>.d (.tup []),keep:=λa=>glK a (stM (PX a.g) a.l),pre:=λa=>[(a.a=0/\a.b=a.l.length)/\glOk a] }
def ins1(a:GL):Shape:={ α:=IL2,dflt:=default,T:=λx=>⟨[(0,.own 100 1 0 a.l.length),(1,.int 0),(2,.int a.l.length),(3,fnW1),(8,.int x.i)],glK a x.l⟩,inv:=λx=>1<=x.i/\(x.i<=a.l.length∨x.i=1)/\glIn a x.l/\stM (PX a.g) a.l=stR (PX a.g) (a.l.length-x.i) x.i x.l,meas:=λx=>a.l.length-x.i }
def ins4(a:GL)(m:Nat):Shape:={ α:=IJL,dflt:=default,T:=λx=>⟨[(0,.own 100 1 0 a.l.length),(1,.int 0),(2,.int a.l.length),(3,fnW1),(8,.int x.i),(9,.int x.j)],glK a x.l⟩,inv:=λx=>a.l.length-x.i=m/\1<=x.i/\x.i<a.l.length/\x.j<=x.i/\glIn a x.l/\stM (PX a.g) a.l=stR (PX a.g) (a.l.length-(x.i+1)) (x.i+1) (M0 (PX a.g) x.j x.l),meas:=λx=>x.j }
def CKO(a:GL):Ann:={ ann 53 [(Si,C_fw1.spec dGAB)] with E:=[100,101],loops:=λid=>if id=1 then some [ins1 a] else none,inner:=λgs id=>if id=4 then some [ins4 a (gs.getD 0 0)] else none }
def CKM(a:GL):Prop:=AX Try.prog (CKO a) BBL (AF BBL) [.own 100 1 0 a.l.length,.int 0,.int a.l.length,fnW1] (AC (C_ins.L a)) (C_ins.val a) (C_ins.keep a) [] []
abbrev RP:=GL.l
abbrev YA:=IL2.i
abbrev cF:=IL2.l
abbrev UE:=GL.g
abbrev Wg:=@Eq (List Int)
abbrev Ph:=IJL.i
abbrev Rq:=IJL.j
abbrev rK:=IJL.l
abbrev Nt a:=BX (UE a)
abbrev Qm a:=BW (UE a)
abbrev Oo a:=fH (UE a)
abbrev Qo a b:=stM (Oo a) (RP b)
abbrev Nx a:=HT (RP a)
abbrev IK a:=FI (RP a)
abbrev Nq a b:=KJ (IK a) b
abbrev Lo a b c d:=IF a b (BF c) (dY c d)
abbrev iV a:=EI (IK a)
abbrev wD a:=CL (Ph a)
abbrev Ly a b:=IR (rK a) b
abbrev zR a:=Qs (Rq a)
abbrev dP a:=rS (zR a)
abbrev pE a:=AP (Rq a)
abbrev UP a:=BB (UE a)
abbrev sW a:=TM (BH (Rq a))
attribute [go_sem] RP YA cF UE Wg Ph Rq rK Nt Qm Oo Qo Nx IK Nq Lo iV wD Ly zR dP pE UP sW
theorem CLU(a:GL):(CKM a)=(And ((@Exists IL2) (λi=>AI (AS AM (Nx a) AL (iV a) (JA (YA i) 0) (Nx a) (AE (λj=>IY j (RP a) (cF i) j (RP a))) (Qm a) (Nt a)) (Mb (YA i)) (Or (CW (YA i) (IK a)) (AN (YA i) 1)) (FB (BK (cF i) (RP a)) (λj=>Lo j (IK a) (IR (cF i) j) (UE a))) (Wg (Qo a a) (stR (Oo a) (Nq a (YA i)) (YA i) (cF i))))) ((λ(f:IL2->Prop)=>∀(x:IL2),f x) (λi=>HE (AQ (Mb (YA i)) (Or (CW (YA i) (IK a)) (AN (YA i) 1)) (FB (BK (cF i) (RP a)) (λj=>Lo j (IK a) (IR (cF i) j) (UE a))) (Wg (Qo a a) (stR (Oo a) (Nq a (YA i)) (YA i) (cF i)))) (YA i) (IK a) ((@Exists IJL) (λj=>FJ (KU (dD (Nx a) AL (iV a) (BC (Ph j) (YA i)) (BC (Rq j) (YA i)) (AE (λk=>IY k (RP a) (rK j) k (cF i))) (Qm a) (Nt a))) (AN (Nq a (Ph j)) (Nq a (YA i))) (Mb (Ph j)) (BM (Ph j) (IK a)) (CW (Rq j) (Ph j)) (FB (BK (rK j) (RP a)) (λk=>Lo k (IK a) (Ly j k) (UE a))) (Wg (Qo a a) (stR (Oo a) (Nq a (wD j)) (wD j) (M0 (Oo a) (Rq j) (rK j)))))) ((λ(f:IJL->Prop)=>∀(x:IJL),f x) (λj=>TL (AV (AN (Nq a (Ph j)) (Nq a (YA i))) (Mb (Ph j)) (BM (Ph j) (IK a)) (CW (Rq j) (Ph j)) (FB (BK (rK j) (RP a)) (λk=>Lo k (IK a) (Ly j k) (UE a))) (Wg (Qo a a) (stR (Oo a) (Nq a (wD j)) (wD j) (M0 (Oo a) (Rq j) (rK j))))) (AI (FV (sW j) (BE (Rq j) (IK a))) (FV (sW j) (PK (pE j) (IK a))) (FV (sW j) (DT (zR j) (IK a))) (FV (sW j) (PK (dP j) (IK a))) (FV (sW j) (AS (AJ (Ly j (pE j))) (AJ (Ly j (dP j))) (CN (UE a)) (CV (UE a)) (CI (UE a) (UP a)) (BU (UE a) (UP a)) (TT (Ly j (pE j)) (UP a)) (BF (Ly j (dP j))) (dY (Ly j (dP j)) (UP a))))) (EW (BZ (sW j) (Pw (kW (fH (UP a) (Ly j (pE j))) (fH (UP a) (Ly j (dP j)))))) (AQ (DT (zR j) (IK a)) (BM (dP j) (IK a)) (BE (Rq j) (IK a)) (KQ (BM (pE j) (IK a)) (BE (Rq j) (IK a)) (DT (zR j) (IK a)) (PK (dP j) (IK a)))) ((@Exists IJL) (λk=>EV (KU (dD (Nx a) AL (iV a) (BC (Ph k) (Ph j)) (GH (Rq k) (zR j)) (AE (λl=>qJ l (RP a) (rK k) l (HS (ZU l (dP j)) (Ly j (pE j)) (HS (ZU l (pE j)) (Ly j (dP j)) (Ly j l))))) (Qm a) (Nt a))) (AV (AN (Nq a (Ph k)) (Nq a (YA i))) (Mb (Ph k)) (BM (Ph k) (IK a)) (CW (Rq k) (Ph k)) (FB (BK (rK k) (RP a)) (λl=>Lo l (IK a) (Ly k l) (UE a))) (Wg (Qo a a) (stR (Oo a) (Nq a (wD k)) (wD k) (M0 (Oo a) (Rq k) (rK k))))) (Rq k) (Rq j))) ((@Exists IL2) (λk=>EY (AS AM (Nx a) AL (iV a) (AU (YA k) (Ph j)) (Nx a) (AE (λl=>IY l (RP a) (cF k) l (rK j))) (Qm a) (Nt a)) (AQ (Mb (YA k)) (Or (CW (YA k) (IK a)) (AN (YA k) 1)) (FB (BK (cF k) (RP a)) (λl=>Lo l (IK a) (IR (cF k) l) (UE a))) (Wg (Qo a a) (stR (Oo a) (Nq a (YA k)) (YA k) (cF k)))) (IK a) (YA k) (YA i)))))) (AQ (Nx a) (AE (λj=>IY j (RP a) (Qo a a) j (cF i))) (Qm a) (Nt a))))):=by kernel_rfl
def dGLs:List AVal->Heap->Option (GL×List (Nat×Nat)×List Nat)
 |[.own id _ _ n,.d x,.fn (.func f) [] [.bptr c _]],H=>if f=Si then match H id,H c with
  | .live (.row _ m r),.live (.box [.d (.list _ k h _)])=>some (⟨VZ k λi=>gH (h i),VZ n λi=>LO (r i),LO x,0⟩,[(100,id),(101,c)],[])
  |_,_=>none else none
 |_,_=>none
def C_stb:Ctr:={ ro:=[101],α:=GL,xs:=λa=>[.own 100 1 0 a.l.length,.int a.a,fnW1],L:=λa=>[(100,rowI a.l),(101,bxG a.g)],val:=λ_=>.d (.tup []),keep:=λa=>glK a (stM (PX a.g) a.l),pre:=λa=>[(a.a=a.l.length/\a.l.length<20)/\glOk a] }
def sb(a:GL)(l:List Int)(r:List (Nat×AVal)):Shape:={ α:=One,dflt:=default,T:=λ_=>⟨[(0,.own 100 1 0 a.l.length),(1,.int a.l.length),(2,fnW1),(6,.int 20)] ++ r,glK a l⟩,inv:=λ_=>True,meas:=λ_=>0 }
def CJL(a:GL):Ann:={ ann 63 [(ATQ,C_ins.spec dGL)] with E:=[100,101],loops:=λid=>if id=2 then some [sb a a.l [(7,.int 0),(8,.int 20)]] else if id=7 then some [sb a (stM (PX a.g) a.l) []] else none }
def CKE(a:GL):Prop:=AX Try.prog (CJL a) BTA (AF BTA) [.own 100 1 0 a.l.length,.int a.l.length,fnW1] (AC (C_stb.L a)) (C_stb.val a) (C_stb.keep a) [] []
abbrev Zh a:=EL (RP a)
abbrev Uf a:=JO (RP a)
abbrev eW:=JX 0 0
abbrev qH a:=HI (RP a)
attribute [go_sem] Zh Uf eW qH
theorem CMP(a:GL):(CKE a)=(And (NF (KU (dD (Nx a) (iV a) (BO 20) AL (BO 20) (EF (RP a)) (Qm a) (Nt a)))) (Ac (λi=>HK FW (hd7 20 (BH (IK a))) (FG AM (qH a) 0 Va (JX 20 20) (JS (qH a) (GQ (RP a)) (CN (UE a)) (CV (UE a)) (CI (UE a) (UP a)) (BU (UE a) (UP a)) (And eW (Jf 20 (Uf a))) (Bc (Uf a)) (λj=>Lo j (Uf a) (IR (Zh a) j) (UP a)))) ((@Exists One) (λj=>EV (KU (AS (Nx a) (iV a) (BO 20) (TY 0 20) (TY 20 (Xe 20 20)) (BK (RP a) (Zh a)) (BR (RP a) (stM (fH (UP a)) (Zh a))) (Qm a) (Nt a))) FW 0 0)) (AG (FG AM (qH a) 0 Va (iV a) (JS (qH a) (GQ (RP a)) (CN (UE a)) (CV (UE a)) (CI (UE a) (UP a)) (BU (UE a) (UP a)) (And eW (BC (IK a) (Uf a))) (Bc (Uf a)) (λj=>Lo j (Uf a) (IR (Zh a) j) (UP a)))) (NF (Ma AM (Nx a) (IK a) (FU (BO 20) (BK (RP a) (Zh a)) (λj=>IY j (RP a) (Qo a a) j (stM (fH (UP a)) (Zh a))) (Qm a) (Nt a)))) (Ac (λj=>MI FW (NL 20 (BH (IK a))) lZ (AQ (Nx a) (AE (λk=>Mw k (RP a) (Qo a a) k)) (Qm a) (Nt a)))))))):=by kernel_rfl
def dGLt:List AVal->Heap->Option (GL×List (Nat×Nat)×List Nat)
 |[.own id _ _ n,.fn (.func f) [] [.bptr c _]],H=>if f=Si then match H id,H c with
  | .live (.row _ m r),.live (.box [.d (.list _ k h _)])=>some (⟨VZ k λi=>gH (h i),VZ n λi=>LO (r i),0,0⟩,[(100,id),(101,c)],[])
  |_,_=>none else none
 |_,_=>none
def C_ss:Ctr:={ ro:=[101],α:=GL,xs:=λa=>[.own 100 1 0 a.l.length,fnW1],L:=λa=>[(100,rowI a.l),(101,bxG a.g)],val:=λ_=>.d (.tup []),keep:=λa=>glK a (stM (PX a.g) a.l),pre:=λa=>[a.l.length<20/\glOk a] }
def A_ss:Ann:={ ann 9 [(BHL,C_stb.spec dGLs)] with E:=[100,101] }
def V_ss(a:GL):Prop:=AX Try.prog A_ss BYR (AF BYR) (C_ss.xs a) (AC (C_ss.L a)) (C_ss.val a) (C_ss.keep a) [] []
theorem CSZ(a:GL):(V_ss a)=(FU (Ma AM (qH a) (IK a) (JS (qH a) (GQ (RP a)) (CN (UE a)) (CV (UE a)) (CI (UE a) (UP a)) (BU (UE a) (UP a)) (And (BC (IK a) (Uf a)) (BM (Uf a) 20)) (Bc (Uf a)) (λi=>Lo i (Uf a) (IR (Zh a) i) (UP a)))) (BK (RP a) (Zh a)) (λi=>IY i (RP a) (Qo a a) i (stM (fH (UP a)) (Zh a))) (Qm a) (Nt a)):=by kernel_rfl
theorem CLS:AH Try.prog Si (C_fw1.spec dGAB):=PU C_fw1 (λ_=>CGY) [] [] BAD (λ_=>by kernel_rfl) (λ_=>AA ARL AD) (λ(a:GAB) h=>by
 show CJP a;rw[CLY]<;> delta KA LX JZ AK kW AN AE BA BM BH DC ER MW BP GU yR fH AG AO AJ AR CM DW HY BF HB BW DF MM JG DK VT EA DG DT Ab MG BX TT dY Aq Bi;simp only[CC,CU]
 exact⟨h,rfl⟩) (λ_=>RR rfl rfl) _
theorem BJM{l:List Int}{j i:Nat}{x:Int}(hj:j<l.length):gD (l.set j x) i=bif decide (i=j) then x else gD l i:=by
 unfold gD
 rw[List.getD_eq_getElem?_getD,List.getD_eq_getElem?_getD,List.getElem?_set]
 by_cases h:i=j
 ·subst h;simp[hj]
 ·simp[h,Ne.symm h]
theorem ADT{l:List Int}{j i:Nat}(hj:j+1<l.length):gD (swL l j) i=bif decide (i=j) then gD l (j+1) else bif decide (i=j+1) then gD l j else gD l i:=by
 unfold swL
 rw[BJM (by simpa using hj),BJM (by omega)]
 by_cases h:i=j
 ·subst h;simp
 ·simp[h]
theorem AKC(l:List Int)(j:Nat):(swL l j).length=l.length:=by simp[swL]
theorem CRG(a:GL)(h:glOk a):CKM a:=by
 rw[CLU]<;> delta LI Wo UD KA LX JZ NL HU FA AK kW Xi AN FI AE BA BM IR BH CW DC ER NE TD KJ Nn FF MW HD NZ BP GU HS ZU fH RP YA cF UE Wg Ph Rq rK CS AG AP AI AO AJ AR KQ QG IV AS CM BB dD DW HY IF AAG BF HB BW DN DF MM JG DK BO GH VT HA AM AQ JH rS CL JK KD EI EA ML DG FB HT CI OT FP EV GI NQ BC GM AV DT RO Ab JA BK AU IY AL EW FV FJ MG DZ BE IA PK BZ KH EH LB BU HK IK BX HE CN CV SG TF EY TL Oo KU Qs UP TT TM Ly zR Mb dY Nq Nx Nt Qm Qo dP qJ iV pE sW wD Pw Lo;simp only[CC,CU]
 obtain⟨hlen,hin⟩:=h
 refine⟨⟨⟨1,a.l⟩,⟨by show (1:Int)=_;rw[ZW (by omega) (by omega)];rfl,λ_ _=>rfl⟩,Nat.one_pos,.inr rfl,⟨rfl,hin⟩,rfl⟩,λx ⟨x1,x2,⟨x3,x4⟩,x5⟩=>⟨λhlt=>⟨⟨⟨x.i,x.i,x.l⟩,⟨rfl,rfl,λ_ _=>rfl⟩,rfl,x1,Int.ofNat_lt.1 hlt,Nat.le_refl _,⟨x3,x4⟩,?_⟩,λy ⟨y1,y2,y3,y4,⟨y5,y6⟩,y7⟩=>?_⟩,λhge=>?_⟩⟩
 ·rw[x5,show a.l.length-x.i=(a.l.length-(x.i+1))+1 by omega];rfl
 ·refine⟨⟨λ_=>⟨by omega,by omega⟩,λ_=>by omega,λhj=>?_,λhj=>?_,λhj=>⟨y6 _ (by omega),?_⟩⟩,λhc=>?_,λhc=>?_⟩
  ·rw[ZW (by omega) (by omega)];omega
  ·rw[ZW (by omega) (by omega)];omega
  ·rw[ZW (by omega) (by omega)];exact y6 _ (by omega)
  ·have hj:0<y.j:=by
    cases hd:decide ((y.j:Int)>0) with
    |false=>rw[hd] at hc;cases hc
    |true=>have:=of_decide_eq_true hd;omega
   obtain⟨j,hj2⟩:∃j,y.j=j+1:=⟨y.j-1,by omega⟩
   have e:IntKind.i64.wrap ((y.j:Int)-1)=(j:Nat):=by rw[ZW (by omega) (by omega)];omega
   rw[decide_eq_true (show (y.j:Int)>0 by omega)] at hc
   have hc:decide (kJ (PX a.g (gD y.l y.j)) (PX a.g (gD y.l (IntKind.i64.wrap ((y.j:Int)-1)).toNat))<0)=true:=hc
   rw[e] at hc ⊢
   simp only[Int.toNat_natCast] at hc ⊢
   refine⟨⟨⟨by omega,by omega⟩,by omega,⟨by omega,by omega⟩,by omega,⟨by omega,by omega⟩,by omega,⟨by omega,by omega⟩,by omega⟩,⟨y.i,j,swL y.l j⟩,⟨rfl,rfl,λi hi=>?_⟩,⟨y1,y2,y3,by show j<=y.i;omega,⟨by rw[AKC];exact y5,λi hi=>?_⟩,?_⟩,by show j<_;omega⟩
   ·show gD (swL y.l j) i=_
    rw[ADT (by omega),hj2]
   ·show 0<=gD (swL y.l j) i/\gD (swL y.l j) i<_
    rw[ADT (by omega)]
    cases decide (i=j)
    ·cases decide (i=j+1)
     ·exact y6 i hi
     ·exact y6 j (by omega)
    ·exact y6 (j+1) (by omega)
   ·rw[hj2] at hc y7
    unfold M0 at y7
    rw[hc] at y7;exact y7
  ·have hq:M0 (PX a.g) y.j y.l=y.l:=by
    cases hd:decide ((y.j:Int)>0) with
    |false=>
     have:=of_decide_eq_false hd
     rw[show y.j=0 by omega];rfl
    |true=>
     have hj:=of_decide_eq_true hd
     obtain⟨j,hj2⟩:∃j,y.j=j+1:=⟨y.j-1,by omega⟩
     have e:IntKind.i64.wrap ((y.j:Int)-1)=(j:Nat):=by rw[ZW (by omega) (by omega)];omega
     rw[hd] at hc
     have hc:decide (kJ (PX a.g (gD y.l y.j)) (PX a.g (gD y.l (IntKind.i64.wrap ((y.j:Int)-1)).toNat))<0)=false:=hc
     rw[e,hj2] at hc
     simp only[Int.toNat_natCast] at hc
     rw[hj2];unfold M0;rw[hc];rfl
   rw[hq] at y7
   refine⟨⟨y.i+1,y.l⟩,⟨(GJ (by omega)).symm,λ_ _=>rfl⟩,⟨by show 0<y.i+1;omega,.inl (by show y.i+1<=_;omega),⟨y5,y6⟩,y7⟩,by show a.l.length-(y.i+1)<_;omega⟩
 ·intro i hi
  rw[x5,show a.l.length-x.i=0 by omega];rfl
theorem CPJ:AH Try.prog ATQ (C_ins.spec dGL):=okT C_ins (λ(a:GL) h=>by
 obtain⟨⟨ha,hb⟩,h⟩:(a.a=0/\a.b=a.l.length)/\glOk a:=h
 show FnT Try.prog ATQ [.own 100 1 0 a.l.length,.int a.a,.int a.b,fnW1] _ _ _
 rw[ha,hb]
 exact Ee (A:=CKO a) (L:=C_ins.L a) (keep:=C_ins.keep a) (ren:=[]) (fz:=[]) CCN (by kernel_rfl) (AA CLS AD) (CRG a h)) _
theorem CMC:AH Try.prog BHL (C_stb.spec dGLs):=okT C_stb (λ(a:GL) h=>by
 obtain⟨⟨ha,hb⟩,h⟩:(a.a=a.l.length/\a.l.length<20)/\glOk a:=h
 show FnT Try.prog BHL [.own 100 1 0 a.l.length,.int a.a,fnW1] _ _ _
 rw[ha]
 refine Ee (A:=CJL a) (L:=C_stb.L a) (keep:=C_stb.keep a) (ren:=[]) (fz:=[]) COL (by kernel_rfl) (AA CPJ AD) ?_
 show CKE a
 rw[CMP]<;> delta hd7 KA LX JZ NL FA AK AN FI AE BA BM IR BH DC ER Ff FF W2 lZ FW HD BP GU Ac tX fH RP UE AG AI AO AJ AR VY QG AS CM EL BB dD DW HY IF BF HB BW DF MM JG DK BO GH VT HA AM AQ JH JK KD EI ML DG HT CI OT EV NQ BC GM RO Ab Mw BK IY AL EW OV HZ MG DZ FG EF KH EH BR BU HK IK HF BX FU JS CN CV Uo JO MI JX HI Cr GQ Oo KU Xe UP NF TY Bc dY Zh Nx Uf Nt Qm Qo Jf Va iV eW Ma qH Lo;simp only[CC,CU]
 exact⟨⟨default,trivial⟩,λhc=>by omega,λ_=>⟨⟨rfl,rfl,h⟩,⟨default,trivial⟩,λhc=>by omega⟩⟩) _
theorem CQO:AH Try.prog BON (C_ss.spec dGLt):=PU C_ss (λ_=>A_ss) [] [] CON (λ_=>by kernel_rfl) (λ_=>AA CMC AD) (λ(a:GL) h=>by
 show V_ss a;rw[CSZ]<;> delta KA LX JZ AK AN FI AE BA BM IR BH DC ER Ff BP GU fH RP UE AG AI AO AJ AR VY QG AS CM EL BB DW HY IF BF HB BW DF MM JG DK GH VT HA AM JH JK KD ML DG CI OT NQ BC GM RO Ab BK IY HZ MG DZ KH EH BR BU IK HF BX FU JS CN CV JO HI GQ Oo UP Bc dY Zh Uf Nt Qm Qo Ma qH Lo;simp only[CC,CU]
 exact h) (λ_=>RR rfl rfl) _
end Go.Bal
