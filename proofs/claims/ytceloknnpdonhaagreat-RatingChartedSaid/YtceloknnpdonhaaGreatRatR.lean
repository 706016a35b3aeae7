/- Package rating: the order of gaugings. -/
import Derived.Test.YtceloknnpdonhaaGreatRatP
set_option linter.unusedVariables false
set_option linter.unusedSimpArgs false
namespace Go.Bal
open Go Go.Sym Go.Proofs
structure GAB where
 g:List Gau
 a:Int
 b:Int
def SQ(g:List Gau)(x:Int):Int:=(gD g x.toNat).st
def bxG(g:List Gau):AObj:=.box [.d (KZ g)]
def dGAB:List AVal->Heap->Option (GAB×List (Nat×Nat)×List Nat)
 |[.d x,.d y,.bptr id _],H=>match H id with
  | .live (.box [.d (.list _ n h _)])=>some (⟨KA n λi=>qG (h i),EO x,EO y⟩,[(100,id)],[])
  |_=>none
 |_,_=>none
def C_fw1:Ctr:={ ro:=[100],α:=GAB,xs:=λa=>[.int a.a,.int a.b,.bptr 100 0],L:=λa=>[(100,bxG a.g)],val:=λa=>.int (wB (SQ a.g a.a) (SQ a.g a.b)),keep:=λa=>[(100,.live (bxG a.g))],pre:=λa=>[(0<=a.a/\a.a<a.g.length)/\0<=a.b/\a.b<a.g.length] }
def DOB:Ann:={ ann 17 [(AQE,BKP)] with E:=[100] }
def DKT(a:GAB):Prop:=BG Try.prog DOB BGL (AL BGL) (C_fw1.xs a) (AF (C_fw1.L a)) (C_fw1.val a) (C_fw1.keep a) [] []
abbrev AOI:=GAB.g
abbrev lH:=SQ
attribute [go_sem] AOI lH
theorem DOU(a:GAB):(DKT a)=(HG (VR (GAB.a a) (AOI a)) (BC (GAB.b a)) (nD (GAB.b a) (AOI a)) (Ff (Gm (lH (AOI a) (GAB.a a)) (lH (AOI a) (GAB.b a))) (Gm (Ck (AOI a) (GAB.a a)) (Ck (AOI a) (GAB.b a))) (AOI a) (BR (AOI a)))):=by kernel_rfl
def rowI(l:List Int):AObj:=.row 1 l.length λi=>JS (gD l i)
def DUI(n:Nat)(l:List Int):AObj:=.row 1 n λi=>JS (gD l i)
def swL(l:List Int)(j:Nat):List Int:=(l.set j (gD l (j+1))).set (j+1) (gD l j)
def insJ(key:Int->Int):Nat->List Int->List Int
 |0,l=>l
 |j+1,l=>bif decide (wB (key (gD l (j+1))) (key (gD l j))<0) then insJ key j (swL l j) else l
def stR(key:Int->Int):Nat->Nat->List Int->List Int
 |0,_,l=>l
 |n+1,i,l=>stR key n (i+1) (insJ key i l)
def stM(key:Int->Int)(l:List Int):List Int:=stR key (l.length-1) 1 l
structure GL where
 g:List Gau
 l:List Int
 a:Int
 b:Int
structure IL2 where
 i:Nat
 l:List Int
 deriving Inhabited
structure IJL where
 i:Nat
 j:Nat
 l:List Int
 deriving Inhabited
def fnW1:AVal:=.fn (.func cW) [] [.bptr 101 0]
def glK(a:GL)(l:List Int):List (Nat×HCell):=[(100,.live (DUI a.l.length l)),(101,.live (bxG a.g))]
def glIn(a:GL)(l:List Int):Prop:=l.length=a.l.length/\∀i,i<a.l.length->0<=gD l i/\gD l i<a.g.length
def glOk(a:GL):Prop:=a.l.length<1073741824/\∀i,i<a.l.length->0<=gD a.l i/\gD a.l i<a.g.length
def dGL:List AVal->Heap->Option (GL×List (Nat×Nat)×List Nat)
 |[.own id _ _ n,.d x,.d y,.fn (.func f) [] [.bptr c _]],H=>if f=cW then match H id,H c with
  | .live (.row _ m r),.live (.box [.d (.list _ k h _)])=>some (⟨KA k λi=>qG (h i),KA n λi=>EO (r i),EO x,EO y⟩,[(100,id),(101,c)],[])
  |_,_=>none else none
 |_,_=>none
def C_ins:Ctr:={ ro:=[101],α:=GL,xs:=λa=>[.own 100 1 0 a.l.length,.int a.a,.int a.b,fnW1],L:=λa=>[(100,rowI a.l),(101,bxG a.g)],val:=λ_=>.d (.tup []),keep:=λa=>glK a (stM (SQ a.g) a.l),pre:=λa=>[(a.a=0/\a.b=a.l.length)/\glOk a] }
def ins1(a:GL):Shape:={ α:=IL2,dflt:=default,T:=λx=>⟨[(0,.own 100 1 0 a.l.length),(1,.int 0),(2,.int a.l.length),(3,fnW1),(8,.int x.i)],glK a x.l⟩,inv:=λx=>1<=x.i/\(x.i<=a.l.length∨x.i=1)/\glIn a x.l/\stM (SQ a.g) a.l=stR (SQ a.g) (a.l.length-x.i) x.i x.l,meas:=λx=>a.l.length-x.i }
def ins4(a:GL)(m:Nat):Shape:={ α:=IJL,dflt:=default,T:=λx=>⟨[(0,.own 100 1 0 a.l.length),(1,.int 0),(2,.int a.l.length),(3,fnW1),(8,.int x.i),(9,.int x.j)],glK a x.l⟩,inv:=λx=>a.l.length-x.i=m/\1<=x.i/\x.i<a.l.length/\x.j<=x.i/\glIn a x.l/\stM (SQ a.g) a.l=stR (SQ a.g) (a.l.length-(x.i+1)) (x.i+1) (insJ (SQ a.g) x.j x.l),meas:=λx=>x.j }
def DOO(a:GL):Ann:={ ann 53 [(cW,C_fw1.spec dGAB)] with E:=[100,101],loops:=λid=>if id=1 then some [ins1 a] else none,inner:=λgs id=>if id=4 then some [ins4 a (gs.getD 0 0)] else none }
def DLG(a:GL):Prop:=BG Try.prog (DOO a) CIJ (AL CIJ) [.own 100 1 0 a.l.length,.int 0,.int a.l.length,fnW1] (AF (C_ins.L a)) (C_ins.val a) (C_ins.keep a) [] []
abbrev By:=GL.l
abbrev Dj:=IL2.i
abbrev nZ:=IL2.l
abbrev YG:=GL.g
abbrev yI:=@Eq (List Int)
abbrev Vs:=IJL.i
abbrev eU:=IJL.j
abbrev X1:=IJL.l
abbrev Wk a:=BR (YG a)
abbrev Xi a:=BY (YG a)
abbrev Xr a:=lH (YG a)
abbrev Xd a b:=stM (Xr a) (By b)
abbrev Kx a:=GU (By a)
abbrev Bd a:=BN (By a)
abbrev Vm a b:=IS (Bd a) b
abbrev Qt a b c d:=BZ a b (BC c) (nD c d)
abbrev Mn a b:=AW a (By b)
abbrev vJ a:=RL (By a)
abbrev AKW a:=JF (Vs a)
abbrev Qx a b:=BJ (X1 a) b
abbrev AFW a:=AU (eU a)
abbrev nS a:=Ej (FA (AFW a))
abbrev P5 a:=BP (eU a)
abbrev Ld a:=ER (By a)
abbrev YL a:=BU (YG a)
abbrev ADZ a:=Gb (AFW a)
attribute [go_sem] By Dj nZ YG yI Vs eU X1 Wk Xi Xr Xd Kx Bd Vm Qt Mn vJ AKW Qx AFW nS P5 Ld YL ADZ
theorem DRB(a:GL):(DLG a)=(And ((@Exists IL2) (λi=>AJ (AP AQ (Kx a) CL (vJ a) (GV (Dj i) (ED 0)) (Kx a) (AK (λj=>KC j (By a) (nZ i) j (By a) j)) (Xi a) (Wk a)) (FW (Dj i)) (Or (EA (Dj i) (Bd a)) (LD (Dj i))) (FK (Mn (nZ i) a) (λj=>Qt j (Bd a) (BJ (nZ i) j) (YG a))) (yI (Xd a a) (stR (Xr a) (Vm a (Dj i)) (Dj i) (nZ i))))) ((λ(f:IL2->Prop)=>∀(x:IL2),f x) (λi=>CX (AY (FW (Dj i)) (Or (EA (Dj i) (Bd a)) (LD (Dj i))) (FK (Mn (nZ i) a) (λj=>Qt j (Bd a) (BJ (nZ i) j) (YG a))) (yI (Xd a a) (stR (Xr a) (Vm a (Dj i)) (Dj i) (nZ i)))) (Dj i) (Ld a) (And ((@Exists IJL) (λj=>FT (ZH (AP (Kx a) CL (vJ a) (CN (Vs j) (Dj i)) (CN (eU j) (Dj i)) (Kx a) (AK (λk=>KC k (By a) (X1 j) k (nZ i) k)) (Xi a) (Wk a))) (AR (Vm a (Vs j)) (Vm a (Dj i))) (FW (Vs j)) (CI (Vs j) (Bd a)) (EA (eU j) (Vs j)) (FK (Mn (X1 j) a) (λk=>Qt k (Bd a) (Qx j k) (YG a))) (yI (Xd a a) (stR (Xr a) (Vm a (AKW j)) (AKW j) (insJ (Xr a) (eU j) (X1 j)))))) ((λ(f:IJL->Prop)=>∀(x:IJL),f x) (λj=>BO (BB (AR (Vm a (Vs j)) (Vm a (Dj i))) (FW (Vs j)) (CI (Vs j) (Bd a)) (EA (eU j) (Vs j)) (FK (Mn (X1 j) a) (λk=>Qt k (Bd a) (Qx j k) (YG a))) (yI (Xd a a) (stR (Xr a) (Vm a (AKW j)) (AKW j) (insJ (Xr a) (eU j) (X1 j))))) (BF (AJ (GC (ADZ j) (ES (eU j) (Ld a))) (GC (ADZ j) (KO (P5 j) (Bd a))) (GC (ADZ j) (CE (FA (AFW j)) (Ld a))) (GC (ADZ j) (KO (nS j) (Bd a))) (GC (ADZ j) (AP (AI (Qx j (P5 j))) (AI (Qx j (nS j))) (CY (YG a)) (DD (YG a)) (CG (YG a) (YL a)) (AT (YG a) (YL a)) (VR (Qx j (P5 j)) (YL a)) (BC (Qx j (nS j))) (nD (Qx j (nS j)) (YL a))))) (HJ (ADZ j) (Ga (Gm (lH (YL a) (Qx j (P5 j))) (lH (YL a) (Qx j (nS j)))))) (And (AY (CE (FA (AFW j)) (Ld a)) (CI (nS j) (Bd a)) (ES (eU j) (Ld a)) (pE (CI (P5 j) (Bd a)) (ES (eU j) (Ld a)) (CE (FA (AFW j)) (Ld a)) (KO (nS j) (Bd a)))) ((@Exists IJL) (λk=>CK (ZH (AP (Kx a) CL (vJ a) (CN (Vs k) (Vs j)) (GV (eU k) (FA (AFW j))) (Kx a) (AK (λl=>IA l (By a) (X1 k) l (RX l (nS j) (Qx j (P5 j)) (RX l (P5 j) (Qx j (nS j)) (Qx j l))))) (Xi a) (Wk a))) (BB (AR (Vm a (Vs k)) (Vm a (Dj i))) (FW (Vs k)) (CI (Vs k) (Bd a)) (EA (eU k) (Vs k)) (FK (Mn (X1 k) a) (λl=>Qt l (Bd a) (Qx k l) (YG a))) (yI (Xd a a) (stR (Xr a) (Vm a (AKW k)) (AKW k) (insJ (Xr a) (eU k) (X1 k))))) (eU k) (eU j)))) ((@Exists IL2) (λk=>HR (AP AQ (Kx a) CL (vJ a) (AV (Dj k) (Vs j)) (Kx a) (AK (λl=>KC l (By a) (nZ k) l (X1 j) l)) (Xi a) (Wk a)) (AY (FW (Dj k)) (Or (EA (Dj k) (Bd a)) (LD (Dj k))) (FK (Mn (nZ k) a) (λl=>Qt l (Bd a) (BJ (nZ k) l) (YG a))) (yI (Xd a a) (stR (Xr a) (Vm a (Dj k)) (Dj k) (nZ k)))) (Bd a) (Dj k) (Dj i))))))) (AY (Kx a) (AK (λj=>KC j (By a) (Xd a a) j (nZ i) j)) (Xi a) (Wk a))))):=by kernel_rfl
def dGLs:List AVal->Heap->Option (GL×List (Nat×Nat)×List Nat)
 |[.own id _ _ n,.d x,.fn (.func f) [] [.bptr c _]],H=>if f=cW then match H id,H c with
  | .live (.row _ m r),.live (.box [.d (.list _ k h _)])=>some (⟨KA k λi=>qG (h i),KA n λi=>EO (r i),EO x,0⟩,[(100,id),(101,c)],[])
  |_,_=>none else none
 |_,_=>none
def C_stb:Ctr:={ ro:=[101],α:=GL,xs:=λa=>[.own 100 1 0 a.l.length,.int a.a,fnW1],L:=λa=>[(100,rowI a.l),(101,bxG a.g)],val:=λ_=>.d (.tup []),keep:=λa=>glK a (stM (SQ a.g) a.l),pre:=λa=>[(a.a=a.l.length/\a.l.length<20)/\glOk a] }
def sb(a:GL)(l:List Int)(r:List (Nat×AVal)):Shape:={ α:=One,dflt:=default,T:=λ_=>⟨[(0,.own 100 1 0 a.l.length),(1,.int a.l.length),(2,fnW1),(6,.int 20)] ++ r,glK a l⟩,inv:=λ_=>True,meas:=λ_=>0 }
def DKU(a:GL):Ann:={ ann 63 [(CCL,C_ins.spec dGL)] with E:=[100,101],loops:=λid=>if id=2 then some [sb a a.l [(7,.int 0),(8,.int 20)]] else if id=7 then some [sb a (stM (SQ a.g) a.l) []] else none }
def DME(a:GL):Prop:=BG Try.prog (DKU a) CZZ (AL CZZ) [.own 100 1 0 a.l.length,.int a.l.length,fnW1] (AF (C_stb.L a)) (C_stb.val a) (C_stb.keep a) [] []
abbrev OF a:=DG (By a)
attribute [go_sem] OF
theorem DSU(a:GL):(DME a)=(And (ZY (λi=>NO AQ (AP (Kx a) (vJ a) (AI (UH 20)) CL (AI (UH 20)) (Kx a) (GI (By a)) (Xi a) (Wk a)) FI)) (Ip (λi=>EC FI (hd7 20 (Ld a)) (And (AJ AQ (Mn (OF a) a) (Ev 0) (PI 20 20) (DC (Mn (OF a) a) (AS (OF a) (By a)) (CY (YG a)) (DD (YG a)) (CG (YG a) (YL a)) (AT (YG a) (YL a)) (Ax 0 FU (AO 20 (ER (OF a)))) (Hb (OF a)) (λj=>Qt j (BN (OF a)) (BJ (OF a) j) (YL a)))) (ZY (λj=>CK (ZH (AP (Kx a) (vJ a) (AI (UH 20)) (PI FU 20) (PI (UH 20) ((@HMod.hMod Nat Nat Nat (@instHMod Nat Nat.instMod)) (SG 20 20) (AOT (BVK 2 (IntKind.bits NE))))) (AW (By a) (OF a)) (AS (By a) (stM (lH (YL a)) (OF a))) (Xi a) (Wk a))) FI 0 0))) (AH (AJ AQ (Mn (OF a) a) (Ev 0) (vJ a) (DC (Mn (OF a) a) (AS (OF a) (By a)) (CY (YG a)) (DD (YG a)) (CG (YG a) (YL a)) (AT (YG a) (YL a)) (Ax 0 FU (AO (Ld a) (ER (OF a)))) (Hb (OF a)) (λj=>Qt j (BN (OF a)) (BJ (OF a) j) (YL a)))) (Kl (EP AQ (Kx a) (Ld a) (GP (UH 20) (AW (By a) (OF a)) (AK (λj=>KC j (By a) (Xd a a) j (stM (lH (YL a)) (OF a)) j)) (Xi a) (Wk a))) FI) (Ip (λj=>FF FI 20 (Ld a) PS (AY (Kx a) (AK (λk=>Mm k (By a) (Xd a a) k)) (Xi a) (Wk a)))))))):=by kernel_rfl
def dGLt:List AVal->Heap->Option (GL×List (Nat×Nat)×List Nat)
 |[.own id _ _ n,.fn (.func f) [] [.bptr c _]],H=>if f=cW then match H id,H c with
  | .live (.row _ m r),.live (.box [.d (.list _ k h _)])=>some (⟨KA k λi=>qG (h i),KA n λi=>EO (r i),0,0⟩,[(100,id),(101,c)],[])
  |_,_=>none else none
 |_,_=>none
def C_ss:Ctr:={ ro:=[101],α:=GL,xs:=λa=>[.own 100 1 0 a.l.length,fnW1],L:=λa=>[(100,rowI a.l),(101,bxG a.g)],val:=λ_=>.d (.tup []),keep:=λa=>glK a (stM (SQ a.g) a.l),pre:=λa=>[a.l.length<20/\glOk a] }
def A_ss:Ann:={ ann 9 [(CMN,C_stb.spec dGLs)] with E:=[100,101] }
def V_ss(a:GL):Prop:=BG Try.prog A_ss CVF (AL CVF) (C_ss.xs a) (AF (C_ss.L a)) (C_ss.val a) (C_ss.keep a) [] []
theorem DYA(a:GL):(V_ss a)=(ZC (EP AQ (Mn (OF a) a) (Ld a) (DC (Mn (OF a) a) (AS (OF a) (By a)) (CY (YG a)) (DD (YG a)) (CG (YG a) (YL a)) (AT (YG a) (YL a)) (Ax (Ld a) (ER (OF a)) (CI (BN (OF a)) 20)) (Hb (OF a)) (λi=>Qt i (BN (OF a)) (BJ (OF a) i) (YL a)))) (AW (By a) (OF a)) (λi=>KC i (By a) (Xd a a) i (stM (lH (YL a)) (OF a)) i) (Xi a) (Wk a)):=by kernel_rfl
theorem DRI:AM Try.prog cW (C_fw1.spec dGAB):=WY C_fw1 (λ_=>DOB) [] [] CJD (λ_=>by kernel_rfl) (λ_=>AB BXK AG) (λ(a:GAB) h=>by
 show DKT a;rw[DOU]<;> delta AR AK BO CI AO AU DJ DX FZ EY GW Gm CW FX AOI lH AH AZ AI BI DI DY BC DZ DN GQ HE EU QL UW BY HV CE OH HO BR HG VR Ck nD Ff;simp only[CC,eq_self,implies_true,forall_const]
 exact⟨h,rfl⟩) (λ_=>YE rfl rfl) _
theorem CPM{l:List Int}{j i:Nat}{x:Int}(hj:j<l.length):gD (l.set j x) i=bif decide (i=j) then x else gD l i:=by
 unfold gD
 rw[List.getD_eq_getElem?_getD,List.getD_eq_getElem?_getD,List.getElem?_set]
 by_cases h:i=j
 ·subst h;simp[hj]
 ·simp[h,Ne.symm h]
theorem BTX{l:List Int}{j i:Nat}(hj:j+1<l.length):gD (swL l j) i=bif decide (i=j) then gD l (j+1) else bif decide (i=j+1) then gD l j else gD l i:=by
 unfold swL
 rw[CPM (by simpa using hj),CPM (by omega)]
 by_cases h:i=j
 ·subst h;simp
 ·simp[h]
theorem BRV(l:List Int)(j:Nat):(swL l j).length=l.length:=by simp[swL]
theorem DVX(a:GL)(h:glOk a):DLG a:=by
 rw[DRB]<;> delta JB hd5 Oz NE Kq AR AK BO CI AO AU UH EA DV JD DJ DX OP IS QJ Pp FZ SG QT Pg BN BJ jJ EY GW Gm CW FX lH By Dj nZ YG yI Vs eU X1 AH NX NY AJ AZ EV AI BU BI pE DK AP DI DY LI BZ ED BC DZ EZ DN GQ JA JF HE ER ID HC EU AW QL HY AQ BP GY HL UW GU AY CG GV IA BY BB CK HV KC FK DR CE GH OH EC AV BF ES FU FA Ej GC FF GM HO FW JO BR CN CR CX HJ NT AT CL DD CY HR Bd LD KO RL FT Xr AFW YL RX VR Qx Kx Ld Gb nD Mn ZH Vm Wk Xi nS Xd Ga vJ P5 Qt ADZ AKW;simp only[CC,eq_self,implies_true,forall_const]
 obtain⟨hlen,hin⟩:=h
 refine⟨⟨⟨1,a.l⟩,⟨by show (1:Int)=_;rw[JC (by omega) (by omega)];rfl,λ_ _=>rfl⟩,Nat.one_pos,.inr rfl,⟨rfl,hin⟩,rfl⟩,λx ⟨x1,x2,⟨x3,x4⟩,x5⟩=>⟨λhlt=>⟨⟨⟨x.i,x.i,x.l⟩,⟨rfl,rfl,λ_ _=>rfl⟩,rfl,x1,Int.ofNat_lt.1 hlt,Nat.le_refl _,⟨x3,x4⟩,?_⟩,λy ⟨y1,y2,y3,y4,⟨y5,y6⟩,y7⟩=>?_⟩,λhge=>?_⟩⟩
 ·rw[x5,show a.l.length-x.i=(a.l.length-(x.i+1))+1 by omega];rfl
 ·refine⟨⟨λ_=>⟨by omega,by omega⟩,λ_=>by omega,λhj=>?_,λhj=>?_,λhj=>⟨y6 _ (by omega),?_⟩⟩,λhc=>?_,λhc=>?_⟩
  ·rw[JC (by omega) (by omega)];omega
  ·rw[JC (by omega) (by omega)];omega
  ·rw[JC (by omega) (by omega)];exact y6 _ (by omega)
  ·have hj:0<y.j:=by
    cases hd:decide ((y.j:Int)>0) with
    |false=>rw[hd] at hc;cases hc
    |true=>have:=of_decide_eq_true hd;omega
   obtain⟨j,hj2⟩:∃j,y.j=j+1:=⟨y.j-1,by omega⟩
   have e:IntKind.i64.wrap ((y.j:Int)-1)=(j:Nat):=by rw[JC (by omega) (by omega)];omega
   rw[decide_eq_true (show (y.j:Int)>0 by omega)] at hc
   have hc:decide (wB (SQ a.g (gD y.l y.j)) (SQ a.g (gD y.l (IntKind.i64.wrap ((y.j:Int)-1)).toNat))<0)=true:=hc
   rw[e] at hc ⊢
   simp only[Int.toNat_natCast] at hc ⊢
   refine⟨⟨⟨by omega,by omega⟩,by omega,⟨by omega,by omega⟩,by omega,⟨by omega,by omega⟩,by omega,⟨by omega,by omega⟩,by omega⟩,⟨y.i,j,swL y.l j⟩,⟨rfl,rfl,λi hi=>?_⟩,⟨y1,y2,y3,by show j<=y.i;omega,⟨by rw[BRV];exact y5,λi hi=>?_⟩,?_⟩,by show j<_;omega⟩
   ·show gD (swL y.l j) i=_
    rw[BTX (by omega),hj2]
   ·show 0<=gD (swL y.l j) i/\gD (swL y.l j) i<_
    rw[BTX (by omega)]
    cases decide (i=j)
    ·cases decide (i=j+1)
     ·exact y6 i hi
     ·exact y6 j (by omega)
    ·exact y6 (j+1) (by omega)
   ·rw[hj2] at hc y7
    unfold insJ at y7
    rw[hc] at y7;exact y7
  ·have hq:insJ (SQ a.g) y.j y.l=y.l:=by
    cases hd:decide ((y.j:Int)>0) with
    |false=>
     have:=of_decide_eq_false hd
     rw[show y.j=0 by omega];rfl
    |true=>
     have hj:=of_decide_eq_true hd
     obtain⟨j,hj2⟩:∃j,y.j=j+1:=⟨y.j-1,by omega⟩
     have e:IntKind.i64.wrap ((y.j:Int)-1)=(j:Nat):=by rw[JC (by omega) (by omega)];omega
     rw[hd] at hc
     have hc:decide (wB (SQ a.g (gD y.l y.j)) (SQ a.g (gD y.l (IntKind.i64.wrap ((y.j:Int)-1)).toNat))<0)=false:=hc
     rw[e,hj2] at hc
     simp only[Int.toNat_natCast] at hc
     rw[hj2];unfold insJ;rw[hc];rfl
   rw[hq] at y7
   refine⟨⟨y.i+1,y.l⟩,⟨(FN (by omega)).symm,λ_ _=>rfl⟩,⟨by show 0<y.i+1;omega,.inl (by show y.i+1<=_;omega),⟨y5,y6⟩,y7⟩,by show a.l.length-(y.i+1)<_;omega⟩
 ·intro i hi
  rw[x5,show a.l.length-x.i=0 by omega];rfl
theorem DPV:AM Try.prog CCL (C_ins.spec dGL):=okT C_ins (λ(a:GL) h=>by
 obtain⟨⟨ha,hb⟩,h⟩:(a.a=0/\a.b=a.l.length)/\glOk a:=h
 show FnT Try.prog CCL [.own 100 1 0 a.l.length,.int a.a,.int a.b,fnW1] _ _ _
 rw[ha,hb]
 exact Mj (A:=DOO a) (L:=C_ins.L a) (keep:=C_ins.keep a) (ren:=[]) (fz:=[]) DKO (by kernel_rfl) (AB DRI AG) (DVX a h)) _
theorem DQD:AM Try.prog CMN (C_stb.spec dGLs):=okT C_stb (λ(a:GL) h=>by
 obtain⟨⟨ha,hb⟩,h⟩:(a.a=a.l.length/\a.l.length<20)/\glOk a:=h
 show FnT Try.prog CMN [.own 100 1 0 a.l.length,.int a.a,fnW1] _ _ _
 rw[ha]
 refine Mj (A:=DKU a) (L:=C_stb.L a) (keep:=C_stb.keep a) (ren:=[]) (fz:=[]) DRD (by kernel_rfl) (AB DPV AG) ?_
 show DME a
 rw[DSU]<;> delta hd7 NE AR AK BO CI AO AU UH DV JD DJ DX FI SG PS BN BJ JN ZY Ip BVK EY GW AOT CW FX lH By YG AH LY NX LX NY AJ AZ AI DG BU BI AP DI DY BZ BC DZ EZ DN GQ JA HE ER ID HC AW QL HY AQ HL UW GU AY CG IA Gk BY CK HV KC FG EN GH OH Mm EC AS FU FF MC GM HO BR GI CR GP AT DC CL OF EP DD CY Cs PI RL Ax Xr NO YL Kx Ld Ev nD Mn Hb ZH Wk Xi Kl Xd vJ Qt;simp only[CC,eq_self,implies_true,forall_const]
 exact⟨⟨default,trivial⟩,λhc=>by omega,λ_=>⟨⟨rfl,rfl,h⟩,⟨default,trivial⟩,λhc=>by omega⟩⟩) _
theorem DVI:AM Try.prog DDW (C_ss.spec dGLt):=WY C_ss (λ_=>A_ss) [] [] DPJ (λ_=>by kernel_rfl) (λ_=>AB DQD AG) (λ(a:GL) h=>by
 show V_ss a;rw[DYA]<;> delta AR AK BO CI AO AU DJ DX BN BJ JN EY GW CW FX lH By YG AH LY NX LX NY AJ AZ AI DG BU BI AP DI DY BZ BC DZ EZ DN GQ JA HE ER ID HC AW QL HY AQ HL UW CG IA BY HV KC FG EN GH OH AS GM HO BR CR AT DC OF EP DD CY Cs Ax Xr YL Ld nD Mn Hb Wk Xi ZC Xd Qt;simp only[CC,eq_self,implies_true,forall_const]
 exact h) (λ_=>YE rfl rfl) _
end Go.Bal
