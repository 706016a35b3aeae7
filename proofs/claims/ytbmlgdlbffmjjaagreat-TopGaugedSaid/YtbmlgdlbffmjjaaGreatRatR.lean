/- Package rating: the order of gaugings. -/
import Derived.Test.YtbmlgdlbffmjjaaGreatRatK
set_option linter.unusedVariables false
set_option linter.unusedSimpArgs false
namespace Go.Bal
open Go Go.Sym Go.Proofs
structure GAB where
 g:List Gau
 a:Int
 b:Int
def QF(g:List Gau)(x:Int):Int:=(gD g x.toNat).st
def bxG(g:List Gau):AObj:=.box [.d (KD g)]
def dGAB:List AVal->Heap->Option (GAB×List (Nat×Nat)×List Nat)
 |[.d x,.d y,.bptr id _],H=>match H id with
  | .live (.box [.d (.list _ n h _)])=>some (⟨WA n λi=>gJ (h i),LR x,LR y⟩,[(100,id)],[])
  |_=>none
 |_,_=>none
def C_fw1:Ctr:={ ro:=[100],α:=GAB,xs:=λa=>[.int a.a,.int a.b,.bptr 100 0],L:=λa=>[(100,bxG a.g)],val:=λa=>.int (kW (QF a.g a.a) (QF a.g a.b)),keep:=λa=>[(100,.live (bxG a.g))],pre:=λa=>[(0<=a.a/\a.a<a.g.length)/\0<=a.b/\a.b<a.g.length] }
def CJL:Ann:={ ann 17 [(A5,U8)] with E:=[100] }
def CJT(a:GAB):Prop:=AX Try.prog CJL P0 (AF P0) (C_fw1.xs a) (AC (C_fw1.L a)) (C_fw1.val a) (C_fw1.keep a) [] []
abbrev yD:=GAB.g
abbrev fJ:=QF
attribute [go_sem] yD fJ
theorem CLL(a:GAB):(CJT a)=(And (Br (TF (GAB.a a) (yD a)) (GAB.b a) (dI (GAB.b a) (yD a))) (HC (lO (fJ (yD a) (GAB.a a)) (fJ (yD a) (GAB.b a))) (lO (Bq (yD a) (GAB.a a)) (Bq (yD a) (GAB.b a))) (BW (yD a)) (BX (yD a)))):=by kernel_rfl
def rowI(l:List Int):AObj:=.row 1 l.length λi=>ES (gD l i)
def CQH(n:Nat)(l:List Int):AObj:=.row 1 n λi=>ES (gD l i)
def swL(l:List Int)(j:Nat):List Int:=(l.set j (gD l (j+1))).set (j+1) (gD l j)
def E6(key:Int->Int):Nat->List Int->List Int
 |0,l=>l
 |j+1,l=>bif decide (kW (key (gD l (j+1))) (key (gD l j))<0) then E6 key j (swL l j) else l
def stR(key:Int->Int):Nat->Nat->List Int->List Int
 |0,_,l=>l
 |n+1,i,l=>stR key n (i+1) (E6 key i l)
def stM(key:Int->Int)(l:List Int):List Int:=stR key (l.length-1) 1 l
structure GL where
 g:List Gau
 l:List Int
 a:Int
 b:Int
structure IL2 where
 i:Nat
 l:List Int
 deriving Inhabited
structure IJL where
 i:Nat
 j:Nat
 l:List Int
 deriving Inhabited
def fnW1:AVal:=.fn (.func Sk) [] [.bptr 101 0]
def glK(a:GL)(l:List Int):List (Nat×HCell):=[(100,.live (CQH a.l.length l)),(101,.live (bxG a.g))]
def glIn(a:GL)(l:List Int):Prop:=l.length=a.l.length/\∀i,i<a.l.length->0<=gD l i/\gD l i<a.g.length
def glOk(a:GL):Prop:=a.l.length<1073741824/\∀i,i<a.l.length->0<=gD a.l i/\gD a.l i<a.g.length
def dGL:List AVal->Heap->Option (GL×List (Nat×Nat)×List Nat)
 |[.own id _ _ n,.d x,.d y,.fn (.func f) [] [.bptr c _]],H=>if f=Sk then match H id,H c with
  | .live (.row _ m r),.live (.box [.d (.list _ k h _)])=>some (⟨WA k λi=>gJ (h i),WA n λi=>LR (r i),LR x,LR y⟩,[(100,id),(101,c)],[])
  |_,_=>none else none
 |_,_=>none
def C_ins:Ctr:={ ro:=[101],α:=GL,xs:=λa=>[.own 100 1 0 a.l.length,.int a.a,.int a.b,fnW1],L:=λa=>[(100,rowI a.l),(101,bxG a.g)],val:=λ_=>.d (.tup []),keep:=λa=>glK a (stM (QF a.g) a.l),pre:=λa=>[(a.a=0/\a.b=a.l.length)/\glOk a] }
def ins1(a:GL):Shape:={ α:=IL2,dflt:=default,T:=λx=>⟨[(0,.own 100 1 0 a.l.length),(1,.int 0),(2,.int a.l.length),(3,fnW1),(8,.int x.i)],glK a x.l⟩,inv:=λx=>1<=x.i/\(x.i<=a.l.length∨x.i=1)/\glIn a x.l/\stM (QF a.g) a.l=stR (QF a.g) (a.l.length-x.i) x.i x.l,meas:=λx=>a.l.length-x.i }
def ins4(a:GL)(m:Nat):Shape:={ α:=IJL,dflt:=default,T:=λx=>⟨[(0,.own 100 1 0 a.l.length),(1,.int 0),(2,.int a.l.length),(3,fnW1),(8,.int x.i),(9,.int x.j)],glK a x.l⟩,inv:=λx=>a.l.length-x.i=m/\1<=x.i/\x.i<a.l.length/\x.j<=x.i/\glIn a x.l/\stM (QF a.g) a.l=stR (QF a.g) (a.l.length-(x.i+1)) (x.i+1) (E6 (QF a.g) x.j x.l),meas:=λx=>x.j }
def CIQ(a:GL):Ann:={ ann 53 [(Sk,C_fw1.spec dGAB)] with E:=[100,101],loops:=λid=>if id=1 then some [ins1 a] else none,inner:=λgs id=>if id=4 then some [ins4 a (gs.getD 0 0)] else none }
def CIK(a:GL):Prop:=AX Try.prog (CIQ a) BEH (AF BEH) [.own 100 1 0 a.l.length,.int 0,.int a.l.length,fnW1] (AC (C_ins.L a)) (C_ins.val a) (C_ins.keep a) [] []
abbrev RO:=GL.l
abbrev YC:=IL2.i
abbrev eU:=IL2.l
abbrev UE:=GL.g
abbrev Wl:=@Eq (List Int)
abbrev Pm:=IJL.i
abbrev Rs:=IJL.j
abbrev rT:=IJL.l
abbrev Nv a:=BX (UE a)
abbrev Qm a:=BW (UE a)
abbrev Pa a:=fJ (UE a)
abbrev Pk a b:=stM (Pa a) (RO b)
abbrev Qe a:=HS (RO a)
abbrev II a:=FI (RO a)
abbrev Pw a b:=KE (II a) b
abbrev Lp a b c d:=IG a b (BG c) (dI c d)
abbrev jG a:=EJ (II a)
abbrev tN a:=CL (Pm a)
abbrev Lc a b:=IQ (rT a) b
abbrev zL a:=Ps (Rs a)
abbrev bQ a:=rQ (zL a)
abbrev qB a:=AP (Rs a)
abbrev VA a:=BB (UE a)
abbrev uR a:=TR (BH (Rs a))
attribute [go_sem] RO YC eU UE Wl Pm Rs rT Nv Qm Pa Pk Qe II Pw Lp jG tN Lc zL bQ qB VA uR
theorem CML(a:GL):(CIK a)=(And ((@Exists IL2) (λi=>AI (AS AM (Qe a) AL (jG a) (JD (YC i) 0) (Qe a) (AE (λj=>IY j (RO a) (eU i) j (RO a))) (Qm a) (Nv a)) (Lq (YC i)) (Or (CV (YC i) (II a)) (AN (YC i) 1)) (EX (BK (eU i) (RO a)) (λj=>Lp j (II a) (IQ (eU i) j) (UE a))) (Wl (Pk a a) (stR (Pa a) (Pw a (YC i)) (YC i) (eU i))))) ((λ(f:IL2->Prop)=>∀(x:IL2),f x) (λi=>HF (AQ (Lq (YC i)) (Or (CV (YC i) (II a)) (AN (YC i) 1)) (EX (BK (eU i) (RO a)) (λj=>Lp j (II a) (IQ (eU i) j) (UE a))) (Wl (Pk a a) (stR (Pa a) (Pw a (YC i)) (YC i) (eU i)))) (YC i) (II a) ((@Exists IJL) (λj=>FK (LB (dY (Qe a) AL (jG a) (BC (Pm j) (YC i)) (BC (Rs j) (YC i)) (AE (λk=>IY k (RO a) (rT j) k (eU i))) (Qm a) (Nv a))) (AN (Pw a (Pm j)) (Pw a (YC i))) (Lq (Pm j)) (BN (Pm j) (II a)) (CV (Rs j) (Pm j)) (EX (BK (rT j) (RO a)) (λk=>Lp k (II a) (Lc j k) (UE a))) (Wl (Pk a a) (stR (Pa a) (Pw a (tN j)) (tN j) (E6 (Pa a) (Rs j) (rT j)))))) ((λ(f:IJL->Prop)=>∀(x:IJL),f x) (λj=>TO (AV (AN (Pw a (Pm j)) (Pw a (YC i))) (Lq (Pm j)) (BN (Pm j) (II a)) (CV (Rs j) (Pm j)) (EX (BK (rT j) (RO a)) (λk=>Lp k (II a) (Lc j k) (UE a))) (Wl (Pk a a) (stR (Pa a) (Pw a (tN j)) (tN j) (E6 (Pa a) (Rs j) (rT j))))) (AI (FW (uR j) (BE (Rs j) (II a))) (FW (uR j) (PL (qB j) (II a))) (FW (uR j) (DT (zL j) (II a))) (FW (uR j) (PL (bQ j) (II a))) (FW (uR j) (AS (AJ (Lc j (qB j))) (AJ (Lc j (bQ j))) (CN (UE a)) (CW (UE a)) (CI (UE a) (VA a)) (BU (UE a) (VA a)) (TF (Lc j (qB j)) (VA a)) (BG (Lc j (bQ j))) (dI (Lc j (bQ j)) (VA a))))) (EY (BY (uR j) (Pj (lO (fJ (VA a) (Lc j (qB j))) (fJ (VA a) (Lc j (bQ j)))))) (AQ (DT (zL j) (II a)) (BN (bQ j) (II a)) (BE (Rs j) (II a)) (KS (BN (qB j) (II a)) (BE (Rs j) (II a)) (DT (zL j) (II a)) (PL (bQ j) (II a)))) ((@Exists IJL) (λk=>EV (LB (dY (Qe a) AL (jG a) (BC (Pm k) (Pm j)) (GJ (Rs k) (zL j)) (AE (λl=>rB l (RO a) (rT k) l (HR (ZP l (bQ j)) (Lc j (qB j)) (HR (ZP l (qB j)) (Lc j (bQ j)) (Lc j l))))) (Qm a) (Nv a))) (AV (AN (Pw a (Pm k)) (Pw a (YC i))) (Lq (Pm k)) (BN (Pm k) (II a)) (CV (Rs k) (Pm k)) (EX (BK (rT k) (RO a)) (λl=>Lp l (II a) (Lc k l) (UE a))) (Wl (Pk a a) (stR (Pa a) (Pw a (tN k)) (tN k) (E6 (Pa a) (Rs k) (rT k))))) (Rs k) (Rs j))) ((@Exists IL2) (λk=>FB (AS AM (Qe a) AL (jG a) (AU (YC k) (Pm j)) (Qe a) (AE (λl=>IY l (RO a) (eU k) l (rT j))) (Qm a) (Nv a)) (AQ (Lq (YC k)) (Or (CV (YC k) (II a)) (AN (YC k) 1)) (EX (BK (eU k) (RO a)) (λl=>Lp l (II a) (IQ (eU k) l) (UE a))) (Wl (Pk a a) (stR (Pa a) (Pw a (YC k)) (YC k) (eU k)))) (II a) (YC k) (YC i)))))) (AQ (Qe a) (AE (λj=>IY j (RO a) (Pk a a) j (eU i))) (Qm a) (Nv a))))):=by kernel_rfl
def dGLs:List AVal->Heap->Option (GL×List (Nat×Nat)×List Nat)
 |[.own id _ _ n,.d x,.fn (.func f) [] [.bptr c _]],H=>if f=Sk then match H id,H c with
  | .live (.row _ m r),.live (.box [.d (.list _ k h _)])=>some (⟨WA k λi=>gJ (h i),WA n λi=>LR (r i),LR x,0⟩,[(100,id),(101,c)],[])
  |_,_=>none else none
 |_,_=>none
def C_stb:Ctr:={ ro:=[101],α:=GL,xs:=λa=>[.own 100 1 0 a.l.length,.int a.a,fnW1],L:=λa=>[(100,rowI a.l),(101,bxG a.g)],val:=λ_=>.d (.tup []),keep:=λa=>glK a (stM (QF a.g) a.l),pre:=λa=>[(a.a=a.l.length/\a.l.length<20)/\glOk a] }
def sb(a:GL)(l:List Int)(r:List (Nat×AVal)):Shape:={ α:=One,dflt:=default,T:=λ_=>⟨[(0,.own 100 1 0 a.l.length),(1,.int a.l.length),(2,fnW1),(6,.int 20)] ++ r,glK a l⟩,inv:=λ_=>True,meas:=λ_=>0 }
def CHK(a:GL):Ann:={ ann 63 [(AUH,C_ins.spec dGL)] with E:=[100,101],loops:=λid=>if id=2 then some [sb a a.l [(7,.int 0),(8,.int 20)]] else if id=7 then some [sb a (stM (QF a.g) a.l) []] else none }
def CKT(a:GL):Prop:=AX Try.prog (CHK a) BSM (AF BSM) [.own 100 1 0 a.l.length,.int a.l.length,fnW1] (AC (C_stb.L a)) (C_stb.val a) (C_stb.keep a) [] []
abbrev Zs a:=EL (RO a)
abbrev Tu a:=JR (RO a)
abbrev fB:=JN 0 0
abbrev qK a:=HJ (RO a)
attribute [go_sem] Zs Tu fB qK
theorem CMM(a:GL):(CKT a)=(And (NM (LB (dY (Qe a) (jG a) (BO 20) AL (BO 20) (EG (RO a)) (Qm a) (Nv a)))) (ZV (λi=>HH FT (hd7 20 (BH (II a))) (FE AM (qK a) 0 Vd (JN 20 20) (JQ (qK a) (GX (RO a)) (CN (UE a)) (CW (UE a)) (CI (UE a) (VA a)) (BU (UE a) (VA a)) (And fB (Ih 20 (Tu a))) (Ar (Tu a)) (λj=>Lp j (Tu a) (IQ (Zs a) j) (VA a)))) ((@Exists One) (λj=>EV (LB (AS (Qe a) (jG a) (BO 20) (UB 0 20) (UB 20 (aP 20 20)) (BK (RO a) (Zs a)) (BQ (RO a) (stM (fJ (VA a)) (Zs a))) (Qm a) (Nv a))) FT 0 0)) (AG (FE AM (qK a) 0 Vd (jG a) (JQ (qK a) (GX (RO a)) (CN (UE a)) (CW (UE a)) (CI (UE a) (VA a)) (BU (UE a) (VA a)) (And fB (BC (II a) (Tu a))) (Ar (Tu a)) (λj=>Lp j (Tu a) (IQ (Zs a) j) (VA a)))) (NM (Li AM (Qe a) (II a) (FQ (BO 20) (BK (RO a) (Zs a)) (λj=>IY j (RO a) (Pk a a) j (stM (fJ (VA a)) (Zs a))) (Qm a) (Nv a)))) (ZV (λj=>MD FT (NX 20 (BH (II a))) mM (AQ (Qe a) (AE (λk=>Mz k (RO a) (Pk a a) k)) (Qm a) (Nv a)))))))):=by kernel_rfl
def dGLt:List AVal->Heap->Option (GL×List (Nat×Nat)×List Nat)
 |[.own id _ _ n,.fn (.func f) [] [.bptr c _]],H=>if f=Sk then match H id,H c with
  | .live (.row _ m r),.live (.box [.d (.list _ k h _)])=>some (⟨WA k λi=>gJ (h i),WA n λi=>LR (r i),0,0⟩,[(100,id),(101,c)],[])
  |_,_=>none else none
 |_,_=>none
def C_ss:Ctr:={ ro:=[101],α:=GL,xs:=λa=>[.own 100 1 0 a.l.length,fnW1],L:=λa=>[(100,rowI a.l),(101,bxG a.g)],val:=λ_=>.d (.tup []),keep:=λa=>glK a (stM (QF a.g) a.l),pre:=λa=>[a.l.length<20/\glOk a] }
def A_ss:Ann:={ ann 9 [(BHU,C_stb.spec dGLs)] with E:=[100,101] }
def V_ss(a:GL):Prop:=AX Try.prog A_ss BXG (AF BXG) (C_ss.xs a) (AC (C_ss.L a)) (C_ss.val a) (C_ss.keep a) [] []
theorem CRO(a:GL):(V_ss a)=(FQ (Li AM (qK a) (II a) (JQ (qK a) (GX (RO a)) (CN (UE a)) (CW (UE a)) (CI (UE a) (VA a)) (BU (UE a) (VA a)) (And (BC (II a) (Tu a)) (BN (Tu a) 20)) (Ar (Tu a)) (λi=>Lp i (Tu a) (IQ (Zs a) i) (VA a)))) (BK (RO a) (Zs a)) (λi=>IY i (RO a) (Pk a a) i (stM (fJ (VA a)) (Zs a))) (Qm a) (Nv a)):=by kernel_rfl
theorem COR:AH Try.prog Sk (C_fw1.spec dGAB):=PU C_fw1 (λ_=>CJL) [] [] BES (λ_=>by kernel_rfl) (λ_=>AA AUD AD) (λ(a:GAB) h=>by
 show CJT a;rw[CLL]<;> delta KA LV JY AK lO AN AE BA BN BH DC ER MW BP GU yD fJ AG AO AJ AR CM DY HZ BG HC BW DI MK JH DO VT EB DR DT ZQ ME BX TF dI Bq Br;simp only[CC,CU]
 exact⟨h,rfl⟩) (λ_=>RU rfl rfl) _
theorem BIR{l:List Int}{j i:Nat}{x:Int}(hj:j<l.length):gD (l.set j x) i=bif decide (i=j) then x else gD l i:=by
 unfold gD
 rw[List.getD_eq_getElem?_getD,List.getD_eq_getElem?_getD,List.getElem?_set]
 by_cases h:i=j
 ·subst h;simp[hj]
 ·simp[h,Ne.symm h]
theorem AIF{l:List Int}{j i:Nat}(hj:j+1<l.length):gD (swL l j) i=bif decide (i=j) then gD l (j+1) else bif decide (i=j+1) then gD l j else gD l i:=by
 unfold swL
 rw[BIR (by simpa using hj),BIR (by omega)]
 by_cases h:i=j
 ·subst h;simp
 ·simp[h]
theorem ALJ(l:List Int)(j:Nat):(swL l j).length=l.length:=by simp[swL]
theorem CSJ(a:GL)(h:glOk a):CIK a:=by
 rw[CML]<;> delta LI Wo UD KA LV JY NX HU EZ AK lO aD AN FI AE BA BN IQ BH CV DC ER NC TD KE No FD MW HA NZ BP GU HR ZP fJ RO YC eU UE Wl Pm Rs rT CS AG AP AI AO AJ AR KS QM IR AS CM BB dY DY HZ IG AAL BG HC BW DK DI MK JH DO BO GJ VT HD AM AQ JI rQ CL JO KC EJ EB MM DR EX HS CI OS FP EV GI NK BC GM AV DT RR ZQ JD BK AU IY AL EY FW FK ME DV BE HX PL BY KL EF LA BU HH II BX HF CN CW SA TM FB TO Pa LB Ps VA TF TR Lc zL Lq dI Pw Qe Nv Qm Pk bQ rB jG qB uR tN Pj Lp;simp only[CC,CU]
 obtain⟨hlen,hin⟩:=h
 refine⟨⟨⟨1,a.l⟩,⟨by show (1:Int)=_;rw[Ab (by omega) (by omega)];rfl,λ_ _=>rfl⟩,Nat.one_pos,.inr rfl,⟨rfl,hin⟩,rfl⟩,λx ⟨x1,x2,⟨x3,x4⟩,x5⟩=>⟨λhlt=>⟨⟨⟨x.i,x.i,x.l⟩,⟨rfl,rfl,λ_ _=>rfl⟩,rfl,x1,Int.ofNat_lt.1 hlt,Nat.le_refl _,⟨x3,x4⟩,?_⟩,λy ⟨y1,y2,y3,y4,⟨y5,y6⟩,y7⟩=>?_⟩,λhge=>?_⟩⟩
 ·rw[x5,show a.l.length-x.i=(a.l.length-(x.i+1))+1 by omega];rfl
 ·refine⟨⟨λ_=>⟨by omega,by omega⟩,λ_=>by omega,λhj=>?_,λhj=>?_,λhj=>⟨y6 _ (by omega),?_⟩⟩,λhc=>?_,λhc=>?_⟩
  ·rw[Ab (by omega) (by omega)];omega
  ·rw[Ab (by omega) (by omega)];omega
  ·rw[Ab (by omega) (by omega)];exact y6 _ (by omega)
  ·have hj:0<y.j:=by
    cases hd:decide ((y.j:Int)>0) with
    |false=>rw[hd] at hc;cases hc
    |true=>have:=of_decide_eq_true hd;omega
   obtain⟨j,hj2⟩:∃j,y.j=j+1:=⟨y.j-1,by omega⟩
   have e:IntKind.i64.wrap ((y.j:Int)-1)=(j:Nat):=by rw[Ab (by omega) (by omega)];omega
   rw[decide_eq_true (show (y.j:Int)>0 by omega)] at hc
   have hc:decide (kW (QF a.g (gD y.l y.j)) (QF a.g (gD y.l (IntKind.i64.wrap ((y.j:Int)-1)).toNat))<0)=true:=hc
   rw[e] at hc ⊢
   simp only[Int.toNat_natCast] at hc ⊢
   refine⟨⟨⟨by omega,by omega⟩,by omega,⟨by omega,by omega⟩,by omega,⟨by omega,by omega⟩,by omega,⟨by omega,by omega⟩,by omega⟩,⟨y.i,j,swL y.l j⟩,⟨rfl,rfl,λi hi=>?_⟩,⟨y1,y2,y3,by show j<=y.i;omega,⟨by rw[ALJ];exact y5,λi hi=>?_⟩,?_⟩,by show j<_;omega⟩
   ·show gD (swL y.l j) i=_
    rw[AIF (by omega),hj2]
   ·show 0<=gD (swL y.l j) i/\gD (swL y.l j) i<_
    rw[AIF (by omega)]
    cases decide (i=j)
    ·cases decide (i=j+1)
     ·exact y6 i hi
     ·exact y6 j (by omega)
    ·exact y6 (j+1) (by omega)
   ·rw[hj2] at hc y7
    unfold E6 at y7
    rw[hc] at y7;exact y7
  ·have hq:E6 (QF a.g) y.j y.l=y.l:=by
    cases hd:decide ((y.j:Int)>0) with
    |false=>
     have:=of_decide_eq_false hd
     rw[show y.j=0 by omega];rfl
    |true=>
     have hj:=of_decide_eq_true hd
     obtain⟨j,hj2⟩:∃j,y.j=j+1:=⟨y.j-1,by omega⟩
     have e:IntKind.i64.wrap ((y.j:Int)-1)=(j:Nat):=by rw[Ab (by omega) (by omega)];omega
     rw[hd] at hc
     have hc:decide (kW (QF a.g (gD y.l y.j)) (QF a.g (gD y.l (IntKind.i64.wrap ((y.j:Int)-1)).toNat))<0)=false:=hc
     rw[e,hj2] at hc
     simp only[Int.toNat_natCast] at hc
     rw[hj2];unfold E6;rw[hc];rfl
   rw[hq] at y7
   refine⟨⟨y.i+1,y.l⟩,⟨(GH (by omega)).symm,λ_ _=>rfl⟩,⟨by show 0<y.i+1;omega,.inl (by show y.i+1<=_;omega),⟨y5,y6⟩,y7⟩,by show a.l.length-(y.i+1)<_;omega⟩
 ·intro i hi
  rw[x5,show a.l.length-x.i=0 by omega];rfl
theorem COB:AH Try.prog AUH (C_ins.spec dGL):=okT C_ins (λ(a:GL) h=>by
 obtain⟨⟨ha,hb⟩,h⟩:(a.a=0/\a.b=a.l.length)/\glOk a:=h
 show FnT Try.prog AUH [.own 100 1 0 a.l.length,.int a.a,.int a.b,fnW1] _ _ _
 rw[ha,hb]
 exact Dy (A:=CIQ a) (L:=C_ins.L a) (keep:=C_ins.keep a) (ren:=[]) (fz:=[]) CEP (by kernel_rfl) (AA COR AD) (CSJ a h)) _
theorem CPB:AH Try.prog BHU (C_stb.spec dGLs):=okT C_stb (λ(a:GL) h=>by
 obtain⟨⟨ha,hb⟩,h⟩:(a.a=a.l.length/\a.l.length<20)/\glOk a:=h
 show FnT Try.prog BHU [.own 100 1 0 a.l.length,.int a.a,fnW1] _ _ _
 rw[ha]
 refine Dy (A:=CHK a) (L:=C_stb.L a) (keep:=C_stb.keep a) (ren:=[]) (fz:=[]) CPY (by kernel_rfl) (AA COB AD) ?_
 show CKT a
 rw[CMM]<;> delta hd7 KA LV JY NX EZ AK AN FI AE BA BN IQ BH DC ER Ff FD V6 mM FT HA BP GU ZV uT fJ RO UE AG AI AO AJ AR VW QM AS CM EL BB dY DY HZ IG BG HC BW DI MK JH DO BO GJ VT HD AM AQ JI JO KC EJ MM DR HS CI OS EV NK BC GM RR ZQ Mz BK IY AL EY PI IA ME DV FE EG KL EF BQ BU HH II HL BX FQ JQ CN CW Ua JR MD JN HJ Co GX Pa LB aP VA NM UB Ar dI Zs Qe Tu Nv Qm Pk Ih Vd jG fB Li qK Lp;simp only[CC,CU]
 exact⟨⟨default,trivial⟩,λhc=>by omega,λ_=>⟨⟨rfl,rfl,h⟩,⟨default,trivial⟩,λhc=>by omega⟩⟩) _
theorem CSA:AH Try.prog BYX (C_ss.spec dGLt):=PU C_ss (λ_=>A_ss) [] [] CNO (λ_=>by kernel_rfl) (λ_=>AA CPB AD) (λ(a:GL) h=>by
 show V_ss a;rw[CRO]<;> delta KA LV JY AK AN FI AE BA BN IQ BH DC ER Ff BP GU fJ RO UE AG AI AO AJ AR VW QM AS CM EL BB DY HZ IG BG HC BW DI MK JH DO GJ VT HD AM JI JO KC MM DR CI OS NK BC GM RR ZQ BK IY IA ME DV KL EF BQ BU II HL BX FQ JQ CN CW JR HJ GX Pa VA Ar dI Zs Tu Nv Qm Pk Li qK Lp;simp only[CC,CU]
 exact h) (λ_=>RU rfl rfl) _
end Go.Bal
