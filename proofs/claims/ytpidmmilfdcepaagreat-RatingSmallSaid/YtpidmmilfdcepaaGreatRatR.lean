/- Package rating: the order of gaugings (fewer than 20, or at most 24 that are in order). -/
import Derived.Test.YtpidmmilfdcepaaGreatRatP
set_option linter.unusedVariables false
set_option linter.unusedSimpArgs false
namespace Go.Bal
open Go Go.Sym Go.Proofs
structure GAB where
 g:List Gau
 a:Int
 b:Int
def LM(g:List Gau)(x:Int):Int:=(gD g x.toNat).st
def bxG(g:List Gau):AObj:=.box [.d (AT g)]
def dGAB:List AVal->Heap->Option (GAB×List (Nat×Nat)×List Nat)
 |[.d x,.d y,.bptr id _],H=>match H id with
  | .live (.box [.d (.list _ n h _)])=>some (⟨HA n λi=>Ky (h i),EG x,EG y⟩,[(100,id)],[])
  |_=>none
 |_,_=>none
def C_fw1:Ctr:={ ro:=[100],α:=GAB,xs:=λa=>[.int a.a,.int a.b,.bptr 100 0],L:=λa=>[(100,bxG a.g)],val:=λa=>.int (Ib (LM a.g a.a) (LM a.g a.b)),keep:=λa=>[(100,.live (bxG a.g))],pre:=λa=>[(0<=a.a/\a.a<a.g.length)/\0<=a.b/\a.b<a.g.length] }
def CQB:Ann:={ ann 17 [(81,N8)] with E:=[100] }
def CPX(a:GAB):Prop:=AS ZP CQB Tryz.f110 (AE Tryz.f110) (C_fw1.xs a) (AB (C_fw1.L a)) (C_fw1.val a) (C_fw1.keep a) [] []
abbrev ACV:=GAB.g
abbrev Lc:=LM
attribute [go_sem] ACV Lc
theorem CTS(a:GAB):(CPX a)=(OS (YE (Gf (GAB.a a) (ACV a)) (GAB.b a) (Rm (GAB.b a) (ACV a))) (BM (hd30 (Lc (ACV a) (GAB.a a)) (Lc (ACV a) (GAB.b a))) (hd30 (BL (ACV a) (NV (GAB.a a))) (BL (ACV a) (NV (GAB.b a))))) (ACV a) (AP (ACV a))):=by kernel_rfl
def rowI(l:List Int):AObj:=.row 1 l.length λi=>NY (gD l i)
def CPZ(n:Nat)(l:List Int):AObj:=.row 1 n λi=>NY (gD l i)
def swL(l:List Int)(j:Nat):List Int:=(l.set j (gD l (j+1))).set (j+1) (gD l j)
def Xi(key:Int->Int):Nat->List Int->List Int
 |0,l=>l
 |j+1,l=>bif decide (Ib (key (gD l (j+1))) (key (gD l j))<0) then Xi key j (swL l j) else l
def stR(key:Int->Int):Nat->Nat->List Int->List Int
 |0,_,l=>l
 |n+1,i,l=>stR key n (i+1) (Xi key i l)
def stM(key:Int->Int)(l:List Int):List Int:=stR key (l.length-1) 1 l
structure GL where
 g:List Gau
 l:List Int
 a:Int
 b:Int
structure IL2 where
 i:Nat
 l:List Int
 deriving Inhabited
structure IJL where
 i:Nat
 j:Nat
 l:List Int
 deriving Inhabited
def nN:AVal:=.fn (.func 110) [] [.bptr 101 0]
def glK(a:GL)(l:List Int):List (Nat×HCell):=[(100,.live (CPZ a.l.length l)),(101,.live (bxG a.g))]
def glIn(a:GL)(l:List Int):Prop:=l.length=a.l.length/\∀i,i<a.l.length->0<=gD l i/\gD l i<a.g.length
def glOk(a:GL):Prop:=a.l.length<1073741824/\∀i,i<a.l.length->0<=gD a.l i/\gD a.l i<a.g.length
def dGL:List AVal->Heap->Option (GL×List (Nat×Nat)×List Nat)
 |[.own id _ _ n,.d x,.d y,.fn (.func f) [] [.bptr c _]],H=>if f=110 then match H id,H c with
  | .live (.row _ m r),.live (.box [.d (.list _ k h _)])=>some (⟨HA k λi=>Ky (h i),HA n λi=>EG (r i),EG x,EG y⟩,[(100,id),(101,c)],[])
  |_,_=>none else none
 |_,_=>none
def C_ins:Ctr:={ ro:=[101],α:=GL,xs:=λa=>[.own 100 1 0 a.l.length,.int a.a,.int a.b,nN],L:=λa=>[(100,rowI a.l),(101,bxG a.g)],val:=λ_=>.d (.tup []),keep:=λa=>glK a (stM (LM a.g) a.l),pre:=λa=>[(a.a=0/\a.b=a.l.length)/\glOk a] }
def ins1(a:GL):Shape:={ α:=IL2,dflt:=default,T:=λx=>⟨[(0,.own 100 1 0 a.l.length),(1,.int 0),(2,.int a.l.length),(3,nN),(8,.int x.i)],glK a x.l⟩,inv:=λx=>1<=x.i/\(x.i<=a.l.length∨x.i=1)/\glIn a x.l/\stM (LM a.g) a.l=stR (LM a.g) (a.l.length-x.i) x.i x.l,meas:=λx=>a.l.length-x.i }
def ins4(a:GL)(m:Nat):Shape:={ α:=IJL,dflt:=default,T:=λx=>⟨[(0,.own 100 1 0 a.l.length),(1,.int 0),(2,.int a.l.length),(3,nN),(8,.int x.i),(9,.int x.j)],glK a x.l⟩,inv:=λx=>a.l.length-x.i=m/\1<=x.i/\x.i<a.l.length/\x.j<=x.i/\glIn a x.l/\stM (LM a.g) a.l=stR (LM a.g) (a.l.length-(x.i+1)) (x.i+1) (Xi (LM a.g) x.j x.l),meas:=λx=>x.j }
def COZ(a:GL):Ann:={ ann 53 [(110,C_fw1.spec dGAB)] with E:=[100,101],loops:=λid=>if id=1 then some [ins1 a] else none,inner:=λgs id=>if id=4 then some [ins4 a (gs.getD 0 0)] else none }
def COC(a:GL):Prop:=AS ZP (COZ a) Tryz.f138 (AE Tryz.f138) [.own 100 1 0 a.l.length,.int 0,.int a.l.length,nN] (AB (C_ins.L a)) (C_ins.val a) (C_ins.keep a) [] []
abbrev BEA:=@Exists IL2
abbrev RF:=GL.l
abbrev NM:=IL2.i
abbrev RJ:=IL2.l
abbrev SV:=GL.g
abbrev ACG:=@Eq (List Int)
abbrev CET:=λ(f:IL2->Prop)=>∀(x:IL2),f x
abbrev BFL:=@Exists IJL
abbrev SP:=IJL.i
abbrev JB:=IJL.j
abbrev MZ:=IJL.l
abbrev CBA:=λ(f:IJL->Prop)=>∀(x:IJL),f x
abbrev Ye a:=AP (SV a)
abbrev Zb a:=Lc (SV a)
abbrev aW a b:=stM (Zb a) (RF b)
abbrev dA a:=IW (RF a)
abbrev ES a:=GZ (RF a)
abbrev Pi a b c d e:=ACG a (stR b (TJ c d) d e)
abbrev Zs a b:=FJ (KL a b)
abbrev uW a b c d e:=Ku a b (Zs c d) e
abbrev fT a b c:=Rm (KL a b) c
abbrev Gu a b c d e f:=uW a b c d (fT c e f)
abbrev fP a b c:=Or (FF a b) c
abbrev T9 a:=PI (NM a)
abbrev M9 a:=Nq (NM a)
abbrev ACL a b c d e f g h:=BK a b c d e b f g h
abbrev mL a:=BQ (SV a)
abbrev nZ a:=BP (ES a)
abbrev O0 a:=CN (SP a)
abbrev S5 a:=Nq (SP a)
abbrev sD a b c d e f g h:=BK a b c d e a f g h
abbrev PL a:=AQ (NV a)
abbrev TD a:=PL (Dv a)
abbrev XQ a:=TD (JB a)
abbrev Se a:=AQ (JB a)
abbrev ABN a b c d:=AR a b a c d
abbrev Oq a:=CG (SV a)
abbrev tN a b:=FA (Ru a) b
abbrev Xo a b:=tN (JB a) b
attribute [go_sem] BEA RF NM RJ SV ACG CET BFL SP JB MZ CBA Ye Zb aW dA ES Pi Zs uW fT Gu fP T9 M9 ACL mL nZ O0 S5 sD PL TD XQ Se ABN Oq tN Xo
theorem CUZ(a:GL):(COC a)=(And (BEA (λi=>AR (ACL AF (dA a) BB (nZ a) (oW (NM i)) (AG (λj=>Wt j (RF a) (RJ i) j (RF a) j)) (mL a) (Ye a)) (M9 i) (fP (NM i) (ES a) (T9 i)) (QY (BC (RJ i) (RF a)) (λj=>Gu j (ES a) (RJ i) j j (SV a))) (Pi (aW a a) (Zb a) (ES a) (NM i) (RJ i)))) (CET (λi=>WU (BD (M9 i) (fP (NM i) (ES a) (T9 i)) (QY (BC (RJ i) (RF a)) (λj=>Gu j (ES a) (RJ i) j j (SV a))) (Pi (aW a a) (Zb a) (ES a) (NM i) (RJ i))) (NM i) (ES a) (BFL (λj=>CY (EN (sD (dA a) BB (nZ a) (AI (SP j) (NM i)) (AI (JB j) (NM i)) (AG (λk=>Wt k (RF a) (MZ j) k (RJ i) k)) (mL a) (Ye a))) (IZ (ES a) (SP j) (NM i)) (S5 j) (FC (SP j) (ES a)) (FF (JB j) (SP j)) (QY (BC (MZ j) (RF a)) (λk=>Gu k (ES a) (MZ j) k k (SV a))) (Pi (aW a a) (Zb a) (ES a) (O0 j) (Xi (Zb a) (JB j) (MZ j))))) (CBA (λj=>LZ (AW (IZ (ES a) (SP j) (NM i)) (S5 j) (FC (SP j) (ES a)) (FF (JB j) (SP j)) (QY (BC (MZ j) (RF a)) (λk=>Gu k (ES a) (MZ j) k k (SV a))) (Pi (aW a a) (Zb a) (ES a) (O0 j) (Xi (Zb a) (JB j) (MZ j)))) (AR (Xo j (CR (JB j) (ES a))) (Xo j (IU (Se j) (ES a))) (Xo j (TV (JB j) (ES a))) (Xo j (IU (XQ j) (ES a))) (Xo j (BK (Qc (MZ j) (Se j)) (Qc (MZ j) (XQ j)) (AY (SV a)) (BJ (SV a)) (OW (SV a)) (VG (SV a)) (Gf (MS (MZ j) (JB j)) (Oq a)) (Zs (MZ j) (XQ j)) (fT (MZ j) (XQ j) (Oq a))))) (FD (Iv (JB j) (eC (Lc (Oq a) (MS (MZ j) (JB j))) (Lc (Oq a) (KL (MZ j) (XQ j))))) (SG (TV (JB j) (ES a)) (XQ j) (ES a) (CR (JB j) (ES a)) (ABN (FC (Se j) (ES a)) (CR (JB j) (ES a)) (TV (JB j) (ES a)) (IU (XQ j) (ES a)))) (BFL (λk=>IB (EN (sD (dA a) BB (nZ a) (AI (SP k) (SP j)) (lU (JB k) (JB j)) (AG (λl=>BLG l (RF a) (MZ k) l (SE l (XQ j) (MS (MZ j) (JB j)) (SE l (Se j) (KL (MZ j) (XQ j)) (KL (MZ j) l))))) (mL a) (Ye a))) (AW (IZ (ES a) (SP k) (NM i)) (S5 k) (FC (SP k) (ES a)) (FF (JB k) (SP k)) (QY (BC (MZ k) (RF a)) (λl=>Gu l (ES a) (MZ k) l l (SV a))) (Pi (aW a a) (Zb a) (ES a) (O0 k) (Xi (Zb a) (JB k) (MZ k)))) (JB k) (JB j))) (BEA (λk=>EO (ACL AF (dA a) BB (nZ a) (AJ (NM k) (SP j)) (AG (λl=>Wt l (RF a) (RJ k) l (MZ j) l)) (mL a) (Ye a)) (BD (M9 k) (fP (NM k) (ES a) (T9 k)) (QY (BC (RJ k) (RF a)) (λl=>Gu l (ES a) (RJ k) l l (SV a))) (Pi (aW a a) (Zb a) (ES a) (NM k) (RJ k))) (ES a) (NM k) (NM i)))))) (OS (dA a) (AG (λj=>Wt j (RF a) (aW a a) j (RJ i) j)) (SV a) (Ye a))))):=by kernel_rfl
structure GA where
 g:List Gau
 l:List Int
 x:Nat
 y:Nat
 z:Nat
def ascK(key:Int->Int)(l:List Int):Prop:=∀i j:Nat,i<=j->j<l.length->¬key (gD l j)<key (gD l i)
structure gaOk(g:List Gau)(l:List Int):Prop where
 ln:l.length<=24
 i:∀i,i<l.length->0<=gD l i/\gD l i<g.length
 a:ascK (LM g) l
def gaL(a:GA):List (Nat×AObj):=[(100,rowI a.l),(101,bxG a.g)]
def gaK(a:GA):List (Nat×HCell):=[(100,.live (CPZ a.l.length a.l)),(101,.live (bxG a.g))]
def gaO(a:GA):Nat×AVal:=(0,.own 100 1 0 a.l.length)
def dGA:List AVal->Heap->Option (GA×List (Nat×Nat)×List Nat)
 |[.own id _ _ n,.d x,.d y,.fn (.func f) [] [.bptr c _]],H=>if f=110 then match H id,H c with
  | .live (.row _ m r),.live (.box [.d (.list _ k h _)])=>some (⟨HA k λi=>Ky (h i),HA n λi=>EG (r i),(EG x).toNat,(EG y).toNat,0⟩,[(100,id),(101,c)],[])
  |_,_=>none else none
 |[.own id _ _ n,.d x,.d y,.d z,.fn (.func f) [] [.bptr c _]],H=>if f=110 then match H id,H c with
  | .live (.row _ m r),.live (.box [.d (.list _ k h _)])=>some (⟨HA k λi=>Ky (h i),HA n λi=>EG (r i),(EG x).toNat,(EG y).toNat,(EG z).toNat⟩,[(100,id),(101,c)],[])
  |_,_=>none else none
 |_,_=>none
def C_insA:Ctr:={ ro:=[100,101],α:=GA,xs:=λa=>[.own 100 1 0 a.l.length,.int a.x,.int a.y,nN],L:=gaL,val:=λ_=>.d (.tup []),keep:=gaK,pre:=λa=>[gaOk a.g a.l/\a.x<=a.y/\a.y<=a.l.length] }
def CXB(a:GA):Shape:={ α:=Nat,dflt:=0,T:=λi=>⟨[gaO a,(1,.int a.x),(2,.int a.y),(3,nN),(8,.int i)],gaK a⟩,inv:=λi=>a.x<i/\(i<=a.y∨i=a.x+1),meas:=λi=>a.y-i }
def CXT(a:GA)(m:Nat):Shape:={ α:=Nat,dflt:=0,T:=λi=>⟨[gaO a,(1,.int a.x),(2,.int a.y),(3,nN),(8,.int i),(9,.int i)],gaK a⟩,inv:=λi=>a.y-i=m/\a.x<i/\i<a.y,meas:=λ_=>0 }
def CBU(a:GA):Ann:={ ann 53 [(110,C_fw1.spec dGAB)] with E:=[100,101],loops:=λid=>if id=1 then some [CXB a] else none,inner:=λgs id=>if id=4 then some [CXT a (gs.getD 0 0)] else none }
def CDX(a:GA):Prop:=AS ZP (CBU a) Tryz.f138 (AE Tryz.f138) (C_insA.xs a) (AB (gaL a)) (.d (.tup [])) (gaK a) [] []
abbrev LN:=GA.l
abbrev Qk:=GA.x
abbrev Qf:=GA.y
abbrev UV:=GA.g
abbrev Nb a:=AP (UV a)
abbrev Tr a:=EZ (LN a)
abbrev Ph a:=IW (LN a)
abbrev Yi a:=BQ (UV a)
abbrev WV a:=GZ (LN a)
abbrev Xc a:=CG (UV a)
abbrev Q0 a:=BO (Qk a)
attribute [go_sem] LN Qk Qf UV Nb Tr Ph Yi WV Xc Q0
theorem CHS(a:GA):(CDX a)=(HU (λi=>AO (ACL AF (Ph a) (BP (Qk a)) (BP (Qf a)) (AJ i (Qk a)) (Tr a) (Yi a) (Nb a)) (FC (Qk a) i) (fP i (Qf a) (QM i (Qk a)))) (λi=>Ee (And (FC (Qk a) i) (fP i (Qf a) (QM i (Qk a)))) i (Qf a) (HU (λj=>BD (EN (sD (Ph a) (BP (Qk a)) (BP (Qf a)) (AI j i) (AI j i) (Tr a) (Yi a) (Nb a))) (IZ (Qf a) j i) (FC (Qk a) j) (FC j (Qf a))) (λj=>LZ (IB (IZ (Qf a) j i) (FC (Qk a) j) j (Qf a)) (AR (FA (NO j (Q0 a)) (JL j (LN a))) (FA (NO j (Q0 a)) (IU (AQ j) (WV a))) (FA (NO j (Q0 a)) (TV j (WV a))) (FA (NO j (Q0 a)) (IU (TD j) (WV a))) (FA (NO j (Q0 a)) (BK (Qc (LN a) (AQ j)) (Qc (LN a) (TD j)) (AY (UV a)) (BJ (UV a)) (OW (UV a)) (VG (UV a)) (Gf (MS (LN a) j) (Xc a)) (Zs (LN a) (TD j)) (fT (LN a) (TD j) (Xc a))))) (FD (EP (NO j (Q0 a)) (eC (Lc (Xc a) (MS (LN a) j)) (Lc (Xc a) (KL (LN a) (TD j))))) (SG (TV j (WV a)) (TD j) (WV a) (JL j (LN a)) (ABN (FC (AQ j) (WV a)) (JL j (LN a)) (TV j (WV a)) (IU (TD j) (WV a)))) (EI (λk=>IB (EN (sD (Ph a) (BP (Qk a)) (BP (Qf a)) (AI k j) (lU k j) (AG (λl=>KC l (LN a) (SE l (TD j) (MS (LN a) j) (SE l (AQ j) (KL (LN a) (TD j)) (KL (LN a) l))))) (Yi a) (Nb a))) (IB (IZ (Qf a) k i) (FC (Qk a) k) k (Qf a)) 0 0)) (EI (λk=>EO (ACL AF (Ph a) (BP (Qk a)) (BP (Qf a)) (AJ k j) (Tr a) (Yi a) (Nb a)) (And (FC (Qk a) k) (fP k (Qf a) (QM k (Qk a)))) (Qf a) k i))))) (OS (Ph a) (Tr a) (UV a) (Nb a)))):=by kernel_rfl
def C_no:Ctr:={ α:=GA,xs:=λa=>[.own 100 1 0 a.l.length,.int a.x,.int a.y,.int a.z],L:=λa=>[(100,rowI a.l)],val:=λ_=>.d (.tup []),keep:=λa=>[(100,.live (rowI a.l))],pre:=λ_=>[False] }
def dNo:List AVal->Heap->Option (GA×List (Nat×Nat)×List Nat)
 |[.own id _ _ n,.d x,.d y,.d z],H=>match H id with
  | .live (.row _ m r)=>some (⟨[],HA n λi=>EG (r i),(EG x).toNat,(EG y).toNat,(EG z).toNat⟩,[(100,id)],[])
  |_=>none
 |_,_=>none
def C_sm(N:Nat):Ctr:={ ro:=[100,101],α:=GA,xs:=λa=>[.own 100 1 0 a.l.length,.int a.x,.int a.y,.int a.z,nN],L:=gaL,val:=λ_=>.d (.tup []),keep:=gaK,pre:=λa=>[(gaOk a.g a.l/\a.x<a.y/\a.y<a.z/\a.z<=a.l.length)/\a.z-a.x<N] }
structure NX where
 n:Nat
 a:GA
def smM(a:GA):Nat:=(a.x+a.z) / 2
def mgS(a:GA):Nat:=if a.y>smM a then smM a+a.y-a.z else a.x
def mgR(a:GA):Nat:=if a.y>smM a then smM a else a.y
def sm3(a:GA):Shape:={ α:=Nat,dflt:=0,T:=λs=>⟨[gaO a,(1,.int a.x),(4,nN),(10,.int a.y),(11,.int s)],gaK a⟩,inv:=λs=>(a.y<=s/\s<=a.z)/\a.y=a.x+1,meas:=λs=>s-a.y }
def sm9(a:GA):Shape:={ α:=One,dflt:=default,T:=λ_=>⟨[gaO a,(10,.int a.y),(13,.int a.x)],gaK a⟩,inv:=λ_=>a.y=a.x+1,meas:=λ_=>0 }
def sm15(a:GA):Shape:={ α:=Nat,dflt:=0,T:=λs=>⟨[gaO a,(2,.int a.y),(4,nN),(14,.int s),(15,.int a.y)],gaK a⟩,inv:=λs=>a.x<=s/\s<=a.y,meas:=λs=>a.y-s }
def sm21(a:GA):Shape:={ α:=One,dflt:=default,T:=λ_=>⟨[gaO a,(14,.int a.y),(17,.int a.y)],gaK a⟩,inv:=λ_=>True,meas:=λ_=>0 }
def smB(a:GA):List (Nat×AVal):=[gaO a,(1,.int a.x),(2,.int a.y),(3,.int a.z),(4,nN),(18,.int (smM a))]
def sm32(a:GA):Shape:={ α:=One,dflt:=default,T:=λ_=>⟨smB a ++ [(19,.int (smM a+a.y)),(20,.int (mgS a)),(21,.int (mgR a))],gaK a⟩,inv:=λ_=>True,meas:=λ_=>0 }
def sm33(a:GA):Shape:={ α:=Nat,dflt:=0,T:=λs=>⟨smB a ++ [(19,.int (smM a+a.y)),(20,.int s),(21,.int (mgR a)),(22,.int (smM a+a.y-1))],gaK a⟩,inv:=λs=>mgS a<=s/\s<=mgR a,meas:=λs=>mgR a-s }
def smE(a:GA):Nat:=smM a+a.y-mgR a
def sm41(a:GA):Shape:={ α:=One,dflt:=default,T:=λ_=>⟨smB a ++ [(20,.int (mgR a)),(24,.int (smE a))],gaK a⟩,inv:=λ_=>True,meas:=λ_=>0 }
def A_mg(w:NX):Ann:={ ann 220 [(110,C_fw1.spec dGAB),(143,C_no.spec dNo),(139,(C_sm w.n).spec dGA)] with E:=[100,101],loops:=λid=>if id=3 then some [sm3 w.a] else if id=9 then some [sm9 w.a] else if id=15 then some [sm15 w.a] else if id=21 then some [sm21 w.a] else if id=33 then some [sm33 w.a] else none,cut:=λid=>if id=32 then some [sm32 w.a] else if id=41 then some [sm41 w.a] else none }
def V_sm(w:NX):Prop:=AS ZP (A_mg w) Tryz.f139 (AE Tryz.f139) ((C_sm 0).xs w.a) (AB (gaL w.a)) (.d (.tup [])) (gaK w.a) [] []
abbrev H8:=NX.a
abbrev BNA a b c:=FD a b c c
abbrev VP a:=UV (H8 a)
abbrev TQ a:=AP (VP a)
abbrev EY a:=LN (H8 a)
abbrev WN a:=EZ (EY a)
abbrev JZ a:=IW (EY a)
abbrev XR a:=BQ (VP a)
abbrev yF a b c d e f:=CY a b c d e b f
abbrev Sf a:=smM (H8 a)
abbrev Ks a:=GA.z (H8 a)
abbrev mE a:=FI (EY a)
abbrev R9 a:=smE (H8 a)
abbrev ZE a:=CG (VP a)
abbrev zO a:=BP (Ks a)
abbrev R6 a:=BP (Sf a)
abbrev KD a:=Qk (H8 a)
abbrev JA a:=mgR (H8 a)
abbrev Xq a:=BP (KD a)
abbrev CB a:=Qf (H8 a)
abbrev oI a:=BO (CB a)
abbrev gS a:=hd54 (BO (Sf a)) (oI a)
abbrev Me a:=BP (CB a)
abbrev uB a:=mgS (H8 a)
abbrev lO a:=AFZ (gS a)
abbrev kQ a b:=KL (EY a) b
abbrev nE a b:=PL (nI a b)
abbrev TF a:=GZ (EY a)
abbrev ZN a b c:=GP a b (FF b c)
abbrev wH a b:=WF (KD a) (Ks b)
abbrev rX a b c d e f g h:=BK a b c d c e f g h
abbrev xX a b:=QM (CB a) (KD b)
abbrev P7 a:=XM (BO a)
abbrev X6 a:=P7 (KD a)
attribute [go_sem] H8 BNA VP TQ EY WN JZ XR yF Sf Ks mE R9 ZE zO R6 KD JA Xq CB oI gS Me uB lO kQ nE TF ZN wH rX xX P7 X6
theorem CXI(w:NX):(V_sm w)=(HZ (VS (PS (oI w) (BO (KD w))) 1) (HU (λi=>AO (ACL AF (JZ w) (Xq w) (Me w) (AI i (Ks w)) (WN w) (XR w) (TQ w)) (ZN (CB w) i (Ks w)) (xX w w)) (λi=>YH (And (ZN (CB w) i (Ks w)) (xX w w)) (CB w) i (Cd 1 (W9 (BO 64))) (Fp (TG (nI (CB w) i) (TF w)) (nE (CB w) i) (TF w) (JL (KD w) (EY w)) (FC (AQ (KD w)) (TF w)) (BK (Qc (EY w) (PL (WF (CB w) i))) (Qc (EY w) (AQ (KD w))) (AY (VP w)) (BJ (VP w)) (OW (VP w)) (VG (VP w)) (VA (EY w) (nE (CB w) i) (ZE w)) (Zs (EY w) (AQ (KD w))) (Rm (MS (EY w) (KD w)) (ZE w)))) (HZ (eC (Lc (ZE w) (kQ w (PL (WF (CB w) i)))) (Lc (ZE w) (MS (EY w) (KD w)))) (EI (λj=>S7 (ACL AF (JZ w) (Xq w) (AIO (CB w) (WF (CB w) i)) (AI j i) (WN w) (XR w) (TQ w)) (And (ZN (CB w) j (Ks w)) (xX w w)) j (CB w) i (CB w))) (EI (λj=>S7 (ACL AF (JZ w) (Xq w) (Me w) (MM j (WF (CB w) i)) (WN w) (XR w) (TQ w)) (And (ZN (CB w) j (Ks w)) (xX w w)) j (CB w) i (CB w)))) (Ir (xS (wF AF (JZ w) (oI w) (Xq w) (WN w) (XR w) (TQ w)) (xX w w)) (MO (xX w w) (UO (KD w) (Dv (CB w))) (SG (TG (X6 w) (TF w)) (PL (X6 w)) (TF w) (JL (KD w) (EY w)) (ABN (FC (AQ (KD w)) (TF w)) (JL (KD w) (EY w)) (TG (X6 w) (TF w)) (IU (PL (X6 w)) (TF w)))) (Ur (λj=>IB (wF AF (JZ w) (oI w) (AJ (KD w) (KD w)) (AG (λk=>KC k (EY w) (SE k (PL (X6 w)) (MS (EY w) (KD w)) (SE k (AQ (KD w)) (kQ w (PL (X6 w))) (kQ w k))))) (XR w) (TQ w)) (xX w w) 0 0)) (OS (JZ w) (WN w) (VP w) (TQ w)))))) (HZ (VS (PS (BO (Ks w)) (oI w)) 1) (HU (λi=>EE (rX AF (JZ w) (Me w) (AI i (KD w)) (JZ w) (WN w) (XR w) (TQ w)) (KD w) i (FF i (CB w))) (λi=>YH (ZN (KD w) i (CB w)) i (CB w) (Cd 1 (W9 (BO 64))) (Fp (JL (CB w) (EY w)) (AQ (CB w)) (TF w) (TG (nI i (CB w)) (TF w)) (FC (nE i (CB w)) (TF w)) (BK (Qc (EY w) (AQ (CB w))) (Qc (EY w) (PL (WF i (CB w)))) (AY (VP w)) (BJ (VP w)) (OW (VP w)) (VG (VP w)) (Gf (MS (EY w) (CB w)) (ZE w)) (Zs (EY w) (nE i (CB w))) (fT (EY w) (nE i (CB w)) (ZE w)))) (Uk (eC (Lc (ZE w) (MS (EY w) (CB w))) (Lc (ZE w) (kQ w (PL (WF i (CB w)))))) (EI (λj=>fR (rX AF (JZ w) (Me w) (AIO j (WF i (CB w))) (JZ w) (WN w) (XR w) (TQ w)) (KD w) j (FF j (CB w)) (CB w) j i)) (EI (λj=>fR (ACL AF (JZ w) (Me w) (AI j i) (MM (CB w) (WF i (CB w))) (WN w) (XR w) (TQ w)) (KD w) j (FF j (CB w)) (CB w) j i))) (Ir (KZ (EN (Hk (JZ w) (oI w) (BO i) (AR (Me w) (JZ w) (WN w) (XR w) (TQ w))))) (MO HO (NO (CB w) (oI w)) (SG (TV (CB w) (TF w)) (TD (CB w)) (TF w) (JL (CB w) (EY w)) (ABN (FC (AQ (CB w)) (TF w)) (JL (CB w) (EY w)) (TV (CB w) (TF w)) (IU (TD (CB w)) (TF w)))) (Ur (λj=>IB (wF AF (JZ w) (oI w) (lU (CB w) (CB w)) (AG (λk=>KC k (EY w) (SE k (TD (CB w)) (MS (EY w) (CB w)) (SE k (AQ (CB w)) (kQ w (TD (CB w))) (kQ w k))))) (XR w) (TQ w)) HO 0 0)) (OS (JZ w) (WN w) (VP w) (TQ w)))))) (AO (Cd 1 (W9 (BO 64))) (HZ (NO (CB w) (wH w w)) (KZ (AR AF (JZ w) (Xq w) (Me w) (BK (zO w) (MM (Sf w) (wH w w)) (BM (gS w) (wY (wH w w) (CB w))) (MM (uB w) (PS (wY (wH w w) (CB w)) (BO (Ks w)))) (MM (JA w) (wH w w)) (JZ w) (WN w) (XR w) (TQ w)))) (KZ (AR AF (JZ w) (Xq w) (Me w) (BK (zO w) (MM (Sf w) (wH w w)) (BM (gS w) (wY (wH w w) (CB w))) (AI (uB w) (KD w)) (AI (JA w) (CB w)) (JZ w) (WN w) (XR w) (TQ w))))) (lN HO (HU (λi=>EE (AW AF (JZ w) (Xq w) (Me w) (zO w) (BK (R6 w) (AK (gS w)) (AI i (uB w)) (BP (JA w)) (BM (lO w) (UH (gS w))) (JZ w) (WN w) (XR w) (TQ w))) (uB w) i (FF i (JA w))) (λi=>YH (ZN (uB w) i (JA w)) i (JA w) (Cd 1 (W9 (BO 64))) (Fp (TG (PS (lO w) (nI i (JA w))) (TF w)) (PL (PS (lO w) (nI i (JA w)))) (TF w) (TG (nI i (JA w)) (TF w)) (FC (nE i (JA w)) (TF w)) (BK (Qc (EY w) (PL (PS (lO w) (WF i (JA w))))) (Qc (EY w) (PL (WF i (JA w)))) (AY (VP w)) (BJ (VP w)) (OW (VP w)) (VG (VP w)) (VA (EY w) (PL (PS (lO w) (nI i (JA w)))) (ZE w)) (Zs (EY w) (nE i (JA w))) (fT (EY w) (nE i (JA w)) (ZE w)))) (Uk (eC (Lc (ZE w) (kQ w (PL (PS (lO w) (WF i (JA w)))))) (Lc (ZE w) (kQ w (PL (WF i (JA w)))))) (EI (λj=>fR (AW AF (JZ w) (Xq w) (Me w) (zO w) (BK (R6 w) (AK (gS w)) (AIO j (WF i (JA w))) (BP (JA w)) (AK (lO w)) (JZ w) (WN w) (XR w) (TQ w))) (uB w) j (FF j (JA w)) (JA w) j i)) (EI (λj=>fR (AW AF (JZ w) (Xq w) (Me w) (zO w) (BK (R6 w) (AK (gS w)) (AI j i) (MM (JA w) (WF i (JA w))) (AK (lO w)) (JZ w) (WN w) (XR w) (TQ w))) (uB w) j (FF j (JA w)) (JA w) j i))) (Ir (HZ (EP (Gh i (CB w)) (UO (CB w) (PS (gS w) (BO i)))) zA (KZ (Gn AF (JZ w) (BO (KD w)) (BK (Me w) (zO w) (R6 w) (AI (JA w) i) (MM (R9 w) (PS (gS w) (BO i))) (JZ w) (WN w) (XR w) (TQ w))))) (PY HO (BNA (EP (Gh (KD w) (JA w)) (Gh (JA w) (Sf w))) (yF AF (EA (EY w)) (Xq w) (BP (JA w)) (R6 w) (DO (CM (EY w)) (AY (VP w)) (BJ (VP w)) (BC (EY w) (mE w)) (BR (EY w) (mE w)) (OW (VP w)) (λj=>UA j (VP w) (ZE w)) (SG (gaOk (ZE w) (mE w)) (KD w) (JA w) (FC (JA w) (Sf w)) (Tt (Sf w) (mE w))) (FC (TJ (Sf w) (KD w)) (NX.n w)))) (HZ (EP (Gh (Sf w) (R9 w)) (Gh (R9 w) (Ks w))) (AR (yF AF (EA (EY w)) (R6 w) (BP (R9 w)) (zO w) (DO (CM (EY w)) (AY (VP w)) (BJ (VP w)) (BC (EY w) (mE w)) (BR (EY w) (mE w)) (OW (VP w)) (λj=>UA j (VP w) (ZE w)) (SG (gaOk (ZE w) (mE w)) (Sf w) (R9 w) (FC (R9 w) (Ks w)) (Tt (Ks w) (mE w))) (FC (TJ (Ks w) (Sf w)) (NX.n w)))) (JZ w) (WN w) (XR w) (TQ w)) (OS (JZ w) (WN w) (VP w) (TQ w)))))))))))):=by kernel_rfl
def dGLs:List AVal->Heap->Option (GL×List (Nat×Nat)×List Nat)
 |[.own id _ _ n,.d x,.fn (.func f) [] [.bptr c _]],H=>if f=110 then match H id,H c with
  | .live (.row _ m r),.live (.box [.d (.list _ k h _)])=>some (⟨HA k λi=>Ky (h i),HA n λi=>EG (r i),EG x,0⟩,[(100,id),(101,c)],[])
  |_,_=>none else none
 |_,_=>none
def glSm(a:GL):Prop:=(a.l.length<20/\glOk a)∨(20<=a.l.length/\gaOk a.g a.l)
def C_stb:Ctr:={ ro:=[101],α:=GL,xs:=λa=>[.own 100 1 0 a.l.length,.int a.a,nN],L:=λa=>[(100,rowI a.l),(101,bxG a.g)],val:=λ_=>.d (.tup []),keep:=λa=>glK a (stM (LM a.g) a.l),pre:=λa=>[a.a=a.l.length/\glSm a] }
def sb(a:GL)(l:List Int)(r:List (Nat×AVal)):Shape:={ α:=One,dflt:=default,T:=λ_=>⟨[(0,.own 100 1 0 a.l.length),(1,.int a.l.length),(2,nN),(6,.int 20)] ++ r,glK a l⟩,inv:=λ_=>True,meas:=λ_=>0 }
def CNR(a:GL):Ann:={ ann 63 [(138,C_ins.spec dGL)] with E:=[100,101],loops:=λid=>if id=2 then some [sb a a.l [(7,.int 0),(8,.int 20)]] else if id=7 then some [sb a (stM (LM a.g) a.l) []] else none }
def CND(a:GL):Prop:=AS ZP (CNR a) Tryz.f130 (AE Tryz.f130) [.own 100 1 0 a.l.length,.int a.l.length,nN] (AB (C_stb.L a)) (C_stb.val a) (C_stb.keep a) [] []
abbrev BOA:=@HMod.hMod Nat Nat Nat (@instHMod Nat Nat.instMod)
abbrev BQT:=IntKind.bits
abbrev Na a:=FI (RF a)
abbrev Uf:=JQ 20
abbrev T4 a:=GZ (Na a)
abbrev U1 a:=EA (RF a)
attribute [go_sem] BOA BQT Na Uf T4 U1
theorem CTZ(a:GL):(CND a)=(Ir (KZ (EN (sD (dA a) (nZ a) Uf BB Uf (EZ (RF a)) (mL a) (Ye a)))) (MO HO (hd7 20 (BO (ES a))) (AR AF (U1 a) Fq (oD 20 20) (BK (U1 a) (CM (RF a)) (AY (SV a)) (BJ (SV a)) (OW (SV a)) (VG (SV a)) (And Fq (BM 20 (NP (Na a)))) (LV (RF a)) (AG (λi=>Gu i (T4 a) (Na a) i i (Oq a))))) (Ur (λi=>IB (EN (DO (dA a) (nZ a) Uf (Yd 0 20) (Yd 20 (BOA (sG 20 20) (hd65 (BEG 2 (BQT hd53))))) (BC (RF a) (Na a)) (λj=>AOV j (RF a) (stM (Lc (Oq a)) (Na a))) (mL a) (Ye a))) HO 0 0)) (AO (AR AF (U1 a) Fq (nZ a) (BK (U1 a) (CM (RF a)) (AY (SV a)) (BJ (SV a)) (OW (SV a)) (VG (SV a)) (And Fq (AI (ES a) (T4 a))) (LV (RF a)) (AG (λi=>Gu i (T4 a) (Na a) i i (Oq a))))) (KZ (Wx AF (dA a) (BO (ES a)) Uf (BC (RF a) (Na a)) (AG (λi=>Wt i (RF a) (aW a a) i (stM (Lc (Oq a)) (Na a)) i)) (mL a) (Ye a))) (Ep (λi=>So HO 20 (BO (ES a)) zA (OS (dA a) (AG (λj=>CER j (RF a) (aW a a) j)) (SV a) (Ye a))))))):=by kernel_rfl
def stbT(a:GA)(b:Nat):List (Nat×AVal):=[gaO a,(1,.int a.l.length),(2,nN),(6,.int b)]
def stb2(a:GA):Shape:={ α:=Nat,dflt:=0,T:=λt=>⟨stbT a 20 ++ [(7,.int (20*t:Nat)),(8,.int (20*t+20:Nat))],gaK a⟩,inv:=λt=>t<=1,meas:=λt=>1-t }
def stb7(a:GA):Shape:={ α:=Nat,dflt:=0,T:=λt=>⟨stbT a (20*t+20),gaK a⟩,inv:=λt=>t<=1,meas:=λt=>1-t }
def stb9(a:GA)(m:Nat):Shape:={ α:=Nat,dflt:=0,T:=λt=>⟨stbT a (20*t+20) ++ [(7,.int 0),(8,.int 40)],gaK a⟩,inv:=λt=>t=0/\m=1/\20<a.l.length,meas:=λ_=>0 }
def CNQ(a:GA):Ann:={ ann 63 [(138,C_insA.spec dGA),(139,(C_sm 25).spec dGA)] with E:=[100,101],loops:=λid=>if id=2 then some [stb2 a] else if id=7 then some [stb7 a] else none,inner:=λgs id=>if id=9 then some [stb9 a (gs.getD 0 0)] else none }
def CNE(a:GA):Prop:=AS ZP (CNQ a) Tryz.f130 (AE Tryz.f130) [.own 100 1 0 a.l.length,.int a.l.length,nN] (AB (gaL a)) (.d (.tup [])) (gaK a) [] []
abbrev vL a:=ABE 20 a
abbrev UZ a:=sG (vL a) 20
abbrev ZK a:=FI (LN a)
abbrev AOU a:=wY 0 (UZ a)
abbrev X3 a:=NV (AOU a)
abbrev Z5 a:=BP (WV a)
abbrev M6 a:=EA (LN a)
attribute [go_sem] vL UZ ZK AOU X3 Z5 M6
theorem CVL(a:GA):(CNE a)=(HU (λi=>XV (EN (sD (Ph a) (Z5 a) Uf (BX (vL i)) (MM (UZ i) 20) (Tr a) (Yi a) (Nb a))) i 1) (λi=>MO (Ko i 1) (hd7 (BO (UZ i)) (NP (LN a))) (CY AF (M6 a) (BP (vL i)) (BP (UZ i)) (M6 a) (CM (LN a)) (BK (AY (UV a)) (BJ (UV a)) (BC (LN a) (ZK a)) (BR (LN a) (ZK a)) (OW (UV a)) (VG (UV a)) (gaOk (Xc a) (ZK a)) (FF (vL i) (UZ i)) (Tt (UZ i) (ZK a)))) (EI (λj=>Bm (EN (sD (Ph a) (Z5 a) Uf (AI (vL j) (UZ i)) (MM (UZ j) (wY (BO (UZ i)) 20)) (Tr a) (Yi a) (Nb a))) j 1 j i)) (WX (CY AF (M6 a) (BP (vL i)) (Z5 a) (M6 a) (CM (LN a)) (BK (AY (UV a)) (BJ (UV a)) (BC (LN a) (ZK a)) (BR (LN a) (ZK a)) (OW (UV a)) (VG (UV a)) (gaOk (Xc a) (ZK a)) (FF (vL i) (WV a)) (Tt (WV a) (ZK a)))) (EI (λj=>XV (wF AF (Ph a) (NP (LN a)) (AI (UZ j) 20) (Tr a) (Yi a) (Nb a)) j 1)) (λj=>Ee (Ko j 1) (UZ j) (WV a) (HU (λk=>BD (EN (sD (Ph a) (Z5 a) (AI (UZ k) (UZ j)) BB (BM 40 (SI 2 (BO (UZ j)))) (Tr a) (Yi a) (Nb a))) (HE k) (PI (TJ 1 j)) (FC 20 (WV a))) (λk=>MO (IB (HE k) (PI (TJ 1 j)) 20 (WV a)) (hd7 40 (NP (LN a))) (yF AF (M6 a) (MM DW (hd63 0)) (MM (X3 k) (AOU k)) (MM (NV 40) (hd63 40)) (DO (CM (LN a)) (AY (UV a)) (BJ (UV a)) (BC (LN a) (ZK a)) (BR (LN a) (ZK a)) (OW (UV a)) (λl=>UA l (UV a) (Xc a)) (BD (gaOk (Xc a) (ZK a)) (SA (X3 k)) (FC (X3 k) 40) (Tt 40 (ZK a))) (FC 40 25))) (EI (λl=>IB (EN (sD (Ph a) (Z5 a) (AI (UZ l) (UZ k)) (Yd 0 40) (BM 40 (Up 40 (SI 2 (BO (UZ k))))) (Tr a) (Yi a) (Nb a))) (IB (HE l) (PI (TJ 1 j)) 20 (WV a)) 0 0)) (BNA (Tx (AOU k) (NP (LN a))) (yF AF (M6 a) (MM DW (hd63 0)) (MM (X3 k) (AOU k)) (Z5 a) (DO (CM (LN a)) (AY (UV a)) (BJ (UV a)) (BC (LN a) (ZK a)) (BR (LN a) (ZK a)) (OW (UV a)) (λl=>UA l (UV a) (Xc a)) (BD (gaOk (Xc a) (ZK a)) (SA (X3 k)) (FC (X3 k) (WV a)) (Tt (WV a) (ZK a))) (FC (VC (WV a)) 25))) (EI (λl=>Bm (wF AF (Ph a) (NP (LN a)) (MM (UZ l) (SI (BO (UZ k)) 2)) (Tr a) (Yi a) (Nb a)) l 1 l j))))) (OS (Ph a) (Tr a) (UV a) (Nb a)))))):=by kernel_rfl
def dGLt:List AVal->Heap->Option (GL×List (Nat×Nat)×List Nat)
 |[.own id _ _ n,.fn (.func f) [] [.bptr c _]],H=>if f=110 then match H id,H c with
  | .live (.row _ m r),.live (.box [.d (.list _ k h _)])=>some (⟨HA k λi=>Ky (h i),HA n λi=>EG (r i),0,0⟩,[(100,id),(101,c)],[])
  |_,_=>none else none
 |_,_=>none
def C_ss:Ctr:={ ro:=[101],α:=GL,xs:=λa=>[.own 100 1 0 a.l.length,nN],L:=λa=>[(100,rowI a.l),(101,bxG a.g)],val:=λ_=>.d (.tup []),keep:=λa=>glK a (stM (LM a.g) a.l),pre:=λa=>[glSm a] }
def A_ss:Ann:={ ann 9 [(130,C_stb.spec dGLs)] with E:=[100,101] }
def V_ss(a:GL):Prop:=AS ZP A_ss Tryz.f109 (AE Tryz.f109) (C_ss.xs a) (AB (C_ss.L a)) (C_ss.val a) (C_ss.keep a) [] []
abbrev qT a:=FC a 20
attribute [go_sem] qT
theorem DAU(a:GL):(V_ss a)=(AR (dH (U1 a) (DO (nZ a) (U1 a) (CM (RF a)) (AY (SV a)) (BJ (SV a)) (OW (SV a)) (λi=>UA i (SV a) (Oq a)) (AI (ES a) (T4 a)) (Or (And (qT (T4 a)) (glOk (GL.mk (Oq a) (Na a) (BO (ES a)) 0))) (GP 20 (T4 a) (gaOk (Oq a) (Na a)))))) (BC (RF a) (Na a)) (AG (λi=>Wt i (RF a) (aW a a) i (stM (Lc (Oq a)) (Na a)) i)) (mL a) (Ye a)):=by kernel_rfl
theorem BMZ:AH ZP 110 (C_fw1.spec dGAB):=PW C_fw1 (λ_=>CQB) [] [] Tryz.func110 (λ_=>by kernel_rfl) (λ_=>AA AJK AD) (λ(a:GAB) h=>by
 show CPX a;rw[CTS]<;> dsimp only[go_sem];simp only[CC,CU]
 exact⟨h,rfl⟩) (λ_=>RA rfl rfl) _
theorem R1{a b:Int}:Ib a b<0↔a<b:=by
 unfold Ib
 by_cases h:a<b
 ·simp[h]
 ·by_cases h2:b<a
  ·simp[h,h2]
  ·simp[h,h2]
theorem BSQ{l:List Int}{j i:Nat}{x:Int}(hj:j<l.length):gD (l.set j x) i=bif decide (i=j) then x else gD l i:=by
 unfold gD
 rw[List.getD_eq_getElem?_getD,List.getD_eq_getElem?_getD,List.getElem?_set]
 by_cases h:i=j
 ·subst h;simp[hj]
 ·simp[h,Ne.symm h]
theorem ACB{l:List Int}{j i:Nat}(hj:j+1<l.length):gD (swL l j) i=bif decide (i=j) then gD l (j+1) else bif decide (i=j+1) then gD l j else gD l i:=by
 unfold swL
 rw[BSQ (by simpa using hj),BSQ (by omega)]
 by_cases h:i=j
 ·subst h;simp
 ·simp[h]
theorem AFY(l:List Int)(j:Nat):(swL l j).length=l.length:=by simp[swL]
theorem DBD(a:GL)(h:glOk a):COC a:=by
 rw[CUZ]<;> dsimp only[go_sem];simp only[CC,CU]
 obtain⟨hlen,hin⟩:=h
 refine⟨⟨⟨1,a.l⟩,⟨by show (1:Int)=_;rw[HL (by omega) (by omega)];rfl,λ_ _=>rfl⟩,Nat.one_pos,.inr rfl,⟨rfl,hin⟩,rfl⟩,λx ⟨x1,x2,⟨x3,x4⟩,x5⟩=>⟨λhlt=>⟨⟨⟨x.i,x.i,x.l⟩,⟨rfl,rfl,λ_ _=>rfl⟩,rfl,x1,Int.ofNat_lt.1 hlt,Nat.le_refl _,⟨x3,x4⟩,?_⟩,λy ⟨y1,y2,y3,y4,⟨y5,y6⟩,y7⟩=>?_⟩,λhge=>?_⟩⟩
 ·rw[x5,show a.l.length-x.i=(a.l.length-(x.i+1))+1 by omega];rfl
 ·refine⟨⟨λ_=>⟨by omega,by omega⟩,λ_=>by omega,λhj=>?_,λhj=>?_,λhj=>⟨y6 _ (by omega),?_⟩⟩,λhc=>?_,λhc=>?_⟩
  ·rw[HL (by omega) (by omega)];omega
  ·rw[HL (by omega) (by omega)];omega
  ·rw[HL (by omega) (by omega)];exact y6 _ (by omega)
  ·have hj:0<y.j:=by
    cases hd:decide ((y.j:Int)>0) with
    |false=>rw[hd] at hc;cases hc
    |true=>have:=of_decide_eq_true hd;omega
   obtain⟨j,hj2⟩:∃j,y.j=j+1:=⟨y.j-1,by omega⟩
   have e:IntKind.i64.wrap ((y.j:Int)-1)=(j:Nat):=by rw[HL (by omega) (by omega)];omega
   rw[decide_eq_true (show (y.j:Int)>0 by omega)] at hc
   have hc:decide (Ib (LM a.g (gD y.l y.j)) (LM a.g (gD y.l (IntKind.i64.wrap ((y.j:Int)-1)).toNat))<0)=true:=hc
   rw[e] at hc ⊢
   simp only[Int.toNat_natCast] at hc ⊢
   refine⟨⟨⟨by omega,by omega⟩,by omega,⟨by omega,by omega⟩,by omega,⟨by omega,by omega⟩,by omega,⟨by omega,by omega⟩,by omega⟩,⟨y.i,j,swL y.l j⟩,⟨rfl,rfl,λi hi=>?_⟩,⟨y1,y2,y3,by show j<=y.i;omega,⟨by rw[AFY];exact y5,λi hi=>?_⟩,?_⟩,by show j<_;omega⟩
   ·show gD (swL y.l j) i=_
    rw[ACB (by omega),hj2]
   ·show 0<=gD (swL y.l j) i/\gD (swL y.l j) i<_
    rw[ACB (by omega)]
    cases decide (i=j)
    ·cases decide (i=j+1)
     ·exact y6 i hi
     ·exact y6 j (by omega)
    ·exact y6 (j+1) (by omega)
   ·rw[hj2] at hc y7
    unfold Xi at y7
    rw[hc] at y7;exact y7
  ·have hq:Xi (LM a.g) y.j y.l=y.l:=by
    cases hd:decide ((y.j:Int)>0) with
    |false=>
     have:=of_decide_eq_false hd
     rw[show y.j=0 by omega];rfl
    |true=>
     have hj:=of_decide_eq_true hd
     obtain⟨j,hj2⟩:∃j,y.j=j+1:=⟨y.j-1,by omega⟩
     have e:IntKind.i64.wrap ((y.j:Int)-1)=(j:Nat):=by rw[HL (by omega) (by omega)];omega
     rw[hd] at hc
     have hc:decide (Ib (LM a.g (gD y.l y.j)) (LM a.g (gD y.l (IntKind.i64.wrap ((y.j:Int)-1)).toNat))<0)=false:=hc
     rw[e,hj2] at hc
     simp only[Int.toNat_natCast] at hc
     rw[hj2];unfold Xi;rw[hc];rfl
   rw[hq] at y7
   refine⟨⟨y.i+1,y.l⟩,⟨(BF (by omega)).symm,λ_ _=>rfl⟩,⟨by show 0<y.i+1;omega,.inl (by show y.i+1<=_;omega),⟨y5,y6⟩,y7⟩,by show a.l.length-(y.i+1)<_;omega⟩
 ·intro i hi
  rw[x5,show a.l.length-x.i=0 by omega];rfl
theorem CTG:AH ZP 138 (C_ins.spec dGL):=okT C_ins (λ(a:GL) h=>by
 obtain⟨⟨ha,hb⟩,h⟩:(a.a=0/\a.b=a.l.length)/\glOk a:=h
 show FnT ZP 138 [.own 100 1 0 a.l.length,.int a.a,.int a.b,nN] _ _ _
 rw[ha,hb]
 exact WP (A:=COZ a) (L:=C_ins.L a) (keep:=C_ins.keep a) (ren:=[]) (fz:=[]) Tryz.func138 (by kernel_rfl) (AA BMZ AD) (DBD a h)) _
theorem CAQ{key:Int->Int}{l:List Int}(h:ascK key l):∀i,i<l.length->Xi key i l=l
 |0,_=>rfl
 |i+1,hi=>by
  unfold Xi
  have:¬Ib (key (gD l (i+1))) (key (gD l i))<0:=λq=>h i (i+1) (by omega) hi (R1.1 q)
  rw[decide_eq_false this];rfl
theorem BQZ{key:Int->Int}{l:List Int}(h:ascK key l):∀n i,i+n<=l.length->stR key n i l=l
 |0,_,_=>rfl
 |n+1,i,hi=>by
  unfold stR;rw[CAQ h i (by omega)];exact BQZ h n (i+1) (by omega)
theorem CLL{key:Int->Int}{l:List Int}(h:ascK key l):stM key l=l:=by
 unfold stM
 cases l with
 |nil=>rfl
 |cons a r=>exact BQZ h _ 1 (by simp;omega)
theorem CSV(a:GA)(h:gaOk a.g a.l)(h1:a.x<=a.y)(h2:a.y<=a.l.length):CDX a:=by
 rw[CHS]<;> dsimp only[go_sem];simp only[CC,CU]
 obtain⟨g1,g2,g3⟩:=h
 refine⟨⟨a.x+1,(BF (by omega)).symm,by omega,.inr rfl⟩,λi ⟨i1,i2⟩ hlt=>⟨⟨i,rfl,rfl,i1,by omega⟩,λj ⟨j1,j2,j3⟩=>?_⟩⟩
 have e:IntKind.i64.wrap ((j:Int)-1)=((j-1:Nat):Int):=by rw[HL (by omega) (by omega)];omega
 rw[e];simp only[Int.toNat_natCast]
 rw[decide_eq_false (λq=>g3 (j-1) j (by omega) (by omega) (R1.1 q)),decide_eq_true (show (j:Int)>a.x by omega)]
 exact⟨⟨λ_=>⟨by omega,by omega⟩,λ_=>by omega,λ_=>⟨by omega,by omega⟩,λ_=>by omega,λ_=>⟨g2 _ (by omega),g2 _ (by omega)⟩⟩,λc=>(by cases c),λ_=>⟨j+1,(BF (by omega)).symm,⟨by omega,.inl (by omega)⟩,by omega⟩⟩
theorem CKS:AH ZP 138 (C_insA.spec dGA):=PW C_insA CBU [] [] Tryz.func138 (λ_=>by kernel_rfl) (λ_=>AA BMZ AD) (λ(a:GA) h=>CSV a h.1 h.2.1 h.2.2) (λ_=>RA rfl rfl) _
theorem DBK:AH ZP 143 (C_no.spec dNo):=okT C_no (λ_ h=>h.elim) _
theorem DAV(a:GA):(smM a<a.y/\mgS a=smM a+a.y-a.z/\mgR a=smM a)∨(a.y<=smM a/\mgS a=a.x/\mgR a=a.y):=by
 unfold mgS mgR
 by_cases h:a.y>smM a
 ·rw[if_pos h,if_pos h];exact .inl ⟨h,rfl,rfl⟩
 ·rw[if_neg h,if_neg h];exact .inr ⟨by omega,rfl,rfl⟩
theorem p_sm(w:NX)(h:gaOk w.a.g w.a.l/\w.a.x<w.a.y/\w.a.y<w.a.z/\w.a.z<=w.a.l.length)(hN:w.a.z-w.a.x<w.n+1):V_sm w:=by
 rw[CXI]<;> dsimp only[go_sem];simp only[CC,CU]
 obtain⟨hg,d1,d2,d3⟩:=h
 have ⟨g1,g2,g3⟩:=hg
 have no:∀i j:Nat,i<=j->j<w.a.l.length->¬Ib (LM w.a.g (gD w.a.l j)) (LM w.a.g (gD w.a.l i))<0:=λi j a b q=>g3 i j a b (R1.1 q)
 have w1:IntKind.i64.wrap ((w.a.y:Int)-w.a.x)=((w.a.y-w.a.x:Nat):Int):=by rw[HL (by omega) (by omega)];omega
 have w2:IntKind.i64.wrap ((w.a.z:Int)-w.a.y)=((w.a.z-w.a.y:Nat):Int):=by rw[HL (by omega) (by omega)];omega
 have hM:IntKind.i64.wrap (IntKind.u64.wrap (IntKind.i64.wrap ((w.a.x:Int)+w.a.z)) / 2 ^ Int.toNat 1)=((smM w.a:Nat):Int):=half (by omega)
 have eM:smM w.a=(w.a.x+w.a.z) / 2:=rfl
 have eE:smE w.a=smM w.a+w.a.y-mgR w.a:=rfl
 rw[w1,w2,hM]
 refine⟨λc1=>?_,λc1=>⟨λc2=>?_,λc2=>?_⟩⟩
 ·have e:w.a.y=w.a.x+1:=by
   have:((w.a.y-w.a.x:Nat):Int)=1:=by simpa using c1
   omega
  refine⟨⟨w.a.z,rfl,⟨by omega,Nat.le_refl _⟩,e⟩,λs ⟨⟨s1,s2⟩,_⟩=>?_⟩
  have hf:IntKind.i64.wrap (IntKind.u64.wrap (IntKind.i64.wrap ((w.a.y:Int)+s)) / 2 ^ Int.toNat 1)=(((w.a.y+s) / 2:Nat):Int):=half (by omega)
  have hf':IntKind.i64.wrap (IntKind.u64.wrap (IntKind.i64.wrap ((w.a.y:Int)+s)) / 2 ^ 1)=(((w.a.y+s) / 2:Nat):Int):=hf
  rw[hf,hf'];simp only[Int.toNat_natCast]
  refine⟨λhlt=>⟨by omega,⟨⟨by omega,by omega⟩,by omega,⟨by omega,by omega⟩,by omega,g2 _ (by omega),g2 _ (by omega)⟩,λc=>absurd c (no _ _ (by omega) (by omega)),λ_=>⟨(w.a.y+s) / 2,rfl,⟨⟨by omega,by omega⟩,e⟩,by omega⟩⟩,λhge=>⟨⟨default,e⟩,λ_ hlt=>?_⟩⟩
  rw[HL (by omega) (by omega)] at hlt;omega
 ·refine⟨⟨w.a.x,rfl,Nat.le_refl _,by omega⟩,λs ⟨s1,s2⟩=>?_⟩
  have hf:IntKind.i64.wrap (IntKind.u64.wrap (IntKind.i64.wrap ((s:Int)+w.a.y)) / 2 ^ Int.toNat 1)=(((s+w.a.y) / 2:Nat):Int):=half (by omega)
  have hf':IntKind.i64.wrap (IntKind.u64.wrap (IntKind.i64.wrap ((s:Int)+w.a.y)) / 2 ^ 1)=(((s+w.a.y) / 2:Nat):Int):=hf
  rw[hf,hf'];simp only[Int.toNat_natCast]
  exact⟨λhlt=>⟨by omega,⟨⟨by omega,by omega⟩,by omega,⟨by omega,by omega⟩,by omega,g2 _ (by omega),g2 _ (by omega)⟩,λ_=>⟨(s+w.a.y) / 2+1,(BF (by omega)).symm,⟨by omega,by omega⟩,by omega⟩,λc=>absurd c (no _ _ (by omega) (by omega))⟩,λhge=>⟨⟨default,by omega⟩,λhgt=>absurd hgt (by omega)⟩⟩
 ·have m1:w.a.y-w.a.x≠1:=λq=>by rw[q] at c1;cases c1
  have m2:w.a.z-w.a.y≠1:=λq=>by rw[q] at c2;cases c2
  have k1:IntKind.i64.wrap ((smM w.a:Int)+w.a.y)=((smM w.a:Int)+w.a.y):=HL (by omega) (by omega)
  have k2:IntKind.i64.wrap ((smM w.a:Int)+w.a.y-1)=(smM w.a:Int)+w.a.y-1:=HL (by omega) (by omega)
  have k3:IntKind.i64.wrap ((smM w.a:Int)+w.a.y-w.a.z)=(smM w.a:Int)+w.a.y-w.a.z:=HL (by omega) (by omega)
  have hS:=DAV w.a
  rw[k1,k2,k3]
  refine⟨by omega,⟨λc=>⟨default,rfl,rfl,by omega,by omega⟩,λc=>⟨default,rfl,rfl,by omega,by omega⟩⟩,⟨mgS w.a,⟨rfl,rfl⟩,Nat.le_refl _,by omega⟩,λs ⟨s1,s2⟩=>⟨λhlt=>?_,λhge=>?_⟩⟩
  ·have hf:IntKind.i64.wrap (IntKind.u64.wrap (IntKind.i64.wrap ((s:Int)+mgR w.a)) / 2 ^ Int.toNat 1)=(((s+mgR w.a) / 2:Nat):Int):=half (by omega)
   have hf':IntKind.i64.wrap (IntKind.u64.wrap (IntKind.i64.wrap ((s:Int)+mgR w.a)) / 2 ^ 1)=(((s+mgR w.a) / 2:Nat):Int):=hf
   have kp:IntKind.i64.wrap ((smM w.a:Int)+w.a.y-1-(((s+mgR w.a) / 2:Nat):Int))=((smM w.a+w.a.y-1-(s+mgR w.a) / 2:Nat):Int):=by rw[HL (by omega) (by omega)];omega
   rw[hf,hf',kp];simp only[Int.toNat_natCast]
   exact⟨by omega,⟨⟨by omega,by omega⟩,by omega,⟨by omega,by omega⟩,by omega,g2 _ (by omega),g2 _ (by omega)⟩,λ_=>⟨(s+mgR w.a) / 2+1,(BF (by omega)).symm,⟨by omega,by omega⟩,by omega⟩,λc=>absurd c (no _ _ (by omega) (by omega))⟩
  ·have kE:IntKind.i64.wrap ((smM w.a:Int)+w.a.y-s)=((smE w.a:Nat):Int):=by rw[HL (by omega) (by omega)];omega
   rw[kE]
   have B:∀{a b c d:Int},(bif decide (a<b) then decide (c<d) else false)=true->a<b/\c<d:=λ{a b c d} q=>by
    by_cases h1:a<b
    ·rw[decide_eq_true h1] at q;exact⟨h1,of_decide_eq_true q⟩
    ·rw[decide_eq_false h1] at q;cases q
   exact⟨⟨λc=>(by have:=B c;omega),λ_=>⟨default,by omega,rfl⟩⟩,λc=>(by have:=B c;exact⟨⟨⟨hg,by omega,by omega,by omega⟩,by omega⟩,λc3=>by have:=B c3;omega⟩),λ_ c3=>(by have:=B c3;exact⟨⟨hg,by omega,by omega,by omega⟩,by omega⟩)⟩
theorem CPD:∀n,AH ZP 139 ((C_sm n).spec dGA)
 |0=>okT (C_sm 0) (λ(a:GA) h=>absurd (show _/\a.z-a.x<0 from h).2 (Nat.not_lt_zero _)) _
 |n+1=>PW (C_sm (n+1)) (λa=>A_mg ⟨n,a⟩) [] [] Tryz.func139 (λ_=>by kernel_rfl) (λ_=>AA BMZ (AA DBK (AA (CPD n) AD))) (λ(a:GA) h=>p_sm ⟨n,a⟩ h.1 h.2) (λ_=>RA rfl rfl) _
theorem DCB(a:GA)(h:gaOk a.g a.l)(h1:20<=a.l.length):CNE a:=by
 rw[CVL]<;> dsimp only[go_sem];simp only[CC,CU]
 have g1:=h.ln
 refine⟨⟨0,⟨rfl,rfl⟩,by omega⟩,λt ht=>⟨λhle=>⟨⟨h,by omega,by omega⟩,1,⟨by omega,by rw[HL (by omega) (by omega)];omega⟩,by omega,by omega⟩,λhgt=>⟨⟨h,by omega,Nat.le_refl _⟩,⟨0,rfl,by omega⟩,λs hs hlt=>⟨⟨0,⟨by omega,by rw[HL (by omega) (by omega)];omega⟩,rfl,by omega,by omega⟩,λv ⟨v1,v2,v3⟩=>⟨λh40=>by omega,λ_=>?_⟩⟩⟩⟩⟩
 subst v1
 have k:IntKind.i64.wrap (0+((20*0+20:Nat):Int))=((20:Nat):Int):=by rw[HL (by omega) (by omega)];rfl
 rw[k];simp only[Int.toNat_natCast]
 exact⟨λhm=>⟨⟨rfl,trivial,⟨h,by omega,by omega,Nat.le_refl _⟩,by omega⟩,1,by rw[HL (by omega) (by omega)];rfl,by omega,by omega⟩,λhm=>by omega⟩
theorem CRJ:AH ZP 130 (C_stb.spec dGLs):=okT C_stb (λ(a:GL) h=>by
 obtain⟨ha,h⟩:a.a=a.l.length/\glSm a:=h
 show FnT ZP 130 [.own 100 1 0 a.l.length,.int a.a,nN] _ _ (glK a (stM (LM a.g) a.l))
 rw[ha]
 rcases h with⟨hb,h⟩ | ⟨hb,h⟩
 ·refine WP (A:=CNR a) (L:=C_stb.L a) (keep:=C_stb.keep a) (ren:=[]) (fz:=[]) Tryz.func130 (by kernel_rfl) (AA CTG AD) ?_
  show CND a
  rw[CTZ]<;> dsimp only[go_sem];simp only[CC,CU]
  exact⟨⟨default,trivial⟩,λhc=>by omega,λ_=>⟨⟨rfl,rfl,h⟩,⟨default,trivial⟩,λhc=>by omega⟩⟩
 ·rw[CLL h.a]
  exact WP (A:=CNQ ⟨a.g,a.l,0,0,0⟩) (L:=gaL ⟨a.g,a.l,0,0,0⟩) (keep:=gaK ⟨a.g,a.l,0,0,0⟩) (ren:=[]) (fz:=[]) Tryz.func130 (by kernel_rfl) (AA CKS (AA (CPD 25) AD)) (DCB ⟨a.g,a.l,0,0,0⟩ h hb)) _
theorem CWY:AH ZP 109 (C_ss.spec dGLt):=PW C_ss (λ_=>A_ss) [] [] Tryz.func109 (λ_=>by kernel_rfl) (λ_=>AA CRJ AD) (λ(a:GL) h=>by
 show V_ss a;rw[DAU]<;> dsimp only[go_sem];simp only[CC,CU]
 exact h) (λ_=>RA rfl rfl) _
end Go.Bal
