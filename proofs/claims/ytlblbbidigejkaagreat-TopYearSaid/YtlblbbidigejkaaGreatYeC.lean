/- TopYear: records: Check. Printed by genyea.py. -/
import Derived.Test.YtlblbbidigejkaaGreatRT3
set_option linter.unusedVariables false
set_option linter.unusedSimpArgs false
set_option maxRecDepth 8000
namespace Go.Bal
open Go Go.Sym Go.Proofs
def CRD(x:I3):Prop:=AS ZP (ann 15 []) Tryz.f43 (AG Tryz.f43) (xI3 x) (AC []) (.bool (NJ x.a x.b x.c)) [] [] []
theorem CXO(x:I3):(CRD x)=(SQ (NJ (lY x) (I3.b x) (I3.c x)) (hd6 (lY x) (I3.b x)) (hd7 (lY x) (I3.c x))):=by kernel_rfl
def AMK:=pD dI1 λx=>.bool (NJ x 0 1000000000)
def BQI(x:Int):Prop:=AS ZP (ann 5 [(43,My)]) Tryz.f74 (AG Tryz.f74) (xI1 x) (AC []) (.bool (NJ x 0 1000000000)) [] [] []
theorem CEJ(x:Int):(BQI x)=(WI (JR x 1000000000)):=by kernel_rfl
def xSp1(x:Span):List AVal:=[.d (EQ x)]
def dSp1:List AVal->Option Span
 |[.d (.agg [.v (.int .i64 p),.v (.int .i64 q)])]=>some ⟨p,q⟩
 |_=>none
theorem hSp1(xs:List AVal)(a:Span)(h:dSp1 xs=some a):xs=xSp1 a:=by
 unfold dSp1 at h;split at h<;>cases h;rfl
def R3(x:Span):Bool:=NJ x.lo 0 x.hi&&NJ x.hi 0 1000000000
def BNB:=pD dSp1 λx=>.bool (R3 x)
def CHH(x:Span):Prop:=AS ZP (ann 13 [(43,My),(74,AMK)]) Tryz.f77 (AG Tryz.f77) (xSp1 x) (AC []) (.bool (R3 x)) [] [] []
theorem CKU(x:Span):(CHH x)=(SQ (R3 x) (JR (IP x) (GN x)) (JR (GN x) 1000000000)):=by kernel_rfl
def okVl(x:Vl):Bool:=bif !x.k then true else R3 ⟨x.lo,x.hi⟩
def xVl1(x:Vl):List AVal:=[.d (eVl x)]
def dVl1:List AVal->Option Vl
 |[.d (.agg [.v (.bool k),.v (.int .i64 p),.v (.int .i64 q)])]=>some ⟨k,p,q⟩
 |_=>none
theorem hVl1(xs:List AVal)(a:Vl)(h:dVl1 xs=some a):xs=xVl1 a:=by
 unfold dVl1 at h;split at h<;>cases h;rfl
def BZC:=pD dVl1 λx=>.bool (okVl x)
def CHP(x:Vl):Prop:=AS ZP (ann 11 [(77,BNB)]) Tryz.f76 (AG Tryz.f76) (xVl1 x) (AC []) (.bool (okVl x)) [] [] []
abbrev xW:=okVl
abbrev zL:=Vl.k
abbrev G6:=Vl.lo
abbrev C8:=Vl.hi
attribute [go_sem] xW zL G6 C8
theorem CQJ(x:Vl):(CHP x)=(Sr (xW x) (Hc (not (zL x)) (R3 (AEH (G6 x) (C8 x))))):=by kernel_rfl
def spVl(x:Vl):Span:=⟨bif x.k then x.lo else 0,bif x.k then x.hi else 1000000000⟩
def BVT:=pD dVl1 λx=>.d (EQ (spVl x))
def BVL(x:Vl):Prop:=AS ZP (ann 8 []) Tryz.f108 (AG Tryz.f108) (xVl1 x) (AC []) (.d (EQ (spVl x))) [] [] []
theorem CFJ(x:Vl):(BVL x)=(iM (zL x) (fT (spVl x) (G6 x)) (AN (GN (spVl x)) (C8 x)) (BZ (IP (spVl x))) (AN (GN (spVl x)) 1000000000)):=by kernel_rfl
def leS(x:Span):Bool:=decide (x.lo<=x.hi)
def CGK:=pD dSp1 λx=>.bool (leS x)
def CIS(x:Span):Prop:=AS ZP (ann 8 []) Tryz.f112 (AG Tryz.f112) (xSp1 x) (AC []) (.bool (leS x)) [] [] []
theorem COF(x:Span):(CIS x)=(Sr (leS x) (hd7 (IP x) (GN x))):=by kernel_rfl
theorem AYE:AH ZP 43 My:=NH xI3 hI3 λx _=>TF (A:=ann 15 []) (ren:=[]) (fz:=[]) Tryz.func43 (by kernel_rfl) AD (by
 show CRD x;rw[CXO]<;> dsimp only[go_sem];unfold NJ;by_cases h:x.b<=x.a<;>simp[h])
theorem BGP:AH ZP 74 AMK:=NH xI1 hI1 λx _=>TF (A:=ann 5 [(43,My)]) (ren:=[]) (fz:=[]) Tryz.func74 (by kernel_rfl) (AA AYE AD) (by
 show BQI x;rw[CEJ]<;> dsimp only[go_sem])
theorem CPU:AH ZP 77 BNB:=NH xSp1 hSp1 λx _=>TF (A:=ann 13 [(43,My),(74,AMK)]) (ren:=[]) (fz:=[]) Tryz.func77 (by kernel_rfl) (AA AYE (AA BGP AD)) (by
 show CHH x;rw[CKU]<;> dsimp only[go_sem];unfold R3;cases NJ x.lo 0 x.hi<;>rfl)
theorem CPH:AH ZP 76 BZC:=NH xVl1 hVl1 λx _=>TF (A:=ann 11 [(77,BNB)]) (ren:=[]) (fz:=[]) Tryz.func76 (by kernel_rfl) (AA CPU AD) (by
 show CHP x;rw[CQJ]<;> dsimp only[go_sem];rfl)
theorem CID:AH ZP 108 BVT:=NH xVl1 hVl1 λx _=>TF (A:=ann 8 []) (ren:=[]) (fz:=[]) Tryz.func108 (by kernel_rfl) AD (by
 show BVL x;rw[CFJ]<;> dsimp only[go_sem];obtain⟨k,a,b⟩:=x;cases k<;>simp[spVl])
theorem CME:AH ZP 112 CGK:=NH xSp1 hSp1 λx _=>TF (A:=ann 8 []) (ren:=[]) (fz:=[]) Tryz.func112 (by kernel_rfl) AD (by
 show CIS x;rw[COF]<;> dsimp only[go_sem];rfl)
def fvDv(q:One):AVal:=.fn (.func 76) [] []
def BDv(q:One):AObj:=.box [fvDv q]
structure EDv where
 q:One
 e:Vl
structure MDv where
 q:One
 l:List Vl
def C1Dv:Ctr:={ ro:=[100],α:=EDv,xs:=λa=>[.d (eVl a.e),.bptr 100 0],L:=λa=>(100,BDv a.q) :: [],val:=λa=>.bool (!okVl a.e),keep:=λa=>(100,.live (BDv a.q)) :: [],pre:=λa=>[True] }
def d1Dv:List AVal->Heap->Option (EDv×List (Nat×Nat)×List Nat)
 |[.d d,.bptr id _],H=>some (⟨default,dVl d⟩,[(100,id)],[])
 |_,_=>none
def A1Dv:Ann:={ ann 8 [(76,BZC)] with E:=[100] }
def V1Dv(a:EDv):Prop:=AS ZP A1Dv Tryz.f114 (AG Tryz.f114) (C1Dv.xs a) (AC (C1Dv.L a)) (C1Dv.val a) (C1Dv.keep a) [] []
theorem DBK(a:EDv):(V1Dv a)=(ANW (not (xW (EDv.e a))) (xW (Vl.mk (zL (EDv.e a)) (G6 (EDv.e a)) (C8 (EDv.e a))))):=by kernel_rfl
theorem CYD:AH ZP 114 (C1Dv.spec d1Dv):=MK C1Dv (λ_=>A1Dv) [] [] Tryz.func114 (λ_=>by kernel_rfl) (λ_=>AA CPH AD) (λ(a:EDv) h=>by
 have h:True:=h
 show V1Dv a;rw[DBK]<;> dsimp only[go_sem];try simp[wr,GC,QZ,KA,JV,h]) (λ_=>OA rfl rfl) _
def d2Dv:List AVal->Heap->Option (MDv×List (Nat×Nat)×List Nat)
 |[y,.fn _ _ [.bptr id _]],H=>match Ti y H with
  |some (n,g,f)=>some (⟨default,HQ n λi=>dVl (g i)⟩,[(100,id)],f)
  |none=>none
 |_,_=>none
def A2Dv(a:MDv):Ann:={ ann 19 [(114,C1Dv.spec d1Dv)] with E:=[100],loops:=λid=>if id=2 then some [{ α:=Nat,dflt:=0,T:=λk=>⟨[(0,.d (eVls a.l)),(1,.fn (.func 114) [] [.bptr 100 0]),(7,.int a.l.length),(8,.int k)],(100,.live (BDv a.q)) :: []⟩,inv:=λk=>k<=a.l.length/\TE (λi=>!okVl (gD a.l i)) a.l.length 0=TE (λi=>!okVl (gD a.l i)) (a.l.length-k) k,meas:=λk=>a.l.length-k }] else none }
def PDv(a:MDv):List Prop:=[a.l.length<4611686018427387904/\True]
def C2Dv:Ctr:={ ro:=[100],α:=MDv,xs:=λa=>[.d (eVls a.l),.fn (.func 114) [] [.bptr 100 0]],L:=λa=>(100,BDv a.q) :: [],val:=λa=>.int (TE (λi=>!okVl (gD a.l i)) a.l.length 0),keep:=λa=>(100,.live (BDv a.q)) :: [],pre:=PDv }
def V2Dv(a:MDv):Prop:=AS ZP (A2Dv a) Tryz.f139 (AG Tryz.f139) (C2Dv.xs a) (AC (C2Dv.L a)) (C2Dv.val a) (C2Dv.keep a) [] []
abbrev BIT:=@List.length Vl
abbrev BFU:=@gD Vl instInhabitedVl
abbrev AWX:=DVal.agg
abbrev XC a:=BIT (MDv.l a)
abbrev V6 a b:=BFU (MDv.l a) b
abbrev kL a b:=xW (V6 a b)
abbrev AZM a b c:=kG (WI a) b c
abbrev fQ a b:=C8 (V6 a b)
abbrev kD a b:=G6 (V6 a b)
abbrev fK a b:=zL (V6 a b)
abbrev AGG a b:=ATY a (ATY b AUW)
attribute [go_sem] BIT BFU AWX XC V6 kL AZM fQ kD fK AGG
theorem DDU(a:MDv):(V2Dv a)=(LR (λi=>DK (Vn (XC a) (λj=>HB j (XC a) (AZM (fK a j) (kD a j) (fQ a j))) (BC i)) i (XC a) (JJ (λj=>kL a j) (XC a) (λj=>kL a j) i)) (λi=>WR i (XC a) (JJ (λj=>kL a j) (XC a) (λj=>kL a j) i) (JG (CL i (XC a)) (Sr (zL (dVl (AWX (ALF (AEP (fK a i)) (AGG (kD a i) (fQ a i)))))) (fK a i)) (AN (G6 (dVl (AWX (ALF (AEP (fK a i)) (AGG (kD a i) (fQ a i)))))) (kD a i)) (C8 (dVl (AWX (ALF (AEP (fK a i)) (AGG (kD a i) (fQ a i)))))) (fQ a i) EB) (Uj (xW (dVl (AWX (ALF (AEP (fK a i)) (AGG (kD a i) (fQ a i)))))) (cO (λj=>kL a j) (XC a) i) (λj=>IK (Vn (XC a) (λk=>HB k (XC a) (AZM (fK a k) (kD a k) (fQ a k))) (AR j i)) j (XC a) (JJ (λk=>kL a k) (XC a) (λk=>kL a k) j) i)) (Yt (λj=>kL a j) (XC a)))):=by kernel_rfl
theorem p2Dv(a:MDv)(h:BG (PDv a)):V2Dv a:=by
 obtain⟨h,hp⟩:a.l.length<4611686018427387904/\True:=h
 rw[DDU]<;> dsimp only[go_sem]
 simp only[CC,CU,CK,JD,FM,FK,FL,QZ,KA,JV]
 refine⟨⟨0,rfl,Nat.zero_le _,rfl⟩,λk ⟨h1,h2⟩=>⟨λhlt=>?_,λhge=>?_⟩⟩
 ·have hlt:k<a.l.length:=by omega
  refine⟨⟨by omega,by omega⟩,λhp=>?_,λhp=>⟨k+1,(BJ (by omega)).symm,⟨by omega,?_⟩,by omega⟩⟩
  ·rw[h2];exact YB hlt (by simpa using hp)
  ·rw[h2];exact Wv hlt (by simpa using hp)
 ·rw[h2];exact Ge (by omega)
theorem DCL:AH ZP 139 (C2Dv.spec d2Dv):=MK C2Dv A2Dv [] [] Tryz.func139 (λ_=>by kernel_rfl) (λ_=>AA CYD AD) p2Dv (λ_=>OA rfl rfl) _
def C3Dv:Ctr:={ C2Dv with val:=λ(a:MDv)=>.bool (decide (TE (λi=>!okVl (gD a.l i)) a.l.length 0>=0)) }
def d3Dv:List AVal->Heap->Option (C3Dv.α×List (Nat×Nat)×List Nat):=d2Dv
def A3Dv:Ann:={ ann 9 [(139,C2Dv.spec d2Dv)] with E:=[100] }
def V3Dv(a:MDv):Prop:=AS ZP A3Dv Tryz.f113 (AG Tryz.f113) (C3Dv.xs a) (AC (C3Dv.L a)) (C3Dv.val a) (C3Dv.keep a) [] []
abbrev BSE:=@HQ Vl
abbrev sK a:=BIT (BSE (XC a) (λi=>dVl (eVl (V6 a i))))
abbrev pS a b:=BFU (BSE (XC a) (λi=>dVl (eVl (V6 a i)))) b
abbrev ABY a b c d e f:=Qu (Sr a b) c d e f
abbrev Fo a b c d e f g h:=HB a b (ABY c d e f g h)
attribute [go_sem] BSE sK pS ABY Fo
theorem DAU(a:MDv):(V3Dv a)=(Uw (BB (sK a) (XC a)) (AE (λi=>Fo i (sK a) (zL (pS a i)) (fK a i) (G6 (pS a i)) (kD a i) (C8 (pS a i)) (fQ a i))) (sK a) (Yu (λi=>kL a i) (XC a) (λi=>xW (pS a i)) (sK a))):=by kernel_rfl
theorem CZN:AH ZP 113 (C3Dv.spec d3Dv):=Ctr.spec_ok (C:=C3Dv) (λ(a:MDv) h=>TF (A:=A3Dv) (ren:=[]) (fz:=[]) Tryz.func113 (by kernel_rfl) (AA DCL AD) (by
 obtain⟨h,hp⟩:a.l.length<4611686018427387904/\True:=h
 show V3Dv a;rw[DAU]<;> dsimp only[go_sem];simp[h,hp,GC,QZ])) _
def d4Dv:List AVal->Heap->Option (MDv×List (Nat×Nat)×List Nat)
 |[y,.fn _ _ _],H=>match Ti y H with
  |some (n,g,f)=>some (⟨default,HQ n λi=>dVl (g i)⟩,[],f)
  |none=>none
 |_,_=>none
def A4Dv:Ann:={ ann 9 [(113,C3Dv.spec d3Dv)] with E:=[] }
def C4Dv:Ctr:={ ro:=[],α:=MDv,xs:=λa=>[.d (eVls a.l),fvDv a.q],L:=λa=>[],val:=λa=>.bool (a.l.all λx=>okVl x),keep:=λa=>[],pre:=PDv }
def V4Dv(a:MDv):Prop:=AS ZP A4Dv Tryz.f75 (AG Tryz.f75) (C4Dv.xs a) (AC (C4Dv.L a)) (C4Dv.val a) (C4Dv.keep a) [] []
abbrev BQZ:=@List.all Vl
attribute [go_sem] BQZ
theorem DAT(a:MDv):(V4Dv a)=(Uw (BB (sK a) (XC a)) (AE (λi=>Fo i (sK a) (zL (pS a i)) (fK a i) (G6 (pS a i)) (kD a i) (C8 (pS a i)) (fQ a i))) (sK a) (jC (BQZ (MDv.l a) xW) (λi=>xW (pS a i)) (sK a))):=by kernel_rfl
theorem DCY(a:MDv)(h:BG (PDv a)):FnT ZP 75 (C4Dv.xs a) (AC (C4Dv.L a)) (C4Dv.val a) (C4Dv.keep a):=TF (A:=A4Dv) (ren:=[]) (fz:=[]) Tryz.func75 (by kernel_rfl) (AA CZN AD) (by
 have h':a.l.length<4611686018427387904/\True:=h
 show V4Dv a;rw[DAT]<;> dsimp only[go_sem];simp only[CC,CU,CK,JD,FM,FK,FL,QZ,KA,JV,ge_iff_le]
 rw[<-Qr]
 exact⟨h'.1,rfl⟩)
theorem CYN:AH ZP 75 (C4Dv.spec d4Dv):=Ctr.spec_ok (C:=C4Dv) DCY _
def eSps(l:List Span):DVal:=lst 2 l.length λi=>EQ (gD l i)
def fvDs(q:One):AVal:=.fn (.func 112) [] []
def BDs(q:One):AObj:=.box [fvDs q]
structure EDs where
 q:One
 e:Span
structure MDs where
 q:One
 l:List Span
def C1Ds:Ctr:={ ro:=[100],α:=EDs,xs:=λa=>[.d (EQ a.e),.bptr 100 0],L:=λa=>(100,BDs a.q) :: [],val:=λa=>.bool (!leS a.e),keep:=λa=>(100,.live (BDs a.q)) :: [],pre:=λa=>[True] }
def d1Ds:List AVal->Heap->Option (EDs×List (Nat×Nat)×List Nat)
 |[.d d,.bptr id _],H=>some (⟨default,VB d⟩,[(100,id)],[])
 |_,_=>none
def A1Ds:Ann:={ ann 8 [(112,CGK)] with E:=[100] }
def V1Ds(a:EDs):Prop:=AS ZP A1Ds Tryz.f138 (AG Tryz.f138) (C1Ds.xs a) (AC (C1Ds.L a)) (C1Ds.val a) (C1Ds.keep a) [] []
theorem DDJ(a:EDs):(V1Ds a)=(Qe (leS (EDs.e a))):=by kernel_rfl
theorem DAE:AH ZP 138 (C1Ds.spec d1Ds):=MK C1Ds (λ_=>A1Ds) [] [] Tryz.func138 (λ_=>by kernel_rfl) (λ_=>AA CME AD) (λ(a:EDs) h=>by
 have h:True:=h
 show V1Ds a;rw[DDJ]<;> dsimp only[go_sem];try simp[wr,GC,dSpan_eSpan,ASH,h]) (λ_=>OA rfl rfl) _
def d2Ds:List AVal->Heap->Option (MDs×List (Nat×Nat)×List Nat)
 |[y,.fn _ _ [.bptr id _]],H=>match Ti y H with
  |some (n,g,f)=>some (⟨default,HQ n λi=>VB (g i)⟩,[(100,id)],f)
  |none=>none
 |_,_=>none
def A2Ds(a:MDs):Ann:={ ann 19 [(138,C1Ds.spec d1Ds)] with E:=[100],loops:=λid=>if id=2 then some [{ α:=Nat,dflt:=0,T:=λk=>⟨[(0,.d (eSps a.l)),(1,.fn (.func 138) [] [.bptr 100 0]),(7,.int a.l.length),(8,.int k)],(100,.live (BDs a.q)) :: []⟩,inv:=λk=>k<=a.l.length/\TE (λi=>!leS (gD a.l i)) a.l.length 0=TE (λi=>!leS (gD a.l i)) (a.l.length-k) k,meas:=λk=>a.l.length-k }] else none }
def PDs(a:MDs):List Prop:=[a.l.length<4611686018427387904/\True]
def C2Ds:Ctr:={ ro:=[100],α:=MDs,xs:=λa=>[.d (eSps a.l),.fn (.func 138) [] [.bptr 100 0]],L:=λa=>(100,BDs a.q) :: [],val:=λa=>.int (TE (λi=>!leS (gD a.l i)) a.l.length 0),keep:=λa=>(100,.live (BDs a.q)) :: [],pre:=PDs }
def V2Ds(a:MDs):Prop:=AS ZP (A2Ds a) Tryz.f129 (AG Tryz.f129) (C2Ds.xs a) (AC (C2Ds.L a)) (C2Ds.val a) (C2Ds.keep a) [] []
abbrev Tn:=MDs.l
abbrev Qx a:=PN (Tn a)
abbrev BEH a b:=leS (hd33 a b)
abbrev bW a b:=BEH (Tn a) b
attribute [go_sem] Tn Qx BEH bW
theorem DDF(a:MDs):(V2Ds a)=(LR (λi=>DK (Yo (Qx a) (Tn a) (BC i)) i (Qx a) (JJ (λj=>bW a j) (Qx a) (λj=>bW a j) i)) (λi=>WR i (Qx a) (JJ (λj=>bW a j) (Qx a) (λj=>bW a j) i) (rD i (Qx a) (KD (FY (Tn a) i) (FT (Tn a) i) EB)) (Uj (bW a i) (cO (λj=>bW a j) (Qx a) i) (λj=>IK (Yo (Qx a) (Tn a) (AR j i)) j (Qx a) (JJ (λk=>bW a k) (Qx a) (λk=>bW a k) j) i)) (Yt (λj=>bW a j) (Qx a)))):=by kernel_rfl
theorem p2Ds(a:MDs)(h:BG (PDs a)):V2Ds a:=by
 obtain⟨h,hp⟩:a.l.length<4611686018427387904/\True:=h
 rw[DDF]<;> dsimp only[go_sem]
 simp only[CC,CU,CK,JD,FM,FK,FL,QZ,KA,JV]
 refine⟨⟨0,rfl,Nat.zero_le _,rfl⟩,λk ⟨h1,h2⟩=>⟨λhlt=>?_,λhge=>?_⟩⟩
 ·have hlt:k<a.l.length:=by omega
  refine⟨⟨by omega,by omega⟩,λhp=>?_,λhp=>⟨k+1,(BJ (by omega)).symm,⟨by omega,?_⟩,by omega⟩⟩
  ·rw[h2];exact YB hlt (by simpa using hp)
  ·rw[h2];exact Wv hlt (by simpa using hp)
 ·rw[h2];exact Ge (by omega)
theorem DCT:AH ZP 129 (C2Ds.spec d2Ds):=MK C2Ds A2Ds [] [] Tryz.func129 (λ_=>by kernel_rfl) (λ_=>AA DAE AD) p2Ds (λ_=>OA rfl rfl) _
def C3Ds:Ctr:={ C2Ds with val:=λ(a:MDs)=>.bool (decide (TE (λi=>!leS (gD a.l i)) a.l.length 0>=0)) }
def d3Ds:List AVal->Heap->Option (C3Ds.α×List (Nat×Nat)×List Nat):=d2Ds
def A3Ds:Ann:={ ann 9 [(129,C2Ds.spec d2Ds)] with E:=[100] }
def V3Ds(a:MDs):Prop:=AS ZP A3Ds Tryz.f102 (AG Tryz.f102) (C3Ds.xs a) (AC (C3Ds.L a)) (C3Ds.val a) (C3Ds.keep a) [] []
abbrev ACW a:=QF (Tn a)
attribute [go_sem] ACW
theorem DBZ(a:MDs):(V3Ds a)=(Uw (Uc (Tn a)) (AE (λi=>Iv i (ACW a) (MN (Tn a)) (Tn a) i i)) (ACW a) (Yu (λi=>bW a i) (Qx a) (λi=>BEH (MN (Tn a)) i) (ACW a))):=by kernel_rfl
theorem DDK:AH ZP 102 (C3Ds.spec d3Ds):=Ctr.spec_ok (C:=C3Ds) (λ(a:MDs) h=>TF (A:=A3Ds) (ren:=[]) (fz:=[]) Tryz.func102 (by kernel_rfl) (AA DCT AD) (by
 obtain⟨h,hp⟩:a.l.length<4611686018427387904/\True:=h
 show V3Ds a;rw[DBZ]<;> dsimp only[go_sem];simp[h,hp,GC,dSpan_eSpan])) _
def A4Ds:Ann:={ ann 9 [(102,C3Ds.spec d3Ds)] with E:=[] }
def C4Ds:Ctr:={ ro:=[],α:=MDs,xs:=λa=>[.d (eSps a.l),fvDs a.q],L:=λa=>[],val:=λa=>.bool (a.l.all λx=>leS x),keep:=λa=>[],pre:=PDs }
def V4Ds(a:MDs):Prop:=AS ZP A4Ds Tryz.f111 (AG Tryz.f111) (C4Ds.xs a) (AC (C4Ds.L a)) (C4Ds.val a) (C4Ds.keep a) [] []
theorem DCC(a:MDs):(V4Ds a)=(Uw (Uc (Tn a)) (AE (λi=>Iv i (ACW a) (MN (Tn a)) (Tn a) i i)) (ACW a) (jC (hd84 (Tn a) leS) (λi=>BEH (MN (Tn a)) i) (ACW a))):=by kernel_rfl
theorem DDL(a:MDs)(h:BG (PDs a)):FnT ZP 111 (C4Ds.xs a) (AC (C4Ds.L a)) (C4Ds.val a) (C4Ds.keep a):=TF (A:=A4Ds) (ren:=[]) (fz:=[]) Tryz.func111 (by kernel_rfl) (AA DDK AD) (by
 have h':a.l.length<4611686018427387904/\True:=h
 show V4Ds a;rw[DCC]<;> dsimp only[go_sem];simp only[CC,CU,CK,JD,FM,FK,FL,QZ,KA,JV,ge_iff_le]
 rw[<-Qr]
 exact⟨h'.1,rfl⟩)
def CBX(l:List Span):AObj:=.row 2 l.length λi=>EQ (gD l i)
def C4DsO:Ctr:={ ro:=[100],α:=MDs,xs:=λa=>[.own 100 2 0 a.l.length,fvDs a.q],L:=λa=>[(100,CBX a.l)],val:=λa=>.bool (a.l.all λx=>leS x),keep:=λa=>[(100,.live (CBX a.l))],pre:=PDs }
def CUS:List AVal->Heap->Option (MDs×List (Nat×Nat)×List Nat)
 |[.own id _ _ _,.fn _ _ _],H=>match H id with
  | .live (.row _ n g)=>some (⟨default,HQ n λi=>VB (g i)⟩,[(100,id)],[])
  |_=>none
 |_,_=>none
def okRc(x:Rec):Prop:=(1<=x.l.length/\x.l.length<=60)/\(0<=x.r.rise/\x.r.rise<=1000000000)/\(0<=x.r.fall/\x.r.fall<=1000000000)/\x.l.all okVl=true
def C_dCheck:Ctr:={ α:=Rec,xs:=λx=>[.d (eRec x)],L:=λ_=>[],val:=λ_=>.int 0,keep:=λ_=>[],pre:=λx=>[okRc x] }
def BGR:Ann:=ann 26 [(43,My),(74,AMK),(75,C4Dv.spec d4Dv)]
def BFC(x:Rec):Prop:=AS ZP BGR Tryz.f42 (AG Tryz.f42) (C_dCheck.xs x) (AC []) (.int 0) [] [] []
theorem BWY(x:Rec):(BFC x)=(bif !NJ (↑x.l.length:Int) (1:Int) (60:Int) then Int.ofNat (0:Nat)=Int.ofNat (3:Nat) else ((!bif !NJ x.r.rise (0:Int) (1000000000:Int) then true else !NJ
 x.r.fall (0:Int) (1000000000:Int))=true->(HQ x.l.length λ(i:Nat)=>dVl (eVl (gD x.l i))).length=x.l.length/\(∀(i:Nat),i<(HQ x.l.length λ(i:Nat)=>dVl (eVl (gD x.l i))).length->(gD (HQ
 x.l.length λ(i:Nat)=>dVl (eVl (gD x.l i))) i).k=(gD x.l i).k/\(gD (HQ x.l.length λ(i:Nat)=>dVl (eVl (gD x.l i))) i).lo=(gD x.l i).lo/\(gD (HQ x.l.length λ(i:Nat)=>dVl (eVl (gD x.l i))) i).hi
 = (gD x.l i).hi)/\(HQ x.l.length λ(i:Nat)=>dVl (eVl (gD x.l i))).length<(4611686018427387904:Nat)/\True)/\bif bif bif !NJ x.r.rise (0:Int) (1000000000:Int) then true else !NJ x.r.fall (0:Int)
 (1000000000:Int) then true else !(HQ x.l.length λ(i:Nat)=>dVl (eVl (gD x.l i))).all λ(x:Vl)=>okVl x then Int.ofNat (0:Nat)=Int.ofNat (80:Nat) else Int.ofNat (0:Nat)=Int.ofNat (0:Nat)):=by
 kernel_rfl
theorem CWV:AH ZP 111 (C4DsO.spec CUS):=Ctr.spec_ok (C:=C4DsO) (λ(a:MDs) h=>by
 have hf:=DDL a h
 refine FnT.lend (fz:=[100]) (xs:=[.own 100 2 0 a.l.length,fvDs a.q]) (L:=[(100,CBX a.l)]) hf rfl ?_ rfl ?_ _ ?_
 ·show [AVal.d (.list 2 a.l.length (λj=>EQ (gD a.l (0+j))) false),_]=_
  simp only[Nat.zero_add];rfl
 ·show 0+a.l.length<=a.l.length;omega
 ·exact⟨rfl,trivial⟩) _
theorem AVV:AH ZP 42 (C_dCheck.spec C7):=MK C_dCheck (λ_=>BGR) [] [] Tryz.func42 (λ_=>by kernel_rfl) (λ_=>AA AYE (AA BGP (AA CYN AD))) (λ(x:Rec) h=>by
 obtain⟨h1,h2,h3,h4⟩:okRc x:=h
 show BFC x;rw[BWY];simp only[CC,CU,CK,JD,FM,FK,FL,QZ,KA,JV]
 rw[Cp (show (1:Int)<=(x.l.length:Int)/\(x.l.length:Int)<=60 by omega),Cp h2,Cp h3,show (x.l.all λy=>okVl y)=true from h4]
 exact⟨λh=>(by cases h),λ_=>⟨by omega,λh=>(by cases h)⟩⟩) (λ_=>OA rfl rfl) _
end Go.Bal
set_option maxRecDepth 8000
namespace Go.Bal
open Go Go.Sym Go.Proofs
def wkO(x:Rec):AObj:=.box [.int x.r.rise,.int x.r.fall,.d (eVls x.l),.own 101 2 0 x.l.length]
def spO(n:Nat)(s:Nat->Span):AObj:=.row 2 n λi=>EQ (s i)
def wkL(x:Rec)(s:Nat->Span):List (Nat×AObj):=[(100,wkO x),(101,spO x.l.length s)]
def wkQ(x:Rec)(s:Nat->Span):List (Nat×HCell):=[(100,.live (wkO x)),(101,.live (spO x.l.length s))]
structure PaS where
 x:Rec
 s:Nat->Span
 b:Bool
def d_wk(H:Heap)(id:Nat):Option (Nat×Rec×(Nat->Span)):=match H id with
 | .live (.box [.d (.v (.int .i64 a)),.d (.v (.int .i64 b)),.d (.list _ n f _),.own j _ _ _])=>match H j with
  | .live (.row _ _ g)=>some (j,⟨⟨a,b⟩,HQ n λj=>dVl (f j)⟩,λi=>VB (g i))
  |_=>none
 |_=>none
def C_dPrs:Ctr:={ ro:=[100,101],α:=PaS,xs:=λx=>[.bptr 100 0,.bool x.b],L:=λx=>wkL x.x x.s,val:=λ_=>.fn (.func 137) [] [.bptr 0 0,.bptr 1 0],keep:=λx=>wkQ x.x x.s ++ [(0,.live (.box [.bptr 100 0])),(1,.live (.box [.bool x.b]))] }
def CJV:List AVal->Heap->Option (PaS×List (Nat×Nat)×List Nat)
 |[.bptr id _,.d (.v (.bool b))],H=>(d_wk H id).map λp=>(⟨p.2.1,p.2.2,b⟩,[(100,id),(101,p.1)],[])
 |_,_=>none
def BYY(x:PaS):Prop:=AS ZP { ann 6 [] with E:=[100,101] } Tryz.f110 (AG Tryz.f110) (C_dPrs.xs x) (AC (wkL x.x x.s)) (C_dPrs.val x) (C_dPrs.keep x) [(0,1000),(1,1016)] []
theorem COU(x:PaS):(BYY x)=(x.x.r.rise=x.x.r.rise/\x.x.r.fall=x.x.r.fall/\x.x.l.length=x.x.l.length/\(∀(i:Nat),i<x.x.l.length->(gD x.x.l i).k=(gD x.x.l i).k/\(gD x.x.l i).lo=(gD x.x.l
 i).lo/\(gD x.x.l i).hi=(gD x.x.l i).hi)/\0=0/\x.x.l.length=x.x.l.length/\x.x.l.length=x.x.l.length/\(∀(i:Nat),i<x.x.l.length->(x.s i).lo=(x.s i).lo/\(x.s i).hi=(x.s i).hi)/\x.b=x.b):=by
 kernel_rfl
structure NaS where
 x:Rec
 s:Nat->Span
 i:Int
 a:Int
 b:Int
def C_dNar:Ctr:={ ro:=[100,102],α:=NaS,xs:=λx=>[.int x.i,.int x.a,.int x.b,.bptr 102 0],L:=λx=>wkL x.x x.s ++ [(102,.box [.bptr 100 0])],val:=λ_=>.d (.tup []),keep:=λx=>wkQ x.x (narS x.s x.i.toNat x.a x.b) ++ [(102,.live (.box [.bptr 100 0]))],pre:=λx=>[0<=x.i/\x.i<x.x.l.length] }
def CFU:List AVal->Heap->Option (NaS×List (Nat×Nat)×List Nat)
 |[.d (.v (.int .i64 i)),.d (.v (.int .i64 a)),.d (.v (.int .i64 b)),.bptr c _],H=>match H c with
  | .live (.box [.bptr id _])=>(d_wk H id).map λp=>(⟨p.2.1,p.2.2,i,a,b⟩,[(100,id),(101,p.1),(102,c)],[])
  |_=>none
 |_,_=>none
def CIT:Ann:={ ann 32 [] with E:=[100,101,102] }
def CGV(x:NaS):Prop:=AS ZP CIT Tryz.f109 (AG Tryz.f109) (C_dNar.xs x) (AC (C_dNar.L x)) (.d (.tup [])) (C_dNar.keep x) [] []
abbrev AEI:=NaS.i
abbrev lF:=NaS.x
abbrev AFU:=NaS.s
abbrev E2 a b c d e f g:=Zp a b c d e f d g
abbrev hY a:=MQ (AEI a)
abbrev BR a:=BIT (Rec.l a)
abbrev D2 a b c:=HB a (BR b) c
abbrev ATP a b:=BFU (Rec.l a) b
abbrev RA a b:=C8 (ATP a b)
abbrev QO a b:=G6 (ATP a b)
abbrev QK a b:=zL (ATP a b)
abbrev Eu a b c d e f g h:=D2 a b (AZM (QK c d) (QO e f) (RA g h))
abbrev An a:=BI (BR a)
abbrev aM a:=Rcd.fall (Rec.r a)
abbrev KV a:=AI (aM a)
abbrev cM a:=Rcd.rise (Rec.r a)
abbrev KQ a:=AI (cM a)
attribute [go_sem] AEI lF AFU E2 hY BR D2 ATP RA QO QK Eu An aM KV cM KQ
theorem CLR(x:NaS):(CGV x)=(And (FV (AEI x) (BR (lF x))) (E2 (And (OB (hY x) (BR (lF x))) (lA (OB (hY x) (BR (lF x))) (FI (hY x) (BR (lF x))))) (KQ (lF x)) (KV (lF x)) (An (lF x)) (AE (λi=>Eu i (lF x) (lF x) i (lF x) i (lF x) i)) AB (AE (λi=>UU i (BR (lF x)) (narS (AFU x) (OY (AEI x)) (NaS.a x) (NaS.b x) i) (OQ i (AEI x) (OQ (hY x) (AEI x) (hd50 (IP (AFU x (hY x))) (NaS.a x)) (IP (AFU x (hY x)))) (OQ i (AEI x) (hd50 (IP (AFU x (hY x))) (NaS.a x)) (IP (AFU x i)))) (OQ i (AEI x) (hd51 (GN (AFU x (hY x))) (NaS.b x)) (OQ i (AEI x) (GN (AFU x (hY x))) (GN (AFU x i)))))))):=by kernel_rfl
theorem CKW:AH ZP 110 (C_dPrs.spec CJV):=MK C_dPrs (λ_=>{ ann 6 [] with E:=[100,101] }) [(0,1000),(1,1016)] [] Tryz.func110 (λ_=>by kernel_rfl) (λ_=>AD) (λ(x:PaS) _=>by
 show BYY x;rw[COU];simp only[CC,CU,CK,JD,FM,FK,FL,QZ,KA,JV,OE,OD]) (λ_=>OA rfl rfl) _
theorem CNZ:AH ZP 109 (C_dNar.spec CFU):=MK C_dNar (λ_=>CIT) [] [] Tryz.func109 (λ_=>by kernel_rfl) (λ_=>AD) (λ(x:NaS) h=>by
 have h:0<=x.i/\x.i<x.x.l.length:=h
 show CGV x;rw[CLR]<;> dsimp only[go_sem];simp only[CC,CU,CK,JD,FM,FK,FL,QZ,KA,JV,OE,OD]
 refine⟨h,by omega,λi hi=>?_⟩
 simp only[narS]
 cases decide (i=x.i.toNat)
 ·exact⟨rfl,rfl⟩
 ·exact⟨by simp,rfl⟩) (λ_=>OA rfl rfl) _
def wQ(x:Rec)(i:Nat):Span:=spVl (gD x.l i)
structure dpT(x:Rec):Prop where
 ok:okRc x
 t:∃t,TruS x.r x.l.length t/\HolS x.l.length t (wQ x)
def opK(x:Rec)(s:Nat->Span)(a b:Nat):List (Nat×HCell):=[(a,.live (.box [.int x.r.rise,.int x.r.fall,.d (eVls x.l),.own b 2 0 x.l.length])),(b,.live (spO x.l.length s))]
def C_dOpd:Ctr:={ α:=Rec,xs:=λx=>[.d (eRec x)],L:=λ_=>[],val:=λ_=>.tup [.bptr 0 0,.bool true,.int 0],keep:=λx=>opK x (Ve x.r x.l.length (wQ x)) 0 1,pre:=λx=>[dpT x] }
def dp6n(x:Rec):Shape:={ α:=One,dflt:=default,T:=λ_=>⟨[(6,.bptr 5048 0),(23,.d (eVls x.l)),(24,.int x.l.length),(25,.int 0)],[(5032,.live (.box [.int x.r.rise,.int x.r.fall,.d (eVls x.l),.d JX])),(5048,.live (.box [.bptr 5032 0]))]⟩,inv:=λ_=>True,meas:=λ_=>100 }
def dp6o(x:Rec):Shape:={ α:=Nat,dflt:=0,T:=λk=>⟨[(6,.bptr 5048 0),(23,.d (eVls x.l)),(24,.int x.l.length),(25,.int k)],[(5032,.live (.box [.int x.r.rise,.int x.r.fall,.d (eVls x.l),.own 300 2 0 k])),(5048,.live (.box [.bptr 5032 0])),(300,.live (.row 2 k λi=>EQ (wQ x i)))]⟩,inv:=λk=>1<=k/\k<=x.l.length,meas:=λk=>70-k,again:=[(300,9128)] }
def dpB:List (Nat×HCell):=[(5048,.live (.box [.bptr 5032 0])),(11016,.live (.box [.fn (.func 109) [] [.bptr 5048 0]]))]
def dpC(x:Rec)(s:Nat->Span)(sl:List (Nat×AVal))(B:List (Nat×HCell))(t:List Nat):Shape:={ α:=One,dflt:=default,T:=λ_=>⟨sl,opK x s 5032 300 ++ B⟩,inv:=λ_=>True,meas:=λ_=>0,tag:=t }
def dpF(x:Rec):Nat->Span:=fwdS x.r (wQ x) (x.l.length-1)
def prS(x:Rec)(s:Nat->Nat->Span)(b:Bool)(p q l:Nat):Shape:={ α:=Nat,dflt:=0,T:=λk=>⟨[(0,.fn (.yield l) [] []),(1,.bptr p 0),(2,.bptr q 0),(13,.int (wr ((x.l.length:Int)-1))),(14,.int k)],opK x (s k) 5032 300 ++ dpB ++ [(p,.live (.box [.bptr 5032 0])),(q,.live (.box [.bool b]))]⟩,inv:=λk=>k<=x.l.length-1,meas:=λk=>x.l.length-k }
noncomputable def itDp(x:Rec)(b:Bool):IterAnn:={ fn:=Tryz.f137,code:=AG Tryz.f137,live:=[6,9],ann:={ base:=λid=>100000+1000*(id+1),Γ:=Sym.look [],E:=[5032,5048,11016,300],n:=45,inner:=λgs id=>if id=1 then (match b with | false=>some [prS x (fwdS x.r (wQ x)) false 12016 12017 (gs.getD 0 0)] | true=>some [prS x (bwS x.r x.l.length (dpF x)) true 16016 16017 (gs.getD 0 0)]) else none } }
noncomputable def BMH(x:Rec):Ann:={ ann 118 [(42,C_dCheck.spec C7),(108,BVT),(110,C_dPrs.spec CJV),(109,C_dNar.spec CFU),(111,C4DsO.spec CUS)] with mt:=λid=>id==8,iterIn:=λgs g=>if g=137 then some (itDp x (Nat.beq (gs.getD 0 0) 1)) else none,loops:=λid=>if id=6 then some [dp6n x,dp6o x] else none,cut:=λid=>if id=10 then some [dpC x (wQ x) [(6,.bptr 5048 0)] [(5048,.live (.box [.bptr 5032 0]))] []] else if id=15 then some [dpC x (dpF x) [(6,.bptr 5048 0),(9,.bptr 11016 0)] dpB [1]] else if id=19 then some [dpC x (Ve x.r x.l.length (wQ x)) [(6,.bptr 5048 0)] dpB []] else none }
def CGL(x:Rec):Prop:=AS ZP (BMH x) Tryz.f73 (AG Tryz.f73) [.d (eRec x)] (AC []) (C_dOpd.val x) (C_dOpd.keep x) [(0,5032),(1,300)] []
abbrev Pi a b c:=Vx a b (IP c) (GN c)
abbrev AQB a b c d:=Ve a b (wQ c) d
abbrev Oh a b c d:=AQB (Rec.r a) (BR b) c d
abbrev E5 a(b:Nat->Span):=hd83 (BR a) b
abbrev Wo a b c d:=Kw a b c d EB
abbrev iY a b c d e:=bwS (Rec.r a) (BR b) (dpF c) d e
abbrev ACR a:=Dz (BR a)
abbrev AJQ a b:=CW a (AZ b)
abbrev BAO a:=Oo (BR a)
abbrev nT a b:=AJQ (BAO a) b
abbrev ASV a b:=BB (BR a) b
abbrev AJK a:=BSE (BR a) (λi=>dVl (eVl (ATP a i)))
abbrev OI a:=BIT (AJK a)
abbrev L1 a b:=ASV a (OI b)
abbrev ABO a:=wr (xL (BR a))
abbrev AYK a b:=BFU (AJK a) b
abbrev Cr a b:=C8 (AYK a b)
abbrev Cc a b:=G6 (AYK a b)
abbrev Cm a b:=zL (AYK a b)
abbrev AYR a b:=BB a (BR b)
abbrev fZ a b:=AYR (OI a) b
abbrev fA a b c d:=fwdS (Rec.r a) (wQ b) c d
abbrev Vo:=WI P8
attribute [go_sem] Pi AQB Oh E5 Wo iY ACR AJQ BAO nT ASV AJK OI L1 ABO AYK Cr Cc Cm AYR fZ fA Vo
theorem CLC(x:Rec):(CGL x)=(AQ (Fj (KQ x) (KV x) (fZ x x) (AE (λi=>Fo i (OI x) (Cm x i) (QK x i) (Cc x i) (QO x i) (Cr x i) (RA x i))) (JH (OI x) 60) (Er (cM x) 1000000000) (Er (aM x) 1000000000) (GT (BQZ (AJK x) xW))) (Mp (TV (Wt (BR x) (AP (AE (λi=>Eu i x x i x i x i)) (BY (BR x)) AU (KQ x) (KV x) (An x) (AE (λi=>Eu i x x i x i x i)) AB AK))) (Xh (λi=>Is EB (F6 0 (BR x)) (CV YV (Gf (BR x)) (Wr 2 16) (EA (λj=>Kv (Vn (BR x) (λk=>Eu k x x k x k x k) (AON (TO j SK) (KQ x) (KV x) (An x) (AE (λk=>Eu k x x k x k x k)) AB (XS j) (AE (λk=>La k j (wQ x k) (spVl (Vl.mk (QK x LP) (QO x LP) (RA x LP))))))) (JH j (BR x)) 70 j 100))) Tt)) (λi=>OU (JH i (BR x)) i (BR x) (Fl i (BR x) (jE i) (EA (λj=>EO (Vn (BR x) (λk=>Eu k x x k x k x k) (AON (AR j i) (KQ x) (KV x) (An x) (AE (λk=>Eu k x x k x k x k)) AB (OK j i) (AE (λk=>UU k j (wQ x k) (BF k i (IP (wQ x k)) (IP (spVl (Vl.mk (QK x i) (QO x i) (RA x i))))) (BF k i (GN (wQ x k)) (GN (spVl (Vl.mk (QK x i) (QO x i) (RA x i))))))))) (JH j (BR x)) 70 j i))) (Nq (λj=>Wo (KQ x) (KV x) (An x) (ALU (AE (λk=>Eu k x x k x k x k)) AB (ASV x i) (AE (λk=>Pi k (BR x) (wQ x k)))))))) (Pb EB (Ob (E2 Vo (KQ x) (KV x) (fZ x x) (AE (λi=>Fo i (OI x) (Cm x i) (QK x i) (Cc x i) (QO x i) (Cr x i) (RA x i))) AB (E2 (AE (λi=>Pi i (OI x) (wQ x i))) (KQ x) (KV x) (L1 x x) (AE (λi=>D2 i x (ABY (QK x i) (Cm x i) (QO x i) (Cc x i) (RA x i) (Cr x i)))) AB (AE (λi=>Pi i (BR x) (wQ x i))))) (λi=>LR (λj=>Kw (FX i) (AN (ABO x) (BAO x)) (BC j) (ARZ (KQ x) (KV x) (An x) (AE (λk=>Eu k x x k x k x k)) AB (An x) (AE (λk=>La k (BR x) (fA x x j k) (wQ x k))) Vo) (MH j (ACR x))) (λj=>Oq (MH j (ACR x)) (RL j (ABO x)) (Uq i (Fl j (BR x) (OB (AJ j) (BR x)) (PO (CL j (BR x)) (OB (AJ j) (BR x)) (HC j) (AI (CW (IP (fA x x j (AJ j))) (aM x))) (E2 (AI (CP (GN (fA x x j (AJ j))) (cM x))) (KQ x) (KV x) (fZ x x) (AE (λk=>Fo k (OI x) (Cm x k) (QK x k) (Cc x k) (QO x k) (Cr x k) (RA x k))) AB (Zp (AE (λk=>Pi k (OI x) (fA x x j k))) (KQ x) (KV x) (L1 x x) (AE (λk=>D2 k x (ABY (QK x k) (Cm x k) (QO x k) (Cc x k) (RA x k) (Cr x k)))) AB (IM (HC j)) (Uo (HC j) (OI x)))))) (EA (λk=>iH (AO (FX i) (AI (ABO x)) (AR k j) (AHK (KQ x) (KV x) (An x) (AE (λl=>Eu l x x l x l x l)) AB (L1 x x) (AE (λl=>La l (BR x) (fA x x k l) (narS (λm=>fA x x j m) (Dh j) (CW (IP (fA x x j (AJ j))) (aM x)) (CP (GN (fA x x j (AJ j))) (cM x)) l))) Vo)) k (ACR x) (BR x) k j))) (Wo (KQ x) (KV x) (An x) (ALU (AE (λk=>Eu k x x k x k x k)) AB (An x) (AE (λk=>La k (BR x) (dpF x k) (fA x x j k)))))))) (Pb EB (Ob (E2 CY (KQ x) (KV x) (fZ x x) (AE (λi=>Fo i (OI x) (Cm x i) (QK x i) (Cc x i) (QO x i) (Cr x i) (RA x i))) AB (E2 (AE (λi=>Pi i (OI x) (dpF x i))) (KQ x) (KV x) (L1 x x) (AE (λi=>D2 i x (ABY (QK x i) (Cm x i) (QO x i) (Cc x i) (RA x i) (Cr x i)))) AB (AE (λi=>Pi i (BR x) (dpF x i))))) (λi=>LR (λj=>Kw (FX i) (AN (ABO x) (BAO x)) (BC j) (ARZ (KQ x) (KV x) (An x) (AE (λk=>Eu k x x k x k x k)) AB (An x) (AE (λk=>La k (BR x) (iY x x x j k) (dpF x k))) CY) (MH j (ACR x))) (λj=>Oq (MH j (ACR x)) (RL j (ABO x)) (Uq i (AQ (FV (nT x j) (BR x)) (OB (MQ (nT x j)) (BR x)) (PO (FV (nT x j) (BR x)) (OB (MQ (nT x j)) (BR x)) (AJQ (CW (AZ (BR x)) 2) j) (AI (CW (IP (iY x x x j (MQ (nT x j)))) (cM x))) (E2 (AI (CP (GN (iY x x x j (MQ (nT x j)))) (aM x))) (KQ x) (KV x) (fZ x x) (AE (λk=>Fo k (OI x) (Cm x k) (QK x k) (Cc x k) (QO x k) (Cr x k) (RA x k))) AB (Zp (AE (λk=>Pi k (OI x) (iY x x x j k))) (KQ x) (KV x) (L1 x x) (AE (λk=>D2 k x (ABY (QK x k) (Cm x k) (QO x k) (Cc x k) (RA x k) (Cr x k)))) AB (IM (AJQ (CW (AZ (BR x)) 2) j)) (Uo (AJQ (CW (AZ (BR x)) 2) j) (OI x)))))) (EA (λk=>iH (AO (FX i) (AI (ABO x)) (AR k j) (AHK (KQ x) (KV x) (An x) (AE (λl=>Eu l x x l x l x l)) AB (L1 x x) (AE (λl=>La l (BR x) (iY x x x k l) (narS (λm=>iY x x x j m) (OY (AJQ (CW (AZ (BR x)) 2) j)) (CW (IP (iY x x x j (MQ (nT x j)))) (cM x)) (CP (GN (iY x x x j (MQ (nT x j)))) (aM x)) l))) CY)) k (ACR x) (BR x) k j))) (Wo (KQ x) (KV x) (An x) (ALU (AE (λk=>Eu k x x k x k x k)) AB (An x) (AE (λk=>La k (BR x) (Oh x x x k) (iY x x x j k)))))))) (uF (CV AB (lA (TH (E5 x (λi=>Oh x x x i)) (BR x)) (UY (AE (λi=>Rk i (E5 x (λj=>Oh x x x j)) (Oh x x x i))) (eS (BR x) (E5 x (λi=>Oh x x x i))) (λi=>UU i (BR x) (Oh x x x i) (FY (E5 x (λj=>Oh x x x j)) i) (FT (E5 x (λj=>Oh x x x j)) i)) (JY (PN (E5 x (λi=>Oh x x x i)))) EB)) (Sr Fa (hd84 (E5 x (λi=>Oh x x x i)) leS)) (E2 AU (KQ x) (KV x) (An x) (AE (λi=>Eu i x x i x i x i)) AB (AE (λi=>Pi i (BR x) (Oh x x x i))))))))):=by kernel_rfl
theorem CUY(x:Rec)(h:dpT x):CGL x:=by
 obtain⟨h0,t,hT,hH⟩:=h
 obtain⟨h1,h2,h3,h4⟩:=h0
 have hF:=BHY (by omega) hT hH
 have e1:IntKind.i64.wrap ((x.l.length:Int)-1)=((x.l.length-1:Nat):Int):=by rw[ER (by omega) (by omega)];omega
 have e2:wr ((x.l.length:Int)-1)=((x.l.length-1:Nat):Int):=e1
 have e3:IntKind.i64.wrap ((x.l.length:Int)-2)=(x.l.length:Int)-2:=ER (by omega) (by omega)
 rw[CLC]<;> dsimp only[go_sem];simp only[CC,CU,CK,JD,FM,FK,FL,QZ,KA,JV,OE,OD,e1,e2,e3]
 refine⟨⟨h1,h2,h3,h4⟩,⟨⟨default,trivial⟩,⟨λh=>⟨⟨by omega,h⟩,⟨λh=>(by omega),by omega,by omega,by omega,by omega⟩,⟨1,⟨rfl,rfl,rfl,λi hi=>?_⟩,⟨by omega,by omega⟩,by omega⟩⟩,λh=>absurd (show (0:Int)<(x.l.length:Int) by omega) h⟩,λk hk=>⟨λhlt=>⟨⟨by omega,hlt⟩,⟨by omega,λh=>(by cases h),by omega,by omega⟩,⟨k+1,⟨(BJ (by omega)).symm,rfl,rfl,λi hi=>?_⟩,⟨by omega,by omega⟩,by omega⟩⟩,λhge=>⟨default,by omega⟩⟩⟩,⟨⟨0,⟨rfl,λi _=>⟨rfl,rfl⟩⟩,by omega⟩,λk hk=>⟨λhlt=>?_,λhge=>⟨default,λi hi=>?_⟩⟩⟩,⟨⟨0,⟨rfl,λi _=>⟨rfl,rfl⟩⟩,by omega⟩,λk hk=>⟨λhlt=>?_,λhge=>⟨default,λi hi=>?_⟩⟩⟩,⟨λi hi=>?_,λi hi=>?_,by omega⟩,?_⟩
 ·obtain rfl:i=0:=by omega
  exact⟨rfl,rfl⟩
 ·by_cases q:i<k
  ·rw[decide_eq_true q];exact⟨rfl,rfl⟩
  ·obtain rfl:i=k:=by omega
   rw[decide_eq_false q];exact⟨rfl,rfl⟩
 ·have ek:IntKind.i64.wrap ((k:Int)+1)=((k+1:Nat):Int):=BJ (by omega)
  simp only[ek,Int.toNat_natCast]
  exact⟨⟨⟨by omega,by omega⟩,by omega,⟨by omega,by omega⟩,by omega,by omega,by omega⟩,⟨k+1,⟨rfl,λi hi=>⟨rfl,rfl⟩⟩,by omega,by omega⟩⟩
 ·obtain rfl:k=x.l.length-1:=by omega
  exact⟨rfl,rfl⟩
 ·have ek:IntKind.i64.wrap ((k:Int)+1)=((k+1:Nat):Int):=BJ (by omega)
  have ea:IntKind.i64.wrap (((x.l.length-1:Nat):Int)-k)=((x.l.length-1-k:Nat):Int):=by rw[ER (by omega) (by omega)];omega
  have eb:IntKind.i64.wrap ((x.l.length:Int)-2-k)=((x.l.length-2-k:Nat):Int):=by rw[ER (by omega) (by omega)];omega
  simp only[ek,ea,eb,Int.toNat_natCast]
  exact⟨⟨⟨by omega,by omega⟩,by omega,⟨by omega,by omega⟩,by omega,by omega,by omega⟩,⟨k+1,⟨rfl,λi hi=>⟨rfl,rfl⟩⟩,by omega,by omega⟩⟩
 ·obtain rfl:k=x.l.length-1:=by omega
  exact⟨rfl,rfl⟩
 ·rw[CS _ _ _ hi];exact⟨rfl,rfl⟩
 ·rw[CS _ _ _ hi];exact⟨rfl,rfl⟩
 ·symm
  refine List.all_eq_true.2 λy hy=>?_
  obtain⟨i,hi,rfl⟩:=Hq hy
  rw[rng_length] at hi
  rw[CS _ _ _ hi]
  have a:=hF i hi
  exact decide_eq_true (by omega)
theorem CNX(x:Rec):ACN ZP (BMH x):=λgs g y e=>by
 have e:(match (if g=137 then some (itDp x (Nat.beq (gs.getD 0 0) 1)) else none) with
  |some L=>some L
  |none=>none)=some y:=e
 by_cases hg:g=137
 ·rw[if_pos hg] at e
  cases e;subst hg
  exact⟨AD,AIP (c:=AG Tryz.f137) Tryz.func137 (by kernel_rfl) (by kernel_rfl),Tryz.func137,by kernel_rfl⟩
 ·rw[if_neg hg] at e;cases e
theorem CPI:AH ZP 73 (C_dOpd.spec C7):=MK C_dOpd BMH [(0,5032),(1,300)] [] Tryz.func73 (λ_=>by kernel_rfl) (λ_=>AA AVV (AA CID (AA CKW (AA CNZ (AA CWV AD))))) CUY CNX _
def C_dAgr:Ctr:={ C_dOpd with val:=λ_=>.tup [.bptr 0 0,.int 0] }
def CIO:Ann:=ann 21 [(73,C_dOpd.spec C7)]
def CHR(x:Rec):Prop:=AS ZP CIO Tryz.f41 (AG Tryz.f41) [.d (eRec x)] (AC []) (.tup [.bptr 0 0,.int 0]) (C_dOpd.keep x) [(0,2016),(1,2017)] []
abbrev BPZ a b:=Rec.mk a (AJK b)
abbrev AIQ a:=Rcd.mk (cM a) (aM a)
abbrev AGJ a:=BPZ (AIQ a) a
attribute [go_sem] BPZ AIQ AGJ
theorem CMU(x:Rec):(CHR x)=(And (CB (KQ x) (KV x) (fZ x x) (AE (λi=>Fo i (OI x) (Cm x i) (QK x i) (Cc x i) (QO x i) (Cr x i) (RA x i))) (dpT (AGJ x))) (E2 AU (KQ x) (KV x) (L1 x x) (AE (λi=>D2 i x (ABY (QK x i) (Cm x i) (QO x i) (Cc x i) (RA x i) (Cr x i)))) AB (AE (λi=>La i (BR x) (Oh x x x i) (AQB (AIQ x) (OI x) (AGJ x) i))))):=by kernel_rfl
theorem BUT:AH ZP 41 (C_dAgr.spec C7):=MK C_dAgr (λ_=>CIO) [(0,2016),(1,2017)] [] Tryz.func41 (λ_=>by kernel_rfl) (λ_=>AA CPI AD) (λ(x:Rec) h=>by
 show CHR x;rw[CMU]<;> dsimp only[go_sem];simp only[CC,CU,CK,JD,FM,FK,FL,QZ,KA,JV,OE,OD]
 exact h) (λ_=>OA rfl rfl) _
end Go.Bal
set_option maxRecDepth 8000
namespace Go.Bal
open Go Go.Sym Go.Proofs
def CRK:AVal:=.agg [.fn (.func 78) [] [],.fn (.func 79) [] []]
def C_dBoth:Ctr:={ α:=One,xs:=λ_=>[],L:=λ_=>[],val:=λ_=>CRK,keep:=λ_=>[] }
def AGZ:List AVal->Heap->Option (One×List (Nat×Nat)×List Nat)
 |[],_=>some (default,[],[])
 |_,_=>none
def BSC(_x:One):Prop:=AS ZP (ann 4 []) Tryz.f44 (AG Tryz.f44) [] (AC []) CRK [] [] []
theorem BZX(_x:One):(BSC _x)=(EB):=by kernel_rfl
def CUN:=pD dSp1 λx=>.int x.lo
def CUD(x:Span):Prop:=AS ZP (ann 5 []) Tryz.f78 (AG Tryz.f78) (xSp1 x) (AC []) (.int x.lo) [] [] []
theorem CWM(x:Span):(CUD x)=(AI (IP x)):=by kernel_rfl
def CQT:=pD dSp1 λx=>.int x.hi
def CRR(x:Span):Prop:=AS ZP (ann 5 []) Tryz.f79 (AG Tryz.f79) (xSp1 x) (AC []) (.int x.hi) [] [] []
theorem CUV(x:Span):(CRR x)=(AI (GN x)):=by kernel_rfl
structure EnO where
 n:Nat
 s:Nat->Span
 i:Nat
 m:Nat
 h:Bool
def enP(h:Bool)(s:Span):Int:=match h with
 |false=>s.lo
 |true=>s.hi
def enF(h:Bool):AVal:=match h with
 |false=>.agg [.fn (.func 78) [] []]
 |true=>.agg [.fn (.func 79) [] []]
def dnB(h:Bool):AObj:=match h with
 |false=>.box [.fn (.func 78) [] []]
 |true=>.box [.fn (.func 79) [] []]
def dnH(x:EnO)(h:Bool):List (Nat×HCell):=[(101,.live (spO x.n x.s)),(1000,.live (dnB h))]
def en3n(x:EnO)(h:Bool):Shape:={ α:=One,dflt:=default,T:=λ_=>⟨[(3,.bptr 1000 0),(5,.d JX),(8,.own 101 2 x.i x.m),(9,.int x.m),(10,.int 0)],dnH x h⟩,inv:=λ_=>True,meas:=λ_=>100 }
def en3o(x:EnO)(h:Bool):Shape:={ α:=Nat,dflt:=0,T:=λk=>⟨[(3,.bptr 1000 0),(5,.own 300 1 0 k),(8,.own 101 2 x.i x.m),(9,.int x.m),(10,.int k)],dnH x h ++ [(300,.live (.row 1 k λj=>CF (enP h (x.s (x.i+j)))))]⟩,inv:=λk=>1<=k/\k<=x.m,meas:=λk=>70-k,again:=[(300,6096)] }
def AMP(x:EnO)(h:Bool):Ann:={ ann 23 [(78,CUN),(79,CQT)] with E:=[101],mt:=λid=>id==5,loops:=λid=>if id=3 then some [en3n x h,en3o x h] else none }
def enV(x:EnO)(h:Bool):List Int:=HQ x.m λj=>enP h (x.s (x.i+j))
def C_dEnO:Ctr:={ ro:=[101],α:=EnO,xs:=λx=>[.own 101 2 x.i x.m,enF x.h],L:=λx=>[(101,spO x.n x.s)],val:=λx=>.d (BM (enV x x.h)),keep:=λx=>[(101,.live (spO x.n x.s))],pre:=λx=>[x.i+x.m<=x.n/\1<=x.m/\x.m<=60] }
def CAQ:List AVal->Heap->Option (EnO×List (Nat×Nat)×List Nat)
 |[.own j _ i m,.agg [.fn (.func g) _ _]],H=>match H j with
  | .live (.row _ n s)=>match Nat.beq g 79 with
   |true=>some (⟨n,λi=>VB (s i),i,m,true⟩,[(101,j)],[])
   |false=>some (⟨n,λi=>VB (s i),i,m,false⟩,[(101,j)],[])
  |_=>none
 |_,_=>none
def CEH(x:EnO):Prop:=AS ZP (AMP x false) Tryz.f46 (AG Tryz.f46) [.own 101 2 x.i x.m,enF false] (AC [(101,spO x.n x.s)]) (.d (BM (enV x false))) [(101,.live (spO x.n x.s))] [] [300]
abbrev Cz:=EnO.m
abbrev ARD:=EnO.n
abbrev bN a b c d:=Pi a (ARD b) (EnO.s c d)
abbrev Zk a:=BI (ARD a)
abbrev AHM a b:=JM (EnO.i a) b
abbrev Rn a b c:=EnO.s a (AHM b c)
abbrev xT a:=enV a P8
abbrev ZV a b c d e f g(h:Nat->Prop):=Oc a b c d e f g (AE h)
abbrev Y5 a:=BI (Cz a)
abbrev ACQ a:=BI (EnO.i a)
attribute [go_sem] Cz ARD bN Zk AHM Rn xT ZV Y5 ACQ
theorem CPF(x:EnO):(CEH x)=(Mp (Nq (λi=>Wo AB AK (ACQ x) (DO (Y5 x) (AZ (Cz x)) xE (Zk x) (AE (λj=>bN j x x j))))) (Xh (λi=>Is EB (F6 0 (Cz x)) (CV (And YV (Gf (Cz x))) (FI (AHM x LP) (ARD x)) (pZ rE Ro Lo 8) (EA (λj=>Kv (VK (ZV (XS j) (ACQ x) (Y5 x) (BY (Cz x)) (TO j SK) (Zk x) (AE (λk=>bN k x x k)) (λk=>HB k j (AN (enP P8 (Rn x x k)) (IP (Rn x x LP)))))) (JH j (Cz x)) 70 j 100))) (AHY (TI (xT x)) (Zk x) (AE (λj=>bN j x x j))))) (λi=>OU (JH i (Cz x)) i (Cz x) (CV (CL i (Cz x)) (FI (AHM x i) (ARD x)) (iK (aB i 1) (mM i) (nB i 8)) (EA (λj=>EO (VK (ZV (OK j i) (ACQ x) (Y5 x) (BY (Cz x)) (AR j i) (Zk x) (AE (λk=>bN k x x k)) (λk=>HB k j (AN (enP P8 (Rn x x k)) (BF k i (enP P8 (Rn x x k)) (IP (Rn x x i))))))) (JH j (Cz x)) 70 j i))) (UY (Sc (xT x) i) (LU i) (λj=>VL j (xT x) j (enP P8 (Rn x x (AJ j)))) (Zk x) (AE (λj=>bN j x x j))))):=by kernel_rfl
def CDX(x:EnO):Prop:=AS ZP (AMP x true) Tryz.f46 (AG Tryz.f46) [.own 101 2 x.i x.m,enF true] (AC [(101,spO x.n x.s)]) (.d (BM (enV x true))) [(101,.live (spO x.n x.s))] [] [300]
abbrev D5 a:=enV a Fa
attribute [go_sem] D5
theorem CMG(x:EnO):(CDX x)=(Mp (Nq (λi=>Wo AB AK (ACQ x) (DO (Y5 x) (AZ (Cz x)) xE (Zk x) (AE (λj=>bN j x x j))))) (Xh (λi=>Is EB (F6 0 (Cz x)) (CV (And YV (Gf (Cz x))) (FI (AHM x LP) (ARD x)) (pZ rE Ro Lo 8) (EA (λj=>Kv (VK (ZV (XS j) (ACQ x) (Y5 x) (BY (Cz x)) (TO j SK) (Zk x) (AE (λk=>bN k x x k)) (λk=>HB k j (AN (enP Fa (Rn x x k)) (GN (Rn x x LP)))))) (JH j (Cz x)) 70 j 100))) (AHY (TI (D5 x)) (Zk x) (AE (λj=>bN j x x j))))) (λi=>OU (JH i (Cz x)) i (Cz x) (CV (CL i (Cz x)) (FI (AHM x i) (ARD x)) (iK (aB i 1) (mM i) (nB i 8)) (EA (λj=>EO (VK (ZV (OK j i) (ACQ x) (Y5 x) (BY (Cz x)) (AR j i) (Zk x) (AE (λk=>bN k x x k)) (λk=>HB k j (AN (enP Fa (Rn x x k)) (BF k i (enP Fa (Rn x x k)) (GN (Rn x x i))))))) (JH j (Cz x)) 70 j i))) (UY (Sc (D5 x) i) (LU i) (λj=>VL j (D5 x) j (enP Fa (Rn x x (AJ j)))) (Zk x) (AE (λj=>bN j x x j))))):=by kernel_rfl
def CAM(l:List Int):Prop:=AS ZP (AJN l) Tryz.f45 (AG Tryz.f45) (C_lSum.xs l) (AC []) (C_lSum.val l) [] [] []
theorem CPR(l:List Int):(CAM l)=(LR (λi=>Vs (Yh (BZ (Ow i l)) l l l (BC i)) i (BQ l)) (λi=>Ck (MH i (BQ l)) i (LW l) (MZ i l) (EA (λj=>Bg (Yh (Ug (Ow j l) (Ow i l) (ID l i)) l l l (AR j i)) j (BQ l) j i)) (AN (SC l) (Ow i l)))):=by kernel_rfl
theorem CES:AH ZP 44 (C_dBoth.spec AGZ):=MK C_dBoth (λ_=>ann 4 []) [] [] Tryz.func44 (λ_=>by kernel_rfl) (λ_=>AD) (λ(x:One) _=>by
 show BSC x;rw[BZX]<;> dsimp only[go_sem]) (λ_=>OA rfl rfl) _
theorem CJH:AH ZP 78 CUN:=NH xSp1 hSp1 λx _=>TF (A:=ann 5 []) (ren:=[]) (fz:=[]) Tryz.func78 (by kernel_rfl) AD (by
 show CUD x;rw[CWM]<;> dsimp only[go_sem])
theorem CDW:AH ZP 79 CQT:=NH xSp1 hSp1 λx _=>TF (A:=ann 5 []) (ren:=[]) (fz:=[]) Tryz.func79 (by kernel_rfl) AD (by
 show CRR x;rw[CUV]<;> dsimp only[go_sem])
theorem CLE:AH ZP 45 (C_lSum.spec d_Is):=MK C_lSum AJN [] [] Tryz.func45 (λ_=>by kernel_rfl) (λ_=>AD) (λ(l:List Int) h=>by
 have h:l.length<1073741824:=h
 show CAM l;rw[CPR]<;> dsimp only[go_sem];simp only[CC,CU,CK,JD,FM,FK,FL,QZ,KA,JV,OE,OD]
 refine⟨⟨0,⟨rfl,rfl⟩,Nat.zero_le _⟩,λk hk=>⟨λhlt=>?_,λhge=>?_⟩⟩
 ·have hlt:k<l.length:=by omega
  exact⟨⟨by omega,by omega⟩,k+1,⟨AKA l k hlt,(BJ (by omega)).symm⟩,by omega,by omega⟩
 ·have:k=l.length:=by omega
  rw[this,List.take_length]) (λ_=>OA rfl rfl) _
theorem CXC(x:EnO)(h:x.i+x.m<=x.n/\1<=x.m/\x.m<=60):CEH x:=by
 have el:∀b,(enV x b).length=x.m:=λb=>rng_length _ _
 rw[CPF]<;> dsimp only[go_sem];simp only[CC,CU,CK,JD,FM,FK,FL,QZ,KA,JV,OE,OD,el]
 refine⟨⟨default,trivial⟩,⟨λhl=>⟨⟨⟨by omega,hl⟩,by show x.i+0<x.n;omega⟩,⟨λh=>(by omega),by omega,by omega,by omega,by omega⟩,⟨1,⟨rfl,rfl,rfl,λi hi=>?_⟩,⟨by omega,by omega⟩,by omega⟩⟩,λhl=>by omega⟩,λk hk=>⟨λhlt=>⟨⟨⟨by omega,hlt⟩,by omega⟩,⟨by omega,λh=>(by cases h),by omega,by omega⟩,⟨k+1,⟨rfl,(BJ (by omega)).symm,rfl,λi hi=>?_⟩,⟨by omega,by omega⟩,by omega⟩⟩,λhge=>⟨by omega,by omega,λj hj=>CS _ _ _ hj⟩⟩⟩
 ·obtain rfl:i=0:=by omega
  rfl
 ·by_cases q:i<k
  ·rw[decide_eq_true q];rfl
  ·obtain rfl:i=k:=by omega
   rw[decide_eq_false q];rfl
theorem CXW(x:EnO)(h:x.i+x.m<=x.n/\1<=x.m/\x.m<=60):CDX x:=by
 have el:∀b,(enV x b).length=x.m:=λb=>rng_length _ _
 rw[CMG]<;> dsimp only[go_sem];simp only[CC,CU,CK,JD,FM,FK,FL,QZ,KA,JV,OE,OD,el]
 refine⟨⟨default,trivial⟩,⟨λhl=>⟨⟨⟨by omega,hl⟩,by show x.i+0<x.n;omega⟩,⟨λh=>(by omega),by omega,by omega,by omega,by omega⟩,⟨1,⟨rfl,rfl,rfl,λi hi=>?_⟩,⟨by omega,by omega⟩,by omega⟩⟩,λhl=>by omega⟩,λk hk=>⟨λhlt=>⟨⟨⟨by omega,hlt⟩,by omega⟩,⟨by omega,λh=>(by cases h),by omega,by omega⟩,⟨k+1,⟨rfl,(BJ (by omega)).symm,rfl,λi hi=>?_⟩,⟨by omega,by omega⟩,by omega⟩⟩,λhge=>⟨by omega,by omega,λj hj=>CS _ _ _ hj⟩⟩⟩
 ·obtain rfl:i=0:=by omega
  rfl
 ·by_cases q:i<k
  ·rw[decide_eq_true q];rfl
  ·obtain rfl:i=k:=by omega
   rw[decide_eq_false q];rfl
theorem CMS:AH ZP 46 (C_dEnO.spec CAQ):=Ctr.spec_ok (C:=C_dEnO) (λ(x:EnO) h=>by
 have h:x.i+x.m<=x.n/\1<=x.m/\x.m<=60:=h
 obtain⟨n,s,i,m,b⟩:=x
 cases b with
 |false=>exact TF (A:=AMP ⟨n,s,i,m,false⟩ false) (ren:=[]) (fz:=[300]) Tryz.func46 (by kernel_rfl) (AA CJH (AA CDW AD)) (CXC ⟨n,s,i,m,false⟩ h)
 |true=>exact TF (A:=AMP ⟨n,s,i,m,true⟩ true) (ren:=[]) (fz:=[300]) Tryz.func46 (by kernel_rfl) (AA CJH (AA CDW AD)) (CXW ⟨n,s,i,m,true⟩ h)) _
structure VoS where
 x:Rec
 f:Int
 t:Int
def voE(x:VoS)(h:Bool):EnO:=⟨x.x.l.length,Ve x.x.r x.x.l.length (wQ x.x),x.f.toNat,(wr (x.t+1)).toNat-x.f.toNat,h⟩
def voV(x:VoS):Span:=⟨SC (enV (voE x false) false),SC (enV (voE x true) true)⟩
def C_dVol:Ctr:={ α:=VoS,xs:=λx=>[.d (eRec x.x),.int x.f,.int x.t],L:=λ_=>[],val:=λx=>.tup [.d (EQ (voV x)),.int 0],keep:=λ_=>[],pre:=λx=>[dpT x.x/\0<=x.f/\x.f<=x.t/\x.t<x.x.l.length] }
def CTE:List AVal->Heap->Option (VoS×List (Nat×Nat)×List Nat)
 |[r,.d (.v (.int .i64 f)),.d (.v (.int .i64 t))],H=>(C7 [r] H).map λp=>(⟨p.1,f,t⟩,[],[])
 |_,_=>none
def CJK:Ann:=ann 60 [(42,C_dCheck.spec C7),(43,My),(41,C_dAgr.spec C7),(44,C_dBoth.spec AGZ),(46,C_dEnO.spec CAQ),(45,C_lSum.spec d_Is)]
def CAW(x:VoS):Prop:=AS ZP CJK Tryz.f13 (AG Tryz.f13) (C_dVol.xs x) (AC []) (C_dVol.val x) [] [] []
abbrev UX:=VoS.x
abbrev ALZ:=VoS.f
abbrev AQO:=VoS.t
abbrev AFX:=EnO.mk
abbrev ATB a:=SC (LI a)
abbrev AXX a:=OY (ALZ a)
abbrev qX a:=OY (JF a)
abbrev AYQ a:=qX (AQO a)
abbrev Ig a b:=KO (AYQ a) (AXX b)
abbrev Si a:=MQ (ALZ a)
abbrev BME a b:=BPZ (AIQ (UX a)) (UX b)
abbrev PR a:=OI (UX a)
abbrev Ue a b c d e:=AQB (AIQ (UX a)) (PR b) (BME c d) e
attribute [go_sem] UX ALZ AQO AFX ATB AXX qX AYQ Ig Si BME PR Ue
theorem CLM(x:VoS):(CAW x)=(Kw (KQ (UX x)) (KV (UX x)) (AYR (PR x) (UX x)) (CB (AE (λi=>Fo i (PR x) (Cm (UX x) i) (QK (UX x) i) (Cc (UX x) i) (QO (UX x) i) (Cr (UX x) i) (RA (UX x) i))) (JH (PR x) 60) (Er (cM (UX x)) 1000000000) (Er (aM (UX x)) 1000000000) (GT (BQZ (AJK (UX x)) xW))) (Ba (not (JR (ALZ x) (AQO x))) (hd6 (AQO x) (AZ (BR (UX x)))) (YX (IP (voV x)) 0 (GN (voV x)) 0 xE (wM 2)) (And (CB (KQ (UX x)) (KV (UX x)) (AYR (PR x) (UX x)) (AE (λi=>Fo i (PR x) (Cm (UX x) i) (QK (UX x) i) (Cc (UX x) i) (QO (UX x) i) (Cr (UX x) i) (RA (UX x) i))) (dpT (BME x x))) (JG (Uh (ALZ x) (AQ (KM (ALZ x) (JF (AQO x))) (KM (JF (AQO x)) (AZ (PR x))) (Or (BZ (ALZ x)) (ZK (ALZ x) (JF (AQO x)))))) (BW (And YV (Gf 2)) (BI (Si x)) (BI (Ig x x)) (BI (PR x)) (AE (λi=>Pi i (PR x) (Ue x x x x i))) (XH (BI (PR x)) (λi=>Pi i (PR x) (Ue x x x x i)) (xK (DC (JM (Si x) (Ig x x)) (PR x)) (Ig x x) (AQY (AYQ x) (AXX x) 60)) (JZ (xT (AFX (PR x) (λi=>Ue x x x x i) (Si x) (Ig x x) P8))) (JO (xT (AFX (PR x) (λi=>Ue x x x x i) (Si x) (Ig x x) P8))) (WJ (XN (xT (AFX (PR x) (λi=>Ue x x x x i) (Si x) (Ig x x) P8)))) (FV 1 2) (BI (Si x)) (pA (BI (Ig x x)) (BI (PR x)) (AE (λi=>Pi i (PR x) (Ue x x x x i))) (xK (DC (JM (Si x) (Ig x x)) (PR x)) (Ig x x) (AQY (AYQ x) (AXX x) 60)) (JZ (D5 (AFX (PR x) (λi=>Ue x x x x i) (Si x) (Ig x x) Fa))) (JO (D5 (AFX (PR x) (λi=>Ue x x x x i) (Si x) (Ig x x) Fa))) (FI (XN (D5 (AFX (PR x) (λi=>Ue x x x x i) (Si x) (Ig x x) Fa))) 1073741824)))) (fT (voV x) (ATB (xT (AFX (PR x) (λi=>Ue x x x x i) (Si x) (Ig x x) P8)))) (GN (voV x)) (ATB (D5 (AFX (PR x) (λi=>Ue x x x x i) (Si x) (Ig x x) Fa))) AU)))):=by kernel_rfl
theorem CUU(x:VoS)(h:dpT x.x/\0<=x.f/\x.f<=x.t/\x.t<x.x.l.length):CAW x:=by
 obtain⟨hd,h1,h2,h3⟩:=h
 obtain⟨h0,t,hT,hH⟩:=hd
 have h00:=h0
 obtain⟨a1,a2,a3,a4⟩:=h0
 have e:IntKind.i64.wrap (x.t+1)=x.t+1:=ER (by omega) (by omega)
 have el:∀y b,(enV y b).length=y.m:=λy b=>rng_length _ _
 have hm:x.f.toNat+((IntKind.i64.wrap (x.t+1)).toNat-x.f.toNat)<=x.x.l.length/\0<(IntKind.i64.wrap (x.t+1)).toNat-x.f.toNat/\(IntKind.i64.wrap (x.t+1)).toNat-x.f.toNat<=60:=by rw[e];omega
 have hm3:(IntKind.i64.wrap (x.t+1)).toNat-x.f.toNat<1073741824:=by omega
 rw[CLM]<;> dsimp only[go_sem];simp only[CC,CU,CK,JD,FM,FK,FL,QZ,KA,JV,OE,OD]
 rw[Cp ⟨h1,h2⟩,decide_eq_false (show ¬ x.t>=(x.x.l.length:Int) by omega)]
 refine⟨h00,λh=>(by cases h),λ_=>⟨⟨h00,t,hT,hH⟩,⟨h1,by rw[e];omega,by rw[e];omega,.inr (by rw[e];omega)⟩,⟨⟨by omega,by omega⟩,hm,Nat.lt_of_le_of_lt (Nat.le_of_eq (el _ _)) hm3,⟨by omega,by omega⟩,hm,Nat.lt_of_le_of_lt (Nat.le_of_eq (el _ _)) hm3⟩,rfl,rfl⟩⟩
theorem BGN(x:VoS)(h:dpT x.x/\0<=x.f/\x.f<=x.t/\x.t<x.x.l.length):FnT ZP 13 (C_dVol.xs x) (AC []) (C_dVol.val x) []:=TF (A:=CJK) (ren:=[]) (fz:=[]) Tryz.func13 (by kernel_rfl) (AA AVV (AA AYE (AA BUT (AA CES (AA CMS (AA CLE AD)))))) (CUU x h)
theorem COK:AH ZP 13 (C_dVol.spec CTE):=Ctr.spec_ok (C:=C_dVol) BGN _
end Go.Bal
set_option maxRecDepth 8000
namespace Go.Bal
open Go Go.Sym Go.Proofs
def CTJ(x:I3):Prop:=AS ZP (ann 15 []) Tryz.f80 (AG Tryz.f80) (xI3 x) (AC []) (.bool (NJ x.a x.b x.c)) [] [] []
theorem CWX(x:I3):(CTJ x)=(SQ (NJ (lY x) (I3.b x) (I3.c x)) (hd6 (lY x) (I3.b x)) (hd7 (lY x) (I3.c x))):=by kernel_rfl
def APZ:=pD dI1 λx=>.bool (NJ x 0 1000000000)
def CEU(x:Int):Prop:=AS ZP (ann 5 [(80,My)]) Tryz.f48 (AG Tryz.f48) (xI1 x) (AC []) (.bool (NJ x 0 1000000000)) [] [] []
theorem CQN(x:Int):(CEU x)=(WI (JR x 1000000000)):=by kernel_rfl
def okRg(c:Cmp)(x:Rgh):Bool:=NJ x.s 0 (wr (c.s-1))&&(NJ x.a 0 1000000000&&NJ x.l 0 1000)
structure CmR where
 c:Cmp
 x:Rgh
def C_sCk1:Ctr:={ ro:=[101],α:=CmR,xs:=λx=>[.d (eRgh x.x),.bptr 101 0],L:=λx=>[(101,cmB x.c)],val:=λx=>.bool (okRg x.c x.x),keep:=λx=>[(101,.live (cmB x.c))] }
def CDL:List AVal->Heap->Option (CmR×List (Nat×Nat)×List Nat)
 |[.d d,.bptr id _],H=>(BTA H id).map λc=>(⟨c,dRgh d⟩,[(101,id)],[])
 |_,_=>none
def BYK:Ann:={ ann 20 [(80,My),(48,APZ)] with E:=[101] }
def CGI(x:CmR):Prop:=AS ZP BYK Tryz.f82 (AG Tryz.f82) (C_sCk1.xs x) (AC (C_sCk1.L x)) (C_sCk1.val x) (C_sCk1.keep x) [] []
abbrev S1:=okRg
abbrev AGD:=CmR.c
abbrev No:=Rgh.s
abbrev Mw:=Cmp.s
abbrev Ns:=Rgh.a
abbrev Nl:=Rgh.l
abbrev BIF:=@List.length Rgh
abbrev AWJ:=@gD Rgh instInhabitedRgh
abbrev ANJ a b:=AWJ (Cmp.l a) b
abbrev Dy a b:=Nl (ANJ a b)
abbrev Ei a b:=Ns (ANJ a b)
abbrev Dv a b:=No (ANJ a b)
abbrev VY a:=BIF (Cmp.l a)
attribute [go_sem] S1 AGD No Mw Ns Nl BIF AWJ ANJ Dy Ei Dv VY
theorem CKJ(x:CmR):(CGI x)=(Hl (SQ (S1 (AGD x) (CmR.x x)) (IC (JR (No (CmR.x x)) (Mo (Mw (AGD x)))) (JR (Ns (CmR.x x)) 1000000000)) (JR (Nl (CmR.x x)) 1000)) (AI (Mw (AGD x))) (BI (VY (AGD x))) (λi=>Hz i (VY (AGD x)) (Dv (AGD x) i) (Ei (AGD x) i) (Dy (AGD x) i))):=by kernel_rfl
theorem BCJ:AH ZP 80 My:=NH xI3 hI3 λx _=>TF (A:=ann 15 []) (ren:=[]) (fz:=[]) Tryz.func80 (by kernel_rfl) AD (by
 show CTJ x;rw[CWX]<;> dsimp only[go_sem];unfold NJ;by_cases h:x.b<=x.a<;>simp[h])
theorem AXL:AH ZP 48 APZ:=NH xI1 hI1 λx _=>TF (A:=ann 5 [(80,My)]) (ren:=[]) (fz:=[]) Tryz.func48 (by kernel_rfl) (AA BCJ AD) (by
 show CEU x;rw[CQN]<;> dsimp only[go_sem])
theorem CQR:AH ZP 82 (C_sCk1.spec CDL):=MK C_sCk1 (λ_=>BYK) [] [] Tryz.func82 (λ_=>by kernel_rfl) (λ_=>AA BCJ (AA AXL AD)) (λ(x:CmR) _=>by
 show CGI x;rw[CKJ]<;> dsimp only[go_sem];simp only[CC,CU,CK,JD,FM,FK,FL,QZ,KA,JV]
 unfold okRg wr
 cases NJ x.x.s 0 (IntKind.i64.wrap (x.c.s-1))<;>cases NJ x.x.a 0 1000000000<;>rfl) (λ_=>OA rfl rfl) _
def LXRg(q:Cmp):List (Nat×AObj):=[(101,cmB q)]
def KXRg(q:Cmp):List (Nat×HCell):=[(101,.live (cmB q))]
def fvRg(q:Cmp):AVal:=.fn (.func 82) [] [.bptr 101 0]
def BRg(q:Cmp):AObj:=.box [fvRg q]
structure ERg where
 q:Cmp
 e:Rgh
structure MRg where
 q:Cmp
 l:List Rgh
def C1Rg:Ctr:={ ro:=[100,101],α:=ERg,xs:=λa=>[.d (eRgh a.e),.bptr 100 0],L:=λa=>(100,BRg a.q) :: LXRg a.q,val:=λa=>.bool (!okRg a.q a.e),keep:=λa=>(100,.live (BRg a.q)) :: KXRg a.q,pre:=λa=>[True] }
def d1Rg:List AVal->Heap->Option (ERg×List (Nat×Nat)×List Nat)
 |[.d d,.bptr id _],H=>match H id with
  | .live (.box [.fn _ _ [.bptr j _]])=>match BTA H j with
   |some c=>some (⟨c,dRgh d⟩,[(100,id),(101,j)],[])
   |none=>none
  |_=>none
 |_,_=>none
def A1Rg:Ann:={ ann 8 [(82,C_sCk1.spec CDL)] with E:=[100,101] }
def V1Rg(a:ERg):Prop:=AS ZP A1Rg Tryz.f116 (AG Tryz.f116) (C1Rg.xs a) (AC (C1Rg.L a)) (C1Rg.val a) (C1Rg.keep a) [] []
abbrev Tu:=ERg.e
abbrev UK:=ERg.q
abbrev Ox a b c d(e:Nat->Prop):=PO a b c d (AE e)
abbrev qT a b c:=dRgh (AWX (ATY a (AGG b c)))
abbrev BDJ a(b:Nat->Rgh):=(@HQ Rgh) a (λi=>dRgh (eRgh (b i)))
abbrev I9 a:=BDJ (VY a) (λi=>ANJ a i)
abbrev ZU a b:=Cmp.mk a (I9 b)
abbrev AXQ a b:=AWJ (I9 a) b
abbrev VW a b:=Nl (AXQ a b)
abbrev UW a b:=Ns (AXQ a b)
abbrev VE a b:=No (AXQ a b)
abbrev Zf a:=BIF (I9 a)
abbrev Li a b c d e f g h:=EJ a (Zf b) c d e f g h
abbrev xP a b:=BB (Zf a) b
abbrev oP a:=xP a (VY a)
attribute [go_sem] Tu UK Ox qT BDJ I9 ZU AXQ VW UW VE Zf Li xP oP
theorem DDI(a:ERg):(V1Rg a)=(Ox (Zp (AN (No (qT (No (Tu a)) (Ns (Tu a)) (Nl (Tu a)))) (No (Tu a))) (AN (Ns (qT (No (Tu a)) (Ns (Tu a)) (Nl (Tu a)))) (Ns (Tu a))) (AN (Nl (qT (No (Tu a)) (Ns (Tu a)) (Nl (Tu a)))) (Nl (Tu a))) (AI (Mw (UK a))) (oP (UK a)) (AE (λi=>Li i (UK a) (VE (UK a) i) (Dv (UK a) i) (UW (UK a) i) (Ei (UK a) i) (VW (UK a) i) (Dy (UK a) i))) (BB (VY (UK a)) (Zf (UK a))) (AE (λi=>EJ i (VY (UK a)) (Dv (UK a) i) (VE (UK a) i) (Ei (UK a) i) (UW (UK a) i) (Dy (UK a) i) (VW (UK a) i)))) (ANW (not (S1 (UK a) (Tu a))) (S1 (ZU (Mw (UK a)) (UK a)) (qT (No (Tu a)) (Ns (Tu a)) (Nl (Tu a))))) (Mw (UK a)) (BI (VY (UK a))) (λi=>Hz i (VY (UK a)) (Dv (UK a) i) (Ei (UK a) i) (Dy (UK a) i))):=by kernel_rfl
theorem DBA:AH ZP 116 (C1Rg.spec d1Rg):=MK C1Rg (λ_=>A1Rg) [] [] Tryz.func116 (λ_=>by kernel_rfl) (λ_=>AA CQR AD) (λ(a:ERg) h=>by
 have h:True:=h
 show V1Rg a;rw[DDI]<;> dsimp only[go_sem];try simp[wr,GC,JD,FM,FK,FL,h]) (λ_=>OA rfl rfl) _
def d2Rg:List AVal->Heap->Option (MRg×List (Nat×Nat)×List Nat)
 |[y,.fn _ _ [.bptr id _]],H=>match Ti y H with
  |some (n,g,f)=>match H id with
   | .live (.box [.fn _ _ [.bptr j _]])=>match BTA H j with
    |some c=>some (⟨c,HQ n λi=>dRgh (g i)⟩,[(100,id),(101,j)],f)
    |none=>none
   |_=>none
  |none=>none
 |_,_=>none
def A2Rg(a:MRg):Ann:={ ann 19 [(116,C1Rg.spec d1Rg)] with E:=[100,101],loops:=λid=>if id=2 then some [{ α:=Nat,dflt:=0,T:=λk=>⟨[(0,.d (eRgs a.l)),(1,.fn (.func 116) [] [.bptr 100 0]),(7,.int a.l.length),(8,.int k)],(100,.live (BRg a.q)) :: KXRg a.q⟩,inv:=λk=>k<=a.l.length/\TE (λi=>!okRg a.q (gD a.l i)) a.l.length 0=TE (λi=>!okRg a.q (gD a.l i)) (a.l.length-k) k,meas:=λk=>a.l.length-k }] else none }
def PRg(a:MRg):List Prop:=[a.l.length<4611686018427387904/\True]
def C2Rg:Ctr:={ ro:=[100,101],α:=MRg,xs:=λa=>[.d (eRgs a.l),.fn (.func 116) [] [.bptr 100 0]],L:=λa=>(100,BRg a.q) :: LXRg a.q,val:=λa=>.int (TE (λi=>!okRg a.q (gD a.l i)) a.l.length 0),keep:=λa=>(100,.live (BRg a.q)) :: KXRg a.q,pre:=PRg }
def V2Rg(a:MRg):Prop:=AS ZP (A2Rg a) Tryz.f140 (AG Tryz.f140) (C2Rg.xs a) (AC (C2Rg.L a)) (C2Rg.val a) (C2Rg.keep a) [] []
abbrev MI:=MRg.q
abbrev Pp a b:=Dy (MI a) b
abbrev Ov a b:=Ei (MI a) b
abbrev Py a b:=Dv (MI a) b
abbrev Bv a:=VY (MI a)
abbrev Y1 a:=BI (Bv a)
abbrev uS a:=Mw (MI a)
abbrev A5 a:=AI (uS a)
abbrev TT a:=BIF (MRg.l a)
abbrev BNK a b:=S1 (MI a) b
abbrev ADO a b:=AWJ (MRg.l a) b
abbrev jX a b c:=BNK a (ADO b c)
abbrev iN a b:=Nl (ADO a b)
abbrev gF a b:=Ns (ADO a b)
abbrev fW a b:=No (ADO a b)
attribute [go_sem] MI Pp Ov Py Bv Y1 uS A5 TT BNK ADO jX iN gF fW
theorem CZX(a:MRg):(V2Rg a)=(LR (λi=>DK (Uq (TT a) (AE (λj=>Hz j (TT a) (fW a j) (gF a j) (iN a j))) (Ox (BY (TT a)) (BC i) (uS a) (Y1 a) (λj=>Hz j (Bv a) (Py a j) (Ov a j) (Pp a j)))) i (TT a) (JJ (λj=>jX a a j) (TT a) (λj=>jX a a j) i)) (λi=>WR i (TT a) (JJ (λj=>jX a a j) (TT a) (λj=>jX a a j) i) (LL (CL i (TT a)) (No (qT (fW a i) (gF a i) (iN a i))) (fW a i) (AHK (AN (Ns (qT (fW a i) (gF a i) (iN a i))) (gF a i)) (AN (Nl (qT (fW a i) (gF a i) (iN a i))) (iN a i)) (A5 a) (xP (MI a) (Bv a)) (AE (λj=>Li j (MI a) (VE (MI a) j) (Py a j) (UW (MI a) j) (Ov a j) (VW (MI a) j) (Pp a j))) (BB (Bv a) (Zf (MI a))) (AE (λj=>EJ j (Bv a) (Py a j) (VE (MI a) j) (Ov a j) (UW (MI a) j) (Pp a j) (VW (MI a) j))) EB)) (Uj (S1 (ZU (uS a) (MI a)) (qT (fW a i) (gF a i) (iN a i))) (Hl (cO (λj=>jX a a j) (TT a) i) (A5 a) (Y1 a) (λj=>Hz j (Bv a) (Py a j) (Ov a j) (Pp a j))) (λj=>IK (Uq (TT a) (AE (λk=>Hz k (TT a) (fW a k) (gF a k) (iN a k))) (Ox (BY (TT a)) (AR j i) (uS a) (Y1 a) (λk=>Hz k (Bv a) (Py a k) (Ov a k) (Pp a k)))) j (TT a) (JJ (λk=>jX a a k) (TT a) (λk=>jX a a k) j) i)) (Hl (Yt (λj=>jX a a j) (TT a)) (A5 a) (Y1 a) (λj=>Hz j (Bv a) (Py a j) (Ov a j) (Pp a j))))):=by kernel_rfl
theorem p2Rg(a:MRg)(h:BG (PRg a)):V2Rg a:=by
 obtain⟨h,hp⟩:a.l.length<4611686018427387904/\True:=h
 rw[CZX]<;> dsimp only[go_sem]
 simp only[CC,CU,CK,JD,FM,FK,FL,QZ,KA,JV]
 refine⟨⟨0,rfl,Nat.zero_le _,rfl⟩,λk ⟨h1,h2⟩=>⟨λhlt=>?_,λhge=>?_⟩⟩
 ·have hlt:k<a.l.length:=by omega
  refine⟨⟨by omega,by omega⟩,λhp=>?_,λhp=>⟨k+1,(BJ (by omega)).symm,⟨by omega,?_⟩,by omega⟩⟩
  ·rw[h2];exact YB hlt (by simpa using hp)
  ·rw[h2];exact Wv hlt (by simpa using hp)
 ·rw[h2];exact Ge (by omega)
theorem CYX:AH ZP 140 (C2Rg.spec d2Rg):=MK C2Rg A2Rg [] [] Tryz.func140 (λ_=>by kernel_rfl) (λ_=>AA DBA AD) p2Rg (λ_=>OA rfl rfl) _
def C3Rg:Ctr:={ C2Rg with val:=λ(a:MRg)=>.bool (decide (TE (λi=>!okRg a.q (gD a.l i)) a.l.length 0>=0)) }
def d3Rg:List AVal->Heap->Option (C3Rg.α×List (Nat×Nat)×List Nat):=d2Rg
def A3Rg:Ann:={ ann 9 [(140,C2Rg.spec d2Rg)] with E:=[100,101] }
def V3Rg(a:MRg):Prop:=AS ZP A3Rg Tryz.f115 (AG Tryz.f115) (C3Rg.xs a) (AC (C3Rg.L a)) (C3Rg.val a) (C3Rg.keep a) [] []
abbrev rY a:=BIF (BDJ (TT a) (λi=>ADO a i))
abbrev nU a b:=AWJ (BDJ (TT a) (λi=>ADO a i)) b
attribute [go_sem] rY nU
theorem DAP(a:MRg):(V3Rg a)=(Ox (And (BB (rY a) (TT a)) (BU (AE (λi=>EJ i (rY a) (No (nU a i)) (fW a i) (Ns (nU a i)) (gF a i) (Nl (nU a i)) (iN a i))) (A5 a) (xP (MI a) (Bv a)) (AE (λi=>Li i (MI a) (VE (MI a) i) (Py a i) (UW (MI a) i) (Ov a i) (VW (MI a) i) (Pp a i))) (A5 a) (BB (Bv a) (Zf (MI a))) (λi=>EJ i (Bv a) (Py a i) (VE (MI a) i) (Ov a i) (UW (MI a) i) (Pp a i) (VW (MI a) i)) (JY (rY a)) EB)) (Yu (λi=>jX a a i) (TT a) (λi=>S1 (ZU (uS a) (MI a)) (nU a i)) (rY a)) (uS a) (Y1 a) (λi=>Hz i (Bv a) (Py a i) (Ov a i) (Pp a i))):=by kernel_rfl
theorem CZK:AH ZP 115 (C3Rg.spec d3Rg):=Ctr.spec_ok (C:=C3Rg) (λ(a:MRg) h=>TF (A:=A3Rg) (ren:=[]) (fz:=[]) Tryz.func115 (by kernel_rfl) (AA CYX AD) (by
 obtain⟨h,hp⟩:a.l.length<4611686018427387904/\True:=h
 show V3Rg a;rw[DAP]<;> dsimp only[go_sem];simp[h,hp,GC,JD])) _
def d4Rg:List AVal->Heap->Option (MRg×List (Nat×Nat)×List Nat)
 |[y,.fn _ _ [.bptr j _]],H=>match Ti y H with
  |some (n,g,f)=>match BTA H j with
   |some c=>some (⟨c,HQ n λi=>dRgh (g i)⟩,[(101,j)],f)
   |none=>none
  |none=>none
 |_,_=>none
def A4Rg:Ann:={ ann 9 [(115,C3Rg.spec d3Rg)] with E:=[101] }
def C4Rg:Ctr:={ ro:=[101],α:=MRg,xs:=λa=>[.d (eRgs a.l),fvRg a.q],L:=λa=>LXRg a.q,val:=λa=>.bool (a.l.all λx=>okRg a.q x),keep:=λa=>KXRg a.q,pre:=PRg }
def V4Rg(a:MRg):Prop:=AS ZP A4Rg Tryz.f81 (AG Tryz.f81) (C4Rg.xs a) (AC (C4Rg.L a)) (C4Rg.val a) (C4Rg.keep a) [] []
abbrev BVY:=@List.all Rgh
attribute [go_sem] BVY
theorem DDG(a:MRg):(V4Rg a)=(Ox (And (BB (rY a) (TT a)) (BU (AE (λi=>EJ i (rY a) (No (nU a i)) (fW a i) (Ns (nU a i)) (gF a i) (Nl (nU a i)) (iN a i))) (A5 a) (xP (MI a) (Bv a)) (AE (λi=>Li i (MI a) (VE (MI a) i) (Py a i) (UW (MI a) i) (Ov a i) (VW (MI a) i) (Pp a i))) (A5 a) (BB (Bv a) (Zf (MI a))) (λi=>EJ i (Bv a) (Py a i) (VE (MI a) i) (Ov a i) (UW (MI a) i) (Pp a i) (VW (MI a) i)) (JY (rY a)) EB)) (jC (BVY (MRg.l a) (λi=>BNK a i)) (λi=>S1 (ZU (uS a) (MI a)) (nU a i)) (rY a)) (uS a) (Y1 a) (λi=>Hz i (Bv a) (Py a i) (Ov a i) (Pp a i))):=by kernel_rfl
theorem DAI(a:MRg)(h:BG (PRg a)):FnT ZP 81 (C4Rg.xs a) (AC (C4Rg.L a)) (C4Rg.val a) (C4Rg.keep a):=TF (A:=A4Rg) (ren:=[]) (fz:=[]) Tryz.func81 (by kernel_rfl) (AA CZK AD) (by
 have h':a.l.length<4611686018427387904/\True:=h
 show V4Rg a;rw[DDG]<;> dsimp only[go_sem];simp only[CC,CU,CK,JD,FM,FK,FL,QZ,KA,JV,ge_iff_le]
 rw[<-Qr]
 exact⟨h'.1,rfl⟩)
theorem DDB:AH ZP 81 (C4Rg.spec d4Rg):=Ctr.spec_ok (C:=C4Rg) DAI _
def okCm(c:Cmp):Prop:=(1<=c.s/\c.s<=12)/\(1<=c.l.length/\c.l.length<=30)/\c.l.all (okRg c)=true
def C_sCheck:Ctr:={ α:=Cmp,xs:=λc=>[.d (eCmp c)],L:=λ_=>[],val:=λ_=>.int 0,keep:=λ_=>[],pre:=λc=>[okCm c] }
def BHN:List AVal->Heap->Option (Cmp×List (Nat×Nat)×List Nat)
 |[.d (.agg [.v (.int .i64 s),.list _ n f _])],_=>some (⟨s,HQ n λj=>dRgh (f j)⟩,[],[])
 |_,_=>none
def BIS:Ann:=ann 21 [(80,My),(81,C4Rg.spec d4Rg)]
def BGK(c:Cmp):Prop:=AS ZP BIS Tryz.f47 (AG Tryz.f47) [.d (eCmp c)] (AC []) (.int 0) [] [] []
theorem BWT(c:Cmp):(BGK c)=(Ba (not (NJ (Mw c) 1 12)) (not (NJ (AZ (VY c)) 1 30)) (sA 3) (EM (oP c) (Z8 (AE (λi=>Li i c (VE c i) (Dv c i) (UW c i) (Ei c i) (VW c i) (Dy c i))) (AI (Mw c)) (oP c) (AI (Mw c)) (BB (VY c) (Zf c)) (AE (λi=>EJ i (VY c) (Dv c i) (VE c i) (Ei c i) (UW c i) (Dy c i) (VW c i))) (JY (Zf c)) EB) (Be (BVY (I9 c) (λi=>S1 (ZU (Mw c) c) i)) (sA 100) AU))):=by kernel_rfl
theorem AUP:AH ZP 47 (C_sCheck.spec BHN):=MK C_sCheck (λ_=>BIS) [] [] Tryz.func47 (λ_=>by kernel_rfl) (λ_=>AA BCJ (AA DDB AD)) (λ(c:Cmp) h=>by
 obtain⟨h1,h2,h3⟩:okCm c:=h
 show BGK c;rw[BWT]<;> dsimp only[go_sem];simp only[CC,CU,CK,JD,FM,FK,FL,QZ,KA,JV]
 rw[Cp h1,Cp (show (1:Int)<=(c.l.length:Int)/\(c.l.length:Int)<=30 by omega),show (c.l.all λx=>okRg c x)=true from h3]
 exact⟨λh=>(by cases h),λ_=>⟨by omega,λh=>(by cases h)⟩⟩) (λ_=>OA rfl rfl) _
end Go.Bal
