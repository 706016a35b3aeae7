/- Package rating: every. Printed by genratE.py. -/
import Derived.Test.YtceloknnpdonhaaGreatRatA
set_option linter.unusedVariables false
set_option linter.unusedSimpArgs false
namespace Go.Bal
open Go Go.Sym Go.Proofs
def allB(p:Nat->Bool):Nat->Bool
 |0=>true
 |n+1=>allB p n&&p n
theorem BOH{p:Nat->Bool}:∀{n:Nat},allB p n=true↔∀i,i<n->p i=true
 |0=>by simp[allB]
 |n+1=>by
  simp only[allB,Bool.and_eq_true,BOH (n:=n)]
  constructor
  ·intro h i hi
   by_cases he:i=n
   ·subst he;exact h.2
   ·exact h.1 i (by omega)
  ·exact λh=>⟨λi hi=>h i (by omega),h n (by omega)⟩
theorem CKB{p:Nat->Bool}:∀{n k:Nat},(0<=Gs p n k)↔∃i,k<=i/\i<k+n/\p i=true
 |0,k=>by simp[Gs];omega
 |n+1,k=>by
  simp only[Gs]
  by_cases h:p k=true
  ·rw[if_pos h]
   constructor
   ·intro _;exact⟨k,Nat.le_refl _,by omega,h⟩
   ·intro _;omega
  ·rw[if_neg h,CKB (n:=n) (k:=k+1)]
   constructor
   ·rintro⟨i,h1,h2,h3⟩;exact⟨i,by omega,by omega,h3⟩
   ·rintro⟨i,h1,h2,h3⟩
    refine⟨i,?_,by omega,h3⟩
    by_cases he:i=k
    ·subst he;exact absurd h3 h
    ·omega
theorem DDY{p:Nat->Bool}{n:Nat}:(!decide (0<=Gs (λi=>!p i) n 0))=allB p n:=by
 rw[Bool.eq_iff_iff,BOH]
 simp only[Bool.not_eq_true',decide_eq_false_iff_not,CKB,Nat.zero_le,Nat.zero_add,true_and]
 constructor
 ·intro h i hi
  cases hp:p i with
  |true=>rfl
  |false=>exact (h ⟨i,hi,by simp[hp]⟩).elim
 ·rintro h ⟨i,hi,hp⟩
  rw[h i hi] at hp;cases hp
theorem AME{α:Type}[Inhabited α]{p:α->Bool}{l:List α}:(!decide (0<=Gs (λi=>!p (gD l i)) l.length 0))=l.all p:=by
 rw[DDY,Bool.eq_iff_iff,BOH,List.all_eq_true]
 exact⟨λh x hx=>by obtain⟨i,hi,rfl⟩:=aQ hx;exact h i hi,λh i hi=>h _ (HI hi)⟩
structure LInt where
 q:List Gau
 e:Int
def C_nm1:Ctr:={ ro:=[101],α:=LInt,xs:=λa=>[.int a.e,.bptr 101 0],L:=λa=>[(101,.box [.d (KZ a.q)])],val:=λa=>.bool (Sx a.e 0 (wr (a.q.length-1))),keep:=λa=>[(101,.live (.box [.d (KZ a.q)]))] }
def DOJ:List AVal->Heap->Option (LInt×List (Nat×Nat)×List Nat)
 |[.d d,.bptr id _],H=>match H id with
  | .live (.box [.d (.list _ n g _)])=>some (⟨KA n λi=>qG (g i),EO d⟩,[(101,id)],[])
  |_=>none
 |_,_=>none
def DLY:Ann:={ ann 9 [(n_in,s_in)] with E:=[101] }
def DKY(a:LInt):Prop:=BG Try.prog DLY BQY (AL BQY) (C_nm1.xs a) (AF (C_nm1.L a)) (C_nm1.val a) (C_nm1.keep a) [] []
abbrev CW:=@List.length Gau
abbrev FX:=@gD Gau instInhabitedGau
abbrev GQ a b c:=AZ a (CW b) c
abbrev QL a b c:=HE (AI a) b c
abbrev UW a b c:=QL a b (AI c)
abbrev DY a b:=GW (FX a b)
abbrev DZ a b:=Gau.lo (FX a b)
abbrev DI a b:=EY (FX a b)
abbrev OH a b c d:=UW (DI a b) (DZ c d) (DY c d)
abbrev HO a b:=GQ a b (OH b a b a)
abbrev BR a:=AK (λi=>HO i a)
abbrev BY a:=BI (CW a)
abbrev HV a:=AU (CW a)
abbrev bC a b:=RD a (wr (Nw (HV b)))
attribute [go_sem] CW FX GQ QL UW DY DZ DI OH HO BR BY HV bC
theorem DPP(a:LInt):(DKY a)=(AH (JB (bC (LInt.e a) (LInt.q a)) (RD (LInt.e a) (FA (HV (LInt.q a))))) (BY (LInt.q a)) (BR (LInt.q a))):=by kernel_rfl
theorem DPA:AM Try.prog BDK (C_nm1.spec DOJ):=WY C_nm1 (λ_=>DLY) [] [] CTC (λ_=>by kernel_rfl) (λ_=>AB X3 AG) (λ(a:LInt) _=>by
 show DKY a;rw[DPP]<;> delta JB NE Kq AR AK BO CI AO AU EY GW CW FX AH AZ EV AI BI DI DY LI DZ GQ HE QL UW BY HV OH FA HO BR Nw RD bC;simp[wr,RI]) (λ_=>YE rfl rfl) _
def fvGr(q:One):AVal:=.fn (.func CNE) [] []
def BGr(q:One):AObj:=.box [fvGr q]
structure EGr where
 q:One
 e:Gau
structure MGr where
 q:One
 l:List Gau
def C1Gr:Ctr:={ ro:=[100],α:=EGr,xs:=λa=>[.d (eGau a.e),.bptr 100 0],L:=λa=>(100,BGr a.q) :: [],val:=λa=>.bool (!riG a.e),keep:=λa=>(100,.live (BGr a.q)) :: [] }
def d1Gr:List AVal->Heap->Option (EGr×List (Nat×Nat)×List Nat)
 |[.d d,.bptr id _],H=>some (⟨default,qG d⟩,[(100,id)],[])
 |_,_=>none
def A1Gr:Ann:={ ann 8 [(CNE,DMI)] with E:=[100] }
def V1Gr(a:EGr):Prop:=BG Try.prog A1Gr CEI (AL CEI) (C1Gr.xs a) (AF (C1Gr.L a)) (C1Gr.val a) (C1Gr.keep a) [] []
theorem DXE(a:EGr):(V1Gr a)=(FJ (not (riG (EGr.e a)))):=by kernel_rfl
theorem DVK:AM Try.prog BDJ (C1Gr.spec d1Gr):=WY C1Gr (λ_=>A1Gr) [] [] CWL (λ_=>by kernel_rfl) (λ_=>AB DSZ AG) (λ(a:EGr) h=>by
 show V1Gr a;rw[DXE]<;> delta JB FJ;try simp[wr,RI]) (λ_=>YE rfl rfl) _
def d2Gr:List AVal->Heap->Option (MGr×List (Nat×Nat)×List Nat)
 |[y,.fn _ _ [.bptr id _]],H=>match vE y H with
  |some (n,g,f)=>some (⟨default,KA n λi=>qG (g i)⟩,[(100,id)],f)
  |none=>none
 |_,_=>none
def A2Gr(a:MGr):Ann:={ ann 19 [(BDJ,C1Gr.spec d1Gr)] with E:=[100],loops:=λid=>if id=2 then some [{ α:=Nat,dflt:=0,T:=λk=>⟨[(0,.d (KZ a.l)),(1,.fn (.func BDJ) [] [.bptr 100 0]),(7,.int a.l.length),(8,.int k)],(100,.live (BGr a.q)) :: []⟩,inv:=λk=>k<=a.l.length/\Gs (λi=>!riG (gD a.l i)) a.l.length 0=Gs (λi=>!riG (gD a.l i)) (a.l.length-k) k,meas:=λk=>a.l.length-k }] else none }
def PGr(a:MGr):List Prop:=[a.l.length<4611686018427387904/\True]
def C2Gr:Ctr:={ ro:=[100],α:=MGr,xs:=λa=>[.d (KZ a.l),.fn (.func BDJ) [] [.bptr 100 0]],L:=λa=>(100,BGr a.q) :: [],val:=λa=>.int (Gs (λi=>!riG (gD a.l i)) a.l.length 0),keep:=λa=>(100,.live (BGr a.q)) :: [],pre:=PGr }
def V2Gr(a:MGr):Prop:=BG Try.prog (A2Gr a) CHM (AL CHM) (C2Gr.xs a) (AF (C2Gr.L a)) (C2Gr.val a) (C2Gr.keep a) [] []
abbrev Dx:=MGr.l
abbrev oK a:=CW (Dx a)
abbrev BTA a b:=riG (FX a b)
abbrev Zp a b:=BTA (Dx a) b
abbrev Ki a b c d e f:=CK a (MW b c d) e f
abbrev QW a b:=IS (CW a) b
abbrev Cm a b:=ES a (HV b)
abbrev KQ a b:=EA a (CW b)
attribute [go_sem] Dx oK BTA Zp Ki QW Cm KQ
theorem DXW(a:MGr):(V2Gr a)=(KF (λi=>AH (EP (BY (Dx a)) (BR (Dx a)) (HV (Dx a)) (BS i)) (KQ i (Dx a)) (Rh (λj=>Zp a j) (oK a) (λj=>Zp a j) (QW (Dx a) i) i)) (λi=>NA i (oK a) (Rh (λj=>Zp a j) (oK a) (λj=>Zp a j) (QW (Dx a) i) i) (HV (Dx a)) (KM (And (Cm i (Dx a)) (OH (Dx a) i (Dx a) i)) (Zp a i) (Ap (λj=>Zp a j) (oK a) (AU i)) (LA (λj=>Ki (EP (BY (Dx a)) (BR (Dx a)) (HV (Dx a)) (AV j i)) j (oK a) (Rh (λk=>Zp a k) (oK a) (λk=>Zp a k) (QW (Dx a) j) j) (QW (Dx a) j) (QW (Dx a) i)))) (Ap (λj=>Zp a j) (oK a) (-1)))):=by kernel_rfl
theorem p2Gr(a:MGr)(h:EL (PGr a)):V2Gr a:=by
 obtain⟨h,hp⟩:a.l.length<4611686018427387904/\True:=h
 rw[DXW]<;> delta NE AR AK BO CI AO AU EA DV JD DJ DX OP IS LA EY GW CW FX Dx AH AZ EV AI BI DK DI DY ED BC DZ GQ HE EU QL GY UW GV BY CK HV FK XX CE OH QW MW EC AV BF ES KQ FF HO BR UK CX Ap BS EP Rh KF KM Bc NA Cm BTA Zp oK Ki
 simp only[CC,eq_self,implies_true,forall_const]
 refine⟨⟨0,rfl,Nat.zero_le _,rfl⟩,λk ⟨h1,h2⟩=>⟨λhlt=>?_,λhge=>?_⟩⟩
 ·have hlt:k<a.l.length:=by omega
  refine⟨⟨by omega,by omega⟩,λhp=>?_,λhp=>⟨k+1,(FN (by omega)).symm,⟨by omega,?_⟩,by omega⟩⟩
  ·rw[h2];exact Wd hlt (by simpa using hp)
  ·rw[h2];exact F3 hlt (by simpa using hp)
 ·rw[h2];exact jL (by omega)
theorem DYC:AM Try.prog CFX (C2Gr.spec d2Gr):=WY C2Gr A2Gr [] [] CWN (λ_=>by kernel_rfl) (λ_=>AB DVK AG) p2Gr (λ_=>YE rfl rfl) _
def C3Gr:Ctr:={ C2Gr with val:=λ(a:MGr)=>.bool (decide (Gs (λi=>!riG (gD a.l i)) a.l.length 0>=0)) }
def d3Gr:List AVal->Heap->Option (C3Gr.α×List (Nat×Nat)×List Nat):=d2Gr
def A3Gr:Ann:={ ann 9 [(CFX,C2Gr.spec d2Gr)] with E:=[100] }
def V3Gr(a:MGr):Prop:=BG Try.prog A3Gr CET (AL CET) (C3Gr.xs a) (AF (C3Gr.L a)) (C3Gr.val a) (C3Gr.keep a) [] []
abbrev NX a b(c:Nat->Nat):=(@KA Gau) a (λi=>FX b (c i))
abbrev NY a b:=NX (CW a) b (λi=>i)
abbrev BU a:=NY a a
abbrev OE a:=CW (BU a)
abbrev GH a b c d e f g:=GQ a b (HC (DI c d) e (DZ c d) f (DY c d) g)
abbrev GM a b c d e f:=GH a b b a c (DZ d e) (DY d f)
abbrev CR a b c:=GM a b (DI c a) c a a
abbrev AT a b:=AK (λi=>CR i a b)
abbrev DD a:=AT (BU a) a
abbrev HY a b:=AR (CW a) b
abbrev CG a b:=HY a (CW b)
abbrev CY a:=CG (BU a) a
attribute [go_sem] NX NY BU OE GH GM CR AT DD HY CG CY
theorem DYB(a:MGr):(V3Gr a)=(And (ON (CY (Dx a)) (DD (Dx a)) (OE (Dx a))) (JB (MI (λi=>Zp a i) (oK a)) (MI (λi=>BTA (BU (Dx a)) i) (OE (Dx a))))):=by kernel_rfl
theorem DWZ:AM Try.prog CFT (C3Gr.spec d3Gr):=Ctr.spec_ok (C:=C3Gr) (λ(a:MGr) h=>Mj (A:=A3Gr) (ren:=[]) (fz:=[]) CUC (by kernel_rfl) (AB DYC AG) (by
 obtain⟨h,hp⟩:a.l.length<4611686018427387904/\True:=h
 show V3Gr a;rw[DYB]<;> delta JB hd6 AR AK BO CI AO FI EY GW CW FX Dx AH NX NY AZ BU DI DY DZ DN GQ ID HC HY AY CG XX BD GH GM UK CR AT DD CY OE XE MI VS ON BTA Zp oK;simp[h,RI])) _
def d4Gr:List AVal->Heap->Option (MGr×List (Nat×Nat)×List Nat)
 |[y,.fn _ _ _],H=>match vE y H with
  |some (n,g,f)=>some (⟨default,KA n λi=>qG (g i)⟩,[],f)
  |none=>none
 |_,_=>none
def A4Gr:Ann:={ ann 9 [(CFT,C3Gr.spec d3Gr)] with E:=[] }
def C4Gr:Ctr:={ ro:=[],α:=MGr,xs:=λa=>[.d (KZ a.l),fvGr a.q],L:=λa=>[],val:=λa=>.bool (a.l.all λx=>riG x),keep:=λa=>[],pre:=PGr }
def V4Gr(a:MGr):Prop:=BG Try.prog A4Gr F_eG (AL F_eG) (C4Gr.xs a) (AF (C4Gr.L a)) (C4Gr.val a) (C4Gr.keep a) [] []
theorem DTL(a:MGr):(V4Gr a)=(((KA a.l.length λ(i:Nat)=>gD a.l i).length=a.l.length/\(∀(i:Nat),i<(KA a.l.length λ(i:Nat)=>gD a.l i).length->(gD (KA a.l.length λ(i:Nat)=>gD a.l i)
 i).st=(gD a.l i).st/\(gD (KA a.l.length λ(i:Nat)=>gD a.l i) i).lo=(gD a.l i).lo/\(gD (KA a.l.length λ(i:Nat)=>gD a.l i) i).hi=(gD a.l i).hi)/\(KA a.l.length λ(i:Nat)=>gD a.l i).length <
 4611686018427387904/\True)/\(a.l.all λ(x:Gau)=>riG x)=!decide (Gs (λ(i:Nat)=>!riG (gD (KA a.l.length λ(i:Nat)=>gD a.l i) i)) (KA a.l.length λ(i:Nat)=>gD a.l i).length 0>=0)):=by
 kernel_rfl
theorem DTG:AM Try.prog n_eG (C4Gr.spec d4Gr):=Ctr.spec_ok (C:=C4Gr) (λ(a:MGr) h=>Mj (A:=A4Gr) (ren:=[]) (fz:=[]) DMF (by kernel_rfl) (AB DWZ AG) (by
 have h':a.l.length<4611686018427387904/\True:=h
 show V4Gr a;rw[DTL];simp only[CC,eq_self,implies_true,forall_const,ge_iff_le]
 rw[<-AME]
 exact⟨h'.1,rfl⟩)) _
def fvGp(q:Ln):AVal:=.fn (.func AAG) [.d (eLn q)] []
def BGp(q:Ln):AObj:=.box [fvGp q]
structure EGp where
 q:Ln
 e:Gau
structure MGp where
 q:Ln
 l:List Gau
def C1Gp:Ctr:={ ro:=[100],α:=EGp,xs:=λa=>[.d (eGau a.e),.bptr 100 0],L:=λa=>(100,BGp a.q) :: [],val:=λa=>.bool (!LL a.q a.e),keep:=λa=>(100,.live (BGp a.q)) :: [],pre:=λa=>[(RF a.q/\Oy a.e)] }
def d1Gp:List AVal->Heap->Option (EGp×List (Nat×Nat)×List Nat)
 |[.d d,.bptr id _],H=>match H id with
  | .live (.box [.fn _ [.d x] _])=>some (⟨dLn x,qG d⟩,[(100,id)],[])
  |_=>none
 |_,_=>none
def A1Gp:Ann:={ ann 8 [(AAG,BQK)] with E:=[100] }
def V1Gp(a:EGp):Prop:=BG Try.prog A1Gp CEI (AL CEI) (C1Gp.xs a) (AF (C1Gp.L a)) (C1Gp.val a) (C1Gp.keep a) [] []
abbrev BMA:=EGp.q
abbrev qC a:=AI (HB a)
abbrev oE a:=AI (GD a)
abbrev K8 a:=AI (GF a)
abbrev UE a:=QE (BC (EY a)) (EY a) (Gau.lo a) (GW a)
attribute [go_sem] BMA qC oE K8 UE
theorem DUM(a:EGp):(V1Gp a)=(BB (And (LJ (BMA a)) (UE (EGp.e a))) (FJ (not (tR (BMA a) (EGp.e a)))) (AI (FC (BMA a))) (K8 (BMA a)) (oE (BMA a)) (qC (BMA a))):=by kernel_rfl
theorem DWV:AM Try.prog BDJ (C1Gp.spec d1Gp):=WY C1Gp (λ_=>A1Gp) [] [] CWL (λ_=>by kernel_rfl) (λ_=>AB BUZ AG) (λ(a:EGp) h=>by
 show V1Gp a;rw[DUM]<;> delta JB AO DJ DX EY GW FC GF GD HB tR BMA AH AJ AI FJ BC EU YB BB HN QE UE K8 LJ qC oE;exact⟨h,by simp⟩) (λ_=>YE rfl rfl) _
def d2Gp:List AVal->Heap->Option (MGp×List (Nat×Nat)×List Nat)
 |[y,.fn _ _ [.bptr id _]],H=>match vE y H with
  |some (n,g,f)=>match H id with
   | .live (.box [.fn _ [.d x] _])=>some (⟨dLn x,KA n λi=>qG (g i)⟩,[(100,id)],f)
   |_=>none
  |none=>none
 |_,_=>none
def A2Gp(a:MGp):Ann:={ ann 19 [(BDJ,C1Gp.spec d1Gp)] with E:=[100],loops:=λid=>if id=2 then some [{ α:=Nat,dflt:=0,T:=λk=>⟨[(0,.d (KZ a.l)),(1,.fn (.func BDJ) [] [.bptr 100 0]),(7,.int a.l.length),(8,.int k)],(100,.live (BGp a.q)) :: []⟩,inv:=λk=>k<=a.l.length/\Gs (λi=>!LL a.q (gD a.l i)) a.l.length 0=Gs (λi=>!LL a.q (gD a.l i)) (a.l.length-k) k,meas:=λk=>a.l.length-k }] else none }
def PGp(a:MGp):List Prop:=[a.l.length<4611686018427387904/\(∀x∈a.l,(RF a.q/\Oy x))]
def C2Gp:Ctr:={ ro:=[100],α:=MGp,xs:=λa=>[.d (KZ a.l),.fn (.func BDJ) [] [.bptr 100 0]],L:=λa=>(100,BGp a.q) :: [],val:=λa=>.int (Gs (λi=>!LL a.q (gD a.l i)) a.l.length 0),keep:=λa=>(100,.live (BGp a.q)) :: [],pre:=PGp }
def V2Gp(a:MGp):Prop:=BG Try.prog (A2Gp a) CHM (AL CHM) (C2Gp.xs a) (AF (C2Gp.L a)) (C2Gp.val a) (C2Gp.keep a) [] []
abbrev NZ:=MGp.l
abbrev yH:=MGp.q
abbrev Zx a:=qC (yH a)
abbrev cX a:=oE (yH a)
abbrev Qb a:=K8 (yH a)
abbrev AQG a:=FC (yH a)
abbrev Zo a:=AI (AQG a)
abbrev nX a:=CW (NZ a)
abbrev ACN a b c:=tR a (FX b c)
abbrev ARK a b c:=ACN (yH a) b c
abbrev Yu a b c:=ARK a (NZ b) c
attribute [go_sem] NZ yH Zx cX Qb AQG Zo nX ACN ARK Yu
theorem DYG(a:MGp):(V2Gp a)=(KF (λi=>AH (EP (BY (NZ a)) (BR (NZ a)) (HV (NZ a)) (AJ (BS i) (Zo a) (Qb a) (cX a) (Zx a))) (KQ i (NZ a)) (Rh (λj=>Yu a a j) (nX a) (λj=>Yu a a j) (QW (NZ a) i) i)) (λi=>NA i (nX a) (Rh (λj=>Yu a a j) (nX a) (λj=>Yu a a j) (QW (NZ a) i) i) (HV (NZ a)) (KM (And (Cm i (NZ a)) (AP (AI (DI (NZ a) i)) (AI (DZ (NZ a) i)) (AI (DY (NZ a) i)) (Zo a) (Qb a) (cX a) (Zx a) (Zo a) (AP (Qb a) (cX a) (Zx a) (LJ (yH a)) (BC (DI (NZ a) i)) (HN (DI (NZ a) i)) (BC (DZ (NZ a) i)) (DJ (DZ (NZ a) i) (DY (NZ a) i)) (DJ (DY (NZ a) i) 200000)))) (Yu a a i) (AJ (Ap (λj=>Yu a a j) (nX a) (AU i)) (Zo a) (Qb a) (cX a) (Zx a)) (LA (λj=>Ki (EP (BY (NZ a)) (BR (NZ a)) (HV (NZ a)) (AJ (AV j i) (Zo a) (Qb a) (cX a) (Zx a))) j (nX a) (Rh (λk=>Yu a a k) (nX a) (λk=>Yu a a k) (QW (NZ a) j) j) (QW (NZ a) j) (QW (NZ a) i)))) (AJ (Ap (λj=>Yu a a j) (nX a) (-1)) (Zo a) (Qb a) (cX a) (Zx a)))):=by kernel_rfl
theorem p2Gp(a:MGp)(h:EL (PGp a)):V2Gp a:=by
 obtain⟨h,hp⟩:a.l.length<4611686018427387904/\(∀x∈a.l,(RF a.q/\Oy x)):=h
 rw[DYG]<;> delta NE AR AK BO CI AO AU EA DV JD DJ DX OP IS LA EY GW FC GF GD HB tR CW FX NZ yH AH AJ AZ EV AI BI DK AP DI DY ED BC DZ GQ HE EU QL YB GY UW GV BY CK HV FK XX HN CE OH QW MW EC AV BF ES KQ FF HO BR UK CX Ap BS EP QE Rh KF KM Bc K8 ACN NA LJ qC Cm Qb oE AQG ARK cX Zo Zx Yu nX Ki
 simp only[CC,eq_self,implies_true,forall_const]
 refine⟨⟨0,rfl,Nat.zero_le _,rfl⟩,λk ⟨h1,h2⟩=>⟨λhlt=>?_,λhge=>?_⟩⟩
 ·have hlt:k<a.l.length:=by omega
  refine⟨⟨⟨by omega,by omega⟩,hp _ (HI hlt)⟩,λhp=>?_,λhp=>⟨k+1,(FN (by omega)).symm,⟨by omega,?_⟩,by omega⟩⟩
  ·rw[h2];exact Wd hlt (by simpa using hp)
  ·rw[h2];exact F3 hlt (by simpa using hp)
 ·rw[h2];exact jL (by omega)
theorem DUU:AM Try.prog CFX (C2Gp.spec d2Gp):=WY C2Gp A2Gp [] [] CWN (λ_=>by kernel_rfl) (λ_=>AB DWV AG) p2Gp (λ_=>YE rfl rfl) _
def C3Gp:Ctr:={ C2Gp with val:=λ(a:MGp)=>.bool (decide (Gs (λi=>!LL a.q (gD a.l i)) a.l.length 0>=0)) }
def d3Gp:List AVal->Heap->Option (C3Gp.α×List (Nat×Nat)×List Nat):=d2Gp
def A3Gp:Ann:={ ann 9 [(CFX,C2Gp.spec d2Gp)] with E:=[100] }
def V3Gp(a:MGp):Prop:=BG Try.prog A3Gp CET (AL CET) (C3Gp.xs a) (AF (C3Gp.L a)) (C3Gp.val a) (C3Gp.keep a) [] []
abbrev Jb:=λ(f:Gau->Prop)=>∀(x:Gau),f x
abbrev AAI a b c d e f g:=AP a b c d e b c f g
abbrev XK a b c:=BO ((@List.Mem Gau) a b) c
attribute [go_sem] Jb AAI XK
theorem DWF(a:MGp):(V3Gp a)=(BB (EP (CY (NZ a)) (DD (NZ a)) (AQG a) (AAI (Qb a) (cX a) (Zx a) (Zo a) (Qb a) (BD (OE (NZ a))) (Jb (λi=>XK i (BU (NZ a)) (And (LJ (yH a)) (UE i)))))) (JB (MI (λi=>Yu a a i) (nX a)) (MI (λi=>ARK a (BU (NZ a)) i) (OE (NZ a)))) (Zo a) (Qb a) (cX a) (Zx a)):=by kernel_rfl
theorem DYH:AM Try.prog CFT (C3Gp.spec d3Gp):=Ctr.spec_ok (C:=C3Gp) (λ(a:MGp) h=>Mj (A:=A3Gp) (ren:=[]) (fz:=[]) CUC (by kernel_rfl) (AB DUU AG) (by
 obtain⟨h,hp⟩:a.l.length<4611686018427387904/\(∀x∈a.l,(RF a.q/\Oy x)):=h
 show V3Gp a;rw[DWF]<;> delta JB hd6 AR AK BO CI AO DJ DX EY GW FC GF GD HB tR CW FX NZ yH Jb AH NX NY AJ AZ AI BU AP DI DY BC DZ AAI DN GQ HE ID HC EU HY YB CG BB XX BD HN GH GM UK CR AT EP DD CY QE XK OE UE XE MI K8 ACN LJ qC Qb oE AQG ARK cX Zo Zx Yu nX;simp[h,RI];exact hp)) _
def d4Gp:List AVal->Heap->Option (MGp×List (Nat×Nat)×List Nat)
 |[y,.fn _ [.d x] _],H=>match vE y H with
  |some (n,g,f)=>some (⟨dLn x,KA n λi=>qG (g i)⟩,[],f)
  |none=>none
 |_,_=>none
def A4Gp:Ann:={ ann 9 [(CFT,C3Gp.spec d3Gp)] with E:=[] }
def C4Gp:Ctr:={ ro:=[],α:=MGp,xs:=λa=>[.d (KZ a.l),fvGp a.q],L:=λa=>[],val:=λa=>.bool (a.l.all λx=>LL a.q x),keep:=λa=>[],pre:=PGp }
def V4Gp(a:MGp):Prop:=BG Try.prog A4Gp F_eG (AL F_eG) (C4Gp.xs a) (AF (C4Gp.L a)) (C4Gp.val a) (C4Gp.keep a) [] []
abbrev BMF:=@List.all Gau
attribute [go_sem] BMF
theorem DWH(a:MGp):(V4Gp a)=(And (EP (CY (NZ a)) (DD (NZ a)) (AQG a) (AAI (Qb a) (cX a) (Zx a) (Zo a) (Qb a) (BD (OE (NZ a))) (Jb (λi=>XK i (BU (NZ a)) (And (LJ (yH a)) (UE i)))))) (XJ (BMF (NZ a) (λi=>tR (yH a) i)) (MI (λi=>ARK a (BU (NZ a)) i) (OE (NZ a))))):=by kernel_rfl
theorem DVQ:AM Try.prog n_eG (C4Gp.spec d4Gp):=Ctr.spec_ok (C:=C4Gp) (λ(a:MGp) h=>Mj (A:=A4Gp) (ren:=[]) (fz:=[]) DMF (by kernel_rfl) (AB DYH AG) (by
 have h':a.l.length<4611686018427387904/\(∀x∈a.l,(RF a.q/\Oy x)):=h
 show V4Gp a;rw[DWH]<;> delta JB hd6 AR AK BO CI AO DJ DX EY GW FC GF GD HB tR CW FX NZ yH Jb BMF AH NX NY AJ AZ AI BU AP DI DY BC DZ AAI DN GQ HE ID HC EU HY YB CG XX BD HN GH GM UK CR AT EP DD CY QE XK OE UE XE MI K8 ACN LJ qC Qb oE AQG ARK XJ cX Zo Zx;simp only[CC,eq_self,implies_true,forall_const,ge_iff_le]
 rw[<-AME]
 exact⟨h',rfl⟩)) _
def fvLr(q:One):AVal:=.fn (.func BSW) [] []
def BLr(q:One):AObj:=.box [fvLr q]
structure ELr where
 q:One
 e:Ln
structure MLr where
 q:One
 l:List Ln
def C1Lr:Ctr:={ ro:=[100],α:=ELr,xs:=λa=>[.d (eLn a.e),.bptr 100 0],L:=λa=>(100,BLr a.q) :: [],val:=λa=>.bool (!eM a.e),keep:=λa=>(100,.live (BLr a.q)) :: [] }
def d1Lr:List AVal->Heap->Option (ELr×List (Nat×Nat)×List Nat)
 |[.d d,.bptr id _],H=>some (⟨default,dLn d⟩,[(100,id)],[])
 |_,_=>none
def A1Lr:Ann:={ ann 8 [(BSW,CHA)] with E:=[100] }
def V1Lr(a:ELr):Prop:=BG Try.prog A1Lr CYT (AL CYT) (C1Lr.xs a) (AF (C1Lr.L a)) (C1Lr.val a) (C1Lr.keep a) [] []
theorem DWG(a:ELr):(V1Lr a)=(FJ (not (eM (ELr.e a)))):=by kernel_rfl
theorem DUZ:AM Try.prog CFU (C1Lr.spec d1Lr):=WY C1Lr (λ_=>A1Lr) [] [] DSF (λ_=>by kernel_rfl) (λ_=>AB BKG AG) (λ(a:ELr) h=>by
 show V1Lr a;rw[DWG]<;> delta JB FJ;try simp[wr,RI]) (λ_=>YE rfl rfl) _
def d2Lr:List AVal->Heap->Option (MLr×List (Nat×Nat)×List Nat)
 |[y,.fn _ _ [.bptr id _]],H=>match vE y H with
  |some (n,g,f)=>some (⟨default,KA n λi=>dLn (g i)⟩,[(100,id)],f)
  |none=>none
 |_,_=>none
def A2Lr(a:MLr):Ann:={ ann 19 [(CFU,C1Lr.spec d1Lr)] with E:=[100],loops:=λid=>if id=2 then some [{ α:=Nat,dflt:=0,T:=λk=>⟨[(0,.d (eLns a.l)),(1,.fn (.func CFU) [] [.bptr 100 0]),(7,.int a.l.length),(8,.int k)],(100,.live (BLr a.q)) :: []⟩,inv:=λk=>k<=a.l.length/\Gs (λi=>!eM (gD a.l i)) a.l.length 0=Gs (λi=>!eM (gD a.l i)) (a.l.length-k) k,meas:=λk=>a.l.length-k }] else none }
def PLr(a:MLr):List Prop:=[a.l.length<4611686018427387904/\True]
def C2Lr:Ctr:={ ro:=[100],α:=MLr,xs:=λa=>[.d (eLns a.l),.fn (.func CFU) [] [.bptr 100 0]],L:=λa=>(100,BLr a.q) :: [],val:=λa=>.int (Gs (λi=>!eM (gD a.l i)) a.l.length 0),keep:=λa=>(100,.live (BLr a.q)) :: [],pre:=PLr }
def V2Lr(a:MLr):Prop:=BG Try.prog (A2Lr a) DAW (AL DAW) (C2Lr.xs a) (AF (C2Lr.L a)) (C2Lr.val a) (C2Lr.keep a) [] []
abbrev JY:=@List.length Ln
abbrev NK:=@gD Ln instInhabitedLn
abbrev UZ a:=JY (MLr.l a)
abbrev We a b:=NK (MLr.l a) b
abbrev Zg a b:=eM (We a b)
abbrev Rv a b c d e f:=KJ a b c (UW d e f)
abbrev Ot a b c:=Rv a b (FC c) (GF c) (GD c) (HB c)
attribute [go_sem] JY NK UZ We Zg Rv Ot
theorem DVT(a:MLr):(V2Lr a)=(KF (λi=>QB (EP (BI (UZ a)) (AK (λj=>Ot j (UZ a) (We a j))) (AU (UZ a)) (BS i)) i (UZ a) (Bj (λj=>Zg a j) (UZ a) (λj=>Zg a j) i i)) (λi=>NA i (UZ a) (Bj (λj=>Zg a j) (UZ a) (λj=>Zg a j) i i) (AU (UZ a)) (KM (AJ (DU i (UZ a)) (AI (FC (We a i))) (K8 (We a i)) (oE (We a i)) (qC (We a i))) (Zg a i) (Ap (λj=>Zg a j) (UZ a) (AU i)) (LA (λj=>RN (EP (BI (UZ a)) (AK (λk=>Ot k (UZ a) (We a k))) (AU (UZ a)) (AV j i)) j (UZ a) (Bj (λk=>Zg a k) (UZ a) (λk=>Zg a k) j j) i))) (Ap (λj=>Zg a j) (UZ a) (-1)))):=by kernel_rfl
theorem p2Lr(a:MLr)(h:EL (PLr a)):V2Lr a:=by
 obtain⟨h,hp⟩:a.l.length<4611686018427387904/\True:=h
 rw[DVT]<;> delta NE AR AK BO CI AO AU EA DV JD DJ DX OP IS LA FC GF GD HB JY NK AH AJ AZ EV AI BI DK BZ ED BC HE EU QL GY UW GV CK FK XX CE KJ MW EC AV Rv BF ES FF JO We UK CX UZ NT Ap BS EP HR DU Ot Rh KF KM Bc K8 QB NA qC Fe RN oE Zg Bj
 simp only[CC,eq_self,implies_true,forall_const]
 refine⟨⟨0,rfl,Nat.zero_le _,rfl⟩,λk ⟨h1,h2⟩=>⟨λhlt=>?_,λhge=>?_⟩⟩
 ·have hlt:k<a.l.length:=by omega
  refine⟨⟨by omega,by omega⟩,λhp=>?_,λhp=>⟨k+1,(FN (by omega)).symm,⟨by omega,?_⟩,by omega⟩⟩
  ·rw[h2];exact Wd hlt (by simpa using hp)
  ·rw[h2];exact F3 hlt (by simpa using hp)
 ·rw[h2];exact jL (by omega)
theorem DVY:AM Try.prog DAV (C2Lr.spec d2Lr):=WY C2Lr A2Lr [] [] DPG (λ_=>by kernel_rfl) (λ_=>AB DUZ AG) p2Lr (λ_=>YE rfl rfl) _
def C3Lr:Ctr:={ C2Lr with val:=λ(a:MLr)=>.bool (decide (Gs (λi=>!eM (gD a.l i)) a.l.length 0>=0)) }
def d3Lr:List AVal->Heap->Option (C3Lr.α×List (Nat×Nat)×List Nat):=d2Lr
def A3Lr:Ann:={ ann 9 [(DAV,C2Lr.spec d2Lr)] with E:=[100] }
def V3Lr(a:MLr):Prop:=BG Try.prog A3Lr CXJ (AL CXJ) (C3Lr.xs a) (AF (C3Lr.L a)) (C3Lr.val a) (C3Lr.keep a) [] []
abbrev AIW a b:=(@KA Ln) (UZ a) (λi=>We b i)
abbrev lJ a b:=JY (AIW a b)
abbrev Aq a b c d e f g:=JZ a b (FC c) d (Ha c e c f g)
abbrev JG a b c d:=Aq a b c (FC d) (GF d) (GD d) (HB d)
attribute [go_sem] AIW lJ Aq JG
theorem DXM(a:MLr):(V3Lr a)=(And (ON (AR (lJ a a) (UZ a)) (AK (λi=>JG i (lJ a a) (NK (AIW a a) i) (We a i))) (lJ a a)) (JB (MI (λi=>Zg a i) (UZ a)) (MI (λi=>eM (NK (AIW a a) i)) (lJ a a)))):=by kernel_rfl
theorem DVE:AM Try.prog CXU (C3Lr.spec d3Lr):=Ctr.spec_ok (C:=C3Lr) (λ(a:MLr) h=>Mj (A:=A3Lr) (ren:=[]) (fz:=[]) DQG (by kernel_rfl) (AB DVY AG) (by
 obtain⟨h,hp⟩:a.l.length<4611686018427387904/\True:=h
 show V3Lr a;rw[DXM]<;> delta JB hd6 AR AK BO CI AO FI FC GF GD HB JY NK AH AZ BZ DN ID HC AY JZ XX BD We UK UZ Ha XE Aq MI JG VS ON AIW Zg lJ;simp[h,RI])) _
def d4Lr:List AVal->Heap->Option (MLr×List (Nat×Nat)×List Nat)
 |[y,.fn _ _ _],H=>match vE y H with
  |some (n,g,f)=>some (⟨default,KA n λi=>dLn (g i)⟩,[],f)
  |none=>none
 |_,_=>none
def A4Lr:Ann:={ ann 9 [(CXU,C3Lr.spec d3Lr)] with E:=[] }
def C4Lr:Ctr:={ ro:=[],α:=MLr,xs:=λa=>[.d (eLns a.l),fvLr a.q],L:=λa=>[],val:=λa=>.bool (a.l.all λx=>eM x),keep:=λa=>[],pre:=PLr }
def V4Lr(a:MLr):Prop:=BG Try.prog A4Lr F_eL (AL F_eL) (C4Lr.xs a) (AF (C4Lr.L a)) (C4Lr.val a) (C4Lr.keep a) [] []
theorem DUO(a:MLr):(V4Lr a)=(And (ON (AR (lJ a a) (UZ a)) (AK (λi=>JG i (lJ a a) (NK (AIW a a) i) (We a i))) (lJ a a)) (XJ ((@List.all Ln) (MLr.l a) eM) (MI (λi=>eM (NK (AIW a a) i)) (lJ a a)))):=by kernel_rfl
theorem DTQ:AM Try.prog n_eL (C4Lr.spec d4Lr):=Ctr.spec_ok (C:=C4Lr) (λ(a:MLr) h=>Mj (A:=A4Lr) (ren:=[]) (fz:=[]) DWB (by kernel_rfl) (AB DVE AG) (by
 have h':a.l.length<4611686018427387904/\True:=h
 show V4Lr a;rw[DUO]<;> delta JB hd6 AR AK BO CI AO FI FC GF GD HB JY NK AH AZ BZ DN ID HC AY JZ XX BD We UK UZ Ha XE Aq MI JG VS ON AIW XJ lJ;simp only[CC,eq_self,implies_true,forall_const,ge_iff_le]
 rw[<-AME]
 exact⟨h'.1,rfl⟩)) _
def LXIn(q:List Gau):List (Nat×AObj):=[(101,.box [.d (KZ q)])]
def KXIn(q:List Gau):List (Nat×HCell):=[(101,.live (.box [.d (KZ q)]))]
def fvIn(q:List Gau):AVal:=.fn (.func BDK) [] [.bptr 101 0]
def BIn(q:List Gau):AObj:=.box [fvIn q]
structure EIn where
 q:List Gau
 e:Int
structure MIn where
 q:List Gau
 l:List Int
def C1In:Ctr:={ ro:=[100,101],α:=EIn,xs:=λa=>[.d (JS a.e),.bptr 100 0],L:=λa=>(100,BIn a.q) :: LXIn a.q,val:=λa=>.bool (!Sx a.e 0 (wr (a.q.length-1))),keep:=λa=>(100,.live (BIn a.q)) :: KXIn a.q }
def d1In:List AVal->Heap->Option (EIn×List (Nat×Nat)×List Nat)
 |[.d d,.bptr id _],H=>match H id with
  | .live (.box [.fn _ _ [.bptr j _]])=>match H j with
   | .live (.box [.d (.list _ m h _)])=>some (⟨KA m λi=>qG (h i),EO d⟩,[(100,id),(101,j)],[])
   |_=>none
  |_=>none
 |_,_=>none
def A1In:Ann:={ ann 8 [(BDK,C_nm1.spec DOJ)] with E:=[100,101] }
def V1In(a:EIn):Prop:=BG Try.prog A1In DAU (AL DAU) (C1In.xs a) (AF (C1In.L a)) (C1In.val a) (C1In.keep a) [] []
abbrev W8:=EIn.q
attribute [go_sem] W8
theorem DTT(a:EIn):(V1In a)=(AY (GP (EIn.e a) (CY (W8 a)) (DD (W8 a)) (CG (W8 a) (BU (W8 a))) (AT (W8 a) (BU (W8 a)))) (XJ (not (bC (EIn.e a) (W8 a))) (bC (EIn.e a) (BU (W8 a)))) (BY (W8 a)) (BR (W8 a))):=by kernel_rfl
theorem DVP:AM Try.prog CFJ (C1In.spec d1In):=WY C1In (λ_=>A1In) [] [] DTD (λ_=>by kernel_rfl) (λ_=>AB DPA AG) (λ(a:EIn) h=>by
 show V1In a;rw[DTT]<;> delta JB Kq AR AK BO CI AO AU EY GW CW FX W8 AH NX NY AJ AZ AI BU BI DI DY DZ DN GQ HE ID HC QL HY UW AY CG BY HV GH OH GM HO BR CR GP AT Nw DD CY RD bC XJ;try simp[wr,RI]) (λ_=>YE rfl rfl) _
def d2In:List AVal->Heap->Option (MIn×List (Nat×Nat)×List Nat)
 |[y,.fn _ _ [.bptr id _]],H=>match vE y H with
  |some (n,g,f)=>match H id with
   | .live (.box [.fn _ _ [.bptr j _]])=>match H j with
    | .live (.box [.d (.list _ m h _)])=>some (⟨KA m λi=>qG (h i),KA n λi=>EO (g i)⟩,[(100,id),(101,j)],f)
    |_=>none
   |_=>none
  |none=>none
 |_,_=>none
def A2In(a:MIn):Ann:={ ann 19 [(CFJ,C1In.spec d1In)] with E:=[100,101],loops:=λid=>if id=2 then some [{ α:=Nat,dflt:=0,T:=λk=>⟨[(0,.d (FE a.l)),(1,.fn (.func CFJ) [] [.bptr 100 0]),(7,.int a.l.length),(8,.int k)],(100,.live (BIn a.q)) :: KXIn a.q⟩,inv:=λk=>k<=a.l.length/\Gs (λi=>!Sx (gD a.l i) 0 (wr (a.q.length-1))) a.l.length 0=Gs (λi=>!Sx (gD a.l i) 0 (wr (a.q.length-1))) (a.l.length-k) k,meas:=λk=>a.l.length-k }] else none }
def PIn(a:MIn):List Prop:=[a.l.length<4611686018427387904/\True]
def C2In:Ctr:={ ro:=[100,101],α:=MIn,xs:=λa=>[.d (FE a.l),.fn (.func CFJ) [] [.bptr 100 0]],L:=λa=>(100,BIn a.q) :: LXIn a.q,val:=λa=>.int (Gs (λi=>!Sx (gD a.l i) 0 (wr (a.q.length-1))) a.l.length 0),keep:=λa=>(100,.live (BIn a.q)) :: KXIn a.q,pre:=PIn }
def V2In(a:MIn):Prop:=BG Try.prog (A2In a) CXG (AL CXG) (C2In.xs a) (AF (C2In.L a)) (C2In.val a) (C2In.keep a) [] []
abbrev Cz:=MIn.l
abbrev Dw:=MIn.q
abbrev Ff a b c d:=DN a b (BY c) d
abbrev wV a:=BR (Dw a)
abbrev kN a:=BN (Cz a)
abbrev ATJ a b c:=bC (BJ a b) c
abbrev BPZ a b c:=ATJ (Cz a) b c
abbrev gT a b c:=BPZ a b (Dw c)
abbrev dS a:=BU (Dw a)
attribute [go_sem] Cz Dw Ff wV kN ATJ BPZ gT dS
theorem DUC(a:MIn):(V2In a)=(KF (λi=>AH (BB (GU (Cz a)) (GI (Cz a)) (RL (Cz a)) (BS i) (BY (Dw a)) (wV a)) (JU i (Cz a)) (Bj (λj=>gT a j a) (kN a) (λj=>gT a j a) i i)) (λi=>NA i (kN a) (Bj (λj=>gT a j a) (kN a) (λj=>gT a j a) i i) (ER (Cz a)) (KM (BB (Nj i (Cz a)) (AI (BJ (Cz a) i)) (CY (Dw a)) (DD (Dw a)) (CG (Dw a) (dS a)) (AT (Dw a) (dS a))) (BPZ a i (dS a)) (Ff (UK (λj=>gT a j a) (kN a)) (AU i) (Dw a) (wV a)) (LA (λj=>RN (BB (GU (Cz a)) (GI (Cz a)) (RL (Cz a)) (AV j i) (BY (Dw a)) (wV a)) j (kN a) (Bj (λk=>gT a k a) (kN a) (λk=>gT a k a) j j) i))) (Ff (UK (λj=>gT a j a) (kN a)) (-1) (Dw a) (wV a)))):=by kernel_rfl
theorem p2In(a:MIn)(h:EL (PIn a)):V2In a:=by
 obtain⟨h,hp⟩:a.l.length<4611686018427387904/\True:=h
 rw[DUC]<;> delta NE Kq AR AK BO CI AO AU EA DV JD DJ DX OP IS LA BN BJ EY GW CW FX Cz Dw AH NX NY AJ AZ EV AI BU BI DK DI DY ED BC DZ EZ DN GQ HE ER ID HC EU QL HY GY UW GU CG GV Gk BY BB CK HV FK XX CE GH OH Mm MW EC AV BF ES FF MC GM HO JO BR UK GI CR CX NT AT Nw Ap BS DD CY HR JU RD RL Rh KF bC KM Bc NA kN Fe RN Ff ATJ Bj dS BPZ gT Nj wV
 simp only[CC,eq_self,implies_true,forall_const]
 refine⟨⟨0,rfl,Nat.zero_le _,rfl⟩,λk ⟨h1,h2⟩=>⟨λhlt=>?_,λhge=>?_⟩⟩
 ·have hlt:k<a.l.length:=by omega
  refine⟨⟨by omega,by omega⟩,λhp=>?_,λhp=>⟨k+1,(FN (by omega)).symm,⟨by omega,?_⟩,by omega⟩⟩
  ·rw[h2];exact Wd hlt (by simpa using hp)
  ·rw[h2];exact F3 hlt (by simpa using hp)
 ·rw[h2];exact jL (by omega)
theorem DTZ:AM Try.prog DAI (C2In.spec d2In):=WY C2In A2In [] [] DRZ (λ_=>by kernel_rfl) (λ_=>AB DVP AG) p2In (λ_=>YE rfl rfl) _
def C3In:Ctr:={ C2In with val:=λ(a:MIn)=>.bool (decide (Gs (λi=>!Sx (gD a.l i) 0 (wr (a.q.length-1))) a.l.length 0>=0)) }
def d3In:List AVal->Heap->Option (C3In.α×List (Nat×Nat)×List Nat):=d2In
def A3In:Ann:={ ann 9 [(DAI,C2In.spec d2In)] with E:=[100,101] }
def V3In(a:MIn):Prop:=BG Try.prog A3In DED (AL DED) (C3In.xs a) (AF (C3In.L a)) (C3In.val a) (C3In.keep a) [] []
abbrev Aw a:=HP (DG a)
attribute [go_sem] Aw
theorem DVV(a:MIn):(V3In a)=(AY (HX (OD (Cz a)) (QC (Cz a)) (CY (Dw a)) (DD (Dw a)) (CG (Dw a) (dS a)) (AT (Dw a) (dS a)) (Aw (Cz a)) FI) (JB (MI (λi=>gT a i a) (kN a)) (MI (λi=>ATJ (DG (Cz a)) i (dS a)) (BN (DG (Cz a))))) (BY (Dw a)) (wV a)):=by kernel_rfl
theorem DUK:AM Try.prog DCK (C3In.spec d3In):=Ctr.spec_ok (C:=C3In) (λ(a:MIn) h=>Mj (A:=A3In) (ren:=[]) (fz:=[]) DPL (by kernel_rfl) (AB DTZ AG) (by
 obtain⟨h,hp⟩:a.l.length<4611686018427387904/\True:=h
 show V3In a;rw[DVV]<;> delta JB hd6 Kq AR AK BO CI AO AU FI BN BJ JN EY GW CW FX Cz Dw AH LY NX LX NY AJ AZ AI DG BU BI DI DY DZ EZ DN GQ JA HE ID HC AW QL HY HL UW AY CG IA BY HV KC XX BD FG EN GH OH AS GM HO BR UK CR AT Nw DD CY HP RD XE MI HX OD bC QC kN ATJ Aw dS BPZ gT wV;simp[h,RI])) _
def d4In:List AVal->Heap->Option (MIn×List (Nat×Nat)×List Nat)
 |[y,.fn _ _ [.bptr j _]],H=>match vE y H with
  |some (n,g,f)=>match H j with
   | .live (.box [.d (.list _ m h _)])=>some (⟨KA m λi=>qG (h i),KA n λi=>EO (g i)⟩,[(101,j)],f)
   |_=>none
  |none=>none
 |_,_=>none
def A4In:Ann:={ ann 9 [(DCK,C3In.spec d3In)] with E:=[101] }
def C4In:Ctr:={ ro:=[101],α:=MIn,xs:=λa=>[.d (FE a.l),fvIn a.q],L:=λa=>LXIn a.q,val:=λa=>.bool (a.l.all λx=>Sx x 0 (wr (a.q.length-1))),keep:=λa=>KXIn a.q,pre:=PIn }
def V4In(a:MIn):Prop:=BG Try.prog A4In F_eI (AL F_eI) (C4In.xs a) (AF (C4In.L a)) (C4In.val a) (C4In.keep a) [] []
abbrev CHB:=@List.all Int
attribute [go_sem] CHB
theorem DVU(a:MIn):(V4In a)=(AY (HX (OD (Cz a)) (QC (Cz a)) (CY (Dw a)) (DD (Dw a)) (CG (Dw a) (dS a)) (AT (Dw a) (dS a)) (Aw (Cz a)) FI) (XJ (CHB (Cz a) (λi=>bC i (Dw a))) (MI (λi=>ATJ (DG (Cz a)) i (dS a)) (BN (DG (Cz a))))) (BY (Dw a)) (wV a)):=by kernel_rfl
theorem DTH:AM Try.prog n_eI (C4In.spec d4In):=Ctr.spec_ok (C:=C4In) (λ(a:MIn) h=>Mj (A:=A4In) (ren:=[]) (fz:=[]) DTW (by kernel_rfl) (AB DUK AG) (by
 have h':a.l.length<4611686018427387904/\True:=h
 show V4In a;rw[DVU]<;> delta JB hd6 Kq AR AK BO CI AO AU FI BN BJ JN EY GW CW FX Cz Dw CHB AH LY NX LX NY AJ AZ AI DG BU BI DI DY DZ EZ DN GQ JA HE ID HC AW QL HY HL UW AY CG IA BY HV KC XX BD FG EN GH OH AS GM HO BR UK CR AT Nw DD CY HP RD XE MI HX OD bC QC ATJ Aw XJ dS wV;simp only[CC,eq_self,implies_true,forall_const,ge_iff_le]
 rw[<-AME]
 exact⟨h'.1,rfl⟩)) _
end Go.Bal
