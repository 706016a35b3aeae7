/- Package rating: every. Printed by genratE.py. -/
import Derived.Test.YtpidmmilfdcepaaGreatRat0
set_option linter.unusedVariables false
set_option linter.unusedSimpArgs false
namespace Go.Bal
open Go Go.Sym Go.Proofs
def allB(p:Nat->Bool):Nat->Bool
 |0=>true
 |n+1=>allB p n&&p n
theorem AOL{p:Nat->Bool}:∀{n:Nat},allB p n=true↔∀i,i<n->p i=true
 |0=>by simp[allB]
 |n+1=>by
  simp only[allB,Bool.and_eq_true,AOL (n:=n)]
  constructor
  ·intro h i hi
   by_cases he:i=n
   ·subst he;exact h.2
   ·exact h.1 i (by omega)
  ·exact λh=>⟨λi hi=>h i (by omega),h n (by omega)⟩
theorem BMR{p:Nat->Bool}:∀{n k:Nat},(0<=bE p n k)↔∃i,k<=i/\i<k+n/\p i=true
 |0,k=>by simp[bE];omega
 |n+1,k=>by
  simp only[bE]
  by_cases h:p k=true
  ·rw[if_pos h]
   constructor
   ·intro _;exact⟨k,Nat.le_refl _,by omega,h⟩
   ·intro _;omega
  ·rw[if_neg h,BMR (n:=n) (k:=k+1)]
   constructor
   ·rintro⟨i,h1,h2,h3⟩;exact⟨i,by omega,by omega,h3⟩
   ·rintro⟨i,h1,h2,h3⟩
    refine⟨i,?_,by omega,h3⟩
    by_cases he:i=k
    ·subst he;exact absurd h3 h
    ·omega
theorem BXR{p:Nat->Bool}{n:Nat}:(!decide (0<=bE (λi=>!p i) n 0))=allB p n:=by
 rw[Bool.eq_iff_iff,AOL]
 simp only[Bool.not_eq_true',decide_eq_false_iff_not,BMR,Nat.zero_le,Nat.zero_add,true_and]
 constructor
 ·intro h i hi
  cases hp:p i with
  |true=>rfl
  |false=>exact (h ⟨i,hi,by simp[hp]⟩).elim
 ·rintro h ⟨i,hi,hp⟩
  rw[h i hi] at hp;cases hp
theorem D4{α:Type}[Inhabited α]{p:α->Bool}{l:List α}:(!decide (0<=bE (λi=>!p (gD l i)) l.length 0))=l.all p:=by
 rw[BXR,Bool.eq_iff_iff,AOL,List.all_eq_true]
 exact⟨λh x hx=>by obtain⟨i,hi,rfl⟩:=JP hx;exact h i hi,λh i hi=>h _ (BU hi)⟩
structure LInt where
 q:List Gau
 e:Int
def C_nm1:Ctr:={ ro:=[101],α:=LInt,xs:=λa=>[.int a.e,.bptr 101 0],L:=λa=>[(101,.box [.d (AT a.q)])],val:=λa=>.bool (JD a.e 0 (wr (a.q.length-1))),keep:=λa=>[(101,.live (.box [.d (AT a.q)]))] }
def COG:List AVal->Heap->Option (LInt×List (Nat×Nat)×List Nat)
 |[.d d,.bptr id _],H=>match H id with
  | .live (.box [.d (.list _ n g _)])=>some (⟨HA n λi=>Ky (g i),EG d⟩,[(101,id)],[])
  |_=>none
 |_,_=>none
def CQQ:Ann:={ ann 9 [(49,G4)] with E:=[101] }
def CQF(a:LInt):Prop:=AS ZP CQQ Tryz.f114 (AE Tryz.f114) (C_nm1.xs a) (AB (C_nm1.L a)) (C_nm1.val a) (C_nm1.keep a) [] []
abbrev CH:=@List.length Gau
abbrev sU:=@gD Gau instInhabitedGau
abbrev AAL a b c:=HJ a (CH b) c
abbrev ARQ a b c:=Hk a b b c
abbrev AIA a b c:=ARQ (AK a) b c
abbrev CGN a b c:=AIA a b (AK c)
abbrev DG a b:=Qo (sU a b)
abbrev DF a b:=tE (sU a b)
abbrev BL a b:=Wk (sU a b)
abbrev BSO a b c d:=CGN (BL a b) (DF c d) (DG c d)
abbrev fX a b:=AAL a b (BSO b a b a)
abbrev AP a:=AG (λi=>fX i a)
abbrev Uy a b:=DU (CH a) b
abbrev HQ a b:=Uy a (CH b)
abbrev BQ a:=HQ a a
abbrev Dv a:=UH (BO a)
abbrev AFZ a:=hd58 a 1
abbrev ANS a:=wr (AFZ (BO (CH a)))
attribute [go_sem] CH sU AAL ARQ AIA CGN DG DF BL BSO fX AP Uy HQ BQ Dv AFZ ANS
theorem CVJ(a:LInt):(CQF a)=(AO (Va (gL (LInt.e a) (ANS (LInt.q a))) (gL (LInt.e a) (Dv (CH (LInt.q a))))) (BQ (LInt.q a)) (AP (LInt.q a))):=by kernel_rfl
theorem CWU:AH ZP 114 (C_nm1.spec COG):=PW C_nm1 (λ_=>CQQ) [] [] Tryz.func114 (λ_=>by kernel_rfl) (λ_=>AA aH AD) (λ(a:LInt) _=>by
 show CQF a;rw[CVJ]<;> dsimp only[go_sem];simp[wr,RB]) (λ_=>RA rfl rfl) _
def fvGr(q:One):AVal:=.fn (.func 51) [] []
def BGr(q:One):AObj:=.box [fvGr q]
structure EGr where
 q:One
 e:Gau
structure MGr where
 q:One
 l:List Gau
def C1Gr:Ctr:={ ro:=[100],α:=EGr,xs:=λa=>[.d (Ry a.e),.bptr 100 0],L:=λa=>(100,BGr a.q) :: [],val:=λa=>.bool (!riG a.e),keep:=λa=>(100,.live (BGr a.q)) :: [] }
def d1Gr:List AVal->Heap->Option (EGr×List (Nat×Nat)×List Nat)
 |[.d d,.bptr id _],H=>some (⟨default,Ky d⟩,[(100,id)],[])
 |_,_=>none
def A1Gr:Ann:={ ann 8 [(51,CNT)] with E:=[100] }
def V1Gr(a:EGr):Prop:=AS ZP A1Gr Tryz.f100 (AE Tryz.f100) (C1Gr.xs a) (AB (C1Gr.L a)) (C1Gr.val a) (C1Gr.keep a) [] []
theorem CXD(a:EGr):(V1Gr a)=(jL (not (riG (EGr.e a)))):=by kernel_rfl
theorem DBW:AH ZP 100 (C1Gr.spec d1Gr):=PW C1Gr (λ_=>A1Gr) [] [] Tryz.func100 (λ_=>by kernel_rfl) (λ_=>AA CWA AD) (λ(a:EGr) h=>by
 show V1Gr a;rw[CXD]<;> dsimp only[go_sem];try simp[wr,RB]) (λ_=>RA rfl rfl) _
def d2Gr:List AVal->Heap->Option (MGr×List (Nat×Nat)×List Nat)
 |[y,.fn _ _ [.bptr id _]],H=>match dRow y H with
  |some (n,g,f)=>some (⟨default,HA n λi=>Ky (g i)⟩,[(100,id)],f)
  |none=>none
 |_,_=>none
def A2Gr(a:MGr):Ann:={ ann 19 [(100,C1Gr.spec d1Gr)] with E:=[100],loops:=λid=>if id=2 then some [{ α:=Nat,dflt:=0,T:=λk=>⟨[(0,.d (AT a.l)),(1,.fn (.func 100) [] [.bptr 100 0]),(7,.int a.l.length),(8,.int k)],(100,.live (BGr a.q)) :: []⟩,inv:=λk=>k<=a.l.length/\bE (λi=>!riG (gD a.l i)) a.l.length 0=bE (λi=>!riG (gD a.l i)) (a.l.length-k) k,meas:=λk=>a.l.length-k }] else none }
def PGr(a:MGr):List Prop:=[a.l.length<4611686018427387904/\True]
def C2Gr:Ctr:={ ro:=[100],α:=MGr,xs:=λa=>[.d (AT a.l),.fn (.func 100) [] [.bptr 100 0]],L:=λa=>(100,BGr a.q) :: [],val:=λa=>.int (bE (λi=>!riG (gD a.l i)) a.l.length 0),keep:=λa=>(100,.live (BGr a.q)) :: [],pre:=PGr }
def V2Gr(a:MGr):Prop:=AS ZP (A2Gr a) Tryz.f125 (AE Tryz.f125) (C2Gr.xs a) (AB (C2Gr.L a)) (C2Gr.val a) (C2Gr.keep a) [] []
abbrev EI:=@Exists Nat
abbrev uN:=MGr.l
abbrev QY a(b:Nat->Prop):=And a (AG b)
abbrev HU(a:Nat->Prop)(b:Nat->Prop):=QY (EI a) b
abbrev AGN a b c d e f g h:=WU a b c d (HZ e f g) h
abbrev An a b c d e f(g:Nat->Prop) h:=AGN a b c d e f (EI g) h
abbrev BHD(a:Nat->Bool) b:=bE a b 0
abbrev Ix(a:Nat->Bool) b c:=BM (BHD a b) c
abbrev Tz a:=CH (uN a)
abbrev AQU a b:=riG (sU a b)
abbrev BHE a b:=not (AQU a b)
abbrev Zp a b:=BHE (uN a) b
abbrev zS(a:Nat->Bool) b(c:Nat->Bool) d e:=Ix a b (bE c d e)
abbrev RG a b:=TJ (CH a) b
abbrev Gn a b c d:=And a (ARQ b c d)
abbrev XA a:=BO (CH a)
abbrev Qv a b c:=And (CR a b) c
attribute [go_sem] EI uN QY HU AGN An BHD Ix Tz AQU BHE Zp zS RG Gn XA Qv
theorem CZM(a:MGr):(V2Gr a)=(HU (λi=>EE (Gn (BQ (uN a)) (AP (uN a)) (XA (uN a)) (BX i)) i (Tz a) (zS (λj=>Zp a j) (Tz a) (λj=>Zp a j) (RG (uN a) i) i)) (λi=>An (GP i (Tz a) (zS (λj=>Zp a j) (Tz a) (λj=>Zp a j) (RG (uN a) i) i)) i (Tz a) (Qv i (Tz a) (BSO (uN a) i (uN a) i)) (Zp a i) (Ix (λj=>Zp a j) (Tz a) (BO i)) (λj=>QS (Gn (BQ (uN a)) (AP (uN a)) (XA (uN a)) (AJ j i)) j (Tz a) (zS (λk=>Zp a k) (Tz a) (λk=>Zp a k) (RG (uN a) j) j) i) (Ix (λj=>Zp a j) (Tz a) (-1)))):=by kernel_rfl
theorem p2Gr(a:MGr)(h:DJ (PGr a)):V2Gr a:=by
 obtain⟨h,hp⟩:a.l.length<4611686018427387904/\True:=h
 rw[CZM]<;> dsimp only[go_sem]
 simp only[CC,CU]
 refine⟨⟨0,rfl,Nat.zero_le _,rfl⟩,λk ⟨h1,h2⟩=>⟨λhlt=>?_,λhge=>?_⟩⟩
 ·have hlt:k<a.l.length:=by omega
  refine⟨⟨by omega,by omega⟩,λhp=>?_,λhp=>⟨k+1,(BF (by omega)).symm,⟨by omega,?_⟩,by omega⟩⟩
  ·rw[h2];exact uA hlt (by simpa using hp)
  ·rw[h2];exact ALB hlt (by simpa using hp)
 ·rw[h2];exact ABV (by omega)
theorem CZS:AH ZP 125 (C2Gr.spec d2Gr):=PW C2Gr A2Gr [] [] Tryz.func125 (λ_=>by kernel_rfl) (λ_=>AA DBW AD) p2Gr (λ_=>RA rfl rfl) _
def C3Gr:Ctr:={ C2Gr with val:=λ(a:MGr)=>.bool (decide (bE (λi=>!riG (gD a.l i)) a.l.length 0>=0)) }
def d3Gr:List AVal->Heap->Option (C3Gr.α×List (Nat×Nat)×List Nat):=d2Gr
def A3Gr:Ann:={ ann 9 [(125,C2Gr.spec d2Gr)] with E:=[100] }
def V3Gr(a:MGr):Prop:=AS ZP A3Gr Tryz.f99 (AE Tryz.f99) (C3Gr.xs a) (AB (C3Gr.L a)) (C3Gr.val a) (C3Gr.keep a) [] []
abbrev HO:=True
abbrev Wo a b c:=And a (Va b c)
abbrev Jn(a:Nat->Bool) b:=hd6 (BHD a b) 0
abbrev BSB a b(c:Nat->Nat):=(@HA Gau) a (λi=>sU b (c i))
abbrev CCL a b:=BSB (CH a) b (λi=>i)
abbrev CG a:=CCL a a
abbrev Dd a b c:=BD a b c HO
abbrev BOP a b c d e f:=Lm a b (DF c d) e (DG c d) f
abbrev Pg a b c d e:=AAL a b (BOP (BL b a) c b a d e)
abbrev AXP a b c d e f g h:=Pg a b (BL c d) (DF e f) (DG g h)
abbrev BHQ a b c d e f:=AXP a b c d c e c f
abbrev UA a b c:=BHQ a b c a a a
abbrev EK a b:=AG (λi=>UA i a b)
abbrev BJ a:=EK (CG a) a
abbrev AY a:=HQ (CG a) a
abbrev xA a b:=Dd (AY a) (BJ a) b
abbrev Hb a:=FC a 4611686018427387904
abbrev Fz a:=Hb (CH a)
abbrev dS a:=Fz (CG a)
abbrev zF a:=xA a (dS a)
attribute [go_sem] HO Wo Jn BSB CCL CG Dd BOP Pg AXP BHQ UA EK BJ AY xA Hb Fz dS zF
theorem DAN(a:MGr):(V3Gr a)=(Wo (zF (uN a)) (Jn (λi=>Zp a i) (Tz a)) (Jn (λi=>BHE (CG (uN a)) i) (CH (CG (uN a))))):=by kernel_rfl
theorem CXW:AH ZP 99 (C3Gr.spec d3Gr):=Ctr.spec_ok (C:=C3Gr) (λ(a:MGr) h=>WP (A:=A3Gr) (ren:=[]) (fz:=[]) Tryz.func99 (by kernel_rfl) (AA CZS AD) (by
 obtain⟨h,hp⟩:a.l.length<4611686018427387904/\True:=h
 show V3Gr a;rw[DAN]<;> dsimp only[go_sem];simp[h,RB])) _
def d4Gr:List AVal->Heap->Option (MGr×List (Nat×Nat)×List Nat)
 |[y,.fn _ _ _],H=>match dRow y H with
  |some (n,g,f)=>some (⟨default,HA n λi=>Ky (g i)⟩,[],f)
  |none=>none
 |_,_=>none
def A4Gr:Ann:={ ann 9 [(99,C3Gr.spec d3Gr)] with E:=[] }
def C4Gr:Ctr:={ ro:=[],α:=MGr,xs:=λa=>[.d (AT a.l),fvGr a.q],L:=λa=>[],val:=λa=>.bool (a.l.all λx=>riG x),keep:=λa=>[],pre:=PGr }
def V4Gr(a:MGr):Prop:=AS ZP A4Gr Tryz.f50 (AE Tryz.f50) (C4Gr.xs a) (AB (C4Gr.L a)) (C4Gr.val a) (C4Gr.keep a) [] []
theorem DBQ(a:MGr):(V4Gr a)=(((HA a.l.length λ(i:Nat)=>gD a.l i).length=a.l.length/\(∀(i:Nat),i<(HA a.l.length λ(i:Nat)=>gD a.l i).length->(gD (HA a.l.length λ(i:Nat)=>gD a.l i)
 i).st=(gD a.l i).st/\(gD (HA a.l.length λ(i:Nat)=>gD a.l i) i).lo=(gD a.l i).lo/\(gD (HA a.l.length λ(i:Nat)=>gD a.l i) i).hi=(gD a.l i).hi)/\(HA a.l.length λ(i:Nat)=>gD a.l i).length <
 4611686018427387904/\True)/\(a.l.all λ(x:Gau)=>riG x)=!decide (bE (λ(i:Nat)=>!riG (gD (HA a.l.length λ(i:Nat)=>gD a.l i) i)) (HA a.l.length λ(i:Nat)=>gD a.l i).length 0>=0)):=by
 kernel_rfl
theorem CXS:AH ZP 50 (C4Gr.spec d4Gr):=Ctr.spec_ok (C:=C4Gr) (λ(a:MGr) h=>WP (A:=A4Gr) (ren:=[]) (fz:=[]) Tryz.func50 (by kernel_rfl) (AA CXW AD) (by
 have h':a.l.length<4611686018427387904/\True:=h
 show V4Gr a;rw[DBQ];simp only[CC,CU,ge_iff_le]
 rw[<-D4]
 exact⟨h'.1,rfl⟩)) _
def fvGp(q:Ln):AVal:=.fn (.func 65) [.d (eLn q)] []
def BGp(q:Ln):AObj:=.box [fvGp q]
structure EGp where
 q:Ln
 e:Gau
structure MGp where
 q:Ln
 l:List Gau
def C1Gp:Ctr:={ ro:=[100],α:=EGp,xs:=λa=>[.d (Ry a.e),.bptr 100 0],L:=λa=>(100,BGp a.q) :: [],val:=λa=>.bool (!NJ a.q a.e),keep:=λa=>(100,.live (BGp a.q)) :: [],pre:=λa=>[(MI a.q/\IT a.e)] }
def d1Gp:List AVal->Heap->Option (EGp×List (Nat×Nat)×List Nat)
 |[.d d,.bptr id _],H=>match H id with
  | .live (.box [.fn _ [.d x] _])=>some (⟨dLn x,Ky d⟩,[(100,id)],[])
  |_=>none
 |_,_=>none
def A1Gp:Ann:={ ann 8 [(65,ANT)] with E:=[100] }
def V1Gp(a:EGp):Prop:=AS ZP A1Gp Tryz.f100 (AE Tryz.f100) (C1Gp.xs a) (AB (C1Gp.L a)) (C1Gp.val a) (C1Gp.keep a) [] []
abbrev hd98:=EGp.q
abbrev AW a b c d e f:=And a (AR b c d e f)
abbrev Sj a:=AK (SJ a)
abbrev AFP a:=AK (RU a)
abbrev Su a:=AK (QT a)
abbrev Q9 a:=AK (MG a)
abbrev BLM a b:=not (NJ a b)
abbrev AQA a:=qH (Qo a)
abbrev tQ a b c:=AW a (AQJ b) (AOC c) (FJ (tE c)) (KO (tE c) (Qo c)) (AQA c)
attribute [go_sem] hd98 AW Sj AFP Su Q9 BLM AQA tQ
theorem DAR(a:EGp):(V1Gp a)=(AW (tQ (HX (hd98 a)) (EGp.e a) (EGp.e a)) (jL (BLM (hd98 a) (EGp.e a))) (Q9 (hd98 a)) (Su (hd98 a)) (AFP (hd98 a)) (Sj (hd98 a))):=by kernel_rfl
theorem CXY:AH ZP 100 (C1Gp.spec d1Gp):=PW C1Gp (λ_=>A1Gp) [] [] Tryz.func100 (λ_=>by kernel_rfl) (λ_=>AA ASB AD) (λ(a:EGp) h=>by
 show V1Gp a;rw[DAR]<;> dsimp only[go_sem];exact⟨h,by simp⟩) (λ_=>RA rfl rfl) _
def d2Gp:List AVal->Heap->Option (MGp×List (Nat×Nat)×List Nat)
 |[y,.fn _ _ [.bptr id _]],H=>match dRow y H with
  |some (n,g,f)=>match H id with
   | .live (.box [.fn _ [.d x] _])=>some (⟨dLn x,HA n λi=>Ky (g i)⟩,[(100,id)],f)
   |_=>none
  |none=>none
 |_,_=>none
def A2Gp(a:MGp):Ann:={ ann 19 [(100,C1Gp.spec d1Gp)] with E:=[100],loops:=λid=>if id=2 then some [{ α:=Nat,dflt:=0,T:=λk=>⟨[(0,.d (AT a.l)),(1,.fn (.func 100) [] [.bptr 100 0]),(7,.int a.l.length),(8,.int k)],(100,.live (BGp a.q)) :: []⟩,inv:=λk=>k<=a.l.length/\bE (λi=>!NJ a.q (gD a.l i)) a.l.length 0=bE (λi=>!NJ a.q (gD a.l i)) (a.l.length-k) k,meas:=λk=>a.l.length-k }] else none }
def PGp(a:MGp):List Prop:=[a.l.length<4611686018427387904/\(∀x∈a.l,(MI a.q/\IT x))]
def C2Gp:Ctr:={ ro:=[100],α:=MGp,xs:=λa=>[.d (AT a.l),.fn (.func 100) [] [.bptr 100 0]],L:=λa=>(100,BGp a.q) :: [],val:=λa=>.int (bE (λi=>!NJ a.q (gD a.l i)) a.l.length 0),keep:=λa=>(100,.live (BGp a.q)) :: [],pre:=PGp }
def V2Gp(a:MGp):Prop:=AS ZP (A2Gp a) Tryz.f125 (AE Tryz.f125) (C2Gp.xs a) (AB (C2Gp.L a)) (C2Gp.val a) (C2Gp.keep a) [] []
abbrev SR:=MGp.l
abbrev cO:=MGp.q
abbrev gX a:=Sj (cO a)
abbrev eN a:=AFP (cO a)
abbrev Uj a:=Su (cO a)
abbrev wQ a:=Q9 (cO a)
abbrev Qy a:=CH (SR a)
abbrev AUJ a b c:=BLM a (sU b c)
abbrev AVC a b c:=AUJ (cO a) b c
abbrev aJ a b c:=AVC a (SR b) c
abbrev Wx a b c d e f g h:=Gn a b c (AR d e f g h)
abbrev BAG a b c d e f g h:=Wx a b c d (AK e) f g h
abbrev BK a b c d e f g h p:=AR a b c d (AR e f g h p)
attribute [go_sem] SR cO gX eN Uj wQ Qy AUJ AVC aJ Wx BAG BK
theorem CXG(a:MGp):(V2Gp a)=(HU (λi=>EE (BAG (BQ (SR a)) (AP (SR a)) (XA (SR a)) (BX i) (MG (cO a)) (Uj a) (eN a) (gX a)) i (Qy a) (zS (λj=>aJ a a j) (Qy a) (λj=>aJ a a j) (RG (SR a) i) i)) (λi=>An (GP i (Qy a) (zS (λj=>aJ a a j) (Qy a) (λj=>aJ a a j) (RG (SR a) i) i)) i (Qy a) (Qv i (Qy a) (BK (AK (BL (SR a) i)) (AK (DF (SR a) i)) (AK (DG (SR a) i)) (wQ a) (Uj a) (eN a) (gX a) (wQ a) (BK (Uj a) (eN a) (gX a) (HX (cO a)) (FJ (BL (SR a) i)) (VF (BL (SR a) i)) (FJ (DF (SR a) i)) (KO (DF (SR a) i) (DG (SR a) i)) (qH (DG (SR a) i))))) (aJ a a i) (AR (Ix (λj=>aJ a a j) (Qy a) (BO i)) (wQ a) (Uj a) (eN a) (gX a)) (λj=>QS (BAG (BQ (SR a)) (AP (SR a)) (XA (SR a)) (AJ j i) (MG (cO a)) (Uj a) (eN a) (gX a)) j (Qy a) (zS (λk=>aJ a a k) (Qy a) (λk=>aJ a a k) (RG (SR a) j) j) i) (AR (Ix (λj=>aJ a a j) (Qy a) (-1)) (wQ a) (Uj a) (eN a) (gX a)))):=by kernel_rfl
theorem p2Gp(a:MGp)(h:DJ (PGp a)):V2Gp a:=by
 obtain⟨h,hp⟩:a.l.length<4611686018427387904/\(∀x∈a.l,(MI a.q/\IT x)):=h
 rw[CXG]<;> dsimp only[go_sem]
 simp only[CC,CU]
 refine⟨⟨0,rfl,Nat.zero_le _,rfl⟩,λk ⟨h1,h2⟩=>⟨λhlt=>?_,λhge=>?_⟩⟩
 ·have hlt:k<a.l.length:=by omega
  refine⟨⟨⟨by omega,by omega⟩,hp _ (BU hlt)⟩,λhp=>?_,λhp=>⟨k+1,(BF (by omega)).symm,⟨by omega,?_⟩,by omega⟩⟩
  ·rw[h2];exact uA hlt (by simpa using hp)
  ·rw[h2];exact ALB hlt (by simpa using hp)
 ·rw[h2];exact ABV (by omega)
theorem CYR:AH ZP 125 (C2Gp.spec d2Gp):=PW C2Gp A2Gp [] [] Tryz.func125 (λ_=>by kernel_rfl) (λ_=>AA CXY AD) p2Gp (λ_=>RA rfl rfl) _
def C3Gp:Ctr:={ C2Gp with val:=λ(a:MGp)=>.bool (decide (bE (λi=>!NJ a.q (gD a.l i)) a.l.length 0>=0)) }
def d3Gp:List AVal->Heap->Option (C3Gp.α×List (Nat×Nat)×List Nat):=d2Gp
def A3Gp:Ann:={ ann 9 [(125,C2Gp.spec d2Gp)] with E:=[100] }
def V3Gp(a:MGp):Prop:=AS ZP A3Gp Tryz.f99 (AE Tryz.f99) (C3Gp.xs a) (AB (C3Gp.L a)) (C3Gp.val a) (C3Gp.keep a) [] []
abbrev AID:=λ(f:Gau->Prop)=>∀(x:Gau),f x
abbrev Q8 a:=CG (SR a)
abbrev I9 a b c d e f g:=BK a b c d e b c f g
abbrev aR a b c:=PY ((@List.Mem Gau) a b) c
attribute [go_sem] AID Q8 I9 aR
theorem CWV(a:MGp):(V3Gp a)=(AW (Gn (AY (SR a)) (BJ (SR a)) (MG (cO a)) (I9 (Uj a) (eN a) (gX a) (wQ a) (Uj a) (dS (SR a)) (AID (λi=>aR i (Q8 a) (tQ (HX (cO a)) i i))))) (Va (Jn (λi=>aJ a a i) (Qy a)) (Jn (λi=>AVC a (Q8 a) i) (CH (Q8 a)))) (wQ a) (Uj a) (eN a) (gX a)):=by kernel_rfl
theorem DAG:AH ZP 99 (C3Gp.spec d3Gp):=Ctr.spec_ok (C:=C3Gp) (λ(a:MGp) h=>WP (A:=A3Gp) (ren:=[]) (fz:=[]) Tryz.func99 (by kernel_rfl) (AA CYR AD) (by
 obtain⟨h,hp⟩:a.l.length<4611686018427387904/\(∀x∈a.l,(MI a.q/\IT x)):=h
 show V3Gp a;rw[CWV]<;> dsimp only[go_sem];simp[h,RB];exact hp)) _
def d4Gp:List AVal->Heap->Option (MGp×List (Nat×Nat)×List Nat)
 |[y,.fn _ [.d x] _],H=>match dRow y H with
  |some (n,g,f)=>some (⟨dLn x,HA n λi=>Ky (g i)⟩,[],f)
  |none=>none
 |_,_=>none
def A4Gp:Ann:={ ann 9 [(99,C3Gp.spec d3Gp)] with E:=[] }
def C4Gp:Ctr:={ ro:=[],α:=MGp,xs:=λa=>[.d (AT a.l),fvGp a.q],L:=λa=>[],val:=λa=>.bool (a.l.all λx=>NJ a.q x),keep:=λa=>[],pre:=PGp }
def V4Gp(a:MGp):Prop:=AS ZP A4Gp Tryz.f50 (AE Tryz.f50) (C4Gp.xs a) (AB (C4Gp.L a)) (C4Gp.val a) (C4Gp.keep a) [] []
abbrev CBS:=@List.all Gau
abbrev S6 a b:=CBS a (λi=>NJ b i)
attribute [go_sem] CBS S6
theorem DBB(a:MGp):(V4Gp a)=(Wo (Gn (AY (SR a)) (BJ (SR a)) (MG (cO a)) (I9 (Uj a) (eN a) (gX a) (wQ a) (Uj a) (dS (SR a)) (AID (λi=>aR i (Q8 a) (tQ (HX (cO a)) i i))))) (S6 (SR a) (cO a)) (not (Jn (λi=>AVC a (Q8 a) i) (CH (Q8 a))))):=by kernel_rfl
theorem CXL:AH ZP 50 (C4Gp.spec d4Gp):=Ctr.spec_ok (C:=C4Gp) (λ(a:MGp) h=>WP (A:=A4Gp) (ren:=[]) (fz:=[]) Tryz.func50 (by kernel_rfl) (AA DAG AD) (by
 have h':a.l.length<4611686018427387904/\(∀x∈a.l,(MI a.q/\IT x)):=h
 show V4Gp a;rw[DBB]<;> dsimp only[go_sem];simp only[CC,CU,ge_iff_le]
 rw[<-D4]
 exact⟨h',rfl⟩)) _
def fvLr(q:One):AVal:=.fn (.func 54) [] []
def BLr(q:One):AObj:=.box [fvLr q]
structure ELr where
 q:One
 e:Ln
structure MLr where
 q:One
 l:List Ln
def C1Lr:Ctr:={ ro:=[100],α:=ELr,xs:=λa=>[.d (eLn a.e),.bptr 100 0],L:=λa=>(100,BLr a.q) :: [],val:=λa=>.bool (!Kv a.e),keep:=λa=>(100,.live (BLr a.q)) :: [] }
def d1Lr:List AVal->Heap->Option (ELr×List (Nat×Nat)×List Nat)
 |[.d d,.bptr id _],H=>some (⟨default,dLn d⟩,[(100,id)],[])
 |_,_=>none
def A1Lr:Ann:={ ann 8 [(54,AQB)] with E:=[100] }
def V1Lr(a:ELr):Prop:=AS ZP A1Lr Tryz.f102 (AE Tryz.f102) (C1Lr.xs a) (AB (C1Lr.L a)) (C1Lr.val a) (C1Lr.keep a) [] []
abbrev kK a:=not (Kv a)
attribute [go_sem] kK
theorem DBI(a:ELr):(V1Lr a)=(jL (kK (ELr.e a))):=by kernel_rfl
theorem CWX:AH ZP 102 (C1Lr.spec d1Lr):=PW C1Lr (λ_=>A1Lr) [] [] Tryz.func102 (λ_=>by kernel_rfl) (λ_=>AA K6 AD) (λ(a:ELr) h=>by
 show V1Lr a;rw[DBI]<;> dsimp only[go_sem];try simp[wr,RB]) (λ_=>RA rfl rfl) _
def d2Lr:List AVal->Heap->Option (MLr×List (Nat×Nat)×List Nat)
 |[y,.fn _ _ [.bptr id _]],H=>match dRow y H with
  |some (n,g,f)=>some (⟨default,HA n λi=>dLn (g i)⟩,[(100,id)],f)
  |none=>none
 |_,_=>none
def A2Lr(a:MLr):Ann:={ ann 19 [(102,C1Lr.spec d1Lr)] with E:=[100],loops:=λid=>if id=2 then some [{ α:=Nat,dflt:=0,T:=λk=>⟨[(0,.d (Qr a.l)),(1,.fn (.func 102) [] [.bptr 100 0]),(7,.int a.l.length),(8,.int k)],(100,.live (BLr a.q)) :: []⟩,inv:=λk=>k<=a.l.length/\bE (λi=>!Kv (gD a.l i)) a.l.length 0=bE (λi=>!Kv (gD a.l i)) (a.l.length-k) k,meas:=λk=>a.l.length-k }] else none }
def PLr(a:MLr):List Prop:=[a.l.length<4611686018427387904/\True]
def C2Lr:Ctr:={ ro:=[100],α:=MLr,xs:=λa=>[.d (Qr a.l),.fn (.func 102) [] [.bptr 100 0]],L:=λa=>(100,BLr a.q) :: [],val:=λa=>.int (bE (λi=>!Kv (gD a.l i)) a.l.length 0),keep:=λa=>(100,.live (BLr a.q)) :: [],pre:=PLr }
def V2Lr(a:MLr):Prop:=AS ZP (A2Lr a) Tryz.f126 (AE Tryz.f126) (C2Lr.xs a) (AB (C2Lr.L a)) (C2Lr.val a) (C2Lr.keep a) [] []
abbrev CO:=@List.length Ln
abbrev Jd:=MLr.l
abbrev bL:=@gD Ln instInhabitedLn
abbrev XT a:=CO (Jd a)
abbrev AUY a b:=kK (bL a b)
abbrev Xj a b:=AUY (Jd a) b
abbrev Ma(a:Nat->Bool) b(c:Nat->Bool) d e:=zS a b c (TJ b d) e
abbrev Ku a b c d:=HJ a b (And c d)
abbrev Lk a b c d:=Ku a b (AK c) d
abbrev AXB a b c:=CGN a (RU b) c
abbrev LO a b:=QT (bL a b)
abbrev BHC a b c d e f:=Lk a b c (AXB (LO d a) e f)
abbrev OE a b:=SJ (bL a b)
abbrev Jq a b c d e f:=BHC a b c d (bL d e) (OE d f)
abbrev GQ a b:=MG (bL a b)
abbrev IV a b:=RU (bL a b)
attribute [go_sem] CO Jd bL XT AUY Xj Ma Ku Lk AXB LO BHC OE Jq GQ IV
theorem CXQ(a:MLr):(V2Lr a)=(HU (λi=>EE (Gn (DR (XT a)) (AG (λj=>Jq j (XT a) (GQ (Jd a) j) (Jd a) j j)) (BO (XT a)) (BX i)) i (XT a) (Ma (λj=>Xj a j) (XT a) (λj=>Xj a j) i i)) (λi=>An (GP i (XT a) (Ma (λj=>Xj a j) (XT a) (λj=>Xj a j) i i)) i (XT a) (AR (CR i (XT a)) (AK (GQ (Jd a) i)) (AK (LO (Jd a) i)) (AK (IV (Jd a) i)) (AK (OE (Jd a) i))) (Xj a i) (Ix (λj=>Xj a j) (XT a) (BO i)) (λj=>QS (Gn (DR (XT a)) (AG (λk=>Jq k (XT a) (GQ (Jd a) k) (Jd a) k k)) (BO (XT a)) (AJ j i)) j (XT a) (Ma (λk=>Xj a k) (XT a) (λk=>Xj a k) j j) i) (Ix (λj=>Xj a j) (XT a) (-1)))):=by kernel_rfl
theorem p2Lr(a:MLr)(h:DJ (PLr a)):V2Lr a:=by
 obtain⟨h,hp⟩:a.l.length<4611686018427387904/\True:=h
 rw[CXQ]<;> dsimp only[go_sem]
 simp only[CC,CU]
 refine⟨⟨0,rfl,Nat.zero_le _,rfl⟩,λk ⟨h1,h2⟩=>⟨λhlt=>?_,λhge=>?_⟩⟩
 ·have hlt:k<a.l.length:=by omega
  refine⟨⟨by omega,by omega⟩,λhp=>?_,λhp=>⟨k+1,(BF (by omega)).symm,⟨by omega,?_⟩,by omega⟩⟩
  ·rw[h2];exact uA hlt (by simpa using hp)
  ·rw[h2];exact ALB hlt (by simpa using hp)
 ·rw[h2];exact ABV (by omega)
theorem CXX:AH ZP 126 (C2Lr.spec d2Lr):=PW C2Lr A2Lr [] [] Tryz.func126 (λ_=>by kernel_rfl) (λ_=>AA CWX AD) p2Lr (λ_=>RA rfl rfl) _
def C3Lr:Ctr:={ C2Lr with val:=λ(a:MLr)=>.bool (decide (bE (λi=>!Kv (gD a.l i)) a.l.length 0>=0)) }
def d3Lr:List AVal->Heap->Option (C3Lr.α×List (Nat×Nat)×List Nat):=d2Lr
def A3Lr:Ann:={ ann 9 [(126,C2Lr.spec d2Lr)] with E:=[100] }
def V3Lr(a:MLr):Prop:=AS ZP A3Lr Tryz.f101 (AE Tryz.f101) (C3Lr.xs a) (AB (C3Lr.L a)) (C3Lr.val a) (C3Lr.keep a) [] []
abbrev BJA a b:=(@HA Ln) a (λi=>bL b i)
abbrev Jg a:=BJA (CO a) a
abbrev dG a:=CO (Jg a)
abbrev R4 a:=dG (Jd a)
abbrev APH a b c d e:=Ku a b (BM c d) e
abbrev OU a b c d e f g:=APH a b (GQ c a) d (ARL (LO c a) e (bL c a) f (OE c a) g)
abbrev AMT a b c d e f g h p:=OU a b c d e (IV f g) (OE h p)
abbrev BMP a b c d e f g h:=AMT a b c d e f g f h
abbrev Sy a b c d:=BMP a b c (GQ d a) (LO d a) d a a
abbrev RS a b c:=AG (λi=>Sy i a b c)
abbrev lH a b:=RS a (Jg b) b
abbrev LB a b:=DU (CO a) b
abbrev Hf a b:=LB a (CO b)
abbrev qJ a:=Hf (Jg a) a
attribute [go_sem] BJA Jg dG R4 APH OU AMT BMP Sy RS lH LB Hf qJ
theorem CYY(a:MLr):(V3Lr a)=(Wo (Dd (qJ (Jd a)) (lH (R4 a) (Jd a)) (Hb (R4 a))) (Jn (λi=>Xj a i) (XT a)) (Jn (λi=>AUY (Jg (Jd a)) i) (R4 a))):=by kernel_rfl
theorem DAA:AH ZP 101 (C3Lr.spec d3Lr):=Ctr.spec_ok (C:=C3Lr) (λ(a:MLr) h=>WP (A:=A3Lr) (ren:=[]) (fz:=[]) Tryz.func101 (by kernel_rfl) (AA CXX AD) (by
 obtain⟨h,hp⟩:a.l.length<4611686018427387904/\True:=h
 show V3Lr a;rw[CYY]<;> dsimp only[go_sem];simp[h,RB])) _
def d4Lr:List AVal->Heap->Option (MLr×List (Nat×Nat)×List Nat)
 |[y,.fn _ _ _],H=>match dRow y H with
  |some (n,g,f)=>some (⟨default,HA n λi=>dLn (g i)⟩,[],f)
  |none=>none
 |_,_=>none
def A4Lr:Ann:={ ann 9 [(101,C3Lr.spec d3Lr)] with E:=[] }
def C4Lr:Ctr:={ ro:=[],α:=MLr,xs:=λa=>[.d (Qr a.l),fvLr a.q],L:=λa=>[],val:=λa=>.bool (a.l.all λx=>Kv x),keep:=λa=>[],pre:=PLr }
def V4Lr(a:MLr):Prop:=AS ZP A4Lr Tryz.f53 (AE Tryz.f53) (C4Lr.xs a) (AB (C4Lr.L a)) (C4Lr.val a) (C4Lr.keep a) [] []
theorem CYI(a:MLr):(V4Lr a)=(Wo (Dd (qJ (Jd a)) (lH (R4 a) (Jd a)) (Hb (R4 a))) ((@List.all Ln) (Jd a) Kv) (not (Jn (λi=>AUY (Jg (Jd a)) i) (R4 a)))):=by kernel_rfl
theorem DBJ:AH ZP 53 (C4Lr.spec d4Lr):=Ctr.spec_ok (C:=C4Lr) (λ(a:MLr) h=>WP (A:=A4Lr) (ren:=[]) (fz:=[]) Tryz.func53 (by kernel_rfl) (AA DAA AD) (by
 have h':a.l.length<4611686018427387904/\True:=h
 show V4Lr a;rw[CYI]<;> dsimp only[go_sem];simp only[CC,CU,ge_iff_le]
 rw[<-D4]
 exact⟨h'.1,rfl⟩)) _
def LXIn(q:List Gau):List (Nat×AObj):=[(101,.box [.d (AT q)])]
def KXIn(q:List Gau):List (Nat×HCell):=[(101,.live (.box [.d (AT q)]))]
def fvIn(q:List Gau):AVal:=.fn (.func 114) [] [.bptr 101 0]
def BIn(q:List Gau):AObj:=.box [fvIn q]
structure EIn where
 q:List Gau
 e:Int
structure MIn where
 q:List Gau
 l:List Int
def C1In:Ctr:={ ro:=[100,101],α:=EIn,xs:=λa=>[.d (NY a.e),.bptr 100 0],L:=λa=>(100,BIn a.q) :: LXIn a.q,val:=λa=>.bool (!JD a.e 0 (wr (a.q.length-1))),keep:=λa=>(100,.live (BIn a.q)) :: KXIn a.q }
def d1In:List AVal->Heap->Option (EIn×List (Nat×Nat)×List Nat)
 |[.d d,.bptr id _],H=>match H id with
  | .live (.box [.fn _ _ [.bptr j _]])=>match H j with
   | .live (.box [.d (.list _ m h _)])=>some (⟨HA m λi=>Ky (h i),EG d⟩,[(100,id),(101,j)],[])
   |_=>none
  |_=>none
 |_,_=>none
def A1In:Ann:={ ann 8 [(114,C_nm1.spec COG)] with E:=[100,101] }
def V1In(a:EIn):Prop:=AS ZP A1In Tryz.f133 (AE Tryz.f133) (C1In.xs a) (AB (C1In.L a)) (C1In.val a) (C1In.keep a) [] []
abbrev AAD:=EIn.q
abbrev OS a b c d:=BD a b (BQ c) d
abbrev Lx a b c:=not (JD a b c)
abbrev qQ a b:=Lx a 0 b
abbrev AXU a b:=qQ a (ANS b)
abbrev Xv a b:=EK a (CG b)
abbrev VG a:=Xv a a
abbrev Zf a b:=HQ a (CG b)
abbrev OW a:=Zf a a
attribute [go_sem] AAD OS Lx qQ AXU Xv VG Zf OW
theorem DBV(a:EIn):(V1In a)=(OS (AR (AK (EIn.e a)) (AY (AAD a)) (BJ (AAD a)) (OW (AAD a)) (VG (AAD a))) (Va (AXU (EIn.e a) (AAD a)) (AXU (EIn.e a) (CG (AAD a)))) (AAD a) (AP (AAD a))):=by kernel_rfl
theorem CXV:AH ZP 133 (C1In.spec d1In):=PW C1In (λ_=>A1In) [] [] Tryz.func133 (λ_=>by kernel_rfl) (λ_=>AA CWU AD) (λ(a:EIn) h=>by
 show V1In a;rw[DBV]<;> dsimp only[go_sem];try simp[wr,RB]) (λ_=>RA rfl rfl) _
def d2In:List AVal->Heap->Option (MIn×List (Nat×Nat)×List Nat)
 |[y,.fn _ _ [.bptr id _]],H=>match dRow y H with
  |some (n,g,f)=>match H id with
   | .live (.box [.fn _ _ [.bptr j _]])=>match H j with
    | .live (.box [.d (.list _ m h _)])=>some (⟨HA m λi=>Ky (h i),HA n λi=>EG (g i)⟩,[(100,id),(101,j)],f)
    |_=>none
   |_=>none
  |none=>none
 |_,_=>none
def A2In(a:MIn):Ann:={ ann 19 [(133,C1In.spec d1In)] with E:=[100,101],loops:=λid=>if id=2 then some [{ α:=Nat,dflt:=0,T:=λk=>⟨[(0,.d (AZ a.l)),(1,.fn (.func 133) [] [.bptr 100 0]),(7,.int a.l.length),(8,.int k)],(100,.live (BIn a.q)) :: KXIn a.q⟩,inv:=λk=>k<=a.l.length/\bE (λi=>!JD (gD a.l i) 0 (wr (a.q.length-1))) a.l.length 0=bE (λi=>!JD (gD a.l i) 0 (wr (a.q.length-1))) (a.l.length-k) k,meas:=λk=>a.l.length-k }] else none }
def PIn(a:MIn):List Prop:=[a.l.length<4611686018427387904/\True]
def C2In:Ctr:={ ro:=[100,101],α:=MIn,xs:=λa=>[.d (AZ a.l),.fn (.func 133) [] [.bptr 100 0]],L:=λa=>(100,BIn a.q) :: LXIn a.q,val:=λa=>.int (bE (λi=>!JD (gD a.l i) 0 (wr (a.q.length-1))) a.l.length 0),keep:=λa=>(100,.live (BIn a.q)) :: KXIn a.q,pre:=PIn }
def V2In(a:MIn):Prop:=AS ZP (A2In a) Tryz.f140 (AE Tryz.f140) (C2In.xs a) (AB (C2In.L a)) (C2In.val a) (C2In.keep a) [] []
abbrev Hu:=MIn.l
abbrev XI:=MIn.q
abbrev S3 a:=AP (XI a)
abbrev Nh a:=GZ (Hu a)
abbrev BAW a b c:=AXU (KL a b) c
abbrev BME a b c:=BAW (Hu a) b c
abbrev cR a b c:=BME a b (XI c)
attribute [go_sem] Hu XI S3 Nh BAW BME cR
theorem DBX(a:MIn):(V2In a)=(HU (λi=>EE (AW (IW (Hu a)) (EZ (Hu a)) (BP (Nh a)) (BX i) (BQ (XI a)) (S3 a)) i (Nh a) (Ma (λj=>cR a j a) (Nh a) (λj=>cR a j a) i i)) (λi=>An (GP i (Nh a) (Ma (λj=>cR a j a) (Nh a) (λj=>cR a j a) i i)) i (Nh a) (AW (JL i (Hu a)) (Qc (Hu a) i) (AY (XI a)) (BJ (XI a)) (OW (XI a)) (VG (XI a))) (BME a i (CG (XI a))) (AO (Ix (λj=>cR a j a) (Nh a) (BO i)) (BQ (XI a)) (S3 a)) (λj=>QS (AW (IW (Hu a)) (EZ (Hu a)) (BP (Nh a)) (AJ j i) (BQ (XI a)) (S3 a)) j (Nh a) (Ma (λk=>cR a k a) (Nh a) (λk=>cR a k a) j j) i) (AO (Ix (λj=>cR a j a) (Nh a) (-1)) (BQ (XI a)) (S3 a)))):=by kernel_rfl
theorem p2In(a:MIn)(h:DJ (PIn a)):V2In a:=by
 obtain⟨h,hp⟩:a.l.length<4611686018427387904/\True:=h
 rw[DBX]<;> dsimp only[go_sem]
 simp only[CC,CU]
 refine⟨⟨0,rfl,Nat.zero_le _,rfl⟩,λk ⟨h1,h2⟩=>⟨λhlt=>?_,λhge=>?_⟩⟩
 ·have hlt:k<a.l.length:=by omega
  refine⟨⟨by omega,by omega⟩,λhp=>?_,λhp=>⟨k+1,(BF (by omega)).symm,⟨by omega,?_⟩,by omega⟩⟩
  ·rw[h2];exact uA hlt (by simpa using hp)
  ·rw[h2];exact ALB hlt (by simpa using hp)
 ·rw[h2];exact ABV (by omega)
theorem CYA:AH ZP 140 (C2In.spec d2In):=PW C2In A2In [] [] Tryz.func140 (λ_=>by kernel_rfl) (λ_=>AA CXV AD) p2In (λ_=>RA rfl rfl) _
def C3In:Ctr:={ C2In with val:=λ(a:MIn)=>.bool (decide (bE (λi=>!JD (gD a.l i) 0 (wr (a.q.length-1))) a.l.length 0>=0)) }
def d3In:List AVal->Heap->Option (C3In.α×List (Nat×Nat)×List Nat):=d2In
def A3In:Ann:={ ann 9 [(140,C2In.spec d2In)] with E:=[100,101] }
def V3In(a:MIn):Prop:=AS ZP A3In Tryz.f132 (AE Tryz.f132) (C3In.xs a) (AB (C3In.L a)) (C3In.val a) (C3In.keep a) [] []
abbrev BWU a b(c:Nat->Nat):=hd57 a (λi=>KL b (c i))
abbrev CFU a b:=BWU (GZ a) b (λi=>i)
abbrev FI a:=CFU a a
abbrev DY a b c d e f g h:=BD a b c (AR d e f g h)
abbrev ZS a:=Hb (GZ a)
abbrev lF a:=ZS (FI a)
abbrev BCP a b c d:=BFU a b (KL c d)
abbrev Wt a b c d e f:=sL a b (BCP c d e f)
abbrev M0 a b c d:=Wt a b b a c d
abbrev AOV a b c:=M0 a b c a
abbrev BR a b:=AG (λi=>AOV i a b)
abbrev P3 a b:=BR (FI a) b
abbrev CM a:=P3 a a
abbrev BC a b:=OD a (GZ b)
abbrev M1 a b:=BC (FI a) b
abbrev EA a:=M1 a a
attribute [go_sem] BWU CFU FI DY ZS lF BCP Wt M0 AOV BR P3 CM BC M1 EA
theorem CYN(a:MIn):(V3In a)=(OS (DY (EA (Hu a)) (CM (Hu a)) (AY (XI a)) (BJ (XI a)) (OW (XI a)) (VG (XI a)) (lF (Hu a)) HO) (Va (Jn (λi=>cR a i a) (Nh a)) (Jn (λi=>BAW (FI (Hu a)) i (CG (XI a))) (GZ (FI (Hu a))))) (XI a) (S3 a)):=by kernel_rfl
theorem DAC:AH ZP 132 (C3In.spec d3In):=Ctr.spec_ok (C:=C3In) (λ(a:MIn) h=>WP (A:=A3In) (ren:=[]) (fz:=[]) Tryz.func132 (by kernel_rfl) (AA CYA AD) (by
 obtain⟨h,hp⟩:a.l.length<4611686018427387904/\True:=h
 show V3In a;rw[CYN]<;> dsimp only[go_sem];simp[h,RB])) _
def d4In:List AVal->Heap->Option (MIn×List (Nat×Nat)×List Nat)
 |[y,.fn _ _ [.bptr j _]],H=>match dRow y H with
  |some (n,g,f)=>match H j with
   | .live (.box [.d (.list _ m h _)])=>some (⟨HA m λi=>Ky (h i),HA n λi=>EG (g i)⟩,[(101,j)],f)
   |_=>none
  |none=>none
 |_,_=>none
def A4In:Ann:={ ann 9 [(132,C3In.spec d3In)] with E:=[101] }
def C4In:Ctr:={ ro:=[101],α:=MIn,xs:=λa=>[.d (AZ a.l),fvIn a.q],L:=λa=>LXIn a.q,val:=λa=>.bool (a.l.all λx=>JD x 0 (wr (a.q.length-1))),keep:=λa=>KXIn a.q,pre:=PIn }
def V4In(a:MIn):Prop:=AS ZP A4In Tryz.f113 (AE Tryz.f113) (C4In.xs a) (AB (C4In.L a)) (C4In.val a) (C4In.keep a) [] []
abbrev BZA:=@List.all Int
attribute [go_sem] BZA
theorem CZL(a:MIn):(V4In a)=(OS (DY (EA (Hu a)) (CM (Hu a)) (AY (XI a)) (BJ (XI a)) (OW (XI a)) (VG (XI a)) (lF (Hu a)) HO) (Va (BZA (Hu a) (λi=>gL i (ANS (XI a)))) (not (Jn (λi=>BAW (FI (Hu a)) i (CG (XI a))) (GZ (FI (Hu a)))))) (XI a) (S3 a)):=by kernel_rfl
theorem CXH:AH ZP 113 (C4In.spec d4In):=Ctr.spec_ok (C:=C4In) (λ(a:MIn) h=>WP (A:=A4In) (ren:=[]) (fz:=[]) Tryz.func113 (by kernel_rfl) (AA DAC AD) (by
 have h':a.l.length<4611686018427387904/\True:=h
 show V4In a;rw[CZL]<;> dsimp only[go_sem];simp only[CC,CU,ge_iff_le]
 rw[<-D4]
 exact⟨h'.1,rfl⟩)) _
end Go.Bal
