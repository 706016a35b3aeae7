/- Package rating: every. Printed by genratE.py. -/
import Derived.Test.YtbmlgdlbffmjjaaGreatRatA
import Derived.Test.YtbmlgdlbffmjjaaGreatGaA
set_option linter.unusedVariables false
set_option linter.unusedSimpArgs false
namespace Go.Bal
open Go Go.Sym Go.Proofs
def allB(p:Nat->Bool):Nat->Bool
 |0=>true
 |n+1=>allB p n&&p n
theorem AHJ{p:Nat->Bool}:∀{n:Nat},allB p n=true↔∀i,i<n->p i=true
 |0=>by simp[allB]
 |n+1=>by
  simp only[allB,Bool.and_eq_true,AHJ (n:=n)]
  constructor
  ·intro h i hi
   by_cases he:i=n
   ·subst he;exact h.2
   ·exact h.1 i (by omega)
  ·exact λh=>⟨λi hi=>h i (by omega),h n (by omega)⟩
theorem BER{p:Nat->Bool}:∀{n k:Nat},(0<=aT p n k)↔∃i,k<=i/\i<k+n/\p i=true
 |0,k=>by simp[aT];omega
 |n+1,k=>by
  simp only[aT]
  by_cases h:p k=true
  ·rw[if_pos h]
   constructor
   ·intro _;exact⟨k,Nat.le_refl _,by omega,h⟩
   ·intro _;omega
  ·rw[if_neg h,BER (n:=n) (k:=k+1)]
   constructor
   ·rintro⟨i,h1,h2,h3⟩;exact⟨i,by omega,by omega,h3⟩
   ·rintro⟨i,h1,h2,h3⟩
    refine⟨i,?_,by omega,h3⟩
    by_cases he:i=k
    ·subst he;exact absurd h3 h
    ·omega
theorem BQI{p:Nat->Bool}{n:Nat}:(!decide (0<=aT (λi=>!p i) n 0))=allB p n:=by
 rw[Bool.eq_iff_iff,AHJ]
 simp only[Bool.not_eq_true',decide_eq_false_iff_not,BER,Nat.zero_le,Nat.zero_add,true_and]
 constructor
 ·intro h i hi
  cases hp:p i with
  |true=>rfl
  |false=>exact (h ⟨i,hi,by simp[hp]⟩).elim
 ·rintro h ⟨i,hi,hp⟩
  rw[h i hi] at hp;cases hp
theorem mY{α:Type}[Inhabited α]{p:α->Bool}{l:List α}:(!decide (0<=aT (λi=>!p (gD l i)) l.length 0))=l.all p:=by
 rw[BQI,Bool.eq_iff_iff,AHJ,List.all_eq_true]
 exact⟨λh x hx=>by obtain⟨i,hi,rfl⟩:=oX hx;exact h i hi,λh i hi=>h _ (MF hi)⟩
structure LInt where
 q:List Gau
 e:Int
def C_nm1:Ctr:={ ro:=[101],α:=LInt,xs:=λa=>[.int a.e,.bptr 101 0],L:=λa=>[(101,.box [.d (KD a.q)])],val:=λa=>.bool (MN a.e 0 (wr (a.q.length-1))),keep:=λa=>[(101,.live (.box [.d (KD a.q)]))] }
def CJB:List AVal->Heap->Option (LInt×List (Nat×Nat)×List Nat)
 |[.d d,.bptr id _],H=>match H id with
  | .live (.box [.d (.list _ n g _)])=>some (⟨WA n λi=>gJ (g i),LR d⟩,[(101,id)],[])
  |_=>none
 |_,_=>none
def CIC:Ann:={ ann 9 [(n_in,Fg)] with E:=[101] }
def CIW(a:LInt):Prop:=AX Try.prog CIC AJT (AF AJT) (C_nm1.xs a) (AC (C_nm1.L a)) (C_nm1.val a) (C_nm1.keep a) [] []
abbrev BP:=@List.length Gau
abbrev GU:=@gD Gau instInhabitedGau
abbrev JH a b c:=AO a (BP b) c
abbrev HZ a b c:=CM a b (AJ c)
abbrev MK a b c:=HZ (AJ a) b c
abbrev VT a b c d e:=JH a b (MK c d e)
abbrev DI a b:=JY (GU a b)
abbrev DO a b:=LV (GU a b)
abbrev DY a b:=KA (GU a b)
abbrev ZQ a b c d:=VT a b (DY c d) (DO b a) (DI b a)
abbrev ME a b:=ZQ a b b a
abbrev BX a:=AE (λi=>ME i a)
abbrev BW a:=AR (BP a)
abbrev AAL a b:=IR (BH a) b
abbrev Ps a:=AAL a 1
abbrev QB a:=BH (BP a)
abbrev Ts a b:=FC a (wr (No (QB b) 1))
attribute [go_sem] BP GU JH HZ MK VT DI DO DY ZQ ME BX BW AAL Ps QB Ts
theorem CNQ(a:LInt):(CIW a)=(AG (LI (Ts (LInt.e a) (LInt.q a)) (FC (LInt.e a) (Ps (BP (LInt.q a))))) (BW (LInt.q a)) (BX (LInt.q a))):=by kernel_rfl
theorem CMH:AH Try.prog H6 (C_nm1.spec CJB):=PU C_nm1 (λ_=>CIC) [] [] BMN (λ_=>by kernel_rfl) (λ_=>AA H3 AD) (λ(a:LInt) _=>by
 show CIW a;rw[CNQ]<;> delta LI KA LV JY AK AN AE BA BN BH NC No BP GU CS AG AO AJ AR IR CM DY HZ AAL BW DI MK JH DO VT ZQ ME BX FC QB Ps Ts;simp[wr,Fj]) (λ_=>RU rfl rfl) _
def fvGr(q:One):AVal:=.fn (.func BJJ) [] []
def BGr(q:One):AObj:=.box [fvGr q]
structure EGr where
 q:One
 e:Gau
structure MGr where
 q:One
 l:List Gau
def C1Gr:Ctr:={ ro:=[100],α:=EGr,xs:=λa=>[.d (eGau a.e),.bptr 100 0],L:=λa=>(100,BGr a.q) :: [],val:=λa=>.bool (!riG a.e),keep:=λa=>(100,.live (BGr a.q)) :: [] }
def d1Gr:List AVal->Heap->Option (EGr×List (Nat×Nat)×List Nat)
 |[.d d,.bptr id _],H=>some (⟨default,gJ d⟩,[(100,id)],[])
 |_,_=>none
def A1Gr:Ann:={ ann 8 [(BJJ,CHN)] with E:=[100] }
def V1Gr(a:EGr):Prop:=AX Try.prog A1Gr AXG (AF AXG) (C1Gr.xs a) (AC (C1Gr.L a)) (C1Gr.val a) (C1Gr.keep a) [] []
abbrev Dm a:=DF (not a)
attribute [go_sem] Dm
theorem CQW(a:EGr):(V1Gr a)=(Dm (riG (EGr.e a))):=by kernel_rfl
theorem CQR:AH Try.prog G1 (C1Gr.spec d1Gr):=PU C1Gr (λ_=>A1Gr) [] [] BVX (λ_=>by kernel_rfl) (λ_=>AA CLM AD) (λ(a:EGr) h=>by
 show V1Gr a;rw[CQW]<;> delta LI DF Dm;try simp[wr,Fj]) (λ_=>RU rfl rfl) _
def d2Gr:List AVal->Heap->Option (MGr×List (Nat×Nat)×List Nat)
 |[y,.fn _ _ [.bptr id _]],H=>match xY y H with
  |some (n,g,f)=>some (⟨default,WA n λi=>gJ (g i)⟩,[(100,id)],f)
  |none=>none
 |_,_=>none
def A2Gr(a:MGr):Ann:={ ann 19 [(G1,C1Gr.spec d1Gr)] with E:=[100],loops:=λid=>if id=2 then some [{ α:=Nat,dflt:=0,T:=λk=>⟨[(0,.d (KD a.l)),(1,.fn (.func G1) [] [.bptr 100 0]),(7,.int a.l.length),(8,.int k)],(100,.live (BGr a.q)) :: []⟩,inv:=λk=>k<=a.l.length/\aT (λi=>!riG (gD a.l i)) a.l.length 0=aT (λi=>!riG (gD a.l i)) (a.l.length-k) k,meas:=λk=>a.l.length-k }] else none }
def PGr(a:MGr):List Prop:=[a.l.length<4611686018427387904/\True]
def C2Gr:Ctr:={ ro:=[100],α:=MGr,xs:=λa=>[.d (KD a.l),.fn (.func G1) [] [.bptr 100 0]],L:=λa=>(100,BGr a.q) :: [],val:=λa=>.int (aT (λi=>!riG (gD a.l i)) a.l.length 0),keep:=λa=>(100,.live (BGr a.q)) :: [],pre:=PGr }
def V2Gr(a:MGr):Prop:=AX Try.prog (A2Gr a) AVD (AF AVD) (C2Gr.xs a) (AC (C2Gr.L a)) (C2Gr.val a) (C2Gr.keep a) [] []
abbrev Eu:=MGr.l
abbrev UO a b c d e f g h:=HF a b c d (EZ e f g) h
abbrev Gh(a:Nat->Bool) b c:=aT (λi=>not (a i)) b c
abbrev Bh(a:Nat->Bool) b:=Gh a b 0
abbrev Lx(a:Nat->Bool) b c:=AK (Bh a b) c
abbrev Sb a:=BP (Eu a)
abbrev AFS a b:=riG (GU a b)
abbrev Up a b:=AFS (Eu a) b
abbrev NL a b c d e f:=EV a (CJ b c d) e f
abbrev QU a b:=KE (BP a) b
abbrev XB(a:Nat->Bool) b(c:Nat->Bool) d e:=Lx a b (Gh c d e)
abbrev HL a b c d:=And a (CM b c d)
abbrev HE a b:=CV a (BP b)
attribute [go_sem] Eu UO Gh Bh Lx Sb AFS Up NL QU XB HL HE
theorem CSW(a:MGr):(V2Gr a)=(TS (λi=>AG (HL (BW (Eu a)) (BX (Eu a)) (QB (Eu a)) (BD i)) (HE i (Eu a)) (XB (λj=>Up a j) (Sb a) (λj=>Up a j) (QU (Eu a) i) i)) (λi=>UO (CJ i (Sb a) (XB (λj=>Up a j) (Sb a) (λj=>Up a j) (QU (Eu a) i) i)) i (Sb a) (And (BE i (Sb a)) (MK (DY (Eu a) i) (DO (Eu a) i) (DI (Eu a) i))) (not (Up a i)) (Lx (λj=>Up a j) (Sb a) (BH i)) (CG (λj=>NL (HL (BW (Eu a)) (BX (Eu a)) (QB (Eu a)) (AU j i)) j (Sb a) (XB (λk=>Up a k) (Sb a) (λk=>Up a k) (QU (Eu a) j) j) (QU (Eu a) j) (QU (Eu a) i))) (Lx (λj=>Up a j) (Sb a) (-1)))):=by kernel_rfl
theorem p2Gr(a:MGr)(h:CR (PGr a)):V2Gr a:=by
 obtain⟨h,hp⟩:a.l.length<4611686018427387904/\True:=h
 rw[CSW]<;> delta KA LV JY NX EZ AK AN AE BA BN BH CV DC ER NC TD KE CG BP GU Eu CS AG AO AJ AR CM DY HZ BG BW DK DI MK JH DO GJ VT EB DR EX FP EV DT ZQ JD AU EY QU ME BE HX CJ LA HH Gh HL BX HE BD HF Bh QB UO Lx NL XB TS AFS Sb Up
 simp only[CC,CU]
 refine⟨⟨0,rfl,Nat.zero_le _,rfl⟩,λk ⟨h1,h2⟩=>⟨λhlt=>?_,λhge=>?_⟩⟩
 ·have hlt:k<a.l.length:=by omega
  refine⟨⟨by omega,by omega⟩,λhp=>?_,λhp=>⟨k+1,(GH (by omega)).symm,⟨by omega,?_⟩,by omega⟩⟩
  ·rw[h2];exact mS hlt (by simpa using hp)
  ·rw[h2];exact P8 hlt (by simpa using hp)
 ·rw[h2];exact wW (by omega)
theorem CRK:AH Try.prog AYS (C2Gr.spec d2Gr):=PU C2Gr A2Gr [] [] BPT (λ_=>by kernel_rfl) (λ_=>AA CQR AD) p2Gr (λ_=>RU rfl rfl) _
def C3Gr:Ctr:={ C2Gr with val:=λ(a:MGr)=>.bool (decide (aT (λi=>!riG (gD a.l i)) a.l.length 0>=0)) }
def d3Gr:List AVal->Heap->Option (C3Gr.α×List (Nat×Nat)×List Nat):=d2Gr
def A3Gr:Ann:={ ann 9 [(AYS,C2Gr.spec d2Gr)] with E:=[100] }
def V3Gr(a:MGr):Prop:=AX Try.prog A3Gr AZC (AF AZC) (C3Gr.xs a) (AC (C3Gr.L a)) (C3Gr.val a) (C3Gr.keep a) [] []
abbrev Mi a:=N4 a 0
abbrev SL(a:Nat->Bool) b:=Mi (Bh a b)
abbrev QM a(b:Nat->Gau):=(@WA Gau) (BP a) b
abbrev BB a:=QM a (λi=>GU a i)
abbrev QL a b c:=AQ a b c FT
abbrev OS a b c d e f g h:=JH a b (KC c d e f g h)
abbrev DV a b c d e:=OS a b (DY b a) c (DO b a) d (DI b a) e
abbrev KL a b c d e f:=DV a b (DY c d) (DO c e) (DI c f)
abbrev EF a b c:=KL a b c a a a
abbrev BU a b:=AE (λi=>EF i a b)
abbrev CW a:=BU (BB a) a
abbrev JI a b:=AN (BP a) b
abbrev CI a b:=JI a (BP b)
abbrev CN a:=CI (BB a) a
abbrev SS a b:=QL (CN a) (CW a) b
abbrev ON a b:=BN (BP a) b
abbrev OE a:=ON a 4611686018427387904
abbrev VM a:=OE (BB a)
attribute [go_sem] Mi SL QM BB QL OS DV KL EF BU CW JI CI CN SS ON OE VM
theorem CTG(a:MGr):(V3Gr a)=(And (SS (Eu a) (VM (Eu a))) (LI (SL (λi=>Up a i) (Sb a)) (SL (λi=>AFS (BB (Eu a)) i) (BP (BB (Eu a)))))):=by kernel_rfl
theorem CRA:AH Try.prog AXN (C3Gr.spec d3Gr):=Ctr.spec_ok (C:=C3Gr) (λ(a:MGr) h=>Dy (A:=A3Gr) (ren:=[]) (fz:=[]) BYS (by kernel_rfl) (AA CRK AD) (by
 obtain⟨h,hp⟩:a.l.length<4611686018427387904/\True:=h
 show V3Gr a;rw[CTG]<;> delta LI N4 KA LV JY AK AN AE BA BN FT BP GU Eu AG AO QM BB DY HC DI JH DO AQ JI JO KC CI OS DV KL EF BU ON Gh CN CW OE Bh QL Mi SL VM AFS Sb Up SS;simp[h,Fj])) _
def d4Gr:List AVal->Heap->Option (MGr×List (Nat×Nat)×List Nat)
 |[y,.fn _ _ _],H=>match xY y H with
  |some (n,g,f)=>some (⟨default,WA n λi=>gJ (g i)⟩,[],f)
  |none=>none
 |_,_=>none
def A4Gr:Ann:={ ann 9 [(AXN,C3Gr.spec d3Gr)] with E:=[] }
def C4Gr:Ctr:={ ro:=[],α:=MGr,xs:=λa=>[.d (KD a.l),fvGr a.q],L:=λa=>[],val:=λa=>.bool (a.l.all λx=>riG x),keep:=λa=>[],pre:=PGr }
def V4Gr(a:MGr):Prop:=AX Try.prog A4Gr F_eG (AF F_eG) (C4Gr.xs a) (AC (C4Gr.L a)) (C4Gr.val a) (C4Gr.keep a) [] []
theorem CRI(a:MGr):(V4Gr a)=(((WA a.l.length λ(i:Nat)=>gD a.l i).length=a.l.length/\(∀(i:Nat),i<(WA a.l.length λ(i:Nat)=>gD a.l i).length->(gD (WA a.l.length λ(i:Nat)=>gD a.l i)
 i).st=(gD a.l i).st/\(gD (WA a.l.length λ(i:Nat)=>gD a.l i) i).lo=(gD a.l i).lo/\(gD (WA a.l.length λ(i:Nat)=>gD a.l i) i).hi=(gD a.l i).hi)/\(WA a.l.length λ(i:Nat)=>gD a.l i).length <
 4611686018427387904/\True)/\(a.l.all λ(x:Gau)=>riG x)=!decide (aT (λ(i:Nat)=>!riG (gD (WA a.l.length λ(i:Nat)=>gD a.l i) i)) (WA a.l.length λ(i:Nat)=>gD a.l i).length 0>=0)):=by
 kernel_rfl
theorem CRX:AH Try.prog n_eG (C4Gr.spec d4Gr):=Ctr.spec_ok (C:=C4Gr) (λ(a:MGr) h=>Dy (A:=A4Gr) (ren:=[]) (fz:=[]) CJY (by kernel_rfl) (AA CRA AD) (by
 have h':a.l.length<4611686018427387904/\True:=h
 show V4Gr a;rw[CRI];simp only[CC,CU,ge_iff_le]
 rw[<-mY]
 exact⟨h'.1,rfl⟩)) _
def fvGp(q:Ln):AVal:=.fn (.func tJ) [.d (eLn q)] []
def BGp(q:Ln):AObj:=.box [fvGp q]
structure EGp where
 q:Ln
 e:Gau
structure MGp where
 q:Ln
 l:List Gau
def C1Gp:Ctr:={ ro:=[100],α:=EGp,xs:=λa=>[.d (eGau a.e),.bptr 100 0],L:=λa=>(100,BGp a.q) :: [],val:=λa=>.bool (!WE a.q a.e),keep:=λa=>(100,.live (BGp a.q)) :: [],pre:=λa=>[(PO a.q/\Ht a.e)] }
def d1Gp:List AVal->Heap->Option (EGp×List (Nat×Nat)×List Nat)
 |[.d d,.bptr id _],H=>match H id with
  | .live (.box [.fn _ [.d x] _])=>some (⟨dLn x,gJ d⟩,[(100,id)],[])
  |_=>none
 |_,_=>none
def A1Gp:Ann:={ ann 8 [(tJ,ADV)] with E:=[100] }
def V1Gp(a:EGp):Prop:=AX Try.prog A1Gp AXG (AF AXG) (C1Gp.xs a) (AC (C1Gp.L a)) (C1Gp.val a) (C1Gp.keep a) [] []
abbrev AAT:=EGp.q
abbrev Fw a:=AJ (JJ a)
abbrev Hb a:=AJ (HV a)
abbrev Kx a b:=AV a (Ap b) (Cq b) (BG (LV b)) (DC (LV b) (JY b)) (RJ (JY b))
attribute [go_sem] AAT Fw Hb Kx
theorem CQM(a:EGp):(V1Gp a)=(AV (Kx (LU (AAT a)) (EGp.e a)) (Dm (WE (AAT a) (EGp.e a))) (AJ (LL (AAT a))) (Hb (AAT a)) (AJ (GZ (AAT a))) (Fw (AAT a))):=by kernel_rfl
theorem CRS:AH Try.prog G1 (C1Gp.spec d1Gp):=PU C1Gp (λ_=>A1Gp) [] [] BVX (λ_=>by kernel_rfl) (λ_=>AA AMX AD) (λ(a:EGp) h=>by
 show V1Gp a;rw[CQM]<;> delta LI KA LV JY LL HV GZ JJ AK DC ER AAT AG AI AJ DF BG EB AV HI RJ UA Cq US Ap KM PK Kx Hb Fw LU Dm;exact⟨h,by simp⟩) (λ_=>RU rfl rfl) _
def d2Gp:List AVal->Heap->Option (MGp×List (Nat×Nat)×List Nat)
 |[y,.fn _ _ [.bptr id _]],H=>match xY y H with
  |some (n,g,f)=>match H id with
   | .live (.box [.fn _ [.d x] _])=>some (⟨dLn x,WA n λi=>gJ (g i)⟩,[(100,id)],f)
   |_=>none
  |none=>none
 |_,_=>none
def A2Gp(a:MGp):Ann:={ ann 19 [(G1,C1Gp.spec d1Gp)] with E:=[100],loops:=λid=>if id=2 then some [{ α:=Nat,dflt:=0,T:=λk=>⟨[(0,.d (KD a.l)),(1,.fn (.func G1) [] [.bptr 100 0]),(7,.int a.l.length),(8,.int k)],(100,.live (BGp a.q)) :: []⟩,inv:=λk=>k<=a.l.length/\aT (λi=>!WE a.q (gD a.l i)) a.l.length 0=aT (λi=>!WE a.q (gD a.l i)) (a.l.length-k) k,meas:=λk=>a.l.length-k }] else none }
def PGp(a:MGp):List Prop:=[a.l.length<4611686018427387904/\(∀x∈a.l,(PO a.q/\Ht x))]
def C2Gp:Ctr:={ ro:=[100],α:=MGp,xs:=λa=>[.d (KD a.l),.fn (.func G1) [] [.bptr 100 0]],L:=λa=>(100,BGp a.q) :: [],val:=λa=>.int (aT (λi=>!WE a.q (gD a.l i)) a.l.length 0),keep:=λa=>(100,.live (BGp a.q)) :: [],pre:=PGp }
def V2Gp(a:MGp):Prop:=AX Try.prog (A2Gp a) AVD (AF AVD) (C2Gp.xs a) (AC (C2Gp.L a)) (C2Gp.val a) (C2Gp.keep a) [] []
abbrev QH:=MGp.l
abbrev nF:=MGp.q
abbrev Dk a b c d e:=AI a (AJ b) c d e
abbrev Ud a:=Fw (nF a)
abbrev Uu a:=AJ (GZ (nF a))
abbrev Mo a:=Hb (nF a)
abbrev Lz a:=LL (nF a)
abbrev Si a:=BP (QH a)
abbrev sX a b c:=WE a (GU b c)
abbrev zD a b c:=sX (nF a) b c
abbrev Ss a b c:=zD a (QH b) c
abbrev AS a b c d e f g h p:=AI a b c d (AI e f g h p)
attribute [go_sem] QH nF Dk Ud Uu Mo Lz Si sX zD Ss AS
theorem CQX(a:MGp):(V2Gp a)=(TS (λi=>AG (HL (BW (QH a)) (BX (QH a)) (QB (QH a)) (Dk (BD i) (Lz a) (Mo a) (Uu a) (Ud a))) (HE i (QH a)) (XB (λj=>Ss a a j) (Si a) (λj=>Ss a a j) (QU (QH a) i) i)) (λi=>UO (CJ i (Si a) (XB (λj=>Ss a a j) (Si a) (λj=>Ss a a j) (QU (QH a) i) i)) i (Si a) (And (BE i (Si a)) (AS (AJ (DY (QH a) i)) (AJ (DO (QH a) i)) (AJ (DI (QH a) i)) (AJ (Lz a)) (Mo a) (Uu a) (Ud a) (AJ (Lz a)) (AS (Mo a) (Uu a) (Ud a) (LU (nF a)) (BG (DY (QH a) i)) (HI (DY (QH a) i)) (BG (DO (QH a) i)) (DC (DO (QH a) i) (DI (QH a) i)) (RJ (DI (QH a) i))))) (not (Ss a a i)) (Dk (Lx (λj=>Ss a a j) (Si a) (BH i)) (Lz a) (Mo a) (Uu a) (Ud a)) (CG (λj=>NL (HL (BW (QH a)) (BX (QH a)) (QB (QH a)) (Dk (AU j i) (Lz a) (Mo a) (Uu a) (Ud a))) j (Si a) (XB (λk=>Ss a a k) (Si a) (λk=>Ss a a k) (QU (QH a) j) j) (QU (QH a) j) (QU (QH a) i))) (Dk (Lx (λj=>Ss a a j) (Si a) (-1)) (Lz a) (Mo a) (Uu a) (Ud a)))):=by kernel_rfl
theorem p2Gp(a:MGp)(h:CR (PGp a)):V2Gp a:=by
 obtain⟨h,hp⟩:a.l.length<4611686018427387904/\(∀x∈a.l,(PO a.q/\Ht x)):=h
 rw[CQX]<;> delta KA LV JY LL HV GZ JJ NX EZ AK AN AE BA BN BH CV DC ER NC TD KE CG BP GU QH nF CS AG AI AO AJ AR AS CM DY HZ BG BW DK DI MK JH DO GJ VT EB DR EX FP EV DT ZQ JD AU HI EY QU RJ ME BE HX CJ UA LA HH Gh HL BX US HE BD HF Dk Bh QB KM PK UO Hb Lx NL Fw LU sX XB Mo Lz zD TS Si Uu Ud Ss
 simp only[CC,CU]
 refine⟨⟨0,rfl,Nat.zero_le _,rfl⟩,λk ⟨h1,h2⟩=>⟨λhlt=>?_,λhge=>?_⟩⟩
 ·have hlt:k<a.l.length:=by omega
  refine⟨⟨⟨by omega,by omega⟩,hp _ (MF hlt)⟩,λhp=>?_,λhp=>⟨k+1,(GH (by omega)).symm,⟨by omega,?_⟩,by omega⟩⟩
  ·rw[h2];exact mS hlt (by simpa using hp)
  ·rw[h2];exact P8 hlt (by simpa using hp)
 ·rw[h2];exact wW (by omega)
theorem CQO:AH Try.prog AYS (C2Gp.spec d2Gp):=PU C2Gp A2Gp [] [] BPT (λ_=>by kernel_rfl) (λ_=>AA CRS AD) p2Gp (λ_=>RU rfl rfl) _
def C3Gp:Ctr:={ C2Gp with val:=λ(a:MGp)=>.bool (decide (aT (λi=>!WE a.q (gD a.l i)) a.l.length 0>=0)) }
def d3Gp:List AVal->Heap->Option (C3Gp.α×List (Nat×Nat)×List Nat):=d2Gp
def A3Gp:Ann:={ ann 9 [(AYS,C2Gp.spec d2Gp)] with E:=[100] }
def V3Gp(a:MGp):Prop:=AX Try.prog A3Gp AZC (AF AZC) (C3Gp.xs a) (AC (C3Gp.L a)) (C3Gp.val a) (C3Gp.keep a) [] []
abbrev TA:=λ(f:Gau->Prop)=>∀(x:Gau),f x
abbrev pA a:=BB (QH a)
abbrev M4 a b c d e f g h:=AS a b c d e f c g h
abbrev tV a b c d e f g:=M4 a b c d e b f g
abbrev WH a b c:=BA ((@List.Mem Gau) a b) c
attribute [go_sem] TA pA M4 tV WH
theorem CRW(a:MGp):(V3Gp a)=(AV (HL (CN (QH a)) (CW (QH a)) (Lz a) (tV (Mo a) (Uu a) (Ud a) (AJ (Lz a)) (Mo a) (VM (QH a)) (TA (λi=>WH i (pA a) (Kx (LU (nF a)) i))))) (LI (SL (λi=>Ss a a i) (Si a)) (SL (λi=>zD a (pA a) i) (BP (pA a)))) (AJ (Lz a)) (Mo a) (Uu a) (Ud a)):=by kernel_rfl
theorem CQY:AH Try.prog AXN (C3Gp.spec d3Gp):=Ctr.spec_ok (C:=C3Gp) (λ(a:MGp) h=>Dy (A:=A3Gp) (ren:=[]) (fz:=[]) BYS (by kernel_rfl) (AA CQO AD) (by
 obtain⟨h,hp⟩:a.l.length<4611686018427387904/\(∀x∈a.l,(PO a.q/\Ht x)):=h
 show V3Gp a;rw[CRW]<;> delta LI N4 KA LV JY LL HV GZ JJ AK AN AE BA BN DC ER BP GU QH nF TA AG AI AO AJ QM AS CM BB M4 tV DY BG HC DI JH DO JI JO KC EB CI OS AV HI RJ DV UA KL EF BU ON Gh HL Cq US Ap WH CN CW OE Bh KM PK Kx Hb Fw Mi LU SL sX Mo VM Lz zD Si Uu Ud Ss pA;simp[h,Fj];exact hp)) _
def d4Gp:List AVal->Heap->Option (MGp×List (Nat×Nat)×List Nat)
 |[y,.fn _ [.d x] _],H=>match xY y H with
  |some (n,g,f)=>some (⟨dLn x,WA n λi=>gJ (g i)⟩,[],f)
  |none=>none
 |_,_=>none
def A4Gp:Ann:={ ann 9 [(AXN,C3Gp.spec d3Gp)] with E:=[] }
def C4Gp:Ctr:={ ro:=[],α:=MGp,xs:=λa=>[.d (KD a.l),fvGp a.q],L:=λa=>[],val:=λa=>.bool (a.l.all λx=>WE a.q x),keep:=λa=>[],pre:=PGp }
def V4Gp(a:MGp):Prop:=AX Try.prog A4Gp F_eG (AF F_eG) (C4Gp.xs a) (AC (C4Gp.L a)) (C4Gp.val a) (C4Gp.keep a) [] []
abbrev G5:=@List.all Gau
abbrev Bt a b:=LI a (not b)
abbrev Zm a b:=G5 a (λi=>WE b i)
attribute [go_sem] G5 Bt Zm
theorem CQL(a:MGp):(V4Gp a)=(And (HL (CN (QH a)) (CW (QH a)) (Lz a) (tV (Mo a) (Uu a) (Ud a) (AJ (Lz a)) (Mo a) (VM (QH a)) (TA (λi=>WH i (pA a) (Kx (LU (nF a)) i))))) (Bt (Zm (QH a) (nF a)) (SL (λi=>zD a (pA a) i) (BP (pA a))))):=by kernel_rfl
theorem CRN:AH Try.prog n_eG (C4Gp.spec d4Gp):=Ctr.spec_ok (C:=C4Gp) (λ(a:MGp) h=>Dy (A:=A4Gp) (ren:=[]) (fz:=[]) CJY (by kernel_rfl) (AA CQY AD) (by
 have h':a.l.length<4611686018427387904/\(∀x∈a.l,(PO a.q/\Ht x)):=h
 show V4Gp a;rw[CQL]<;> delta LI N4 KA LV JY LL HV GZ JJ AK AN AE BA BN DC ER BP GU QH nF TA G5 AG AI AO AJ QM AS CM BB M4 tV DY BG HC DI JH DO JI JO KC EB CI OS AV HI RJ DV UA KL EF BU ON Gh HL Cq US Ap WH CN CW OE Bh Zm KM PK Kx Hb Fw Mi LU SL sX Mo VM Lz zD Uu Ud Bt pA;simp only[CC,CU,ge_iff_le]
 rw[<-mY]
 exact⟨h',rfl⟩)) _
def fvLr(q:One):AVal:=.fn (.func AIL) [] []
def BLr(q:One):AObj:=.box [fvLr q]
structure ELr where
 q:One
 e:Ln
structure MLr where
 q:One
 l:List Ln
def C1Lr:Ctr:={ ro:=[100],α:=ELr,xs:=λa=>[.d (eLn a.e),.bptr 100 0],L:=λa=>(100,BLr a.q) :: [],val:=λa=>.bool (!Ww a.e),keep:=λa=>(100,.live (BLr a.q)) :: [] }
def d1Lr:List AVal->Heap->Option (ELr×List (Nat×Nat)×List Nat)
 |[.d d,.bptr id _],H=>some (⟨default,dLn d⟩,[(100,id)],[])
 |_,_=>none
def A1Lr:Ann:={ ann 8 [(AIL,AVU)] with E:=[100] }
def V1Lr(a:ELr):Prop:=AX Try.prog A1Lr BUV (AF BUV) (C1Lr.xs a) (AC (C1Lr.L a)) (C1Lr.val a) (C1Lr.keep a) [] []
theorem CRR(a:ELr):(V1Lr a)=(Dm (Ww (ELr.e a))):=by kernel_rfl
theorem CQD:AH Try.prog AVB (C1Lr.spec d1Lr):=PU C1Lr (λ_=>A1Lr) [] [] CLC (λ_=>by kernel_rfl) (λ_=>AA X2 AD) (λ(a:ELr) h=>by
 show V1Lr a;rw[CRR]<;> delta LI DF Dm;try simp[wr,Fj]) (λ_=>RU rfl rfl) _
def d2Lr:List AVal->Heap->Option (MLr×List (Nat×Nat)×List Nat)
 |[y,.fn _ _ [.bptr id _]],H=>match xY y H with
  |some (n,g,f)=>some (⟨default,WA n λi=>dLn (g i)⟩,[(100,id)],f)
  |none=>none
 |_,_=>none
def A2Lr(a:MLr):Ann:={ ann 19 [(AVB,C1Lr.spec d1Lr)] with E:=[100],loops:=λid=>if id=2 then some [{ α:=Nat,dflt:=0,T:=λk=>⟨[(0,.d (K4 a.l)),(1,.fn (.func AVB) [] [.bptr 100 0]),(7,.int a.l.length),(8,.int k)],(100,.live (BLr a.q)) :: []⟩,inv:=λk=>k<=a.l.length/\aT (λi=>!Ww (gD a.l i)) a.l.length 0=aT (λi=>!Ww (gD a.l i)) (a.l.length-k) k,meas:=λk=>a.l.length-k }] else none }
def PLr(a:MLr):List Prop:=[a.l.length<4611686018427387904/\True]
def C2Lr:Ctr:={ ro:=[100],α:=MLr,xs:=λa=>[.d (K4 a.l),.fn (.func AVB) [] [.bptr 100 0]],L:=λa=>(100,BLr a.q) :: [],val:=λa=>.int (aT (λi=>!Ww (gD a.l i)) a.l.length 0),keep:=λa=>(100,.live (BLr a.q)) :: [],pre:=PLr }
def V2Lr(a:MLr):Prop:=AX Try.prog (A2Lr a) BVP (AF BVP) (C2Lr.xs a) (AC (C2Lr.L a)) (C2Lr.val a) (C2Lr.keep a) [] []
abbrev HT:=@List.length Ln
abbrev Hy:=MLr.l
abbrev LH:=@gD Ln instInhabitedLn
abbrev OX a:=HT (Hy a)
abbrev zC a b:=Ww (LH a b)
abbrev Sm a b:=zC (Hy a) b
abbrev Li a b c d:=HL a b (BH c) d
abbrev IG a b c d:=AO a b (And c d)
abbrev PS a b c d:=IG a b (AJ c) d
abbrev rN a b c d e:=PS a b (LL c) (MK (HV c) d e)
abbrev EP a b:=JJ (LH a b)
abbrev EQ a b:=GZ (LH a b)
abbrev Gg a b c:=rN a b (LH c a) (EQ c a) (EP c a)
abbrev YB a b:=AE (λi=>Gg i a b)
abbrev EU a b:=HV (LH a b)
abbrev XU a b:=LL (LH a b)
attribute [go_sem] HT Hy LH OX zC Sm Li IG PS rN EP EQ Gg YB EU XU
theorem CTM(a:MLr):(V2Lr a)=(TS (λi=>FG (Li (AR (OX a)) (YB (OX a) (Hy a)) (OX a) (BD i)) i (OX a) (XB (λj=>Sm a j) (OX a) (λj=>Sm a j) (KE (OX a) i) i)) (λi=>UO (CJ i (OX a) (XB (λj=>Sm a j) (OX a) (λj=>Sm a j) (KE (OX a) i) i)) i (OX a) (Dk (BE i (OX a)) (XU (Hy a) i) (AJ (EU (Hy a) i)) (AJ (EQ (Hy a) i)) (AJ (EP (Hy a) i))) (not (Sm a i)) (Lx (λj=>Sm a j) (OX a) (BH i)) (CG (λj=>FB (Li (AR (OX a)) (YB (OX a) (Hy a)) (OX a) (AU j i)) (CJ j (OX a) (XB (λk=>Sm a k) (OX a) (λk=>Sm a k) (KE (OX a) j) j)) (OX a) j i)) (Lx (λj=>Sm a j) (OX a) (-1)))):=by kernel_rfl
theorem p2Lr(a:MLr)(h:CR (PLr a)):V2Lr a:=by
 obtain⟨h,hp⟩:a.l.length<4611686018427387904/\True:=h
 rw[CTM]<;> delta LL HV GZ JJ NX EZ AK AN AE BA BN BH CV DC ER NC TD KE CG HT Hy LH CS AG AI AO AJ AR CM HZ IG BG DK MK GJ EP PS EB DR EQ EX FP EV EU rN DT JD AU EY BE HX CJ LA HH Gh HL BD HF FG Dk Bh SA TM FB OX UO Lx Gg XU YB XB zC TS Sm Li
 simp only[CC,CU]
 refine⟨⟨0,rfl,Nat.zero_le _,rfl⟩,λk ⟨h1,h2⟩=>⟨λhlt=>?_,λhge=>?_⟩⟩
 ·have hlt:k<a.l.length:=by omega
  refine⟨⟨by omega,by omega⟩,λhp=>?_,λhp=>⟨k+1,(GH (by omega)).symm,⟨by omega,?_⟩,by omega⟩⟩
  ·rw[h2];exact mS hlt (by simpa using hp)
  ·rw[h2];exact P8 hlt (by simpa using hp)
 ·rw[h2];exact wW (by omega)
theorem CSN:AH Try.prog BUG (C2Lr.spec d2Lr):=PU C2Lr A2Lr [] [] COK (λ_=>by kernel_rfl) (λ_=>AA CQD AD) p2Lr (λ_=>RU rfl rfl) _
def C3Lr:Ctr:={ C2Lr with val:=λ(a:MLr)=>.bool (decide (aT (λi=>!Ww (gD a.l i)) a.l.length 0>=0)) }
def d3Lr:List AVal->Heap->Option (C3Lr.α×List (Nat×Nat)×List Nat):=d2Lr
def A3Lr:Ann:={ ann 9 [(BUG,C2Lr.spec d2Lr)] with E:=[100] }
def V3Lr(a:MLr):Prop:=AX Try.prog A3Lr BNK (AF BNK) (C3Lr.xs a) (AC (C3Lr.L a)) (C3Lr.val a) (C3Lr.keep a) [] []
abbrev pW a(b:Nat->Ln):=(@WA Ln) (HT a) b
abbrev jA a:=pW a (λi=>LH a i)
abbrev Qs a:=jA (Hy a)
abbrev dD a:=HT (Qs a)
abbrev HP a:=BN a 4611686018427387904
abbrev FH a b c d e f g h p:=IG a b c (KC d e f g h p)
abbrev HQ a b:=UG a (LL b)
abbrev Dr a b c:=HQ (LH a b) c
abbrev XE a b c d:=Dr a b (LH c d)
abbrev NS a b c:=XE a b c b
attribute [go_sem] pW jA Qs dD HP FH HQ Dr XE NS
theorem CRD(a:MLr):(V3Lr a)=(And (QL (AN (dD a) (OX a)) (AE (λi=>FH i (dD a) (NS (Qs a) i (Hy a)) (EU (Qs a) i) (EU (Hy a) i) (EQ (Qs a) i) (EQ (Hy a) i) (EP (Qs a) i) (EP (Hy a) i))) (HP (dD a))) (LI (SL (λi=>Sm a i) (OX a)) (SL (λi=>zC (Qs a) i) (dD a)))):=by kernel_rfl
theorem CST:AH Try.prog BXF (C3Lr.spec d3Lr):=Ctr.spec_ok (C:=C3Lr) (λ(a:MLr) h=>Dy (A:=A3Lr) (ren:=[]) (fz:=[]) COS (by kernel_rfl) (AA CSN AD) (by
 obtain⟨h,hp⟩:a.l.length<4611686018427387904/\True:=h
 show V3Lr a;rw[CRD]<;> delta LI N4 LL HV GZ JJ AK AN AE BA BN FT HT Hy LH AG AO IG HC AQ EP JO KC EQ EU UG FH HQ pW jA Gh Dr XE Bh NS OX HP Qs QL Mi SL zC Sm dD;simp[h,Fj])) _
def d4Lr:List AVal->Heap->Option (MLr×List (Nat×Nat)×List Nat)
 |[y,.fn _ _ _],H=>match xY y H with
  |some (n,g,f)=>some (⟨default,WA n λi=>dLn (g i)⟩,[],f)
  |none=>none
 |_,_=>none
def A4Lr:Ann:={ ann 9 [(BXF,C3Lr.spec d3Lr)] with E:=[] }
def C4Lr:Ctr:={ ro:=[],α:=MLr,xs:=λa=>[.d (K4 a.l),fvLr a.q],L:=λa=>[],val:=λa=>.bool (a.l.all λx=>Ww x),keep:=λa=>[],pre:=PLr }
def V4Lr(a:MLr):Prop:=AX Try.prog A4Lr F_eL (AF F_eL) (C4Lr.xs a) (AC (C4Lr.L a)) (C4Lr.val a) (C4Lr.keep a) [] []
theorem CTA(a:MLr):(V4Lr a)=(And (QL (AN (dD a) (OX a)) (AE (λi=>FH i (dD a) (NS (Qs a) i (Hy a)) (EU (Qs a) i) (EU (Hy a) i) (EQ (Qs a) i) (EQ (Hy a) i) (EP (Qs a) i) (EP (Hy a) i))) (HP (dD a))) (Bt ((@List.all Ln) (Hy a) Ww) (SL (λi=>zC (Qs a) i) (dD a)))):=by kernel_rfl
theorem CQC:AH Try.prog n_eL (C4Lr.spec d4Lr):=Ctr.spec_ok (C:=C4Lr) (λ(a:MLr) h=>Dy (A:=A4Lr) (ren:=[]) (fz:=[]) CRP (by kernel_rfl) (AA CST AD) (by
 have h':a.l.length<4611686018427387904/\True:=h
 show V4Lr a;rw[CTA]<;> delta LI N4 LL HV GZ JJ AK AN AE BA BN FT HT Hy LH AG AO IG HC AQ EP JO KC EQ EU UG FH HQ pW jA Gh Dr XE Bh NS OX HP Qs QL Mi SL zC Bt dD;simp only[CC,CU,ge_iff_le]
 rw[<-mY]
 exact⟨h'.1,rfl⟩)) _
def LXIn(q:List Gau):List (Nat×AObj):=[(101,.box [.d (KD q)])]
def KXIn(q:List Gau):List (Nat×HCell):=[(101,.live (.box [.d (KD q)]))]
def fvIn(q:List Gau):AVal:=.fn (.func H6) [] [.bptr 101 0]
def BIn(q:List Gau):AObj:=.box [fvIn q]
structure EIn where
 q:List Gau
 e:Int
structure MIn where
 q:List Gau
 l:List Int
def C1In:Ctr:={ ro:=[100,101],α:=EIn,xs:=λa=>[.d (ES a.e),.bptr 100 0],L:=λa=>(100,BIn a.q) :: LXIn a.q,val:=λa=>.bool (!MN a.e 0 (wr (a.q.length-1))),keep:=λa=>(100,.live (BIn a.q)) :: KXIn a.q }
def d1In:List AVal->Heap->Option (EIn×List (Nat×Nat)×List Nat)
 |[.d d,.bptr id _],H=>match H id with
  | .live (.box [.fn _ _ [.bptr j _]])=>match H j with
   | .live (.box [.d (.list _ m h _)])=>some (⟨WA m λi=>gJ (h i),LR d⟩,[(100,id),(101,j)],[])
   |_=>none
  |_=>none
 |_,_=>none
def A1In:Ann:={ ann 8 [(H6,C_nm1.spec CJB)] with E:=[100,101] }
def V1In(a:EIn):Prop:=AX Try.prog A1In BYG (AF BYG) (C1In.xs a) (AC (C1In.L a)) (C1In.val a) (C1In.keep a) [] []
abbrev rP:=EIn.q
attribute [go_sem] rP
theorem CTO(a:EIn):(V1In a)=(AQ (AI (AJ (EIn.e a)) (CN (rP a)) (CW (rP a)) (CI (rP a) (BB (rP a))) (BU (rP a) (BB (rP a)))) (Bt (not (Ts (EIn.e a) (rP a))) (Ts (EIn.e a) (BB (rP a)))) (BW (rP a)) (BX (rP a))):=by kernel_rfl
theorem CTQ:AH Try.prog AVX (C1In.spec d1In):=PU C1In (λ_=>A1In) [] [] CMW (λ_=>by kernel_rfl) (λ_=>AA CMH AD) (λ(a:EIn) h=>by
 show V1In a;rw[CTO]<;> delta LI KA LV JY AK AN AE BA BN BH No BP GU rP AG AI AO AJ AR QM CM BB DY HZ HC BW DI MK JH DO VT AQ JI JO KC CI OS ZQ ME DV KL EF BU BX CN CW FC QB Ts Bt;try simp[wr,Fj]) (λ_=>RU rfl rfl) _
def d2In:List AVal->Heap->Option (MIn×List (Nat×Nat)×List Nat)
 |[y,.fn _ _ [.bptr id _]],H=>match xY y H with
  |some (n,g,f)=>match H id with
   | .live (.box [.fn _ _ [.bptr j _]])=>match H j with
    | .live (.box [.d (.list _ m h _)])=>some (⟨WA m λi=>gJ (h i),WA n λi=>LR (g i)⟩,[(100,id),(101,j)],f)
    |_=>none
   |_=>none
  |none=>none
 |_,_=>none
def A2In(a:MIn):Ann:={ ann 19 [(AVX,C1In.spec d1In)] with E:=[100,101],loops:=λid=>if id=2 then some [{ α:=Nat,dflt:=0,T:=λk=>⟨[(0,.d (IM a.l)),(1,.fn (.func AVX) [] [.bptr 100 0]),(7,.int a.l.length),(8,.int k)],(100,.live (BIn a.q)) :: KXIn a.q⟩,inv:=λk=>k<=a.l.length/\aT (λi=>!MN (gD a.l i) 0 (wr (a.q.length-1))) a.l.length 0=aT (λi=>!MN (gD a.l i) 0 (wr (a.q.length-1))) (a.l.length-k) k,meas:=λk=>a.l.length-k }] else none }
def PIn(a:MIn):List Prop:=[a.l.length<4611686018427387904/\True]
def C2In:Ctr:={ ro:=[100,101],α:=MIn,xs:=λa=>[.d (IM a.l),.fn (.func AVX) [] [.bptr 100 0]],L:=λa=>(100,BIn a.q) :: LXIn a.q,val:=λa=>.int (aT (λi=>!MN (gD a.l i) 0 (wr (a.q.length-1))) a.l.length 0),keep:=λa=>(100,.live (BIn a.q)) :: KXIn a.q,pre:=PIn }
def V2In(a:MIn):Prop:=AX Try.prog (A2In a) BRR (AF BRR) (C2In.xs a) (AC (C2In.L a)) (C2In.val a) (C2In.keep a) [] []
abbrev Fb:=MIn.l
abbrev Jx:=MIn.q
abbrev iN a:=BX (Jx a)
abbrev iZ a:=BW (Jx a)
abbrev Dl a:=FI (Fb a)
abbrev zI a b c:=Ts (IQ a b) c
abbrev AKC a b c:=zI (Fb a) b c
abbrev aI a b c:=AKC a b (Jx c)
abbrev Ta a:=BB (Jx a)
attribute [go_sem] Fb Jx iN iZ Dl zI AKC aI Ta
theorem CTN(a:MIn):(V2In a)=(TS (λi=>FG (AV (HS (Fb a)) (EG (Fb a)) (PC (Fb a)) (BD i) (iZ a) (iN a)) i (Dl a) (XB (λj=>aI a j a) (Dl a) (λj=>aI a j a) (KE (Dl a) i) i)) (λi=>UO (CJ i (Dl a) (XB (λj=>aI a j a) (Dl a) (λj=>aI a j a) (KE (Dl a) i) i)) i (Dl a) (AV (BE i (Dl a)) (AJ (IQ (Fb a) i)) (CN (Jx a)) (CW (Jx a)) (CI (Jx a) (Ta a)) (BU (Jx a) (Ta a))) (not (AKC a i (Ta a))) (HC (Bh (λj=>aI a j a) (Dl a)) (BH i) (iZ a) (iN a)) (CG (λj=>FB (AV (HS (Fb a)) (EG (Fb a)) (PC (Fb a)) (AU j i) (iZ a) (iN a)) (CJ j (Dl a) (XB (λk=>aI a k a) (Dl a) (λk=>aI a k a) (KE (Dl a) j) j)) (Dl a) j i)) (HC (Bh (λj=>aI a j a) (Dl a)) (-1) (iZ a) (iN a)))):=by kernel_rfl
theorem p2In(a:MIn)(h:CR (PIn a)):V2In a:=by
 obtain⟨h,hp⟩:a.l.length<4611686018427387904/\True:=h
 rw[CTN]<;> delta KA LV JY NX EZ AK AN FI AE BA BN IQ BH CV DC ER NC TD KE No CG BP GU Fb Jx CS AG AI AO AJ AR QM CM BB DY HZ BG HC BW DK DI MK JH DO GJ VT HD JI JO KC EJ EB DR EX HS CI OS FP EV AV DT ZQ Mz JD AU EY PI ME DV BE EG HX CJ KL EF LA BU HH Gh BX BD HF CN CW FG FC Bh SA QB TM FB UO PC Lx Dl Ts XB zI TS Ta AKC aI iZ iN
 simp only[CC,CU]
 refine⟨⟨0,rfl,Nat.zero_le _,rfl⟩,λk ⟨h1,h2⟩=>⟨λhlt=>?_,λhge=>?_⟩⟩
 ·have hlt:k<a.l.length:=by omega
  refine⟨⟨by omega,by omega⟩,λhp=>?_,λhp=>⟨k+1,(GH (by omega)).symm,⟨by omega,?_⟩,by omega⟩⟩
  ·rw[h2];exact mS hlt (by simpa using hp)
  ·rw[h2];exact P8 hlt (by simpa using hp)
 ·rw[h2];exact wW (by omega)
theorem CRV:AH Try.prog BWR (C2In.spec d2In):=PU C2In A2In [] [] CMZ (λ_=>by kernel_rfl) (λ_=>AA CTQ AD) p2In (λ_=>RU rfl rfl) _
def C3In:Ctr:={ C2In with val:=λ(a:MIn)=>.bool (decide (aT (λi=>!MN (gD a.l i) 0 (wr (a.q.length-1))) a.l.length 0>=0)) }
def d3In:List AVal->Heap->Option (C3In.α×List (Nat×Nat)×List Nat):=d2In
def A3In:Ann:={ ann 9 [(BWR,C2In.spec d2In)] with E:=[100,101] }
def V3In(a:MIn):Prop:=AX Try.prog A3In BVQ (AF BVQ) (C3In.xs a) (AC (C3In.L a)) (C3In.val a) (C3In.keep a) [] []
abbrev VW a b(c:Nat->Nat):=Ff a (λi=>IQ b (c i))
abbrev EL a:=VW (FI a) a (λi=>i)
abbrev JR a:=FI (EL a)
abbrev He a:=HP (JR a)
abbrev NK a b c d:=MM a b (IQ c d)
abbrev RR a b c:=NK a b c b
abbrev IY a b c d e:=HD a b (RR c d e)
abbrev IA a b c:=IY a b b a c
abbrev BQ a b:=AE (λi=>IA i a b)
abbrev GX a:=BQ (EL a) a
abbrev BK a b:=GM a (FI b)
abbrev HJ a:=BK (EL a) a
attribute [go_sem] VW EL JR He NK RR IY IA BQ GX BK HJ
theorem CTR(a:MIn):(V3In a)=(AQ (AQ (HJ (Fb a)) (GX (Fb a)) (CN (Jx a)) (AI (CW (Jx a)) (CI (Jx a) (Ta a)) (BU (Jx a) (Ta a)) (He (Fb a)) FT)) (LI (SL (λi=>aI a i a) (Dl a)) (SL (λi=>zI (EL (Fb a)) i (Ta a)) (JR (Fb a)))) (iZ a) (iN a)):=by kernel_rfl
theorem CSB:AH Try.prog BNW (C3In.spec d3In):=Ctr.spec_ok (C:=C3In) (λ(a:MIn) h=>Dy (A:=A3In) (ren:=[]) (fz:=[]) CMC (by kernel_rfl) (AA CRV AD) (by
 obtain⟨h,hp⟩:a.l.length<4611686018427387904/\True:=h
 show V3In a;rw[CTR]<;> delta LI N4 KA LV JY AK AN FI AE BA BN IQ BH Ff No FT BP GU Fb Jx AG AI AO AJ AR VW QM CM EL BB DY HZ HC BW DI MK JH DO VT HD AQ JI JO KC MM CI OS NK GM RR ZQ BK IY IA ME DV KL EF BQ BU Gh BX CN CW FC JR Bh QB HJ GX HP Dl Mi Ts SL zI Ta AKC He aI iZ iN;simp[h,Fj])) _
def d4In:List AVal->Heap->Option (MIn×List (Nat×Nat)×List Nat)
 |[y,.fn _ _ [.bptr j _]],H=>match xY y H with
  |some (n,g,f)=>match H j with
   | .live (.box [.d (.list _ m h _)])=>some (⟨WA m λi=>gJ (h i),WA n λi=>LR (g i)⟩,[(101,j)],f)
   |_=>none
  |none=>none
 |_,_=>none
def A4In:Ann:={ ann 9 [(BNW,C3In.spec d3In)] with E:=[101] }
def C4In:Ctr:={ ro:=[101],α:=MIn,xs:=λa=>[.d (IM a.l),fvIn a.q],L:=λa=>LXIn a.q,val:=λa=>.bool (a.l.all λx=>MN x 0 (wr (a.q.length-1))),keep:=λa=>KXIn a.q,pre:=PIn }
def V4In(a:MIn):Prop:=AX Try.prog A4In F_eI (AF F_eI) (C4In.xs a) (AC (C4In.L a)) (C4In.val a) (C4In.keep a) [] []
abbrev AXM:=@List.all Int
attribute [go_sem] AXM
theorem CTP(a:MIn):(V4In a)=(AQ (AQ (HJ (Fb a)) (GX (Fb a)) (CN (Jx a)) (AI (CW (Jx a)) (CI (Jx a) (Ta a)) (BU (Jx a) (Ta a)) (He (Fb a)) FT)) (Bt (AXM (Fb a) (λi=>Ts i (Jx a))) (SL (λi=>zI (EL (Fb a)) i (Ta a)) (JR (Fb a)))) (iZ a) (iN a)):=by kernel_rfl
theorem CRJ:AH Try.prog n_eI (C4In.spec d4In):=Ctr.spec_ok (C:=C4In) (λ(a:MIn) h=>Dy (A:=A4In) (ren:=[]) (fz:=[]) CSS (by kernel_rfl) (AA CSB AD) (by
 have h':a.l.length<4611686018427387904/\True:=h
 show V4In a;rw[CTP]<;> delta LI N4 KA LV JY AK AN FI AE BA BN IQ BH Ff No FT BP GU Fb Jx AXM AG AI AO AJ AR VW QM CM EL BB DY HZ HC BW DI MK JH DO VT HD AQ JI JO KC MM CI OS NK GM RR ZQ BK IY IA ME DV KL EF BQ BU Gh BX CN CW FC JR Bh QB HJ GX HP Mi Ts SL zI Ta Bt He iZ iN;simp only[CC,CU,ge_iff_le]
 rw[<-mY]
 exact⟨h'.1,rfl⟩)) _
end Go.Bal
