/- Package rating: every. Printed by genratE.py. -/
import Derived.Test.YtbmlgdlbffmjjaaGreatRatA
import Derived.Test.YtbmlgdlbffmjjaaGreatGaA
set_option linter.unusedVariables false
set_option linter.unusedSimpArgs false
namespace Go.Bal
open Go Go.Sym Go.Proofs
def allB(p:Nat->Bool):Nat->Bool
 |0=>true
 |n+1=>allB p n&&p n
theorem AKQ{p:Nat->Bool}:∀{n:Nat},allB p n=true↔∀i,i<n->p i=true
 |0=>by simp[allB]
 |n+1=>by
  simp only[allB,Bool.and_eq_true,AKQ (n:=n)]
  constructor
  ·intro h i hi
   by_cases he:i=n
   ·subst he;exact h.2
   ·exact h.1 i (by omega)
  ·exact λh=>⟨λi hi=>h i (by omega),h n (by omega)⟩
theorem AZQ{p:Nat->Bool}:∀{n k:Nat},(0<=aX p n k)↔∃i,k<=i/\i<k+n/\p i=true
 |0,k=>by simp[aX];omega
 |n+1,k=>by
  simp only[aX]
  by_cases h:p k=true
  ·rw[if_pos h]
   constructor
   ·intro _;exact⟨k,Nat.le_refl _,by omega,h⟩
   ·intro _;omega
  ·rw[if_neg h,AZQ (n:=n) (k:=k+1)]
   constructor
   ·rintro⟨i,h1,h2,h3⟩;exact⟨i,by omega,by omega,h3⟩
   ·rintro⟨i,h1,h2,h3⟩
    refine⟨i,?_,by omega,h3⟩
    by_cases he:i=k
    ·subst he;exact absurd h3 h
    ·omega
theorem BUN{p:Nat->Bool}{n:Nat}:(!decide (0<=aX (λi=>!p i) n 0))=allB p n:=by
 rw[Bool.eq_iff_iff,AKQ]
 simp only[Bool.not_eq_true',decide_eq_false_iff_not,AZQ,Nat.zero_le,Nat.zero_add,true_and]
 constructor
 ·intro h i hi
  cases hp:p i with
  |true=>rfl
  |false=>exact (h ⟨i,hi,by simp[hp]⟩).elim
 ·rintro h ⟨i,hi,hp⟩
  rw[h i hi] at hp;cases hp
theorem nH{α:Type}[Inhabited α]{p:α->Bool}{l:List α}:(!decide (0<=aX (λi=>!p (gD l i)) l.length 0))=l.all p:=by
 rw[BUN,Bool.eq_iff_iff,AKQ,List.all_eq_true]
 exact⟨λh x hx=>by obtain⟨i,hi,rfl⟩:=pK hx;exact h i hi,λh i hi=>h _ (MH hi)⟩
structure LInt where
 q:List Gau
 e:Int
def C_nm1:Ctr:={ ro:=[101],α:=LInt,xs:=λa=>[.int a.e,.bptr 101 0],L:=λa=>[(101,.box [.d (KB a.q)])],val:=λa=>.bool (MN a.e 0 (wr (a.q.length-1))),keep:=λa=>[(101,.live (.box [.d (KB a.q)]))] }
def CHU:List AVal->Heap->Option (LInt×List (Nat×Nat)×List Nat)
 |[.d d,.bptr id _],H=>match H id with
  | .live (.box [.d (.list _ n g _)])=>some (⟨VZ n λi=>gH (g i),LO d⟩,[(101,id)],[])
  |_=>none
 |_,_=>none
def CJN:Ann:={ ann 9 [(n_in,Fh)] with E:=[101] }
def CHV(a:LInt):Prop:=AX Try.prog CJN AIT (AF AIT) (C_nm1.xs a) (AC (C_nm1.L a)) (C_nm1.val a) (C_nm1.keep a) [] []
abbrev BP:=@List.length Gau
abbrev GU:=@gD Gau instInhabitedGau
abbrev JG a b c:=AO a (BP b) c
abbrev HY a b c:=CM a b (AJ c)
abbrev MM a b c:=HY (AJ a) b c
abbrev VT a b c d e:=JG a b (MM c d e)
abbrev DF a b:=JZ (GU a b)
abbrev DK a b:=LX (GU a b)
abbrev DW a b:=KA (GU a b)
abbrev Ab a b c d:=VT a b (DW c d) (DK b a) (DF b a)
abbrev MG a b:=Ab a b b a
abbrev BX a:=AE (λi=>MG i a)
abbrev BW a:=AR (BP a)
abbrev AAG a b:=IV (BH a) b
abbrev Qs a:=AAG a 1
abbrev QA a:=BH (BP a)
abbrev Vi a b:=FC a (wr (Nn (QA b) 1))
attribute [go_sem] BP GU JG HY MM VT DF DK DW Ab MG BX BW AAG Qs QA Vi
theorem CMK(a:LInt):(CHV a)=(AG (LI (Vi (LInt.e a) (LInt.q a)) (FC (LInt.e a) (Qs (BP (LInt.q a))))) (BW (LInt.q a)) (BX (LInt.q a))):=by kernel_rfl
theorem CLR:AH Try.prog L6 (C_nm1.spec CHU):=PU C_nm1 (λ_=>CJN) [] [] BKT (λ_=>by kernel_rfl) (λ_=>AA J6 AD) (λ(a:LInt) _=>by
 show CHV a;rw[CMK]<;> delta LI KA LX JZ AK AN AE BA BM BH NE Nn BP GU CS AG AO AJ AR IV CM DW HY AAG BW DF MM JG DK VT Ab MG BX FC QA Qs Vi;simp[wr,Gw]) (λ_=>RR rfl rfl) _
def fvGr(q:One):AVal:=.fn (.func BFV) [] []
def BGr(q:One):AObj:=.box [fvGr q]
structure EGr where
 q:One
 e:Gau
structure MGr where
 q:One
 l:List Gau
def C1Gr:Ctr:={ ro:=[100],α:=EGr,xs:=λa=>[.d (eGau a.e),.bptr 100 0],L:=λa=>(100,BGr a.q) :: [],val:=λa=>.bool (!riG a.e),keep:=λa=>(100,.live (BGr a.q)) :: [] }
def d1Gr:List AVal->Heap->Option (EGr×List (Nat×Nat)×List Nat)
 |[.d d,.bptr id _],H=>some (⟨default,gH d⟩,[(100,id)],[])
 |_,_=>none
def A1Gr:Ann:={ ann 8 [(BFV,CID)] with E:=[100] }
def V1Gr(a:EGr):Prop:=AX Try.prog A1Gr AVT (AF AVT) (C1Gr.xs a) (AC (C1Gr.L a)) (C1Gr.val a) (C1Gr.keep a) [] []
abbrev Eb a:=DR (not a)
attribute [go_sem] Eb
theorem CQE(a:EGr):(V1Gr a)=(Eb (riG (EGr.e a))):=by kernel_rfl
theorem CSV:AH Try.prog K9 (C1Gr.spec d1Gr):=PU C1Gr (λ_=>A1Gr) [] [] BXC (λ_=>by kernel_rfl) (λ_=>AA CNT AD) (λ(a:EGr) h=>by
 show V1Gr a;rw[CQE]<;> delta LI DR Eb;try simp[wr,Gw]) (λ_=>RR rfl rfl) _
def d2Gr:List AVal->Heap->Option (MGr×List (Nat×Nat)×List Nat)
 |[y,.fn _ _ [.bptr id _]],H=>match xZ y H with
  |some (n,g,f)=>some (⟨default,VZ n λi=>gH (g i)⟩,[(100,id)],f)
  |none=>none
 |_,_=>none
def A2Gr(a:MGr):Ann:={ ann 19 [(K9,C1Gr.spec d1Gr)] with E:=[100],loops:=λid=>if id=2 then some [{ α:=Nat,dflt:=0,T:=λk=>⟨[(0,.d (KB a.l)),(1,.fn (.func K9) [] [.bptr 100 0]),(7,.int a.l.length),(8,.int k)],(100,.live (BGr a.q)) :: []⟩,inv:=λk=>k<=a.l.length/\aX (λi=>!riG (gD a.l i)) a.l.length 0=aX (λi=>!riG (gD a.l i)) (a.l.length-k) k,meas:=λk=>a.l.length-k }] else none }
def PGr(a:MGr):List Prop:=[a.l.length<4611686018427387904/\True]
def C2Gr:Ctr:={ ro:=[100],α:=MGr,xs:=λa=>[.d (KB a.l),.fn (.func K9) [] [.bptr 100 0]],L:=λa=>(100,BGr a.q) :: [],val:=λa=>.int (aX (λi=>!riG (gD a.l i)) a.l.length 0),keep:=λa=>(100,.live (BGr a.q)) :: [],pre:=PGr }
def V2Gr(a:MGr):Prop:=AX Try.prog (A2Gr a) AWT (AF AWT) (C2Gr.xs a) (AC (C2Gr.L a)) (C2Gr.val a) (C2Gr.keep a) [] []
abbrev Fa:=MGr.l
abbrev UT a b c d e f g h:=HE a b c d (FA e f g) h
abbrev Gr(a:Nat->Bool) b c:=aX (λi=>not (a i)) b c
abbrev Bu(a:Nat->Bool) b:=Gr a b 0
abbrev Kz(a:Nat->Bool) b c:=AK (Bu a b) c
abbrev Ul a:=BP (Fa a)
abbrev AGN a b:=riG (GU a b)
abbrev Vj a b:=AGN (Fa a) b
abbrev NM a b c d e f:=EV a (CJ b c d) e f
abbrev QU a b:=KJ (BP a) b
abbrev WZ(a:Nat->Bool) b(c:Nat->Bool) d e:=Kz a b (Gr c d e)
abbrev HF a b c d:=And a (CM b c d)
abbrev HH a b:=CW a (BP b)
attribute [go_sem] Fa UT Gr Bu Kz Ul AGN Vj NM QU WZ HF HH
theorem CQT(a:MGr):(V2Gr a)=(TU (λi=>AG (HF (BW (Fa a)) (BX (Fa a)) (QA (Fa a)) (BD i)) (HH i (Fa a)) (WZ (λj=>Vj a j) (Ul a) (λj=>Vj a j) (QU (Fa a) i) i)) (λi=>UT (CJ i (Ul a) (WZ (λj=>Vj a j) (Ul a) (λj=>Vj a j) (QU (Fa a) i) i)) i (Ul a) (And (BE i (Ul a)) (MM (DW (Fa a) i) (DK (Fa a) i) (DF (Fa a) i))) (not (Vj a i)) (Kz (λj=>Vj a j) (Ul a) (BH i)) (CG (λj=>NM (HF (BW (Fa a)) (BX (Fa a)) (QA (Fa a)) (AU j i)) j (Ul a) (WZ (λk=>Vj a k) (Ul a) (λk=>Vj a k) (QU (Fa a) j) j) (QU (Fa a) j) (QU (Fa a) i))) (Kz (λj=>Vj a j) (Ul a) (-1)))):=by kernel_rfl
theorem p2Gr(a:MGr)(h:CR (PGr a)):V2Gr a:=by
 obtain⟨h,hp⟩:a.l.length<4611686018427387904/\True:=h
 rw[CQT]<;> delta KA LX JZ NL FA AK AN AE BA BM BH CW DC ER NE TD KJ CG BP GU Fa CS AG AO AJ AR CM DW HY BF BW DN DF MM JG DK GH VT EA DG FB FP EV DT Ab JA AU EW QU MG BE IA CJ LB HK Gr HF BX HH BD HE Bu QA UT Kz NM WZ TU AGN Ul Vj
 simp only[CC,CU]
 refine⟨⟨0,rfl,Nat.zero_le _,rfl⟩,λk ⟨h1,h2⟩=>⟨λhlt=>?_,λhge=>?_⟩⟩
 ·have hlt:k<a.l.length:=by omega
  refine⟨⟨by omega,by omega⟩,λhp=>?_,λhp=>⟨k+1,(GJ (by omega)).symm,⟨by omega,?_⟩,by omega⟩⟩
  ·rw[h2];exact mO hlt (by simpa using hp)
  ·rw[h2];exact P9 hlt (by simpa using hp)
 ·rw[h2];exact xN (by omega)
theorem CRW:AH Try.prog AYV (C2Gr.spec d2Gr):=PU C2Gr A2Gr [] [] BZX (λ_=>by kernel_rfl) (λ_=>AA CSV AD) p2Gr (λ_=>RR rfl rfl) _
def C3Gr:Ctr:={ C2Gr with val:=λ(a:MGr)=>.bool (decide (aX (λi=>!riG (gD a.l i)) a.l.length 0>=0)) }
def d3Gr:List AVal->Heap->Option (C3Gr.α×List (Nat×Nat)×List Nat):=d2Gr
def A3Gr:Ann:={ ann 9 [(AYV,C2Gr.spec d2Gr)] with E:=[100] }
def V3Gr(a:MGr):Prop:=AX Try.prog A3Gr AZB (AF AZB) (C3Gr.xs a) (AC (C3Gr.L a)) (C3Gr.val a) (C3Gr.keep a) [] []
abbrev Lw a:=G4 a 0
abbrev SQ(a:Nat->Bool) b:=Lw (Bu a b)
abbrev QG a(b:Nat->Gau):=(@VZ Gau) (BP a) b
abbrev BB a:=QG a (λi=>GU a i)
abbrev PZ a b c:=AQ a b c FW
abbrev OT a b c d e f g h:=JG a b (KD c d e f g h)
abbrev DZ a b c d e:=OT a b (DW b a) c (DK b a) d (DF b a) e
abbrev KH a b c d e f:=DZ a b (DW c d) (DK c e) (DF c f)
abbrev EH a b c:=KH a b c a a a
abbrev BU a b:=AE (λi=>EH i a b)
abbrev CV a:=BU (BB a) a
abbrev JH a b:=AN (BP a) b
abbrev CI a b:=JH a (BP b)
abbrev CN a:=CI (BB a) a
abbrev SE a b:=PZ (CN a) (CV a) b
abbrev OC a b:=BM (BP a) b
abbrev OP a:=OC a 4611686018427387904
abbrev UQ a:=OP (BB a)
attribute [go_sem] Lw SQ QG BB PZ OT DZ KH EH BU CV JH CI CN SE OC OP UQ
theorem CRC(a:MGr):(V3Gr a)=(And (SE (Fa a) (UQ (Fa a))) (LI (SQ (λi=>Vj a i) (Ul a)) (SQ (λi=>AGN (BB (Fa a)) i) (BP (BB (Fa a)))))):=by kernel_rfl
theorem CSN:AH Try.prog AXG (C3Gr.spec d3Gr):=Ctr.spec_ok (C:=C3Gr) (λ(a:MGr) h=>Ee (A:=A3Gr) (ren:=[]) (fz:=[]) BRY (by kernel_rfl) (AA CRW AD) (by
 obtain⟨h,hp⟩:a.l.length<4611686018427387904/\True:=h
 show V3Gr a;rw[CRC]<;> delta LI G4 KA LX JZ AK AN AE BA BM FW BP GU Fa AG AO QG BB DW HB DF JG DK AQ JH JK KD CI OT DZ KH EH BU OC Gr CN CV OP Bu PZ Lw SQ UQ AGN Ul Vj SE;simp[h,Gw])) _
def d4Gr:List AVal->Heap->Option (MGr×List (Nat×Nat)×List Nat)
 |[y,.fn _ _ _],H=>match xZ y H with
  |some (n,g,f)=>some (⟨default,VZ n λi=>gH (g i)⟩,[],f)
  |none=>none
 |_,_=>none
def A4Gr:Ann:={ ann 9 [(AXG,C3Gr.spec d3Gr)] with E:=[] }
def C4Gr:Ctr:={ ro:=[],α:=MGr,xs:=λa=>[.d (KB a.l),fvGr a.q],L:=λa=>[],val:=λa=>.bool (a.l.all λx=>riG x),keep:=λa=>[],pre:=PGr }
def V4Gr(a:MGr):Prop:=AX Try.prog A4Gr F_eG (AF F_eG) (C4Gr.xs a) (AC (C4Gr.L a)) (C4Gr.val a) (C4Gr.keep a) [] []
theorem CRI(a:MGr):(V4Gr a)=(((VZ a.l.length λ(i:Nat)=>gD a.l i).length=a.l.length/\(∀(i:Nat),i<(VZ a.l.length λ(i:Nat)=>gD a.l i).length->(gD (VZ a.l.length λ(i:Nat)=>gD a.l i)
 i).st=(gD a.l i).st/\(gD (VZ a.l.length λ(i:Nat)=>gD a.l i) i).lo=(gD a.l i).lo/\(gD (VZ a.l.length λ(i:Nat)=>gD a.l i) i).hi=(gD a.l i).hi)/\(VZ a.l.length λ(i:Nat)=>gD a.l i).length <
 4611686018427387904/\True)/\(a.l.all λ(x:Gau)=>riG x)=!decide (aX (λ(i:Nat)=>!riG (gD (VZ a.l.length λ(i:Nat)=>gD a.l i) i)) (VZ a.l.length λ(i:Nat)=>gD a.l i).length 0>=0)):=by
 kernel_rfl
theorem CRT:AH Try.prog n_eG (C4Gr.spec d4Gr):=Ctr.spec_ok (C:=C4Gr) (λ(a:MGr) h=>Ee (A:=A4Gr) (ren:=[]) (fz:=[]) CJO (by kernel_rfl) (AA CSN AD) (by
 have h':a.l.length<4611686018427387904/\True:=h
 show V4Gr a;rw[CRI];simp only[CC,CU,ge_iff_le]
 rw[<-nH]
 exact⟨h'.1,rfl⟩)) _
def fvGp(q:Ln):AVal:=.fn (.func vC) [.d (eLn q)] []
def BGp(q:Ln):AObj:=.box [fvGp q]
structure EGp where
 q:Ln
 e:Gau
structure MGp where
 q:Ln
 l:List Gau
def C1Gp:Ctr:={ ro:=[100],α:=EGp,xs:=λa=>[.d (eGau a.e),.bptr 100 0],L:=λa=>(100,BGp a.q) :: [],val:=λa=>.bool (!VW a.q a.e),keep:=λa=>(100,.live (BGp a.q)) :: [],pre:=λa=>[(PT a.q/\Ho a.e)] }
def d1Gp:List AVal->Heap->Option (EGp×List (Nat×Nat)×List Nat)
 |[.d d,.bptr id _],H=>match H id with
  | .live (.box [.fn _ [.d x] _])=>some (⟨dLn x,gH d⟩,[(100,id)],[])
  |_=>none
 |_,_=>none
def A1Gp:Ann:={ ann 8 [(vC,ALH)] with E:=[100] }
def V1Gp(a:EGp):Prop:=AX Try.prog A1Gp AVT (AF AVT) (C1Gp.xs a) (AC (C1Gp.L a)) (C1Gp.val a) (C1Gp.keep a) [] []
abbrev AAR:=EGp.q
abbrev Hk a:=AJ (JJ a)
abbrev Fv a:=AJ (HV a)
abbrev Lj a b:=AV a (Ch b) (Bf b) (BF (LX b)) (DC (LX b) (JZ b)) (RB (JZ b))
attribute [go_sem] AAR Hk Fv Lj
theorem CQV(a:EGp):(V1Gp a)=(AV (Lj (LU (AAR a)) (EGp.e a)) (Eb (VW (AAR a) (EGp.e a))) (AJ (LQ (AAR a))) (Fv (AAR a)) (AJ (GZ (AAR a))) (Hk (AAR a))):=by kernel_rfl
theorem CRF:AH Try.prog K9 (C1Gp.spec d1Gp):=PU C1Gp (λ_=>A1Gp) [] [] BXC (λ_=>by kernel_rfl) (λ_=>AA ANI AD) (λ(a:EGp) h=>by
 show V1Gp a;rw[CQV]<;> delta LI KA LX JZ LQ HV GZ JJ AK DC ER AAR AG AI AJ DR BF EA AV HJ RB UC Bf UZ Ch KG PC Lj Fv Hk LU Eb;exact⟨h,by simp⟩) (λ_=>RR rfl rfl) _
def d2Gp:List AVal->Heap->Option (MGp×List (Nat×Nat)×List Nat)
 |[y,.fn _ _ [.bptr id _]],H=>match xZ y H with
  |some (n,g,f)=>match H id with
   | .live (.box [.fn _ [.d x] _])=>some (⟨dLn x,VZ n λi=>gH (g i)⟩,[(100,id)],f)
   |_=>none
  |none=>none
 |_,_=>none
def A2Gp(a:MGp):Ann:={ ann 19 [(K9,C1Gp.spec d1Gp)] with E:=[100],loops:=λid=>if id=2 then some [{ α:=Nat,dflt:=0,T:=λk=>⟨[(0,.d (KB a.l)),(1,.fn (.func K9) [] [.bptr 100 0]),(7,.int a.l.length),(8,.int k)],(100,.live (BGp a.q)) :: []⟩,inv:=λk=>k<=a.l.length/\aX (λi=>!VW a.q (gD a.l i)) a.l.length 0=aX (λi=>!VW a.q (gD a.l i)) (a.l.length-k) k,meas:=λk=>a.l.length-k }] else none }
def PGp(a:MGp):List Prop:=[a.l.length<4611686018427387904/\(∀x∈a.l,(PT a.q/\Ho x))]
def C2Gp:Ctr:={ ro:=[100],α:=MGp,xs:=λa=>[.d (KB a.l),.fn (.func K9) [] [.bptr 100 0]],L:=λa=>(100,BGp a.q) :: [],val:=λa=>.int (aX (λi=>!VW a.q (gD a.l i)) a.l.length 0),keep:=λa=>(100,.live (BGp a.q)) :: [],pre:=PGp }
def V2Gp(a:MGp):Prop:=AX Try.prog (A2Gp a) AWT (AF AWT) (C2Gp.xs a) (AC (C2Gp.L a)) (C2Gp.val a) (C2Gp.keep a) [] []
abbrev QO:=MGp.l
abbrev mW:=MGp.q
abbrev Di a b c d e:=AI a (AJ b) c d e
abbrev Sm a:=Hk (mW a)
abbrev Uw a:=AJ (GZ (mW a))
abbrev Le a:=Fv (mW a)
abbrev Mr a:=LQ (mW a)
abbrev Vb a:=BP (QO a)
abbrev vV a b c:=VW a (GU b c)
abbrev C2 a b c:=vV (mW a) b c
abbrev Tx a b c:=C2 a (QO b) c
abbrev AS a b c d e f g h p:=AI a b c d (AI e f g h p)
attribute [go_sem] QO mW Di Sm Uw Le Mr Vb vV C2 Tx AS
theorem CSH(a:MGp):(V2Gp a)=(TU (λi=>AG (HF (BW (QO a)) (BX (QO a)) (QA (QO a)) (Di (BD i) (Mr a) (Le a) (Uw a) (Sm a))) (HH i (QO a)) (WZ (λj=>Tx a a j) (Vb a) (λj=>Tx a a j) (QU (QO a) i) i)) (λi=>UT (CJ i (Vb a) (WZ (λj=>Tx a a j) (Vb a) (λj=>Tx a a j) (QU (QO a) i) i)) i (Vb a) (And (BE i (Vb a)) (AS (AJ (DW (QO a) i)) (AJ (DK (QO a) i)) (AJ (DF (QO a) i)) (AJ (Mr a)) (Le a) (Uw a) (Sm a) (AJ (Mr a)) (AS (Le a) (Uw a) (Sm a) (LU (mW a)) (BF (DW (QO a) i)) (HJ (DW (QO a) i)) (BF (DK (QO a) i)) (DC (DK (QO a) i) (DF (QO a) i)) (RB (DF (QO a) i))))) (not (Tx a a i)) (Di (Kz (λj=>Tx a a j) (Vb a) (BH i)) (Mr a) (Le a) (Uw a) (Sm a)) (CG (λj=>NM (HF (BW (QO a)) (BX (QO a)) (QA (QO a)) (Di (AU j i) (Mr a) (Le a) (Uw a) (Sm a))) j (Vb a) (WZ (λk=>Tx a a k) (Vb a) (λk=>Tx a a k) (QU (QO a) j) j) (QU (QO a) j) (QU (QO a) i))) (Di (Kz (λj=>Tx a a j) (Vb a) (-1)) (Mr a) (Le a) (Uw a) (Sm a)))):=by kernel_rfl
theorem p2Gp(a:MGp)(h:CR (PGp a)):V2Gp a:=by
 obtain⟨h,hp⟩:a.l.length<4611686018427387904/\(∀x∈a.l,(PT a.q/\Ho x)):=h
 rw[CSH]<;> delta KA LX JZ LQ HV GZ JJ NL FA AK AN AE BA BM BH CW DC ER NE TD KJ CG BP GU QO mW CS AG AI AO AJ AR AS CM DW HY BF BW DN DF MM JG DK GH VT EA DG FB FP EV DT Ab JA AU HJ EW QU RB MG BE IA CJ UC LB HK Gr HF BX UZ HH BD HE Di Bu QA KG PC UT Fv Kz NM Hk LU vV WZ Le Mr C2 TU Vb Uw Sm Tx
 simp only[CC,CU]
 refine⟨⟨0,rfl,Nat.zero_le _,rfl⟩,λk ⟨h1,h2⟩=>⟨λhlt=>?_,λhge=>?_⟩⟩
 ·have hlt:k<a.l.length:=by omega
  refine⟨⟨⟨by omega,by omega⟩,hp _ (MH hlt)⟩,λhp=>?_,λhp=>⟨k+1,(GJ (by omega)).symm,⟨by omega,?_⟩,by omega⟩⟩
  ·rw[h2];exact mO hlt (by simpa using hp)
  ·rw[h2];exact P9 hlt (by simpa using hp)
 ·rw[h2];exact xN (by omega)
theorem CTF:AH Try.prog AYV (C2Gp.spec d2Gp):=PU C2Gp A2Gp [] [] BZX (λ_=>by kernel_rfl) (λ_=>AA CRF AD) p2Gp (λ_=>RR rfl rfl) _
def C3Gp:Ctr:={ C2Gp with val:=λ(a:MGp)=>.bool (decide (aX (λi=>!VW a.q (gD a.l i)) a.l.length 0>=0)) }
def d3Gp:List AVal->Heap->Option (C3Gp.α×List (Nat×Nat)×List Nat):=d2Gp
def A3Gp:Ann:={ ann 9 [(AYV,C2Gp.spec d2Gp)] with E:=[100] }
def V3Gp(a:MGp):Prop:=AX Try.prog A3Gp AZB (AF AZB) (C3Gp.xs a) (AC (C3Gp.L a)) (C3Gp.val a) (C3Gp.keep a) [] []
abbrev SX:=λ(f:Gau->Prop)=>∀(x:Gau),f x
abbrev oF a:=BB (QO a)
abbrev M7 a b c d e f g h:=AS a b c d e f c g h
abbrev tT a b c d e f g:=M7 a b c d e b f g
abbrev XB a b c:=BA ((@List.Mem Gau) a b) c
attribute [go_sem] SX oF M7 tT XB
theorem CSI(a:MGp):(V3Gp a)=(AV (HF (CN (QO a)) (CV (QO a)) (Mr a) (tT (Le a) (Uw a) (Sm a) (AJ (Mr a)) (Le a) (UQ (QO a)) (SX (λi=>XB i (oF a) (Lj (LU (mW a)) i))))) (LI (SQ (λi=>Tx a a i) (Vb a)) (SQ (λi=>C2 a (oF a) i) (BP (oF a)))) (AJ (Mr a)) (Le a) (Uw a) (Sm a)):=by kernel_rfl
theorem CSM:AH Try.prog AXG (C3Gp.spec d3Gp):=Ctr.spec_ok (C:=C3Gp) (λ(a:MGp) h=>Ee (A:=A3Gp) (ren:=[]) (fz:=[]) BRY (by kernel_rfl) (AA CTF AD) (by
 obtain⟨h,hp⟩:a.l.length<4611686018427387904/\(∀x∈a.l,(PT a.q/\Ho x)):=h
 show V3Gp a;rw[CSI]<;> delta LI G4 KA LX JZ LQ HV GZ JJ AK AN AE BA BM DC ER BP GU QO mW SX AG AI AO AJ QG AS CM BB M7 tT DW BF HB DF JG DK JH JK KD EA CI OT AV HJ RB DZ UC KH EH BU OC Gr HF Bf UZ Ch XB CN CV OP Bu KG PC Lj Fv Hk Lw LU SQ vV Le UQ Mr C2 Vb Uw Sm Tx oF;simp[h,Gw];exact hp)) _
def d4Gp:List AVal->Heap->Option (MGp×List (Nat×Nat)×List Nat)
 |[y,.fn _ [.d x] _],H=>match xZ y H with
  |some (n,g,f)=>some (⟨dLn x,VZ n λi=>gH (g i)⟩,[],f)
  |none=>none
 |_,_=>none
def A4Gp:Ann:={ ann 9 [(AXG,C3Gp.spec d3Gp)] with E:=[] }
def C4Gp:Ctr:={ ro:=[],α:=MGp,xs:=λa=>[.d (KB a.l),fvGp a.q],L:=λa=>[],val:=λa=>.bool (a.l.all λx=>VW a.q x),keep:=λa=>[],pre:=PGp }
def V4Gp(a:MGp):Prop:=AX Try.prog A4Gp F_eG (AF F_eG) (C4Gp.xs a) (AC (C4Gp.L a)) (C4Gp.val a) (C4Gp.keep a) [] []
abbrev L9:=@List.all Gau
abbrev Am a b:=LI a (not b)
abbrev Yc a b:=L9 a (λi=>VW b i)
attribute [go_sem] L9 Am Yc
theorem CRX(a:MGp):(V4Gp a)=(And (HF (CN (QO a)) (CV (QO a)) (Mr a) (tT (Le a) (Uw a) (Sm a) (AJ (Mr a)) (Le a) (UQ (QO a)) (SX (λi=>XB i (oF a) (Lj (LU (mW a)) i))))) (Am (Yc (QO a) (mW a)) (SQ (λi=>C2 a (oF a) i) (BP (oF a))))):=by kernel_rfl
theorem CTU:AH Try.prog n_eG (C4Gp.spec d4Gp):=Ctr.spec_ok (C:=C4Gp) (λ(a:MGp) h=>Ee (A:=A4Gp) (ren:=[]) (fz:=[]) CJO (by kernel_rfl) (AA CSM AD) (by
 have h':a.l.length<4611686018427387904/\(∀x∈a.l,(PT a.q/\Ho x)):=h
 show V4Gp a;rw[CRX]<;> delta LI G4 KA LX JZ LQ HV GZ JJ AK AN AE BA BM DC ER BP GU QO mW SX L9 AG AI AO AJ QG AS CM BB M7 tT DW BF HB DF JG DK JH JK KD EA CI OT AV HJ RB DZ UC KH EH BU OC Gr HF Bf UZ Ch XB CN CV OP Bu Yc KG PC Lj Fv Hk Lw LU SQ vV Le UQ Mr C2 Uw Sm Am oF;simp only[CC,CU,ge_iff_le]
 rw[<-nH]
 exact⟨h',rfl⟩)) _
def fvLr(q:One):AVal:=.fn (.func AJF) [] []
def BLr(q:One):AObj:=.box [fvLr q]
structure ELr where
 q:One
 e:Ln
structure MLr where
 q:One
 l:List Ln
def C1Lr:Ctr:={ ro:=[100],α:=ELr,xs:=λa=>[.d (eLn a.e),.bptr 100 0],L:=λa=>(100,BLr a.q) :: [],val:=λa=>.bool (!Zc a.e),keep:=λa=>(100,.live (BLr a.q)) :: [] }
def d1Lr:List AVal->Heap->Option (ELr×List (Nat×Nat)×List Nat)
 |[.d d,.bptr id _],H=>some (⟨default,dLn d⟩,[(100,id)],[])
 |_,_=>none
def A1Lr:Ann:={ ann 8 [(AJF,AYK)] with E:=[100] }
def V1Lr(a:ELr):Prop:=AX Try.prog A1Lr BZF (AF BZF) (C1Lr.xs a) (AC (C1Lr.L a)) (C1Lr.val a) (C1Lr.keep a) [] []
theorem CQM(a:ELr):(V1Lr a)=(Eb (Zc (ELr.e a))):=by kernel_rfl
theorem CRO:AH Try.prog AZG (C1Lr.spec d1Lr):=PU C1Lr (λ_=>A1Lr) [] [] CNE (λ_=>by kernel_rfl) (λ_=>AA Y9 AD) (λ(a:ELr) h=>by
 show V1Lr a;rw[CQM]<;> delta LI DR Eb;try simp[wr,Gw]) (λ_=>RR rfl rfl) _
def d2Lr:List AVal->Heap->Option (MLr×List (Nat×Nat)×List Nat)
 |[y,.fn _ _ [.bptr id _]],H=>match xZ y H with
  |some (n,g,f)=>some (⟨default,VZ n λi=>dLn (g i)⟩,[(100,id)],f)
  |none=>none
 |_,_=>none
def A2Lr(a:MLr):Ann:={ ann 19 [(AZG,C1Lr.spec d1Lr)] with E:=[100],loops:=λid=>if id=2 then some [{ α:=Nat,dflt:=0,T:=λk=>⟨[(0,.d (N8 a.l)),(1,.fn (.func AZG) [] [.bptr 100 0]),(7,.int a.l.length),(8,.int k)],(100,.live (BLr a.q)) :: []⟩,inv:=λk=>k<=a.l.length/\aX (λi=>!Zc (gD a.l i)) a.l.length 0=aX (λi=>!Zc (gD a.l i)) (a.l.length-k) k,meas:=λk=>a.l.length-k }] else none }
def PLr(a:MLr):List Prop:=[a.l.length<4611686018427387904/\True]
def C2Lr:Ctr:={ ro:=[100],α:=MLr,xs:=λa=>[.d (N8 a.l),.fn (.func AZG) [] [.bptr 100 0]],L:=λa=>(100,BLr a.q) :: [],val:=λa=>.int (aX (λi=>!Zc (gD a.l i)) a.l.length 0),keep:=λa=>(100,.live (BLr a.q)) :: [],pre:=PLr }
def V2Lr(a:MLr):Prop:=AX Try.prog (A2Lr a) BSB (AF BSB) (C2Lr.xs a) (AC (C2Lr.L a)) (C2Lr.val a) (C2Lr.keep a) [] []
abbrev HR:=@List.length Ln
abbrev Ib:=MLr.l
abbrev LF:=@gD Ln instInhabitedLn
abbrev OW a:=HR (Ib a)
abbrev C5 a b:=Zc (LF a b)
abbrev Uq a b:=C5 (Ib a) b
abbrev Ma a b c d:=HF a b (BH c) d
abbrev IF a b c d:=AO a b (And c d)
abbrev PS a b c d:=IF a b (AJ c) d
abbrev rF a b c d e:=PS a b (LQ c) (MM (HV c) d e)
abbrev ES a b:=JJ (LF a b)
abbrev EQ a b:=GZ (LF a b)
abbrev Hf a b c:=rF a b (LF c a) (EQ c a) (ES c a)
abbrev ZG a b:=AE (λi=>Hf i a b)
abbrev EU a b:=HV (LF a b)
abbrev YX a b:=LQ (LF a b)
attribute [go_sem] HR Ib LF OW C5 Uq Ma IF PS rF ES EQ Hf ZG EU YX
theorem CRA(a:MLr):(V2Lr a)=(TU (λi=>FD (Ma (AR (OW a)) (ZG (OW a) (Ib a)) (OW a) (BD i)) i (OW a) (WZ (λj=>Uq a j) (OW a) (λj=>Uq a j) (KJ (OW a) i) i)) (λi=>UT (CJ i (OW a) (WZ (λj=>Uq a j) (OW a) (λj=>Uq a j) (KJ (OW a) i) i)) i (OW a) (Di (BE i (OW a)) (YX (Ib a) i) (AJ (EU (Ib a) i)) (AJ (EQ (Ib a) i)) (AJ (ES (Ib a) i))) (not (Uq a i)) (Kz (λj=>Uq a j) (OW a) (BH i)) (CG (λj=>EY (Ma (AR (OW a)) (ZG (OW a) (Ib a)) (OW a) (AU j i)) (CJ j (OW a) (WZ (λk=>Uq a k) (OW a) (λk=>Uq a k) (KJ (OW a) j) j)) (OW a) j i)) (Kz (λj=>Uq a j) (OW a) (-1)))):=by kernel_rfl
theorem p2Lr(a:MLr)(h:CR (PLr a)):V2Lr a:=by
 obtain⟨h,hp⟩:a.l.length<4611686018427387904/\True:=h
 rw[CRA]<;> delta LQ HV GZ JJ NL FA AK AN AE BA BM BH CW DC ER NE TD KJ CG HR Ib LF CS AG AI AO AJ AR CM HY IF BF DN MM GH ES PS EA DG EQ FB FP EV EU rF DT JA AU EW BE IA CJ LB HK Gr HF BD HE FD Di Bu SG TF EY OW UT Kz Hf YX ZG WZ C5 TU Uq Ma
 simp only[CC,CU]
 refine⟨⟨0,rfl,Nat.zero_le _,rfl⟩,λk ⟨h1,h2⟩=>⟨λhlt=>?_,λhge=>?_⟩⟩
 ·have hlt:k<a.l.length:=by omega
  refine⟨⟨by omega,by omega⟩,λhp=>?_,λhp=>⟨k+1,(GJ (by omega)).symm,⟨by omega,?_⟩,by omega⟩⟩
  ·rw[h2];exact mO hlt (by simpa using hp)
  ·rw[h2];exact P9 hlt (by simpa using hp)
 ·rw[h2];exact xN (by omega)
theorem CSJ:AH Try.prog BXA (C2Lr.spec d2Lr):=PU C2Lr A2Lr [] [] CPB (λ_=>by kernel_rfl) (λ_=>AA CRO AD) p2Lr (λ_=>RR rfl rfl) _
def C3Lr:Ctr:={ C2Lr with val:=λ(a:MLr)=>.bool (decide (aX (λi=>!Zc (gD a.l i)) a.l.length 0>=0)) }
def d3Lr:List AVal->Heap->Option (C3Lr.α×List (Nat×Nat)×List Nat):=d2Lr
def A3Lr:Ann:={ ann 9 [(BXA,C2Lr.spec d2Lr)] with E:=[100] }
def V3Lr(a:MLr):Prop:=AX Try.prog A3Lr BOD (AF BOD) (C3Lr.xs a) (AC (C3Lr.L a)) (C3Lr.val a) (C3Lr.keep a) [] []
abbrev oJ a(b:Nat->Ln):=(@VZ Ln) (HR a) b
abbrev iX a:=oJ a (λi=>LF a i)
abbrev Qf a:=iX (Ib a)
abbrev dW a:=HR (Qf a)
abbrev HP a:=BM a 4611686018427387904
abbrev FH a b c d e f g h p:=IF a b c (KD d e f g h p)
abbrev HQ a b:=UH a (LQ b)
abbrev Em a b c:=HQ (LF a b) c
abbrev WI a b c d:=Em a b (LF c d)
abbrev NR a b c:=WI a b c b
attribute [go_sem] oJ iX Qf dW HP FH HQ Em WI NR
theorem CRH(a:MLr):(V3Lr a)=(And (PZ (AN (dW a) (OW a)) (AE (λi=>FH i (dW a) (NR (Qf a) i (Ib a)) (EU (Qf a) i) (EU (Ib a) i) (EQ (Qf a) i) (EQ (Ib a) i) (ES (Qf a) i) (ES (Ib a) i))) (HP (dW a))) (LI (SQ (λi=>Uq a i) (OW a)) (SQ (λi=>C5 (Qf a) i) (dW a)))):=by kernel_rfl
theorem CTJ:AH Try.prog BOS (C3Lr.spec d3Lr):=Ctr.spec_ok (C:=C3Lr) (λ(a:MLr) h=>Ee (A:=A3Lr) (ren:=[]) (fz:=[]) CPZ (by kernel_rfl) (AA CSJ AD) (by
 obtain⟨h,hp⟩:a.l.length<4611686018427387904/\True:=h
 show V3Lr a;rw[CRH]<;> delta LI G4 LQ HV GZ JJ AK AN AE BA BM FW HR Ib LF AG AO IF HB AQ ES JK KD EQ EU UH FH HQ oJ iX Gr Em WI Bu NR OW HP Qf PZ Lw SQ C5 Uq dW;simp[h,Gw])) _
def d4Lr:List AVal->Heap->Option (MLr×List (Nat×Nat)×List Nat)
 |[y,.fn _ _ _],H=>match xZ y H with
  |some (n,g,f)=>some (⟨default,VZ n λi=>dLn (g i)⟩,[],f)
  |none=>none
 |_,_=>none
def A4Lr:Ann:={ ann 9 [(BOS,C3Lr.spec d3Lr)] with E:=[] }
def C4Lr:Ctr:={ ro:=[],α:=MLr,xs:=λa=>[.d (N8 a.l),fvLr a.q],L:=λa=>[],val:=λa=>.bool (a.l.all λx=>Zc x),keep:=λa=>[],pre:=PLr }
def V4Lr(a:MLr):Prop:=AX Try.prog A4Lr F_eL (AF F_eL) (C4Lr.xs a) (AC (C4Lr.L a)) (C4Lr.val a) (C4Lr.keep a) [] []
theorem CQL(a:MLr):(V4Lr a)=(And (PZ (AN (dW a) (OW a)) (AE (λi=>FH i (dW a) (NR (Qf a) i (Ib a)) (EU (Qf a) i) (EU (Ib a) i) (EQ (Qf a) i) (EQ (Ib a) i) (ES (Qf a) i) (ES (Ib a) i))) (HP (dW a))) (Am ((@List.all Ln) (Ib a) Zc) (SQ (λi=>C5 (Qf a) i) (dW a)))):=by kernel_rfl
theorem CRV:AH Try.prog n_eL (C4Lr.spec d4Lr):=Ctr.spec_ok (C:=C4Lr) (λ(a:MLr) h=>Ee (A:=A4Lr) (ren:=[]) (fz:=[]) CQQ (by kernel_rfl) (AA CTJ AD) (by
 have h':a.l.length<4611686018427387904/\True:=h
 show V4Lr a;rw[CQL]<;> delta LI G4 LQ HV GZ JJ AK AN AE BA BM FW HR Ib LF AG AO IF HB AQ ES JK KD EQ EU UH FH HQ oJ iX Gr Em WI Bu NR OW HP Qf PZ Lw SQ C5 Am dW;simp only[CC,CU,ge_iff_le]
 rw[<-nH]
 exact⟨h'.1,rfl⟩)) _
def LXIn(q:List Gau):List (Nat×AObj):=[(101,.box [.d (KB q)])]
def KXIn(q:List Gau):List (Nat×HCell):=[(101,.live (.box [.d (KB q)]))]
def fvIn(q:List Gau):AVal:=.fn (.func L6) [] [.bptr 101 0]
def BIn(q:List Gau):AObj:=.box [fvIn q]
structure EIn where
 q:List Gau
 e:Int
structure MIn where
 q:List Gau
 l:List Int
def C1In:Ctr:={ ro:=[100,101],α:=EIn,xs:=λa=>[.d (EP a.e),.bptr 100 0],L:=λa=>(100,BIn a.q) :: LXIn a.q,val:=λa=>.bool (!MN a.e 0 (wr (a.q.length-1))),keep:=λa=>(100,.live (BIn a.q)) :: KXIn a.q }
def d1In:List AVal->Heap->Option (EIn×List (Nat×Nat)×List Nat)
 |[.d d,.bptr id _],H=>match H id with
  | .live (.box [.fn _ _ [.bptr j _]])=>match H j with
   | .live (.box [.d (.list _ m h _)])=>some (⟨VZ m λi=>gH (h i),LO d⟩,[(100,id),(101,j)],[])
   |_=>none
  |_=>none
 |_,_=>none
def A1In:Ann:={ ann 8 [(L6,C_nm1.spec CHU)] with E:=[100,101] }
def V1In(a:EIn):Prop:=AX Try.prog A1In BZH (AF BZH) (C1In.xs a) (AC (C1In.L a)) (C1In.val a) (C1In.keep a) [] []
abbrev rH:=EIn.q
attribute [go_sem] rH
theorem CQN(a:EIn):(V1In a)=(AQ (AI (AJ (EIn.e a)) (CN (rH a)) (CV (rH a)) (CI (rH a) (BB (rH a))) (BU (rH a) (BB (rH a)))) (Am (not (Vi (EIn.e a) (rH a))) (Vi (EIn.e a) (BB (rH a)))) (BW (rH a)) (BX (rH a))):=by kernel_rfl
theorem CSK:AH Try.prog AVL (C1In.spec d1In):=PU C1In (λ_=>A1In) [] [] CPR (λ_=>by kernel_rfl) (λ_=>AA CLR AD) (λ(a:EIn) h=>by
 show V1In a;rw[CQN]<;> delta LI KA LX JZ AK AN AE BA BM BH Nn BP GU rH AG AI AO AJ AR QG CM BB DW HY HB BW DF MM JG DK VT AQ JH JK KD CI OT Ab MG DZ KH EH BU BX CN CV FC QA Vi Am;try simp[wr,Gw]) (λ_=>RR rfl rfl) _
def d2In:List AVal->Heap->Option (MIn×List (Nat×Nat)×List Nat)
 |[y,.fn _ _ [.bptr id _]],H=>match xZ y H with
  |some (n,g,f)=>match H id with
   | .live (.box [.fn _ _ [.bptr j _]])=>match H j with
    | .live (.box [.d (.list _ m h _)])=>some (⟨VZ m λi=>gH (h i),VZ n λi=>LO (g i)⟩,[(100,id),(101,j)],f)
    |_=>none
   |_=>none
  |none=>none
 |_,_=>none
def A2In(a:MIn):Ann:={ ann 19 [(AVL,C1In.spec d1In)] with E:=[100,101],loops:=λid=>if id=2 then some [{ α:=Nat,dflt:=0,T:=λk=>⟨[(0,.d (II a.l)),(1,.fn (.func AVL) [] [.bptr 100 0]),(7,.int a.l.length),(8,.int k)],(100,.live (BIn a.q)) :: KXIn a.q⟩,inv:=λk=>k<=a.l.length/\aX (λi=>!MN (gD a.l i) 0 (wr (a.q.length-1))) a.l.length 0=aX (λi=>!MN (gD a.l i) 0 (wr (a.q.length-1))) (a.l.length-k) k,meas:=λk=>a.l.length-k }] else none }
def PIn(a:MIn):List Prop:=[a.l.length<4611686018427387904/\True]
def C2In:Ctr:={ ro:=[100,101],α:=MIn,xs:=λa=>[.d (II a.l),.fn (.func AVL) [] [.bptr 100 0]],L:=λa=>(100,BIn a.q) :: LXIn a.q,val:=λa=>.int (aX (λi=>!MN (gD a.l i) 0 (wr (a.q.length-1))) a.l.length 0),keep:=λa=>(100,.live (BIn a.q)) :: KXIn a.q,pre:=PIn }
def V2In(a:MIn):Prop:=AX Try.prog (A2In a) BWW (AF BWW) (C2In.xs a) (AC (C2In.L a)) (C2In.val a) (C2In.keep a) [] []
abbrev Ew:=MIn.l
abbrev Kk:=MIn.q
abbrev iD a:=BX (Kk a)
abbrev iQ a:=BW (Kk a)
abbrev Ed a:=FI (Ew a)
abbrev zJ a b c:=Vi (IR a b) c
abbrev AEH a b c:=zJ (Ew a) b c
abbrev Ym a b c:=AEH a b (Kk c)
abbrev Uk a:=BB (Kk a)
attribute [go_sem] Ew Kk iD iQ Ed zJ AEH Ym Uk
theorem CSE(a:MIn):(V2In a)=(TU (λi=>FD (AV (HT (Ew a)) (EF (Ew a)) (PH (Ew a)) (BD i) (iQ a) (iD a)) i (Ed a) (WZ (λj=>Ym a j a) (Ed a) (λj=>Ym a j a) (KJ (Ed a) i) i)) (λi=>UT (CJ i (Ed a) (WZ (λj=>Ym a j a) (Ed a) (λj=>Ym a j a) (KJ (Ed a) i) i)) i (Ed a) (AV (BE i (Ed a)) (AJ (IR (Ew a) i)) (CN (Kk a)) (CV (Kk a)) (CI (Kk a) (Uk a)) (BU (Kk a) (Uk a))) (not (AEH a i (Uk a))) (HB (Bu (λj=>Ym a j a) (Ed a)) (BH i) (iQ a) (iD a)) (CG (λj=>EY (AV (HT (Ew a)) (EF (Ew a)) (PH (Ew a)) (AU j i) (iQ a) (iD a)) (CJ j (Ed a) (WZ (λk=>Ym a k a) (Ed a) (λk=>Ym a k a) (KJ (Ed a) j) j)) (Ed a) j i)) (HB (Bu (λj=>Ym a j a) (Ed a)) (-1) (iQ a) (iD a)))):=by kernel_rfl
theorem p2In(a:MIn)(h:CR (PIn a)):V2In a:=by
 obtain⟨h,hp⟩:a.l.length<4611686018427387904/\True:=h
 rw[CSE]<;> delta KA LX JZ NL FA AK AN FI AE BA BM IR BH CW DC ER NE TD KJ Nn CG BP GU Ew Kk CS AG AI AO AJ AR QG CM BB DW HY BF HB BW DN DF MM JG DK GH VT HA JH JK KD EI EA DG FB HT CI OT FP EV AV DT Ab Mw JA AU EW OV MG DZ BE EF IA CJ KH EH LB BU HK Gr BX BD HE CN CV FD FC Bu SG QA TF EY UT PH Kz Ed Vi WZ zJ TU Uk AEH Ym iQ iD
 simp only[CC,CU]
 refine⟨⟨0,rfl,Nat.zero_le _,rfl⟩,λk ⟨h1,h2⟩=>⟨λhlt=>?_,λhge=>?_⟩⟩
 ·have hlt:k<a.l.length:=by omega
  refine⟨⟨by omega,by omega⟩,λhp=>?_,λhp=>⟨k+1,(GJ (by omega)).symm,⟨by omega,?_⟩,by omega⟩⟩
  ·rw[h2];exact mO hlt (by simpa using hp)
  ·rw[h2];exact P9 hlt (by simpa using hp)
 ·rw[h2];exact xN (by omega)
theorem CTC:AH Try.prog BSL (C2In.spec d2In):=PU C2In A2In [] [] COJ (λ_=>by kernel_rfl) (λ_=>AA CSK AD) p2In (λ_=>RR rfl rfl) _
def C3In:Ctr:={ C2In with val:=λ(a:MIn)=>.bool (decide (aX (λi=>!MN (gD a.l i) 0 (wr (a.q.length-1))) a.l.length 0>=0)) }
def d3In:List AVal->Heap->Option (C3In.α×List (Nat×Nat)×List Nat):=d2In
def A3In:Ann:={ ann 9 [(BSL,C2In.spec d2In)] with E:=[100,101] }
def V3In(a:MIn):Prop:=AX Try.prog A3In BZG (AF BZG) (C3In.xs a) (AC (C3In.L a)) (C3In.val a) (C3In.keep a) [] []
abbrev VY a b(c:Nat->Nat):=Ff a (λi=>IR b (c i))
abbrev EL a:=VY (FI a) a (λi=>i)
abbrev JO a:=FI (EL a)
abbrev Gd a:=HP (JO a)
abbrev NQ a b c d:=ML a b (IR c d)
abbrev RO a b c:=NQ a b c b
abbrev IY a b c d e:=HA a b (RO c d e)
abbrev HZ a b c:=IY a b b a c
abbrev BR a b:=AE (λi=>HZ i a b)
abbrev GQ a:=BR (EL a) a
abbrev BK a b:=GM a (FI b)
abbrev HI a:=BK (EL a) a
attribute [go_sem] VY EL JO Gd NQ RO IY HZ BR GQ BK HI
theorem CSP(a:MIn):(V3In a)=(AQ (AQ (HI (Ew a)) (GQ (Ew a)) (CN (Kk a)) (AI (CV (Kk a)) (CI (Kk a) (Uk a)) (BU (Kk a) (Uk a)) (Gd (Ew a)) FW)) (LI (SQ (λi=>Ym a i a) (Ed a)) (SQ (λi=>zJ (EL (Ew a)) i (Uk a)) (JO (Ew a)))) (iQ a) (iD a)):=by kernel_rfl
theorem CSO:AH Try.prog BPU (C3In.spec d3In):=Ctr.spec_ok (C:=C3In) (λ(a:MIn) h=>Ee (A:=A3In) (ren:=[]) (fz:=[]) CPU (by kernel_rfl) (AA CTC AD) (by
 obtain⟨h,hp⟩:a.l.length<4611686018427387904/\True:=h
 show V3In a;rw[CSP]<;> delta LI G4 KA LX JZ AK AN FI AE BA BM IR BH Ff Nn FW BP GU Ew Kk AG AI AO AJ AR VY QG CM EL BB DW HY HB BW DF MM JG DK VT HA AQ JH JK KD ML CI OT NQ GM RO Ab BK IY HZ MG DZ KH EH BR BU Gr BX CN CV FC JO Bu QA HI GQ HP Ed Lw Vi SQ zJ Uk AEH Gd Ym iQ iD;simp[h,Gw])) _
def d4In:List AVal->Heap->Option (MIn×List (Nat×Nat)×List Nat)
 |[y,.fn _ _ [.bptr j _]],H=>match xZ y H with
  |some (n,g,f)=>match H j with
   | .live (.box [.d (.list _ m h _)])=>some (⟨VZ m λi=>gH (h i),VZ n λi=>LO (g i)⟩,[(101,j)],f)
   |_=>none
  |none=>none
 |_,_=>none
def A4In:Ann:={ ann 9 [(BPU,C3In.spec d3In)] with E:=[101] }
def C4In:Ctr:={ ro:=[101],α:=MIn,xs:=λa=>[.d (II a.l),fvIn a.q],L:=λa=>LXIn a.q,val:=λa=>.bool (a.l.all λx=>MN x 0 (wr (a.q.length-1))),keep:=λa=>KXIn a.q,pre:=PIn }
def V4In(a:MIn):Prop:=AX Try.prog A4In F_eI (AF F_eI) (C4In.xs a) (AC (C4In.L a)) (C4In.val a) (C4In.keep a) [] []
abbrev AXI:=@List.all Int
attribute [go_sem] AXI
theorem CTT(a:MIn):(V4In a)=(AQ (AQ (HI (Ew a)) (GQ (Ew a)) (CN (Kk a)) (AI (CV (Kk a)) (CI (Kk a) (Uk a)) (BU (Kk a) (Uk a)) (Gd (Ew a)) FW)) (Am (AXI (Ew a) (λi=>Vi i (Kk a))) (SQ (λi=>zJ (EL (Ew a)) i (Uk a)) (JO (Ew a)))) (iQ a) (iD a)):=by kernel_rfl
theorem CRQ:AH Try.prog n_eI (C4In.spec d4In):=Ctr.spec_ok (C:=C4In) (λ(a:MIn) h=>Ee (A:=A4In) (ren:=[]) (fz:=[]) CQD (by kernel_rfl) (AA CSO AD) (by
 have h':a.l.length<4611686018427387904/\True:=h
 show V4In a;rw[CTT]<;> delta LI G4 KA LX JZ AK AN FI AE BA BM IR BH Ff Nn FW BP GU Ew Kk AXI AG AI AO AJ AR VY QG CM EL BB DW HY HB BW DF MM JG DK VT HA AQ JH JK KD ML CI OT NQ GM RO Ab BK IY HZ MG DZ KH EH BR BU Gr BX CN CV FC JO Bu QA HI GQ HP Lw Vi SQ zJ Uk Am Gd iQ iD;simp only[CC,CU,ge_iff_le]
 rw[<-nH]
 exact⟨h'.1,rfl⟩)) _
end Go.Bal
