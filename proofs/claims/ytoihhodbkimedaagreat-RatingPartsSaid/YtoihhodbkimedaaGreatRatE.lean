/- Package rating: every. Printed by genratE.py. -/
import Derived.Test.YtoihhodbkimedaaGreatRatA
set_option linter.unusedVariables false
set_option linter.unusedSimpArgs false
namespace Go.Bal
open Go Go.Sym Go.Proofs
def allB(p:Nat->Bool):Nat->Bool
 |0=>true
 |n+1=>allB p n&&p n
theorem AOH{p:Nat->Bool}:∀{n:Nat},allB p n=true↔∀i,i<n->p i=true
 |0=>by simp[allB]
 |n+1=>by
  simp only[allB,Bool.and_eq_true,AOH (n:=n)]
  constructor
  ·intro h i hi
   by_cases he:i=n
   ·subst he;exact h.2
   ·exact h.1 i (by omega)
  ·exact λh=>⟨λi hi=>h i (by omega),h n (by omega)⟩
theorem BIB{p:Nat->Bool}:∀{n k:Nat},(0<=gQ p n k)↔∃i,k<=i/\i<k+n/\p i=true
 |0,k=>by simp[gQ];omega
 |n+1,k=>by
  simp only[gQ]
  by_cases h:p k=true
  ·rw[if_pos h]
   constructor
   ·intro _;exact⟨k,Nat.le_refl _,by omega,h⟩
   ·intro _;omega
  ·rw[if_neg h,BIB (n:=n) (k:=k+1)]
   constructor
   ·rintro⟨i,h1,h2,h3⟩;exact⟨i,by omega,by omega,h3⟩
   ·rintro⟨i,h1,h2,h3⟩
    refine⟨i,?_,by omega,h3⟩
    by_cases he:i=k
    ·subst he;exact absurd h3 h
    ·omega
theorem BZQ{p:Nat->Bool}{n:Nat}:(!decide (0<=gQ (λi=>!p i) n 0))=allB p n:=by
 rw[Bool.eq_iff_iff,AOH]
 simp only[Bool.not_eq_true',decide_eq_false_iff_not,BIB,Nat.zero_le,Nat.zero_add,true_and]
 constructor
 ·intro h i hi
  cases hp:p i with
  |true=>rfl
  |false=>exact (h ⟨i,hi,by simp[hp]⟩).elim
 ·rintro h ⟨i,hi,hp⟩
  rw[h i hi] at hp;cases hp
theorem AIB{α:Type}[Inhabited α]{p:α->Bool}{l:List α}:(!decide (0<=gQ (λi=>!p (gD l i)) l.length 0))=l.all p:=by
 rw[BZQ,Bool.eq_iff_iff,AOH,List.all_eq_true]
 exact⟨λh x hx=>by obtain⟨i,hi,rfl⟩:=NL hx;exact h i hi,λh i hi=>h _ (CV hi)⟩
structure LInt where
 q:List Gau
 e:Int
def C_nm1:Ctr:={ ro:=[101],α:=LInt,xs:=λa=>[.int a.e,.bptr 101 0],L:=λa=>[(101,.box [.d (BX a.q)])],val:=λa=>.bool (QY a.e 0 (wr (a.q.length-1))),keep:=λa=>[(101,.live (.box [.d (BX a.q)]))] }
def CKR:List AVal->Heap->Option (LInt×List (Nat×Nat)×List Nat)
 |[.d d,.bptr id _],H=>match H id with
  | .live (.box [.d (.list _ n g _)])=>some (⟨MK n λi=>Sr (g i),KT d⟩,[(101,id)],[])
  |_=>none
 |_,_=>none
def CKZ:Ann:={ ann 9 [(n_in,s_in)] with E:=[101] }
def CMW(a:LInt):Prop:=BQ Try.prog CKZ ANC (AI ANC) (C_nm1.xs a) (AD (C_nm1.L a)) (C_nm1.val a) (C_nm1.keep a) [] []
abbrev CI:=@List.length Gau
abbrev EZ:=@gD Gau instInhabitedGau
abbrev BR a b c:=AT a (CI b) c
abbrev GQ a b c:=CA a a b c
abbrev HH a b c:=GQ a (AM b) c
abbrev HL a b c:=HH a b (AM c)
abbrev AS a b:=DP (EZ a b)
abbrev AP a b:=EC (EZ a b)
abbrev AH a b:=EE (EZ a b)
abbrev JA a b c d e f:=HL (AH a b) (AP c d) (AS e f)
abbrev GF a b:=BR a b (JA b a b a b a)
abbrev BN a:=AK (λi=>GF i a)
abbrev CF a b:=AR (CI a) b
abbrev AW a b:=CF a (CI b)
abbrev AZ a:=AW a a
abbrev EY a:=AQ (CI a)
abbrev Bt a:=Ba a 1
abbrev dW a:=Bt (EY a)
attribute [go_sem] CI EZ BR GQ HH HL AS AP AH JA GF BN CF AW AZ EY Bt dW
theorem CPU(a:LInt):(CMW a)=(AG (JT (Hs (LInt.e a) (wr (dW (LInt.q a)))) (Hs (LInt.e a) (JZ (EY (LInt.q a))))) (AZ (LInt.q a)) (BN (LInt.q a))):=by kernel_rfl
theorem CQR:AJ Try.prog AAR (C_nm1.spec CKR):=VD C_nm1 (λ_=>CKZ) [] [] BSK (λ_=>by kernel_rfl) (λ_=>AC uN AE) (λ(a:LInt) _=>by
 show CMW a;rw[CPU]<;> delta JT EE EC DP AO AR AK BV BZ AQ Ba CI EZ AG DG AT AH CA CF AM GQ AP HA BR AS AW HH HL JZ AZ JA GF BN Bt EY dW Hs;simp[wr,RB]) (λ_=>WK rfl rfl) _
def fvGr(q:One):AVal:=.fn (.func BNW) [] []
def BGr(q:One):AObj:=.box [fvGr q]
structure EGr where
 q:One
 e:Gau
structure MGr where
 q:One
 l:List Gau
def C1Gr:Ctr:={ ro:=[100],α:=EGr,xs:=λa=>[.d (jI a.e),.bptr 100 0],L:=λa=>(100,BGr a.q) :: [],val:=λa=>.bool (!riG a.e),keep:=λa=>(100,.live (BGr a.q)) :: [] }
def d1Gr:List AVal->Heap->Option (EGr×List (Nat×Nat)×List Nat)
 |[.d d,.bptr id _],H=>some (⟨default,Sr d⟩,[(100,id)],[])
 |_,_=>none
def A1Gr:Ann:={ ann 8 [(BNW,CMD)] with E:=[100] }
def V1Gr(a:EGr):Prop:=BQ Try.prog A1Gr BBW (AI BBW) (C1Gr.xs a) (AD (C1Gr.L a)) (C1Gr.val a) (C1Gr.keep a) [] []
theorem CTX(a:EGr):(V1Gr a)=(JM (not (riG (EGr.e a)))):=by kernel_rfl
theorem CTG:AJ Try.prog ABD (C1Gr.spec d1Gr):=VD C1Gr (λ_=>A1Gr) [] [] BTV (λ_=>by kernel_rfl) (λ_=>AC CNI AE) (λ(a:EGr) h=>by
 show V1Gr a;rw[CTX]<;> delta JT JM;try simp[wr,RB]) (λ_=>WK rfl rfl) _
def d2Gr:List AVal->Heap->Option (MGr×List (Nat×Nat)×List Nat)
 |[y,.fn _ _ [.bptr id _]],H=>match dRow y H with
  |some (n,g,f)=>some (⟨default,MK n λi=>Sr (g i)⟩,[(100,id)],f)
  |none=>none
 |_,_=>none
def A2Gr(a:MGr):Ann:={ ann 19 [(ABD,C1Gr.spec d1Gr)] with E:=[100],loops:=λid=>if id=2 then some [{ α:=Nat,dflt:=0,T:=λk=>⟨[(0,.d (BX a.l)),(1,.fn (.func ABD) [] [.bptr 100 0]),(7,.int a.l.length),(8,.int k)],(100,.live (BGr a.q)) :: []⟩,inv:=λk=>k<=a.l.length/\gQ (λi=>!riG (gD a.l i)) a.l.length 0=gQ (λi=>!riG (gD a.l i)) (a.l.length-k) k,meas:=λk=>a.l.length-k }] else none }
def PGr(a:MGr):List Prop:=[a.l.length<4611686018427387904/\True]
def C2Gr:Ctr:={ ro:=[100],α:=MGr,xs:=λa=>[.d (BX a.l),.fn (.func ABD) [] [.bptr 100 0]],L:=λa=>(100,BGr a.q) :: [],val:=λa=>.int (gQ (λi=>!riG (gD a.l i)) a.l.length 0),keep:=λa=>(100,.live (BGr a.q)) :: [],pre:=PGr }
def V2Gr(a:MGr):Prop:=BQ Try.prog (A2Gr a) BDD (AI BDD) (C2Gr.xs a) (AD (C2Gr.L a)) (C2Gr.val a) (C2Gr.keep a) [] []
abbrev FB:=@Exists Nat
abbrev Tg:=MGr.l
abbrev FZ a(b:Nat->Prop):=And a (AK b)
abbrev DJ(a:Nat->Prop)(b:Nat->Prop):=FZ (FB a) b
abbrev OW a b c d e f:=FH a b (EY c) d e f
abbrev YD(a:Nat->Bool) b:=gQ a b 0
abbrev Qi(a:Nat->Bool) b c:=AO (YD a b) c
abbrev pT a:=CI (Tg a)
abbrev sC a b:=riG (EZ a b)
abbrev ANP a b:=not (sC a b)
abbrev Ps a b:=ANP (Tg a) b
abbrev NO a b(c:Nat->Prop):=CS a b (FB c)
abbrev OK a b:=EF (CI a) b
abbrev Ar a b c d e:=BW a b (OK c d) e
abbrev HR a b c d e:=Ar a b c d (OK c e)
abbrev FX a b:=BU a (CI b)
abbrev OU a b c:=And (FX a b) c
abbrev VS(a:Nat->Bool) b(c:Nat->Bool) d e:=Qi a b (gQ c d e)
abbrev WW a b c:=AN (AZ a) (BN a) b c
abbrev NW a:=BE (CI a)
abbrev ON a b:=DV a (CI b)
abbrev IB a b:=ON (AQ a) b
attribute [go_sem] FB Tg FZ DJ OW YD Qi pT sC ANP Ps NO OK Ar HR FX OU VS WW NW ON IB
theorem CSR(a:MGr):(V2Gr a)=(DJ (λi=>EI (AZ (Tg a)) (BN (Tg a)) (NW (Tg a)) (BD i) (FX i (Tg a)) (VS (λj=>Ps a j) (pT a) (λj=>Ps a j) (OK (Tg a) i) i)) (λi=>OW (OU i (Tg a) (VS (λj=>Ps a j) (pT a) (λj=>Ps a j) (OK (Tg a) i) i)) i (Tg a) (And (IB i (Tg a)) (JA (Tg a) i (Tg a) i (Tg a) i)) (NO (Ps a i) (Qi (λj=>Ps a j) (pT a) (AQ i)) (λj=>HR (WW (Tg a) (NW (Tg a)) (BS j i)) (OU j (Tg a) (VS (λk=>Ps a k) (pT a) (λk=>Ps a k) (OK (Tg a) j) j)) (Tg a) j i)) (Qi (λj=>Ps a j) (pT a) (-1)))):=by kernel_rfl
theorem p2Gr(a:MGr)(h:FT (PGr a)):V2Gr a:=by
 obtain⟨h,hp⟩:a.l.length<4611686018427387904/\True:=h
 rw[CSR]<;> delta EE EC DP GD CS AO AR AK BV BZ AQ BU DD ES LX EF CI EZ FB Tg AG DG AT AH FF CA CF AM GQ AP BR AS AW DU BC HH CQ HL AN OK AZ BE ED BW FX HI FZ JA CL EA DV GF BN FD ON FL BS BD FH EY NW DJ YD Ar IB EI Qi HR OU sC NO VS OW ANP Ps WW pT
 simp only[CC,eq_self,implies_true,forall_const]
 refine⟨⟨0,rfl,Nat.zero_le _,rfl⟩,λk ⟨h1,h2⟩=>⟨λhlt=>?_,λhge=>?_⟩⟩
 ·have hlt:k<a.l.length:=by omega
  refine⟨⟨by omega,by omega⟩,λhp=>?_,λhp=>⟨k+1,(CN (by omega)).symm,⟨by omega,?_⟩,by omega⟩⟩
  ·rw[h2];exact ACK hlt (by simpa using hp)
  ·rw[h2];exact AVV hlt (by simpa using hp)
 ·rw[h2];exact ALR (by omega)
theorem CTW:AJ Try.prog BBT (C2Gr.spec d2Gr):=VD C2Gr A2Gr [] [] CCQ (λ_=>by kernel_rfl) (λ_=>AC CTG AE) p2Gr (λ_=>WK rfl rfl) _
def C3Gr:Ctr:={ C2Gr with val:=λ(a:MGr)=>.bool (decide (gQ (λi=>!riG (gD a.l i)) a.l.length 0>=0)) }
def d3Gr:List AVal->Heap->Option (C3Gr.α×List (Nat×Nat)×List Nat):=d2Gr
def A3Gr:Ann:={ ann 9 [(BBT,C2Gr.spec d2Gr)] with E:=[100] }
def V3Gr(a:MGr):Prop:=BQ Try.prog A3Gr BCA (AI BCA) (C3Gr.xs a) (AD (C3Gr.L a)) (C3Gr.val a) (C3Gr.keep a) [] []
abbrev LZ:=@MK Gau
abbrev FP:=True
abbrev DY a b c d e:=And (AN a b c d) e
abbrev QP a b c d:=DY a b c FP d
abbrev EP a b c d e f g h:=CR a b (AP c d) e (AS f g) h
abbrev EM a b c d e f g:=EP a b c d e c d (AS f g)
abbrev FE a b c d e f g:=EM a b c d (AP e f) g d
abbrev EW a b c d e f g h:=BR a b (FE c d e f g h g)
abbrev FM a b c d e:=EW a b c d b a e a
abbrev FK a b c d e f:=FM a b c (AH d e) f
abbrev GT a b(c:Nat->Nat):=LZ a (λi=>EZ b (c i))
abbrev GV a b:=GT (CI a) b (λi=>i)
abbrev BH a:=GV a a
abbrev HU a b:=AH (BH a) b
abbrev BB a:=AK (λi=>FK i (BH a) (HU a i) a i a)
abbrev CE a:=AW (BH a) a
abbrev VE a b c:=QP (CE a) (BB a) b c
abbrev Ap(a:Nat->Bool) b:=hd6 (YD a b) 0
abbrev HY a:=CI (BH a)
abbrev JS a:=BZ a 4611686018427387904
abbrev ZK a:=JS (HY a)
attribute [go_sem] LZ FP DY QP EP EM FE EW FM FK GT GV BH HU BB CE VE Ap HY JS ZK
theorem CSA(a:MGr):(V3Gr a)=(VE (Tg a) (ZK (Tg a)) (JT (Ap (λi=>Ps a i) (pT a)) (Ap (λi=>ANP (BH (Tg a)) i) (HY (Tg a))))):=by kernel_rfl
theorem CUJ:AJ Try.prog BCU (C3Gr.spec d3Gr):=Ctr.spec_ok (C:=C3Gr) (λ(a:MGr) h=>Mn (A:=A3Gr) (ren:=[]) (fz:=[]) BYX (by kernel_rfl) (AC CTW AE) (by
 obtain⟨h,hp⟩:a.l.length<4611686018427387904/\True:=h
 show V3Gr a;rw[CSA]<;> delta JT hd6 EE EC DP AO AR AK BV BZ CI EZ Tg LZ FP AG GT GV AT AH CA CF BH AP BR AS AW DX CR AN EP HU HY EM FE EW FM FK CE JS BB DY YD sC QP ANP Ps ZK Ap VE pT;simp[h,RB])) _
def d4Gr:List AVal->Heap->Option (MGr×List (Nat×Nat)×List Nat)
 |[y,.fn _ _ _],H=>match dRow y H with
  |some (n,g,f)=>some (⟨default,MK n λi=>Sr (g i)⟩,[],f)
  |none=>none
 |_,_=>none
def A4Gr:Ann:={ ann 9 [(BCU,C3Gr.spec d3Gr)] with E:=[] }
def C4Gr:Ctr:={ ro:=[],α:=MGr,xs:=λa=>[.d (BX a.l),fvGr a.q],L:=λa=>[],val:=λa=>.bool (a.l.all λx=>riG x),keep:=λa=>[],pre:=PGr }
def V4Gr(a:MGr):Prop:=BQ Try.prog A4Gr F_eG (AI F_eG) (C4Gr.xs a) (AD (C4Gr.L a)) (C4Gr.val a) (C4Gr.keep a) [] []
theorem CSP(a:MGr):(V4Gr a)=(((MK a.l.length λ(i:Nat)=>gD a.l i).length=a.l.length/\(∀(i:Nat),i<(MK a.l.length λ(i:Nat)=>gD a.l i).length->(gD (MK a.l.length λ(i:Nat)=>gD a.l i)
 i).st=(gD a.l i).st/\(gD (MK a.l.length λ(i:Nat)=>gD a.l i) i).lo=(gD a.l i).lo/\(gD (MK a.l.length λ(i:Nat)=>gD a.l i) i).hi=(gD a.l i).hi)/\(MK a.l.length λ(i:Nat)=>gD a.l i).length <
 4611686018427387904/\True)/\(a.l.all λ(x:Gau)=>riG x)=!decide (gQ (λ(i:Nat)=>!riG (gD (MK a.l.length λ(i:Nat)=>gD a.l i) i)) (MK a.l.length λ(i:Nat)=>gD a.l i).length 0>=0)):=by
 kernel_rfl
theorem CRY:AJ Try.prog n_eG (C4Gr.spec d4Gr):=Ctr.spec_ok (C:=C4Gr) (λ(a:MGr) h=>Mn (A:=A4Gr) (ren:=[]) (fz:=[]) CME (by kernel_rfl) (AC CUJ AE) (by
 have h':a.l.length<4611686018427387904/\True:=h
 show V4Gr a;rw[CSP];simp only[CC,eq_self,implies_true,forall_const,ge_iff_le]
 rw[<-AIB]
 exact⟨h'.1,rfl⟩)) _
def fvGp(q:Ln):AVal:=.fn (.func ACE) [.d (eLn q)] []
def BGp(q:Ln):AObj:=.box [fvGp q]
structure EGp where
 q:Ln
 e:Gau
structure MGp where
 q:Ln
 l:List Gau
def C1Gp:Ctr:={ ro:=[100],α:=EGp,xs:=λa=>[.d (jI a.e),.bptr 100 0],L:=λa=>(100,BGp a.q) :: [],val:=λa=>.bool (!LB a.q a.e),keep:=λa=>(100,.live (BGp a.q)) :: [],pre:=λa=>[(PJ a.q/\RK a.e)] }
def d1Gp:List AVal->Heap->Option (EGp×List (Nat×Nat)×List Nat)
 |[.d d,.bptr id _],H=>match H id with
  | .live (.box [.fn _ [.d x] _])=>some (⟨dLn x,Sr d⟩,[(100,id)],[])
  |_=>none
 |_,_=>none
def A1Gp:Ann:={ ann 8 [(ACE,BDK)] with E:=[100] }
def V1Gp(a:EGp):Prop:=BQ Try.prog A1Gp BBW (AI BBW) (C1Gp.xs a) (AD (C1Gp.L a)) (C1Gp.val a) (C1Gp.keep a) [] []
abbrev hd98:=EGp.q
abbrev hd99:=EGp.e
abbrev BJ a b c d e f:=And a (AF b c d e f)
abbrev lR a:=AM (MN a)
abbrev Aa a:=AM (OV a)
attribute [go_sem] hd98 hd99 BJ lR Aa
theorem CTN(a:EGp):(V1Gp a)=(BJ (BJ (ZN (hd98 a)) (SD (hd99 a)) (GU (EE (hd99 a))) (BC (EC (hd99 a))) (DD (EC (hd99 a)) (DP (hd99 a))) (MI (DP (hd99 a)))) (JM (not (LB (hd98 a) (hd99 a)))) (Aa (hd98 a)) (AM (LY (hd98 a))) (AM (LW (hd98 a))) (lR (hd98 a))):=by kernel_rfl
theorem CUH:AJ Try.prog ABD (C1Gp.spec d1Gp):=VD C1Gp (λ_=>A1Gp) [] [] BTV (λ_=>by kernel_rfl) (λ_=>AC BQB AE) (λ(a:EGp) h=>by
 show V1Gp a;rw[CTN]<;> delta JT EE EC DP OV LY LW MN AO DD ES hd98 hd99 AG AF AM JM BC ED GU BJ Aa MI SD HZ Fz Ii lR ZN;exact⟨h,by simp⟩) (λ_=>WK rfl rfl) _
def d2Gp:List AVal->Heap->Option (MGp×List (Nat×Nat)×List Nat)
 |[y,.fn _ _ [.bptr id _]],H=>match dRow y H with
  |some (n,g,f)=>match H id with
   | .live (.box [.fn _ [.d x] _])=>some (⟨dLn x,MK n λi=>Sr (g i)⟩,[(100,id)],f)
   |_=>none
  |none=>none
 |_,_=>none
def A2Gp(a:MGp):Ann:={ ann 19 [(ABD,C1Gp.spec d1Gp)] with E:=[100],loops:=λid=>if id=2 then some [{ α:=Nat,dflt:=0,T:=λk=>⟨[(0,.d (BX a.l)),(1,.fn (.func ABD) [] [.bptr 100 0]),(7,.int a.l.length),(8,.int k)],(100,.live (BGp a.q)) :: []⟩,inv:=λk=>k<=a.l.length/\gQ (λi=>!LB a.q (gD a.l i)) a.l.length 0=gQ (λi=>!LB a.q (gD a.l i)) (a.l.length-k) k,meas:=λk=>a.l.length-k }] else none }
def PGp(a:MGp):List Prop:=[a.l.length<4611686018427387904/\(∀x∈a.l,(PJ a.q/\RK x))]
def C2Gp:Ctr:={ ro:=[100],α:=MGp,xs:=λa=>[.d (BX a.l),.fn (.func ABD) [] [.bptr 100 0]],L:=λa=>(100,BGp a.q) :: [],val:=λa=>.int (gQ (λi=>!LB a.q (gD a.l i)) a.l.length 0),keep:=λa=>(100,.live (BGp a.q)) :: [],pre:=PGp }
def V2Gp(a:MGp):Prop:=BQ Try.prog (A2Gp a) BDD (AI BDD) (C2Gp.xs a) (AD (C2Gp.L a)) (C2Gp.val a) (C2Gp.keep a) [] []
abbrev LJ:=MGp.l
abbrev aF:=MGp.q
abbrev Qy a:=lR (aF a)
abbrev rV a:=LW (aF a)
abbrev Pp a:=AM (rV a)
abbrev sI a:=LY (aF a)
abbrev Ic a:=AM (sI a)
abbrev Il a:=Aa (aF a)
abbrev oY a:=CI (LJ a)
abbrev AIW a b:=LB (aF a) b
abbrev S8 a b c:=not (AIW a (EZ b c))
abbrev Nl a b c:=S8 a (LJ b) c
abbrev AX a b c d e f g h p:=AF a b c d (AF e f g h p)
attribute [go_sem] LJ aF Qy rV Pp sI Ic Il oY AIW S8 Nl AX
theorem CTI(a:MGp):(V2Gp a)=(DJ (λi=>EI (AZ (LJ a)) (BN (LJ a)) (NW (LJ a)) (AF (BD i) (Il a) (Ic a) (Pp a) (Qy a)) (FX i (LJ a)) (VS (λj=>Nl a a j) (oY a) (λj=>Nl a a j) (OK (LJ a) i) i)) (λi=>OW (OU i (LJ a) (VS (λj=>Nl a a j) (oY a) (λj=>Nl a a j) (OK (LJ a) i) i)) i (LJ a) (And (IB i (LJ a)) (AX (AM (AH (LJ a) i)) (AM (AP (LJ a) i)) (AM (AS (LJ a) i)) (Il a) (Ic a) (Pp a) (Qy a) (Il a) (AX (Ic a) (Pp a) (Qy a) (Ii (aF a) (aF a) (rV a) (sI a)) (BC (AH (LJ a) i)) (GU (AH (LJ a) i)) (BC (AP (LJ a) i)) (DD (AP (LJ a) i) (AS (LJ a) i)) (MI (AS (LJ a) i))))) (NO (Nl a a i) (AF (Qi (λj=>Nl a a j) (oY a) (AQ i)) (Il a) (Ic a) (Pp a) (Qy a)) (λj=>HR (WW (LJ a) (NW (LJ a)) (AF (BS j i) (Il a) (Ic a) (Pp a) (Qy a))) (OU j (LJ a) (VS (λk=>Nl a a k) (oY a) (λk=>Nl a a k) (OK (LJ a) j) j)) (LJ a) j i)) (AF (Qi (λj=>Nl a a j) (oY a) (-1)) (Il a) (Ic a) (Pp a) (Qy a)))):=by kernel_rfl
theorem p2Gp(a:MGp)(h:FT (PGp a)):V2Gp a:=by
 obtain⟨h,hp⟩:a.l.length<4611686018427387904/\(∀x∈a.l,(PJ a.q/\RK x)):=h
 rw[CTI]<;> delta EE EC DP OV LY LW MN GD CS AO AR AK BV BZ AQ BU DD ES LX EF CI EZ FB LJ aF AG DG AF AT AH FF CA CF AM GQ AP BR AS AW DU AX BC HH CQ HL AN OK AZ BE ED BW FX HI FZ JA CL GU EA DV GF BN FD Aa ON MI FL BS BD FH EY HZ NW DJ YD Ar IB EI Qi HR OU rV sI Fz NO AIW VS Il Ii OW S8 Ic lR Qy Pp WW Nl oY
 simp only[CC,eq_self,implies_true,forall_const]
 refine⟨⟨0,rfl,Nat.zero_le _,rfl⟩,λk ⟨h1,h2⟩=>⟨λhlt=>?_,λhge=>?_⟩⟩
 ·have hlt:k<a.l.length:=by omega
  refine⟨⟨⟨by omega,by omega⟩,hp _ (CV hlt)⟩,λhp=>?_,λhp=>⟨k+1,(CN (by omega)).symm,⟨by omega,?_⟩,by omega⟩⟩
  ·rw[h2];exact ACK hlt (by simpa using hp)
  ·rw[h2];exact AVV hlt (by simpa using hp)
 ·rw[h2];exact ALR (by omega)
theorem CUD:AJ Try.prog BBT (C2Gp.spec d2Gp):=VD C2Gp A2Gp [] [] CCQ (λ_=>by kernel_rfl) (λ_=>AC CUH AE) p2Gp (λ_=>WK rfl rfl) _
def C3Gp:Ctr:={ C2Gp with val:=λ(a:MGp)=>.bool (decide (gQ (λi=>!LB a.q (gD a.l i)) a.l.length 0>=0)) }
def d3Gp:List AVal->Heap->Option (C3Gp.α×List (Nat×Nat)×List Nat):=d2Gp
def A3Gp:Ann:={ ann 9 [(BBT,C2Gp.spec d2Gp)] with E:=[100] }
def V3Gp(a:MGp):Prop:=BQ Try.prog A3Gp BCA (AI BCA) (C3Gp.xs a) (AD (C3Gp.L a)) (C3Gp.val a) (C3Gp.keep a) [] []
abbrev VY:=λ(f:Gau->Prop)=>∀(x:Gau),f x
abbrev Bl a b c d e f g h:=AX a b c d e b f g h
abbrev iB a b c d e f g:=Bl a b c d e c f g
abbrev NQ a b c:=BV ((@List.Mem Gau) a b) c
attribute [go_sem] VY Bl iB NQ
theorem CUK(a:MGp):(V3Gp a)=(BJ (AN (CE (LJ a)) (BB (LJ a)) (Il a) (iB (Ic a) (Pp a) (Qy a) (Il a) (Ic a) (ZK (LJ a)) (VY (λi=>NQ i (BH (LJ a)) (BJ (Ii (aF a) (aF a) (rV a) (sI a)) (SD i) (GU (EE i)) (BC (EC i)) (DD (EC i) (DP i)) (MI (DP i))))))) (JT (Ap (λi=>Nl a a i) (oY a)) (Ap (λi=>S8 a (BH (LJ a)) i) (HY (LJ a)))) (Il a) (Ic a) (Pp a) (Qy a)):=by kernel_rfl
theorem CTD:AJ Try.prog BCU (C3Gp.spec d3Gp):=Ctr.spec_ok (C:=C3Gp) (λ(a:MGp) h=>Mn (A:=A3Gp) (ren:=[]) (fz:=[]) BYX (by kernel_rfl) (AC CUD AE) (by
 obtain⟨h,hp⟩:a.l.length<4611686018427387904/\(∀x∈a.l,(PJ a.q/\RK x)):=h
 show V3Gp a;rw[CUK]<;> delta JT hd6 EE EC DP OV LY LW MN AO AR AK BV BZ DD ES CI EZ LZ LJ aF VY AG GT GV AF AT AH CA CF BH AM AP BR AS AW DX CR AX BC AN Bl iB EP ED HU GU HY EM FE BJ EW FM FK Aa MI CE JS SD NQ BB HZ YD rV sI Fz AIW Il Ii S8 Ic lR ZK Qy Pp Ap Nl oY;simp[h,RB];exact hp)) _
def d4Gp:List AVal->Heap->Option (MGp×List (Nat×Nat)×List Nat)
 |[y,.fn _ [.d x] _],H=>match dRow y H with
  |some (n,g,f)=>some (⟨dLn x,MK n λi=>Sr (g i)⟩,[],f)
  |none=>none
 |_,_=>none
def A4Gp:Ann:={ ann 9 [(BCU,C3Gp.spec d3Gp)] with E:=[] }
def C4Gp:Ctr:={ ro:=[],α:=MGp,xs:=λa=>[.d (BX a.l),fvGp a.q],L:=λa=>[],val:=λa=>.bool (a.l.all λx=>LB a.q x),keep:=λa=>[],pre:=PGp }
def V4Gp(a:MGp):Prop:=BQ Try.prog A4Gp F_eG (AI F_eG) (C4Gp.xs a) (AD (C4Gp.L a)) (C4Gp.val a) (C4Gp.keep a) [] []
abbrev AJY:=@List.all Gau
attribute [go_sem] AJY
theorem CTM(a:MGp):(V4Gp a)=(DY (CE (LJ a)) (BB (LJ a)) (Il a) (iB (Ic a) (Pp a) (Qy a) (Il a) (Ic a) (ZK (LJ a)) (VY (λi=>NQ i (BH (LJ a)) (BJ (Ii (aF a) (aF a) (rV a) (sI a)) (SD i) (GU (EE i)) (BC (EC i)) (DD (EC i) (DP i)) (MI (DP i)))))) (JT (AJY (LJ a) (λi=>AIW a i)) (not (Ap (λi=>S8 a (BH (LJ a)) i) (HY (LJ a)))))):=by kernel_rfl
theorem CRR:AJ Try.prog n_eG (C4Gp.spec d4Gp):=Ctr.spec_ok (C:=C4Gp) (λ(a:MGp) h=>Mn (A:=A4Gp) (ren:=[]) (fz:=[]) CME (by kernel_rfl) (AC CTD AE) (by
 have h':a.l.length<4611686018427387904/\(∀x∈a.l,(PJ a.q/\RK x)):=h
 show V4Gp a;rw[CTM]<;> delta JT hd6 EE EC DP OV LY LW MN AO AR AK BV BZ DD ES CI EZ LZ LJ aF VY AJY AG GT GV AF AT AH CA CF BH AM AP BR AS AW DX CR AX BC AN Bl iB EP ED HU GU HY EM FE BJ EW FM FK Aa MI CE JS SD NQ BB HZ DY YD rV sI Fz AIW Il Ii S8 Ic lR ZK Qy Pp Ap;simp only[CC,eq_self,implies_true,forall_const,ge_iff_le]
 rw[<-AIB]
 exact⟨h',rfl⟩)) _
def LXIn(q:List Gau):List (Nat×AObj):=[(101,.box [.d (BX q)])]
def KXIn(q:List Gau):List (Nat×HCell):=[(101,.live (.box [.d (BX q)]))]
def fvIn(q:List Gau):AVal:=.fn (.func AAR) [] [.bptr 101 0]
def BIn(q:List Gau):AObj:=.box [fvIn q]
structure EIn where
 q:List Gau
 e:Int
structure MIn where
 q:List Gau
 l:List Int
def C1In:Ctr:={ ro:=[100,101],α:=EIn,xs:=λa=>[.d (QH a.e),.bptr 100 0],L:=λa=>(100,BIn a.q) :: LXIn a.q,val:=λa=>.bool (!QY a.e 0 (wr (a.q.length-1))),keep:=λa=>(100,.live (BIn a.q)) :: KXIn a.q }
def d1In:List AVal->Heap->Option (EIn×List (Nat×Nat)×List Nat)
 |[.d d,.bptr id _],H=>match H id with
  | .live (.box [.fn _ _ [.bptr j _]])=>match H j with
   | .live (.box [.d (.list _ m h _)])=>some (⟨MK m λi=>Sr (h i),KT d⟩,[(100,id),(101,j)],[])
   |_=>none
  |_=>none
 |_,_=>none
def A1In:Ann:={ ann 8 [(AAR,C_nm1.spec CKR)] with E:=[100,101] }
def V1In(a:EIn):Prop:=BQ Try.prog A1In BVR (AI BVR) (C1In.xs a) (AD (C1In.L a)) (C1In.val a) (C1In.keep a) [] []
abbrev yT:=EIn.q
abbrev OE a b c:=not (QY a b c)
abbrev WR a b:=OE a 0 b
abbrev uM a b:=WR a (wr b)
abbrev Qc a:=Bt (AQ a)
abbrev CU a b c d(e:Nat->Prop):=AF a b c d (AK e)
abbrev In a b:=FM a b (AH b a) (HU b a) (BH b)
abbrev KX a:=AW a (BH a)
attribute [go_sem] yT OE WR uM Qc CU In KX
theorem CTO(a:EIn):(V1In a)=(AN (CU (AM (EIn.e a)) (CE (yT a)) (BB (yT a)) (KX (yT a)) (λi=>In i (yT a))) (JT (uM (EIn.e a) (dW (yT a))) (uM (EIn.e a) (Qc (HY (yT a))))) (AZ (yT a)) (BN (yT a))):=by kernel_rfl
theorem CSK:AJ Try.prog BFE (C1In.spec d1In):=VD C1In (λ_=>A1In) [] [] COP (λ_=>by kernel_rfl) (λ_=>AC CQR AE) (λ(a:EIn) h=>by
 show V1In a;rw[CTO]<;> delta JT EE EC DP AO AR AK BV BZ AQ Ba CI EZ LZ yT AG GT GV AF AT AH CA CF BH AM GQ AP BR AS AW DX CR HH HL AN AZ EP HU JA CU HY EM GF FE BN EW FM FK Bt CE BB EY OE WR Qc KX In uM dW;try simp[wr,RB]) (λ_=>WK rfl rfl) _
def d2In:List AVal->Heap->Option (MIn×List (Nat×Nat)×List Nat)
 |[y,.fn _ _ [.bptr id _]],H=>match dRow y H with
  |some (n,g,f)=>match H id with
   | .live (.box [.fn _ _ [.bptr j _]])=>match H j with
    | .live (.box [.d (.list _ m h _)])=>some (⟨MK m λi=>Sr (h i),MK n λi=>KT (g i)⟩,[(100,id),(101,j)],f)
    |_=>none
   |_=>none
  |none=>none
 |_,_=>none
def A2In(a:MIn):Ann:={ ann 19 [(BFE,C1In.spec d1In)] with E:=[100,101],loops:=λid=>if id=2 then some [{ α:=Nat,dflt:=0,T:=λk=>⟨[(0,.d (CZ a.l)),(1,.fn (.func BFE) [] [.bptr 100 0]),(7,.int a.l.length),(8,.int k)],(100,.live (BIn a.q)) :: KXIn a.q⟩,inv:=λk=>k<=a.l.length/\gQ (λi=>!QY (gD a.l i) 0 (wr (a.q.length-1))) a.l.length 0=gQ (λi=>!QY (gD a.l i) 0 (wr (a.q.length-1))) (a.l.length-k) k,meas:=λk=>a.l.length-k }] else none }
def PIn(a:MIn):List Prop:=[a.l.length<4611686018427387904/\True]
def C2In:Ctr:={ ro:=[100,101],α:=MIn,xs:=λa=>[.d (CZ a.l),.fn (.func BFE) [] [.bptr 100 0]],L:=λa=>(100,BIn a.q) :: LXIn a.q,val:=λa=>.int (gQ (λi=>!QY (gD a.l i) 0 (wr (a.q.length-1))) a.l.length 0),keep:=λa=>(100,.live (BIn a.q)) :: KXIn a.q,pre:=PIn }
def V2In(a:MIn):Prop:=BQ Try.prog (A2In a) BUY (AI BUY) (C2In.xs a) (AD (C2In.L a)) (C2In.val a) (C2In.keep a) [] []
abbrev Bv:=MIn.l
abbrev RC:=MIn.q
abbrev YP a b c d:=CA a b (AZ c) d
abbrev Nz a:=CG (Bv a)
abbrev I8 a b c:=uM (CM a b) c
abbrev AMO a b c:=I8 (Bv a) b c
abbrev Up a b c:=AMO a b (dW (RC c))
abbrev QD a b c d e:=CU a b c d (λi=>GF i e)
attribute [go_sem] Bv RC YP Nz I8 AMO Up QD
theorem CUB(a:MIn):(V2In a)=(DJ (λi=>DE (CX (Bv a)) (QD (FC (Bv a)) (QV (Bv a)) (BD i) (AZ (RC a)) (RC a)) (JF i (Bv a)) (VS (λj=>Up a j a) (Nz a) (λj=>Up a j a) (EF (Nz a) i) i)) (λi=>FH (And (JF i (Bv a)) (VS (λj=>Up a j a) (Nz a) (λj=>Up a j a) (EF (Nz a) i) i)) i (EK (Bv a)) (And (IN i (Bv a)) (CU (JD (Bv a) i) (CE (RC a)) (BB (RC a)) (KX (RC a)) (λj=>In j (RC a)))) (NO (AMO a i (Qc (HY (RC a)))) (YP (YD (λj=>Up a j a) (Nz a)) (AQ i) (RC a) (BN (RC a))) (λj=>EV (And (CX (Bv a)) (QD (FC (Bv a)) (QV (Bv a)) (BS j i) (AZ (RC a)) (RC a))) (And (JF j (Bv a)) (VS (λk=>Up a k a) (Nz a) (λk=>Up a k a) (EF (Nz a) j) j)) (Nz a) j i)) (YP (YD (λj=>Up a j a) (Nz a)) (-1) (RC a) (BN (RC a))))):=by kernel_rfl
theorem p2In(a:MIn)(h:FT (PIn a)):V2In a:=by
 obtain⟨h,hp⟩:a.l.length<4611686018427387904/\True:=h
 rw[CUB]<;> delta EE EC DP GD CS AO AR CG AK BV BZ CM AQ BU DD ES LX EF Ba CI EZ FB LZ Bv RC AG GT GV DG AF AT AH FF CA CF BH AM BL GQ AP BR AS AW DF DX DU CR BC HH CQ HL AZ EP BE ED BW HU HI CX JD FZ JA CL EK CU EA HY DV EM PG GF FE BN FC EW FM FK FD LN Bt LL KJ FL CE EV BS JF BD FH BB EY OE DE DJ YD QV WR Qi Qc KX IN In uM NO dW VS QD YP I8 Nz AMO Up
 simp only[CC,eq_self,implies_true,forall_const]
 refine⟨⟨0,rfl,Nat.zero_le _,rfl⟩,λk ⟨h1,h2⟩=>⟨λhlt=>?_,λhge=>?_⟩⟩
 ·have hlt:k<a.l.length:=by omega
  refine⟨⟨by omega,by omega⟩,λhp=>?_,λhp=>⟨k+1,(CN (by omega)).symm,⟨by omega,?_⟩,by omega⟩⟩
  ·rw[h2];exact ACK hlt (by simpa using hp)
  ·rw[h2];exact AVV hlt (by simpa using hp)
 ·rw[h2];exact ALR (by omega)
theorem CTB:AJ Try.prog CBL (C2In.spec d2In):=VD C2In A2In [] [] CQB (λ_=>by kernel_rfl) (λ_=>AC CSK AE) p2In (λ_=>WK rfl rfl) _
def C3In:Ctr:={ C2In with val:=λ(a:MIn)=>.bool (decide (gQ (λi=>!QY (gD a.l i) 0 (wr (a.q.length-1))) a.l.length 0>=0)) }
def d3In:List AVal->Heap->Option (C3In.α×List (Nat×Nat)×List Nat):=d2In
def A3In:Ann:={ ann 9 [(CBL,C2In.spec d2In)] with E:=[100,101] }
def V3In(a:MIn):Prop:=BQ Try.prog A3In CAE (AI CAE) (C3In.xs a) (AD (C3In.L a)) (C3In.val a) (C3In.keep a) [] []
abbrev JO a b(c:Nat->Nat):=NK a (λi=>CM b (c i))
abbrev IE a b:=JO (CG a) b (λi=>i)
abbrev CT a:=IE a a
abbrev kY a:=CT (Bv a)
abbrev LP a:=JS (CG a)
abbrev NY a b c d e:=AF a b c (LP d) e
abbrev NP a:=AK (λi=>In i a)
abbrev HG a b c d e f:=GC a b c d (CM e f)
abbrev GH a b c d:=HG a b b a c d
abbrev IH a b c:=GH a b c a
abbrev BM a b:=AK (λi=>IH i a b)
abbrev ZX a b:=BM (CT a) b
abbrev FA a:=ZX a a
abbrev IC a b:=AR a (CG b)
abbrev AY a b:=IC (CG a) b
abbrev Ac a b:=AY (CT a) b
abbrev IA a:=Ac a a
attribute [go_sem] JO IE CT kY LP NY NP HG GH IH BM ZX FA IC AY Ac IA
theorem CUA(a:MIn):(V3In a)=(AN (AN (IA (Bv a)) (FA (Bv a)) (CE (RC a)) (NY (BB (RC a)) (KX (RC a)) (NP (RC a)) (kY a) FP)) (JT (Ap (λi=>Up a i a) (Nz a)) (Ap (λi=>I8 (kY a) i (Qc (HY (RC a)))) (CG (kY a)))) (AZ (RC a)) (BN (RC a))):=by kernel_rfl
theorem CRZ:AJ Try.prog BZK (C3In.spec d3In):=Ctr.spec_ok (C:=C3In) (λ(a:MIn) h=>Mn (A:=A3In) (ren:=[]) (fz:=[]) CPA (by kernel_rfl) (AC CTB AE) (by
 obtain⟨h,hp⟩:a.l.length<4611686018427387904/\True:=h
 show V3In a;rw[CUA]<;> delta JT hd6 EE EC DP AO AR CG AK BV BZ CM AQ NK Ba CI EZ LZ FP Bv RC AG GT JO GV IE AF AT AH CA CF BH AM CT GQ AP BR AS AW DF DX CR HH HL IC AN AZ EP GI AY HU GC JA HG HY EM GH IH GF FE BN BM EW FM FK Bt Ac CE IA JS ZX BB EY FA OE YD WR LP Qc KX In NP uM dW I8 NY Nz AMO Ap Up kY;simp[h,RB])) _
def d4In:List AVal->Heap->Option (MIn×List (Nat×Nat)×List Nat)
 |[y,.fn _ _ [.bptr j _]],H=>match dRow y H with
  |some (n,g,f)=>match H j with
   | .live (.box [.d (.list _ m h _)])=>some (⟨MK m λi=>Sr (h i),MK n λi=>KT (g i)⟩,[(101,j)],f)
   |_=>none
  |none=>none
 |_,_=>none
def A4In:Ann:={ ann 9 [(BZK,C3In.spec d3In)] with E:=[101] }
def C4In:Ctr:={ ro:=[101],α:=MIn,xs:=λa=>[.d (CZ a.l),fvIn a.q],L:=λa=>LXIn a.q,val:=λa=>.bool (a.l.all λx=>QY x 0 (wr (a.q.length-1))),keep:=λa=>KXIn a.q,pre:=PIn }
def V4In(a:MIn):Prop:=BQ Try.prog A4In F_eI (AI F_eI) (C4In.xs a) (AD (C4In.L a)) (C4In.val a) (C4In.keep a) [] []
abbrev BDC:=@List.all Int
attribute [go_sem] BDC
theorem CRW(a:MIn):(V4In a)=(AN (AN (IA (Bv a)) (FA (Bv a)) (CE (RC a)) (NY (BB (RC a)) (KX (RC a)) (NP (RC a)) (kY a) FP)) (JT (BDC (Bv a) (λi=>Hs i (wr (dW (RC a))))) (not (Ap (λi=>I8 (kY a) i (Qc (HY (RC a)))) (CG (kY a))))) (AZ (RC a)) (BN (RC a))):=by kernel_rfl
theorem CTJ:AJ Try.prog n_eI (C4In.spec d4In):=Ctr.spec_ok (C:=C4In) (λ(a:MIn) h=>Mn (A:=A4In) (ren:=[]) (fz:=[]) CSC (by kernel_rfl) (AC CRZ AE) (by
 have h':a.l.length<4611686018427387904/\True:=h
 show V4In a;rw[CRW]<;> delta JT hd6 EE EC DP AO AR CG AK BV BZ CM AQ NK Ba CI EZ LZ FP Bv RC BDC AG GT JO GV IE AF AT AH CA CF BH AM CT GQ AP BR AS AW DF DX CR HH HL IC AN AZ EP GI AY HU GC JA HG HY EM GH IH GF FE BN BM EW FM FK Bt Ac CE IA JS ZX BB EY FA OE YD WR LP Qc KX In NP uM dW I8 NY Ap Hs kY;simp only[CC,eq_self,implies_true,forall_const,ge_iff_le]
 rw[<-AIB]
 exact⟨h'.1,rfl⟩)) _
end Go.Bal
