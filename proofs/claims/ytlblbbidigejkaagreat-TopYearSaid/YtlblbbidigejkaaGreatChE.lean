/- Package chart: every. Printed by gench.py. -/
import Derived.Test.YtlblbbidigejkaaGreatCom0
set_option linter.unusedVariables false
set_option linter.unusedSimpArgs false
namespace Go.Bal
open Go Go.Sym Go.Proofs
def Xl(p:Nat->Bool):Nat->Bool
 |0=>true
 |n+1=>Xl p n&&p n
theorem Yc{p:Nat->Bool}:∀{n:Nat},Xl p n=true↔∀i,i<n->p i=true
 |0=>by simp[Xl]
 |n+1=>by
  simp only[Xl,Bool.and_eq_true,Yc (n:=n)]
  constructor
  ·intro h i hi
   by_cases he:i=n
   ·subst he;exact h.2
   ·exact h.1 i (by omega)
  ·exact λh=>⟨λi hi=>h i (by omega),h n (by omega)⟩
theorem AYG{p:Nat->Bool}:∀{n k:Nat},(0<=TE p n k)↔∃i,k<=i/\i<k+n/\p i=true
 |0,k=>by simp[TE];omega
 |n+1,k=>by
  simp only[TE]
  by_cases h:p k=true
  ·rw[if_pos h]
   constructor
   ·intro _;exact⟨k,Nat.le_refl _,by omega,h⟩
   ·intro _;omega
  ·rw[if_neg h,AYG (n:=n) (k:=k+1)]
   constructor
   ·rintro⟨i,h1,h2,h3⟩;exact⟨i,by omega,by omega,h3⟩
   ·rintro⟨i,h1,h2,h3⟩
    refine⟨i,?_,by omega,h3⟩
    by_cases he:i=k
    ·subst he;exact absurd h3 h
    ·omega
theorem BXF{p:Nat->Bool}{n:Nat}:(!decide (0<=TE (λi=>!p i) n 0))=Xl p n:=by
 rw[Bool.eq_iff_iff,Yc]
 simp only[Bool.not_eq_true',decide_eq_false_iff_not,AYG,Nat.zero_le,Nat.zero_add,true_and]
 constructor
 ·intro h i hi
  cases hp:p i with
  |true=>rfl
  |false=>exact (h ⟨i,hi,by simp[hp]⟩).elim
 ·rintro h ⟨i,hi,hp⟩
  rw[h i hi] at hp;cases hp
theorem W0{α:Type}[Inhabited α]{p:α->Bool}{l:List α}:(!decide (0<=TE (λi=>!p (gD l i)) l.length 0))=l.all p:=by
 rw[BXF,Bool.eq_iff_iff,Yc,List.all_eq_true]
 exact⟨λh x hx=>by obtain⟨i,hi,rfl⟩:=Hq hx;exact h i hi,λh i hi=>h _ (FD hi)⟩
def chB(c:Cht):AObj:=.box [.int c.p.lo,.int c.p.hi,.int c.base,.int c.scale,.int c.off,.d (eMks c.ms),.d (eNts c.ns)]
def AZA(H:Heap)(id:Nat):Option Cht:=match H id with
 | .live (.box [.d a,.d b,.d c,.d d,.d e,.d (.list _ n f _),.d (.list _ m g _)])=>some ⟨⟨DG a,DG b⟩,DG c,DG d,DG e,HQ n λi=>dMk (f i),HQ m λi=>dNt (g i)⟩
 |_=>none
structure ChN where
 q:Cht
 e:Nt
def C_ck1:Ctr:={ ro:=[101],α:=ChN,xs:=λa=>[.d (eNt a.e),.bptr 101 0],L:=λa=>[(101,chB a.q)],val:=λa=>.bool (SJ a.e a.q.ms.length),keep:=λa=>[(101,.live (chB a.q))] }
def CUI:List AVal->Heap->Option (ChN×List (Nat×Nat)×List Nat)
 |[.d d,.bptr id _],H=>match AZA H id with
  |some q=>some (⟨q,dNt d⟩,[(101,id)],[])
  |none=>none
 |_,_=>none
def CUJ:Ann:={ ann 9 [(150,BRO)] with E:=[101] }
def CTA(a:ChN):Prop:=AS ZP CUJ Tryz.f149 (AG Tryz.f149) (C_ck1.xs a) (AC (C_ck1.L a)) (C_ck1.val a) (C_ck1.keep a) [] []
abbrev hd55:=@List.length Mk
abbrev Cs:=Cht.ms
abbrev hd57:=ChN.q
abbrev Xr:=Cht.base
abbrev K4:=Cht.scale
abbrev Sk:=Cht.off
abbrev hd64:=@gD Mk instInhabitedMk
abbrev Xt:=@List.length Nt
abbrev kW:=Cht.ns
abbrev lW:=@gD Nt instInhabitedNt
abbrev AP a b c d e f g h p:=CB a b c d (CB e f g h p)
abbrev BU a b c d e f(g:Nat->Prop) h p:=AP a b c d e f (AE g) h p
abbrev BV a b c d e f(g:Nat->Prop) h p:=BU a b c d e (BI f) g h p
abbrev FU a:=Xt (kW a)
abbrev BLQ a b c:=HB a (FU b) c
abbrev PO a b c d e:=CB a b (AI c) d e
abbrev DO a b c d e:=PO a (AI b) c d e
abbrev El a:=GN (hd23 a)
abbrev zX a:=AI (El a)
abbrev Di a:=IP (hd23 a)
abbrev M0 a:=AI (Di a)
abbrev Bw a:=GN (hd22 a)
abbrev QX a:=IP (hd22 a)
abbrev BPM a b c:=DO (AI a) (QX b) (Bw b) (M0 c) (zX b)
abbrev LG a b:=lW (kW a) b
abbrev RJ a b:=Xv (LG a b)
abbrev BBU a b c:=BLQ a b (BPM (RJ b a) c c)
abbrev ZH a b:=BBU a b (LG b a)
abbrev Ih a:=AE (λi=>ZH i a)
abbrev UE a:=BI (FU a)
abbrev pW a b:=Mk.ht (hd64 a b)
abbrev Zc a b:=Mk.pl (hd64 a b)
abbrev ATN a b c:=Vx a b (Zc c a) (pW c a)
abbrev Qc a b c:=ATN a b (Cs c)
abbrev CO a:=hd55 (Cs a)
abbrev FC a:=AI (Sk a)
abbrev EN a:=AI (K4 a)
abbrev GE a:=AI (Xr a)
abbrev IS a:=GN (Cht.p a)
abbrev NL a:=AI (IS a)
abbrev GA a:=IP (Cht.p a)
abbrev KC a:=AI (GA a)
abbrev Oe a b:=SJ a (AZ b)
attribute [go_sem] hd55 Cs hd57 Xr K4 Sk hd64 Xt kW lW AP BU BV FU BLQ PO DO El zX Di M0 Bw QX BPM LG RJ BBU ZH Ih UE pW Zc ATN Qc CO FC EN GE IS NL GA KC Oe
theorem CVV(a:ChN):(CTA a)=(And (Sr (Oe (ChN.e a) (CO (hd57 a))) (Oe (Nt.mk (Xv (ChN.e a)) (hd22 (ChN.e a)) (hd23 (ChN.e a))) (CO (hd57 a)))) (BV (KC (hd57 a)) (NL (hd57 a)) (GE (hd57 a)) (EN (hd57 a)) (FC (hd57 a)) (CO (hd57 a)) (λi=>Qc i (CO (hd57 a)) (hd57 a)) (UE (hd57 a)) (Ih (hd57 a)))):=by kernel_rfl
theorem CVE:AH ZP 149 (C_ck1.spec CUI):=MK C_ck1 (λ_=>CUJ) [] [] Tryz.func149 (λ_=>by kernel_rfl) (λ_=>AA BYL AD) (λ(a:ChN) _=>by
 show CTA a;rw[CVV]<;> dsimp only[go_sem];simp[GM,GC]) (λ_=>OA rfl rfl) _
def lZ(s:Span):Bool:=decide (s.lo<=s.hi)
def BZN(x:Span):Prop:=AS ZP (ann 8 []) Tryz.f101 (AG Tryz.f101) (xS1 x) (AC []) (.bool (lZ x)) [] [] []
theorem CLY(x:Span):(BZN x)=(Sr (lZ x) (hd7 (IP x) (GN x))):=by kernel_rfl
def BCO:=pDQ dS1 λx=>.bool (lZ x)
theorem CNQ:AH ZP 101 BCO:=Y8 xS1 hS1 λx _=>TF (A:=ann 8 []) (ren:=[]) (fz:=[]) Tryz.func101 (by kernel_rfl) AD (by
 show BZN x;rw[CLY]<;> dsimp only[go_sem];try simp[lZ])
def CFC(x:Span):Prop:=AS ZP (ann 8 []) Tryz.f68 (AG Tryz.f68) (xS1 x) (AC []) (.bool (lZ x)) [] [] []
theorem CPT(x:Span):(CFC x)=(Sr (lZ x) (hd7 (IP x) (GN x))):=by kernel_rfl
theorem CNN:AH ZP 68 BCO:=Y8 xS1 hS1 λx _=>TF (A:=ann 8 []) (ren:=[]) (fz:=[]) Tryz.func68 (by kernel_rfl) AD (by
 show CFC x;rw[CPT]<;> dsimp only[go_sem];try simp[lZ])
def LXNr(q:Cht):List (Nat×AObj):=[(101,chB q)]
def KXNr(q:Cht):List (Nat×HCell):=[(101,.live (chB q))]
def fvNr(q:Cht):AVal:=.fn (.func 149) [] [.bptr 101 0]
def BNr(q:Cht):AObj:=.box [fvNr q]
structure ENr where
 q:Cht
 e:Nt
structure MNr where
 q:Cht
 l:List Nt
def C1Nr:Ctr:={ ro:=[100,101],α:=ENr,xs:=λa=>[.d (eNt a.e),.bptr 100 0],L:=λa=>(100,BNr a.q) :: LXNr a.q,val:=λa=>.bool (!SJ a.e a.q.ms.length),keep:=λa=>(100,.live (BNr a.q)) :: KXNr a.q }
def d1Nr:List AVal->Heap->Option (ENr×List (Nat×Nat)×List Nat)
 |[.d d,.bptr id _],H=>match H id with
  | .live (.box [.fn _ _ [.bptr j _]])=>match AZA H j with
   |some q=>some (⟨q,dNt d⟩,[(100,id),(101,j)],[])
   |none=>none
  |_=>none
 |_,_=>none
def A1Nr:Ann:={ ann 8 [(149,C_ck1.spec CUI)] with E:=[100,101] }
def V1Nr(a:ENr):Prop:=AS ZP A1Nr Tryz.f161 (AG Tryz.f161) (C1Nr.xs a) (AC (C1Nr.L a)) (C1Nr.val a) (C1Nr.keep a) [] []
abbrev hd70:=ENr.e
abbrev Ga:=ENr.q
abbrev hd73:=@HQ Nt
abbrev ADK a:=CO (Ga a)
abbrev ANW a b:=Sr a (not b)
abbrev BZI a(b:Nat->Mk):=(@HQ Mk) (hd55 a) b
abbrev BDO a b:=BZI a (λi=>hd64 b i)
abbrev Mf a:=BDO (Cs a) (Cs a)
abbrev ZA a:=hd55 (Mf a)
abbrev KD a b c:=LZ (AI a) b c
abbrev Ea a b c d e:=DO (AI a) b c d e
abbrev JG a b c d e f:=CB a b c (AN d e) f
abbrev Kt a b c d e f g:=JG (AN a b) c d e f g
abbrev YJ a b c d e f g h:=Kt a b c d e f (AN g h)
abbrev BKZ a b c d e f g h p:=YJ a b c (AN (Bw d) e) (Di f) g (El h) p
abbrev qD a b:=AN (QX a) b
abbrev BPK a b c d e f g h:=BKZ a b (qD c (QX d)) e (Bw f) e (Di g) e (El h)
abbrev bA a b c d e:=BLQ a b (BPK (RJ b a) c d e d e e e)
abbrev AKM a(b:Nat->Nt):=hd73 (Xt a) b
abbrev AZJ a(b:Nat->Nt):=AKM (kW a) b
abbrev Se a:=AZJ a (λi=>LG a i)
abbrev BAM a b:=lW (Se a) b
abbrev AAU a b c d e:=bA a b (Xv (BAM b c)) d (BAM b e)
abbrev Ex a b c d e:=AAU a b c (LG b d) e
abbrev uI a b:=BB (FU a) b
abbrev ADS a:=Xt (Se a)
abbrev Ez a:=uI a (ADS a)
abbrev eZ a b c d e:=kJ a b (AN c d) e
abbrev Bh a b c d e f:=eZ a b c d (AN e f)
abbrev AJB a b c d e f g:=Bh a b (Zc c d) e (pW f a) g
abbrev BBT a b c d e f:=AJB a b c a (Zc d e) c (pW d f)
abbrev Vw a b c d:=BBT a b c d a a
abbrev BPB a b c:=BPK (Xv a) b a c a c c c
abbrev AQG a b c d:=BPB a (RJ b c) d
abbrev J8 a b c:=AQG (BAM a b) a b c
abbrev XG a b c d:=HB a (ADS b) (J8 b c (LG b d))
abbrev AOO a b:=BB a (FU b)
abbrev WN a:=AOO (ADS a) a
abbrev US a b c:=AE (λi=>Vw i a b c)
abbrev ZL a b c:=US a b (Cs c)
attribute [go_sem] hd70 Ga hd73 ADK ANW BZI BDO Mf ZA KD Ea JG Kt YJ BKZ qD BPK bA AKM AZJ Se BAM AAU Ex uI ADS Ez eZ Bh AJB BBT Vw BPB AQG J8 XG AOO WN US ZL
theorem DAL(a:ENr):(V1Nr a)=(AQ (KD (Xv (hd70 a)) (QX (hd70 a)) (Ea (Bw (hd70 a)) (Di (hd70 a)) (El (hd70 a)) (KC (Ga a)) (AP (NL (Ga a)) (GE (Ga a)) (EN (Ga a)) (FC (Ga a)) (BB (ZA (Ga a)) (ADK a)) (ZL (ZA (Ga a)) (Mf (Ga a)) (Ga a)) (WN (Ga a)) (AE (λi=>XG i (Ga a) i i)) (BU (KC (Ga a)) (NL (Ga a)) (GE (Ga a)) (EN (Ga a)) (FC (Ga a)) (BB (ADK a) (ZA (Ga a))) (λi=>Vw i (ADK a) (Cs (Ga a)) (Mf (Ga a))) (Ez (Ga a)) (AE (λi=>Ex i (Ga a) i i i)))))) (ANW (not (Oe (hd70 a) (ADK a))) (Oe (Nt.mk (Xv (hd70 a)) (hd22 (hd70 a)) (hd23 (hd70 a))) (ZA (Ga a)))) (BV (KC (Ga a)) (NL (Ga a)) (GE (Ga a)) (EN (Ga a)) (FC (Ga a)) (ADK a) (λi=>Qc i (ADK a) (Ga a)) (UE (Ga a)) (Ih (Ga a)))):=by kernel_rfl
theorem CYO:AH ZP 161 (C1Nr.spec d1Nr):=MK C1Nr (λ_=>A1Nr) [] [] Tryz.func161 (λ_=>by kernel_rfl) (λ_=>AA CVE AD) (λ(a:ENr) h=>by
 show V1Nr a;rw[DAL]<;> dsimp only[go_sem];try simp[GM,GC]) (λ_=>OA rfl rfl) _
def d2Nr:List AVal->Heap->Option (MNr×List (Nat×Nat)×List Nat)
 |[y,.fn _ _ [.bptr id _]],H=>match Ti y H with
  |some (n,g,f)=>match H id with
   | .live (.box [.fn _ _ [.bptr j _]])=>match AZA H j with
    |some q=>some (⟨q,HQ n λi=>dNt (g i)⟩,[(100,id),(101,j)],f)
    |none=>none
   |_=>none
  |none=>none
 |_,_=>none
def A2Nr(a:MNr):Ann:={ ann 19 [(161,C1Nr.spec d1Nr)] with E:=[100,101],loops:=λid=>if id=2 then some [{ α:=Nat,dflt:=0,T:=λk=>⟨[(0,.d (eNts a.l)),(1,.fn (.func 161) [] [.bptr 100 0]),(7,.int a.l.length),(8,.int k)],(100,.live (BNr a.q)) :: KXNr a.q⟩,inv:=λk=>k<=a.l.length/\TE (λi=>!SJ (gD a.l i) a.q.ms.length) a.l.length 0=TE (λi=>!SJ (gD a.l i) a.q.ms.length) (a.l.length-k) k,meas:=λk=>a.l.length-k }] else none }
def PNr(a:MNr):List Prop:=[a.l.length<4611686018427387904/\True]
def C2Nr:Ctr:={ ro:=[100,101],α:=MNr,xs:=λa=>[.d (eNts a.l),.fn (.func 161) [] [.bptr 100 0]],L:=λa=>(100,BNr a.q) :: LXNr a.q,val:=λa=>.int (TE (λi=>!SJ (gD a.l i) a.q.ms.length) a.l.length 0),keep:=λa=>(100,.live (BNr a.q)) :: KXNr a.q,pre:=PNr }
def V2Nr(a:MNr):Prop:=AS ZP (A2Nr a) Tryz.f162 (AG Tryz.f162) (C2Nr.xs a) (AC (C2Nr.L a)) (C2Nr.val a) (C2Nr.keep a) [] []
abbrev EA:=@Exists Nat
abbrev hd76:=MNr.l
abbrev XD:=MNr.q
abbrev Ob a(b:Nat->Prop):=And a (AE b)
abbrev LR(a:Nat->Prop)(b:Nat->Prop):=Ob (EA a) b
abbrev ABP a:=Ih (XD a)
abbrev AAD a:=UE (XD a)
abbrev QC a:=CO (XD a)
abbrev Qb a:=FC (XD a)
abbrev Rr a:=EN (XD a)
abbrev Oj a:=GE (XD a)
abbrev Yn a:=NL (XD a)
abbrev Yw a:=KC (XD a)
abbrev BMB(a:Nat->Bool) b c:=TE (λi=>not (a i)) b c
abbrev BLY(a:Nat->Bool) b:=BMB a b 0
abbrev BAS(a:Nat->Bool) b c:=AN (BLY a b) c
abbrev Yt(a:Nat->Bool) b:=BAS a b (-1)
abbrev Bz a:=Xt (hd76 a)
abbrev BJQ a b:=Oe a (QC b)
abbrev Hb a b:=lW (hd76 a) b
abbrev iI a b c:=BJQ (Hb a b) c
abbrev JJ(a:Nat->Bool) b(c:Nat->Bool) d:=BAS a b (BMB c (KO b d) d)
abbrev Hx a b c:=HB a (Xt b) c
abbrev Zm a:=BPM (Xv a) a a
abbrev cO(a:Nat->Bool) b c:=BAS a b (AZ c)
abbrev Pg a:=ZA (XD a)
abbrev rD a b c:=And (CL a b) c
abbrev ACJ a:=Mf (XD a)
attribute [go_sem] EA hd76 XD Ob LR ABP AAD QC Qb Rr Oj Yn Yw BMB BLY BAS Yt Bz BJQ Hb iI JJ Hx Zm cO Pg rD ACJ
theorem CZY(a:MNr):(V2Nr a)=(LR (λi=>DK (PO (BI (Bz a)) (AE (λj=>Hx j (hd76 a) (Zm (Hb a j)))) (AZ (Bz a)) (BC i) (BV (Yw a) (Yn a) (Oj a) (Rr a) (Qb a) (QC a) (λj=>Qc j (QC a) (XD a)) (AAD a) (ABP a))) i (Bz a) (JJ (λj=>iI a j a) (Bz a) (λj=>iI a j a) i)) (λi=>WR i (Bz a) (JJ (λj=>iI a j a) (Bz a) (λj=>iI a j a) i) (rD i (Bz a) (KD (Xv (Hb a i)) (QX (Hb a i)) (Ea (Bw (Hb a i)) (Di (Hb a i)) (El (Hb a i)) (Yw a) (AP (Yn a) (Oj a) (Rr a) (Qb a) (BB (Pg a) (QC a)) (ZL (Pg a) (ACJ a) (XD a)) (WN (XD a)) (AE (λj=>XG j (XD a) j j)) (BU (Yw a) (Yn a) (Oj a) (Rr a) (Qb a) (BB (QC a) (Pg a)) (λj=>Vw j (QC a) (Cs (XD a)) (ACJ a)) (Ez (XD a)) (AE (λj=>Ex j (XD a) j j j))))))) (FW (not (Oe (Nt.mk (Xv (Hb a i)) (hd22 (Hb a i)) (hd23 (Hb a i))) (Pg a))) (cO (λj=>iI a j a) (Bz a) i) (BV (Yw a) (Yn a) (Oj a) (Rr a) (Qb a) (QC a) (λj=>Qc j (QC a) (XD a)) (AAD a) (ABP a)) (EA (λj=>IK (PO (BI (Bz a)) (AE (λk=>Hx k (hd76 a) (Zm (Hb a k)))) (AZ (Bz a)) (AR j i) (BV (Yw a) (Yn a) (Oj a) (Rr a) (Qb a) (QC a) (λk=>Qc k (QC a) (XD a)) (AAD a) (ABP a))) j (Bz a) (JJ (λk=>iI a k a) (Bz a) (λk=>iI a k a) j) i))) (And (Yt (λj=>iI a j a) (Bz a)) (BV (Yw a) (Yn a) (Oj a) (Rr a) (Qb a) (QC a) (λj=>Qc j (QC a) (XD a)) (AAD a) (ABP a))))):=by kernel_rfl
theorem p2Nr(a:MNr)(h:BG (PNr a)):V2Nr a:=by
 obtain⟨h,hp⟩:a.l.length<4611686018427387904/\True:=h
 rw[CZY]<;> dsimp only[go_sem]
 simp only[P3,CU]
 refine⟨⟨0,rfl,Nat.zero_le _,rfl⟩,λk ⟨h1,h2⟩=>⟨λhlt=>?_,λhge=>?_⟩⟩
 ·have hlt:k<a.l.length:=by omega
  refine⟨⟨by omega,by omega⟩,λhp=>?_,λhp=>⟨k+1,(BJ (by omega)).symm,⟨by omega,?_⟩,by omega⟩⟩
  ·rw[h2];exact YB hlt (by simpa using hp)
  ·rw[h2];exact Wv hlt (by simpa using hp)
 ·rw[h2];exact Ge (by omega)
theorem CZE:AH ZP 162 (C2Nr.spec d2Nr):=MK C2Nr A2Nr [] [] Tryz.func162 (λ_=>by kernel_rfl) (λ_=>AA CYO AD) p2Nr (λ_=>OA rfl rfl) _
def C3Nr:Ctr:={ C2Nr with val:=λ(a:MNr)=>.bool (decide (TE (λi=>!SJ (gD a.l i) a.q.ms.length) a.l.length 0>=0)) }
def d3Nr:List AVal->Heap->Option (C3Nr.α×List (Nat×Nat)×List Nat):=d2Nr
def A3Nr:Ann:={ ann 9 [(162,C2Nr.spec d2Nr)] with E:=[100,101] }
def V3Nr(a:MNr):Prop:=AS ZP A3Nr Tryz.f151 (AG Tryz.f151) (C3Nr.xs a) (AC (C3Nr.L a)) (C3Nr.val a) (C3Nr.keep a) [] []
abbrev EB:=True
abbrev CV a b c d:=AQ (And a b) c d
abbrev AZH(a:Nat->Bool) b:=hd6 (BLY a b) 0
abbrev Yu(a:Nat->Bool) b(c:Nat->Bool) d:=Sr (AZH a b) (AZH c d)
abbrev cL a b:=AKM (hd76 a) (λi=>Hb b i)
abbrev DY a b c(d:Nat->Prop) e f g h p:=AP a b c (AE d) e f g h p
abbrev JY a:=OB a 4611686018427387904
abbrev H9 a:=JY (Xt a)
abbrev Og a b c:=US a (Cs b) c
abbrev Hy a b:=BPB a (Xv b) b
abbrev Rf a b c d:=Hx a b (Hy (lW b c) d)
attribute [go_sem] EB CV AZH Yu cL DY JY H9 Og Hy Rf
theorem CZP(a:MNr):(V3Nr a)=(CV (BB (Xt (cL a a)) (Bz a)) (DO (AE (λi=>Rf i (cL a a) i (Hb a i))) (GA (XD a)) (IS (XD a)) (Oj a) (DY (Rr a) (Qb a) (BB (Pg a) (QC a)) (λi=>Vw i (Pg a) (ACJ a) (Cs (XD a))) (WN (XD a)) (AE (λi=>XG i (XD a) i i)) (Yw a) (Yn a) (BU (Oj a) (Rr a) (Qb a) (BB (QC a) (Pg a)) (Og (QC a) (XD a) (ACJ a)) (Ez (XD a)) (λi=>Ex i (XD a) i i i) (H9 (cL a a)) EB))) (Yu (λi=>iI a i a) (Bz a) (λi=>Oe (lW (cL a a) i) (Pg a)) (Xt (cL a a))) (BV (Yw a) (Yn a) (Oj a) (Rr a) (Qb a) (QC a) (λi=>Qc i (QC a) (XD a)) (AAD a) (ABP a))):=by kernel_rfl
theorem CZH:AH ZP 151 (C3Nr.spec d3Nr):=Ctr.spec_ok (C:=C3Nr) (λ(a:MNr) h=>TF (A:=A3Nr) (ren:=[]) (fz:=[]) Tryz.func151 (by kernel_rfl) (AA CZE AD) (by
 obtain⟨h,hp⟩:a.l.length<4611686018427387904/\True:=h
 show V3Nr a;rw[CZP]<;> dsimp only[go_sem];simp[h,GC])) _
def d4Nr:List AVal->Heap->Option (MNr×List (Nat×Nat)×List Nat)
 |[y,.fn _ _ [.bptr j _]],H=>match Ti y H with
  |some (n,g,f)=>match AZA H j with
   |some q=>some (⟨q,HQ n λi=>dNt (g i)⟩,[(101,j)],f)
   |none=>none
  |none=>none
 |_,_=>none
def A4Nr:Ann:={ ann 9 [(151,C3Nr.spec d3Nr)] with E:=[101] }
def C4Nr:Ctr:={ ro:=[101],α:=MNr,xs:=λa=>[.d (eNts a.l),fvNr a.q],L:=λa=>LXNr a.q,val:=λa=>.bool (a.l.all λx=>SJ x a.q.ms.length),keep:=λa=>KXNr a.q,pre:=PNr }
def V4Nr(a:MNr):Prop:=AS ZP A4Nr Tryz.f148 (AG Tryz.f148) (C4Nr.xs a) (AC (C4Nr.L a)) (C4Nr.val a) (C4Nr.keep a) [] []
abbrev hd80:=@List.all Nt
abbrev jC a(b:Nat->Bool) c:=ANW a (AZH b c)
attribute [go_sem] hd80 jC
theorem DCJ(a:MNr):(V4Nr a)=(CV (BB (Xt (cL a a)) (Bz a)) (DO (AE (λi=>Rf i (cL a a) i (Hb a i))) (GA (XD a)) (IS (XD a)) (Oj a) (DY (Rr a) (Qb a) (BB (Pg a) (QC a)) (λi=>Vw i (Pg a) (ACJ a) (Cs (XD a))) (WN (XD a)) (AE (λi=>XG i (XD a) i i)) (Yw a) (Yn a) (BU (Oj a) (Rr a) (Qb a) (BB (QC a) (Pg a)) (Og (QC a) (XD a) (ACJ a)) (Ez (XD a)) (λi=>Ex i (XD a) i i i) (H9 (cL a a)) EB))) (jC (hd80 (hd76 a) (λi=>BJQ i a)) (λi=>Oe (lW (cL a a) i) (Pg a)) (Xt (cL a a))) (BV (Yw a) (Yn a) (Oj a) (Rr a) (Qb a) (QC a) (λi=>Qc i (QC a) (XD a)) (AAD a) (ABP a))):=by kernel_rfl
theorem CYP(a:MNr)(h:BG (PNr a)):FnT ZP 148 (C4Nr.xs a) (AC (C4Nr.L a)) (C4Nr.val a) (C4Nr.keep a):=TF (A:=A4Nr) (ren:=[]) (fz:=[]) Tryz.func148 (by kernel_rfl) (AA CZH AD) (by
 have h':a.l.length<4611686018427387904/\True:=h
 show V4Nr a;rw[DCJ]<;> dsimp only[go_sem];simp only[P3,CU,ge_iff_le]
 rw[<-W0]
 exact⟨h'.1,rfl⟩)
theorem DCA:AH ZP 148 (C4Nr.spec d4Nr):=Ctr.spec_ok (C:=C4Nr) CYP _
def fvSa(q:One):AVal:=.fn (.func 101) [] []
def BSa(q:One):AObj:=.box [fvSa q]
structure ESa where
 q:One
 e:Span
structure MSa where
 q:One
 l:List Span
def C1Sa:Ctr:={ ro:=[100],α:=ESa,xs:=λa=>[.d (EQ a.e),.bptr 100 0],L:=λa=>(100,BSa a.q) :: [],val:=λa=>.bool (!lZ a.e),keep:=λa=>(100,.live (BSa a.q)) :: [] }
def d1Sa:List AVal->Heap->Option (ESa×List (Nat×Nat)×List Nat)
 |[.d d,.bptr id _],H=>some (⟨default,VB d⟩,[(100,id)],[])
 |_,_=>none
def A1Sa:Ann:={ ann 8 [(101,BCO)] with E:=[100] }
def V1Sa(a:ESa):Prop:=AS ZP A1Sa Tryz.f103 (AG Tryz.f103) (C1Sa.xs a) (AC (C1Sa.L a)) (C1Sa.val a) (C1Sa.keep a) [] []
abbrev WI a:=Sr a a
abbrev Qe a:=WI (not a)
attribute [go_sem] WI Qe
theorem DDS(a:ESa):(V1Sa a)=(Qe (lZ (ESa.e a))):=by kernel_rfl
theorem DCR:AH ZP 103 (C1Sa.spec d1Sa):=MK C1Sa (λ_=>A1Sa) [] [] Tryz.func103 (λ_=>by kernel_rfl) (λ_=>AA CNQ AD) (λ(a:ESa) h=>by
 show V1Sa a;rw[DDS]<;> dsimp only[go_sem];try simp[GM,GC]) (λ_=>OA rfl rfl) _
def d2Sa:List AVal->Heap->Option (MSa×List (Nat×Nat)×List Nat)
 |[y,.fn _ _ [.bptr id _]],H=>match Ti y H with
  |some (n,g,f)=>some (⟨default,HQ n λi=>VB (g i)⟩,[(100,id)],f)
  |none=>none
 |_,_=>none
def A2Sa(a:MSa):Ann:={ ann 19 [(103,C1Sa.spec d1Sa)] with E:=[100],loops:=λid=>if id=2 then some [{ α:=Nat,dflt:=0,T:=λk=>⟨[(0,.d (NX a.l)),(1,.fn (.func 103) [] [.bptr 100 0]),(7,.int a.l.length),(8,.int k)],(100,.live (BSa a.q)) :: []⟩,inv:=λk=>k<=a.l.length/\TE (λi=>!lZ (gD a.l i)) a.l.length 0=TE (λi=>!lZ (gD a.l i)) (a.l.length-k) k,meas:=λk=>a.l.length-k }] else none }
def PSa(a:MSa):List Prop:=[a.l.length<4611686018427387904/\True]
def C2Sa:Ctr:={ ro:=[100],α:=MSa,xs:=λa=>[.d (NX a.l),.fn (.func 103) [] [.bptr 100 0]],L:=λa=>(100,BSa a.q) :: [],val:=λa=>.int (TE (λi=>!lZ (gD a.l i)) a.l.length 0),keep:=λa=>(100,.live (BSa a.q)) :: [],pre:=PSa }
def V2Sa(a:MSa):Prop:=AS ZP (A2Sa a) Tryz.f129 (AG Tryz.f129) (C2Sa.xs a) (AC (C2Sa.L a)) (C2Sa.val a) (C2Sa.keep a) [] []
abbrev C0:=MSa.l
abbrev Sd a:=PN (C0 a)
abbrev AAF a b:=lZ (hd33 a b)
abbrev bH a b:=AAF (C0 a) b
abbrev Be a b c:=YL (not a) b c
abbrev Uj a b(c:Nat->Prop):=Be a b (EA c)
abbrev kG a b c:=LZ a b (AI c)
attribute [go_sem] C0 Sd AAF bH Be Uj kG
theorem CYL(a:MSa):(V2Sa a)=(LR (λi=>DK (Yo (Sd a) (C0 a) (BC i)) i (Sd a) (JJ (λj=>bH a j) (Sd a) (λj=>bH a j) i)) (λi=>WR i (Sd a) (JJ (λj=>bH a j) (Sd a) (λj=>bH a j) i) (kG (CL i (Sd a)) (FY (C0 a) i) (FT (C0 a) i)) (Uj (bH a i) (cO (λj=>bH a j) (Sd a) i) (λj=>IK (Yo (Sd a) (C0 a) (AR j i)) j (Sd a) (JJ (λk=>bH a k) (Sd a) (λk=>bH a k) j) i)) (Yt (λj=>bH a j) (Sd a)))):=by kernel_rfl
theorem p2Sa(a:MSa)(h:BG (PSa a)):V2Sa a:=by
 obtain⟨h,hp⟩:a.l.length<4611686018427387904/\True:=h
 rw[CYL]<;> dsimp only[go_sem]
 simp only[P3,CU]
 refine⟨⟨0,rfl,Nat.zero_le _,rfl⟩,λk ⟨h1,h2⟩=>⟨λhlt=>?_,λhge=>?_⟩⟩
 ·have hlt:k<a.l.length:=by omega
  refine⟨⟨by omega,by omega⟩,λhp=>?_,λhp=>⟨k+1,(BJ (by omega)).symm,⟨by omega,?_⟩,by omega⟩⟩
  ·rw[h2];exact YB hlt (by simpa using hp)
  ·rw[h2];exact Wv hlt (by simpa using hp)
 ·rw[h2];exact Ge (by omega)
theorem CZD:AH ZP 129 (C2Sa.spec d2Sa):=MK C2Sa A2Sa [] [] Tryz.func129 (λ_=>by kernel_rfl) (λ_=>AA DCR AD) p2Sa (λ_=>OA rfl rfl) _
def C3Sa:Ctr:={ C2Sa with val:=λ(a:MSa)=>.bool (decide (TE (λi=>!lZ (gD a.l i)) a.l.length 0>=0)) }
def d3Sa:List AVal->Heap->Option (C3Sa.α×List (Nat×Nat)×List Nat):=d2Sa
def A3Sa:Ann:={ ann 9 [(129,C2Sa.spec d2Sa)] with E:=[100] }
def V3Sa(a:MSa):Prop:=AS ZP A3Sa Tryz.f102 (AG Tryz.f102) (C3Sa.xs a) (AC (C3Sa.L a)) (C3Sa.val a) (C3Sa.keep a) [] []
abbrev hd83:=@HQ Span
abbrev AO a b c d:=And a (AQ b c d)
abbrev Kw a b c d e:=And (AO a b c d) e
abbrev X5 a b c d:=Kw a b c EB d
abbrev Uw a b c d:=X5 a b (JY c) d
abbrev BKR a(b:Nat->Span):=hd83 (PN a) b
abbrev MN a:=BKR a (λi=>hd33 a i)
abbrev QF a:=PN (MN a)
abbrev ABG a:=QF (C0 a)
abbrev BBG a b c d e:=Bh a b (FY c a) d (FT c a) e
abbrev Iv a b c d e f:=BBG a b c (FY d e) (FT d f)
abbrev eS a b:=BB a (PN b)
abbrev Uc a:=eS (QF a) a
attribute [go_sem] hd83 AO Kw X5 Uw BKR MN QF ABG BBG Iv eS Uc
theorem CZW(a:MSa):(V3Sa a)=(Uw (Uc (C0 a)) (AE (λi=>Iv i (ABG a) (MN (C0 a)) (C0 a) i i)) (ABG a) (Yu (λi=>bH a i) (Sd a) (λi=>AAF (MN (C0 a)) i) (ABG a))):=by kernel_rfl
theorem DCB:AH ZP 102 (C3Sa.spec d3Sa):=Ctr.spec_ok (C:=C3Sa) (λ(a:MSa) h=>TF (A:=A3Sa) (ren:=[]) (fz:=[]) Tryz.func102 (by kernel_rfl) (AA CZD AD) (by
 obtain⟨h,hp⟩:a.l.length<4611686018427387904/\True:=h
 show V3Sa a;rw[CZW]<;> dsimp only[go_sem];simp[h,GC])) _
def d4Sa:List AVal->Heap->Option (MSa×List (Nat×Nat)×List Nat)
 |[y,.fn _ _ _],H=>match Ti y H with
  |some (n,g,f)=>some (⟨default,HQ n λi=>VB (g i)⟩,[],f)
  |none=>none
 |_,_=>none
def A4Sa:Ann:={ ann 9 [(102,C3Sa.spec d3Sa)] with E:=[] }
def C4Sa:Ctr:={ ro:=[],α:=MSa,xs:=λa=>[.d (NX a.l),fvSa a.q],L:=λa=>[],val:=λa=>.bool (a.l.all λx=>lZ x),keep:=λa=>[],pre:=PSa }
def V4Sa(a:MSa):Prop:=AS ZP A4Sa Tryz.f67 (AG Tryz.f67) (C4Sa.xs a) (AC (C4Sa.L a)) (C4Sa.val a) (C4Sa.keep a) [] []
abbrev hd84:=@List.all Span
attribute [go_sem] hd84
theorem DAY(a:MSa):(V4Sa a)=(Uw (Uc (C0 a)) (AE (λi=>Iv i (ABG a) (MN (C0 a)) (C0 a) i i)) (ABG a) (jC (hd84 (C0 a) lZ) (λi=>AAF (MN (C0 a)) i) (ABG a))):=by kernel_rfl
theorem CUF(a:MSa)(h:BG (PSa a)):FnT ZP 67 (C4Sa.xs a) (AC (C4Sa.L a)) (C4Sa.val a) (C4Sa.keep a):=TF (A:=A4Sa) (ren:=[]) (fz:=[]) Tryz.func67 (by kernel_rfl) (AA DCB AD) (by
 have h':a.l.length<4611686018427387904/\True:=h
 show V4Sa a;rw[DAY]<;> dsimp only[go_sem];simp only[P3,CU,ge_iff_le]
 rw[<-W0]
 exact⟨h'.1,rfl⟩)
theorem DBP:AH ZP 67 (C4Sa.spec d4Sa):=Ctr.spec_ok (C:=C4Sa) CUF _
def fvSn(q:One):AVal:=.fn (.func 68) [] []
def BSn(q:One):AObj:=.box [fvSn q]
structure ESn where
 q:One
 e:Span
structure MSn where
 q:One
 l:List Span
def C1Sn:Ctr:={ ro:=[100],α:=ESn,xs:=λa=>[.d (EQ a.e),.bptr 100 0],L:=λa=>(100,BSn a.q) :: [],val:=λa=>.bool (!lZ a.e),keep:=λa=>(100,.live (BSn a.q)) :: [] }
def d1Sn:List AVal->Heap->Option (ESn×List (Nat×Nat)×List Nat)
 |[.d d,.bptr id _],H=>some (⟨default,VB d⟩,[(100,id)],[])
 |_,_=>none
def A1Sn:Ann:={ ann 8 [(68,BCO)] with E:=[100] }
def V1Sn(a:ESn):Prop:=AS ZP A1Sn Tryz.f103 (AG Tryz.f103) (C1Sn.xs a) (AC (C1Sn.L a)) (C1Sn.val a) (C1Sn.keep a) [] []
theorem DAH(a:ESn):(V1Sn a)=(Qe (lZ (ESn.e a))):=by kernel_rfl
theorem CYG:AH ZP 103 (C1Sn.spec d1Sn):=MK C1Sn (λ_=>A1Sn) [] [] Tryz.func103 (λ_=>by kernel_rfl) (λ_=>AA CNN AD) (λ(a:ESn) h=>by
 show V1Sn a;rw[DAH]<;> dsimp only[go_sem];try simp[GM,GC]) (λ_=>OA rfl rfl) _
def d2Sn:List AVal->Heap->Option (MSn×List (Nat×Nat)×List Nat)
 |[y,.fn _ _ [.bptr id _]],H=>match Ti y H with
  |some (n,g,f)=>some (⟨default,HQ n λi=>VB (g i)⟩,[(100,id)],f)
  |none=>none
 |_,_=>none
def A2Sn(a:MSn):Ann:={ ann 19 [(103,C1Sn.spec d1Sn)] with E:=[100],loops:=λid=>if id=2 then some [{ α:=Nat,dflt:=0,T:=λk=>⟨[(0,.d (NX a.l)),(1,.fn (.func 103) [] [.bptr 100 0]),(7,.int a.l.length),(8,.int k)],(100,.live (BSn a.q)) :: []⟩,inv:=λk=>k<=a.l.length/\TE (λi=>!lZ (gD a.l i)) a.l.length 0=TE (λi=>!lZ (gD a.l i)) (a.l.length-k) k,meas:=λk=>a.l.length-k }] else none }
def PSn(a:MSn):List Prop:=[a.l.length<4611686018427387904/\True]
def C2Sn:Ctr:={ ro:=[100],α:=MSn,xs:=λa=>[.d (NX a.l),.fn (.func 103) [] [.bptr 100 0]],L:=λa=>(100,BSn a.q) :: [],val:=λa=>.int (TE (λi=>!lZ (gD a.l i)) a.l.length 0),keep:=λa=>(100,.live (BSn a.q)) :: [],pre:=PSn }
def V2Sn(a:MSn):Prop:=AS ZP (A2Sn a) Tryz.f129 (AG Tryz.f129) (C2Sn.xs a) (AC (C2Sn.L a)) (C2Sn.val a) (C2Sn.keep a) [] []
abbrev M8:=MSn.l
abbrev Rj a:=PN (M8 a)
abbrev Zv a b:=AAF (M8 a) b
attribute [go_sem] M8 Rj Zv
theorem DDE(a:MSn):(V2Sn a)=(LR (λi=>DK (Yo (Rj a) (M8 a) (BC i)) i (Rj a) (JJ (λj=>Zv a j) (Rj a) (λj=>Zv a j) i)) (λi=>WR i (Rj a) (JJ (λj=>Zv a j) (Rj a) (λj=>Zv a j) i) (kG (CL i (Rj a)) (FY (M8 a) i) (FT (M8 a) i)) (Uj (Zv a i) (cO (λj=>Zv a j) (Rj a) i) (λj=>IK (Yo (Rj a) (M8 a) (AR j i)) j (Rj a) (JJ (λk=>Zv a k) (Rj a) (λk=>Zv a k) j) i)) (Yt (λj=>Zv a j) (Rj a)))):=by kernel_rfl
theorem p2Sn(a:MSn)(h:BG (PSn a)):V2Sn a:=by
 obtain⟨h,hp⟩:a.l.length<4611686018427387904/\True:=h
 rw[DDE]<;> dsimp only[go_sem]
 simp only[P3,CU]
 refine⟨⟨0,rfl,Nat.zero_le _,rfl⟩,λk ⟨h1,h2⟩=>⟨λhlt=>?_,λhge=>?_⟩⟩
 ·have hlt:k<a.l.length:=by omega
  refine⟨⟨by omega,by omega⟩,λhp=>?_,λhp=>⟨k+1,(BJ (by omega)).symm,⟨by omega,?_⟩,by omega⟩⟩
  ·rw[h2];exact YB hlt (by simpa using hp)
  ·rw[h2];exact Wv hlt (by simpa using hp)
 ·rw[h2];exact Ge (by omega)
theorem CYH:AH ZP 129 (C2Sn.spec d2Sn):=MK C2Sn A2Sn [] [] Tryz.func129 (λ_=>by kernel_rfl) (λ_=>AA CYG AD) p2Sn (λ_=>OA rfl rfl) _
def C3Sn:Ctr:={ C2Sn with val:=λ(a:MSn)=>.bool (decide (TE (λi=>!lZ (gD a.l i)) a.l.length 0>=0)) }
def d3Sn:List AVal->Heap->Option (C3Sn.α×List (Nat×Nat)×List Nat):=d2Sn
def A3Sn:Ann:={ ann 9 [(129,C2Sn.spec d2Sn)] with E:=[100] }
def V3Sn(a:MSn):Prop:=AS ZP A3Sn Tryz.f102 (AG Tryz.f102) (C3Sn.xs a) (AC (C3Sn.L a)) (C3Sn.val a) (C3Sn.keep a) [] []
abbrev V8 a:=QF (M8 a)
attribute [go_sem] V8
theorem CZL(a:MSn):(V3Sn a)=(Uw (Uc (M8 a)) (AE (λi=>Iv i (V8 a) (MN (M8 a)) (M8 a) i i)) (V8 a) (Yu (λi=>Zv a i) (Rj a) (λi=>AAF (MN (M8 a)) i) (V8 a))):=by kernel_rfl
theorem DDZ:AH ZP 102 (C3Sn.spec d3Sn):=Ctr.spec_ok (C:=C3Sn) (λ(a:MSn) h=>TF (A:=A3Sn) (ren:=[]) (fz:=[]) Tryz.func102 (by kernel_rfl) (AA CYH AD) (by
 obtain⟨h,hp⟩:a.l.length<4611686018427387904/\True:=h
 show V3Sn a;rw[CZL]<;> dsimp only[go_sem];simp[h,GC])) _
def A4Sn:Ann:={ ann 9 [(102,C3Sn.spec d3Sn)] with E:=[] }
def C4Sn:Ctr:={ ro:=[],α:=MSn,xs:=λa=>[.d (NX a.l),fvSn a.q],L:=λa=>[],val:=λa=>.bool (a.l.all λx=>lZ x),keep:=λa=>[],pre:=PSn }
def V4Sn(a:MSn):Prop:=AS ZP A4Sn Tryz.f67 (AG Tryz.f67) (C4Sn.xs a) (AC (C4Sn.L a)) (C4Sn.val a) (C4Sn.keep a) [] []
theorem CZS(a:MSn):(V4Sn a)=(Uw (Uc (M8 a)) (AE (λi=>Iv i (V8 a) (MN (M8 a)) (M8 a) i i)) (V8 a) (jC (hd84 (M8 a) lZ) (λi=>AAF (MN (M8 a)) i) (V8 a))):=by kernel_rfl
theorem CZA(a:MSn)(h:BG (PSn a)):FnT ZP 67 (C4Sn.xs a) (AC (C4Sn.L a)) (C4Sn.val a) (C4Sn.keep a):=TF (A:=A4Sn) (ren:=[]) (fz:=[]) Tryz.func67 (by kernel_rfl) (AA DDZ AD) (by
 have h':a.l.length<4611686018427387904/\True:=h
 show V4Sn a;rw[CZS]<;> dsimp only[go_sem];simp only[P3,CU,ge_iff_le]
 rw[<-W0]
 exact⟨h'.1,rfl⟩)
structure N2 where
 q:Nt
 e:Nt
def ntB(q:Nt):AObj:=.box [.int q.mi,.int q.t.lo,.int q.t.hi,.int q.s.lo,.int q.s.hi]
def CDA(H:Heap)(id:Nat):Option Nt:=match H id with
 | .live (.box [.d a,.d b,.d c,.d d,.d e])=>some ⟨DG a,⟨DG b,DG c⟩,⟨DG d,DG e⟩⟩
 |_=>none
def C_ck2:Ctr:={ ro:=[100],α:=N2,xs:=λa=>[.d (eNt a.e),.bptr 100 0],L:=λa=>[(100,ntB a.q)],val:=λa=>.bool (a.e.mi==a.q.mi),keep:=λa=>[(100,.live (ntB a.q))] }
def CTG:List AVal->Heap->Option (N2×List (Nat×Nat)×List Nat)
 |[.d d,.bptr id _],H=>match CDA H id with
  |some q=>some (⟨q,dNt d⟩,[(100,id)],[])
  |none=>none
 |_,_=>none
def CTO:Ann:={ ann 9 [] with E:=[100] }
def CRW(a:N2):Prop:=AS ZP CTO Tryz.f152 (AG Tryz.f152) (C_ck2.xs a) (AC (C_ck2.L a)) (C_ck2.val a) (C_ck2.keep a) [] []
abbrev wP:=@BEq.beq Int (@instBEqOfDecidableEq Int Int.instDecidableEq)
abbrev BAE a b:=wP (Xv a) b
attribute [go_sem] wP BAE
theorem CXY(a:N2):(CRW a)=(And (WI (BAE (N2.e a) (Xv (N2.q a)))) (Zm (N2.q a))):=by kernel_rfl
theorem CWC:AH ZP 152 (C_ck2.spec CTG):=MK C_ck2 (λ_=>CTO) [] [] Tryz.func152 (λ_=>by kernel_rfl) (λ_=>AD) (λ(a:N2) _=>by
 show CRW a;rw[CXY]<;> dsimp only[go_sem];try simp) (λ_=>OA rfl rfl) _
structure MNc where
 q:Nt
 l:List Nt
def d2Nc:List AVal->Heap->Option (MNc×List (Nat×Nat)×List Nat)
 |[y,.fn _ _ [.bptr id _]],H=>match Ti y H with
  |some (n,g,f)=>match CDA H id with
   |some q=>some (⟨q,HQ n λi=>dNt (g i)⟩,[(100,id)],f)
   |none=>none
  |none=>none
 |_,_=>none
def A2Nc(a:MNc):Ann:={ ann 19 [(152,C_ck2.spec CTG)] with E:=[100],loops:=λid=>if id=2 then some [{ α:=Nat,dflt:=0,T:=λk=>⟨[(0,.d (eNts a.l)),(1,.fn (.func 152) [] [.bptr 100 0]),(7,.int a.l.length),(8,.int k)],[(100,.live (ntB a.q))]⟩,inv:=λk=>k<=a.l.length/\TE (λi=>(gD a.l i).mi==a.q.mi) a.l.length 0=TE (λi=>(gD a.l i).mi==a.q.mi) (a.l.length-k) k,meas:=λk=>a.l.length-k }] else none }
def C2Nc:Ctr:={ ro:=[100],α:=MNc,xs:=λa=>[.d (eNts a.l),.fn (.func 152) [] [.bptr 100 0]],L:=λa=>[(100,ntB a.q)],val:=λa=>.int (TE (λi=>(gD a.l i).mi==a.q.mi) a.l.length 0),keep:=λa=>[(100,.live (ntB a.q))],pre:=λa=>[a.l.length<4611686018427387904/\True] }
def V2Nc(a:MNc):Prop:=AS ZP (A2Nc a) Tryz.f162 (AG Tryz.f162) (C2Nc.xs a) (AC (C2Nc.L a)) (C2Nc.val a) (C2Nc.keep a) [] []
abbrev hd90:=MNc.l
abbrev Ut:=MNc.q
abbrev YO a:=Xt (hd90 a)
abbrev C9 a:=Xv (Ut a)
abbrev BBV a b:=BAE a (C9 b)
abbrev Ja a b:=lW (hd90 a) b
abbrev gI a b c:=BBV (Ja a b) c
abbrev XH a(b:Nat->Prop) c d e f g h p:=AP a (AE b) c d e f g h p
abbrev A7 a:=AI (Bw a)
abbrev BY a:=AI (AZ a)
abbrev BFX a b c d e f g h:=AP a b c d e f b g h
abbrev ATR a b c d e f g:=BFX a b c d e a f g
attribute [go_sem] hd90 Ut YO C9 BBV Ja gI XH A7 BY BFX ATR
theorem DBQ(a:MNc):(V2Nc a)=(LR (λi=>DK (XH (BI (YO a)) (λj=>Hx j (hd90 a) (Zm (Ja a j))) (BY (YO a)) (BC i) (AI (C9 a)) (AI (QX (Ut a))) (A7 (Ut a)) (M0 (Ut a)) (zX (Ut a))) i (YO a) (AN (TE (λj=>gI a j a) (YO a) 0) (TE (λj=>gI a j a) (KO (YO a) i) i))) (λi=>WR i (YO a) (AN (TE (λj=>gI a j a) (YO a) 0) (TE (λj=>gI a j a) (KO (YO a) i) i)) (rD i (YO a) (KD (Xv (Ja a i)) (QX (Ja a i)) (Ea (Bw (Ja a i)) (Di (Ja a i)) (El (Ja a i)) (AI (C9 a)) (ATR (AI (QX (Ut a))) (A7 (Ut a)) (M0 (Ut a)) (zX (Ut a)) (AI (C9 a)) (M0 (Ut a)) (zX (Ut a)))))) (FW (gI a i a) (AN (TE (λj=>gI a j a) (YO a) 0) (AZ i)) (Zm (Ut a)) (EA (λj=>IK (XH (BI (YO a)) (λk=>Hx k (hd90 a) (Zm (Ja a k))) (BY (YO a)) (AR j i) (AI (C9 a)) (AI (QX (Ut a))) (A7 (Ut a)) (M0 (Ut a)) (zX (Ut a))) j (YO a) (AN (TE (λk=>gI a k a) (YO a) 0) (TE (λk=>gI a k a) (KO (YO a) j) j)) i))) (And (AN (TE (λj=>gI a j a) (YO a) 0) (-1)) (Zm (Ut a))))):=by kernel_rfl
theorem p2Nc(a:MNc)(h:BG (C2Nc.pre a)):V2Nc a:=by
 obtain⟨h,hp⟩:a.l.length<4611686018427387904/\True:=h
 rw[DBQ]<;> dsimp only[go_sem]
 simp only[P3,CU]
 refine⟨⟨0,rfl,Nat.zero_le _,rfl⟩,λk ⟨h1,h2⟩=>⟨λhlt=>?_,λhge=>?_⟩⟩
 ·have hlt:k<a.l.length:=by omega
  refine⟨⟨by omega,by omega⟩,λhp=>?_,λhp=>⟨k+1,(BJ (by omega)).symm,⟨by omega,?_⟩,by omega⟩⟩
  ·rw[h2];exact YB hlt (by simpa using hp)
  ·rw[h2];exact Wv hlt (by simpa using hp)
 ·rw[h2];exact Ge (by omega)
theorem DCF:AH ZP 162 (C2Nc.spec d2Nc):=MK C2Nc A2Nc [] [] Tryz.func162 (λ_=>by kernel_rfl) (λ_=>AA CWC AD) p2Nc (λ_=>OA rfl rfl) _
def C3Nc:Ctr:={ C2Nc with val:=λ(a:MNc)=>.bool (a.l.any λx=>x.mi==a.q.mi) }
def d3Nc:List AVal->Heap->Option (C3Nc.α×List (Nat×Nat)×List Nat):=d2Nc
def A3Nc:Ann:={ ann 9 [(162,C2Nc.spec d2Nc)] with E:=[100] }
def V3Nc(a:MNc):Prop:=AS ZP A3Nc Tryz.f151 (AG Tryz.f151) (C3Nc.xs a) (AC (C3Nc.L a)) (C3Nc.val a) (C3Nc.keep a) [] []
theorem DAM(a:MNc):(V3Nc a)=(CV (BB (Xt (AKM (hd90 a) (λi=>Ja a i))) (YO a)) (DO (AE (λi=>Rf i (AKM (hd90 a) (λj=>Ja a j)) i (Ja a i))) (C9 a) (QX (Ut a)) (A7 (Ut a)) (ATR (M0 (Ut a)) (zX (Ut a)) (AI (C9 a)) (AI (QX (Ut a))) (A7 (Ut a)) (H9 (AKM (hd90 a) (λi=>Ja a i))) EB)) (Sr ((@List.any Nt) (hd90 a) (λi=>BBV i a)) (hd6 (TE (λi=>BBV (lW (AKM (hd90 a) (λj=>Ja a j)) i) a) (Xt (AKM (hd90 a) (λi=>Ja a i))) 0) 0)) (Zm (Ut a))):=by kernel_rfl
theorem CFY{α:Type}[Inhabited α]{p:α->Bool}{l:List α}:decide (0<=TE (λi=>p (gD l i)) l.length 0)=l.any p:=by
 rw[Bool.eq_iff_iff,decide_eq_true_eq,AYG,List.any_eq_true]
 exact⟨λ⟨i,_,h1,h2⟩=>⟨gD l i,FD (by omega),h2⟩,λ⟨x,hx,h2⟩=>by obtain⟨i,hi,rfl⟩:=Hq hx;exact⟨i,Nat.zero_le _,by omega,h2⟩⟩
theorem DAS:AH ZP 151 (C3Nc.spec d3Nc):=Ctr.spec_ok (C:=C3Nc) (λ(a:MNc) h=>TF (A:=A3Nc) (ren:=[]) (fz:=[]) Tryz.func151 (by kernel_rfl) (AA DCF AD) (by
 obtain⟨h,hp⟩:a.l.length<4611686018427387904/\True:=h
 show V3Nc a;rw[DAM]<;> dsimp only[go_sem];simp only[P3,CU,ge_iff_le]
 rw[<-CFY]
 simp[h,GC])) _
def mkC:Int->List Mk->Int
 |_,[]=>0
 |a,m :: r=>bif (bif !PX m.pl 0 10000 then true else !PX m.ht 0 1000) then 30 else bif decide (m.pl<=a) then 9 else mkC m.pl r
def dupP(l:List Nt)(i:Nat):Bool:=!(l.take i).any λx=>x.mi==(gD l i).mi
def Tv(c:Cht):Int:=bif (bif !PX c.ms.length 1 40 then true else decide ((c.ns.length:Int)>20)) then 3 else bif (bif (bif (bif !Sw c.p 1 600 then true else !PX c.base (-1000000) 1000000) then true else !PX c.scale 0 1000) then true else !PX c.off 0 1000) then 30 else 0
def FB(c:Cht):Int:=bif Tv c != 0 then Tv c else bif mkC (-1) c.ms != 0 then mkC (-1) c.ms else bif !c.ns.all (λn=>SJ n c.ms.length) then 30 else bif Xl (dupP c.ns) c.ns.length then 0 else 10
def dC1:List AVal->Heap->Option (Cht×List (Nat×Nat)×List Nat)
 |[y],H=>match CAJ y H with
  |some (l,f)=>some (l,[],f)
  |none=>none
 |_,_=>none
def C_CheckQ:Ctr:={ α:=Cht,xs:=λc=>[.d (eCht c)],L:=λ_=>[],val:=λc=>.int (FB c),keep:=λ_=>[],pre:=λc=>[c.ms.length<4611686018427387904/\c.ns.length<4611686018427387904] }
def ck7(c:Cht):Shape:={ α:=NIQ,dflt:=default,T:=λs=>⟨[(1,.bptr 201 0),(3,.int s.m),(44,.d (eMks c.ms)),(45,.int c.ms.length),(46,.int s.k)],[(201,.live (chB c))]⟩,inv:=λs=>s.k<=c.ms.length/\Tv c=0/\mkC s.m (c.ms.drop s.k)=mkC (-1) c.ms,meas:=λs=>c.ms.length-s.k,first:=[(201,1000)] }
def ck18(c:Cht):Shape:={ α:=Nat,dflt:=0,T:=λk=>⟨[(1,.bptr 201 0),(75,.d (eNts c.ns)),(76,.int c.ns.length),(77,.int k)],[(201,.live (chB c))]⟩,inv:=λk=>k<=c.ns.length/\Tv c=0/\mkC (-1) c.ms=0/\c.ns.all (λn=>SJ n c.ms.length)=true/\Xl (dupP c.ns) k=true,meas:=λk=>c.ns.length-k }
def BGQ(c:Cht):Ann:={ ann 89 [(32,ALH),(147,BQF),(148,C4Nr.spec d4Nr),(151,C3Nc.spec d3Nc)] with loops:=λid=>if id=7 then some [ck7 c] else if id=18 then some [ck18 c] else none }
def BGX(c:Cht):Prop:=AS ZP (BGQ c) Tryz.f127 (AG Tryz.f127) (C_CheckQ.xs c) (AC []) (C_CheckQ.val c) [] [] []
abbrev Fa:=true
abbrev hd94:=λ(x0 x1:Int)=>decide (x0>x1)
abbrev hd95:=FB
abbrev hd97:=NIQ.m
abbrev wJ:=NIQ.k
abbrev hd99:=Tv
abbrev BSJ:=@List.drop Mk
abbrev OY:=Int.toNat
abbrev JM:=@HAdd.hAdd Nat Nat Nat (@instHAdd Nat instAddNat)
abbrev Hc a b:=hd5 a Fa b
abbrev Ba a b c d:=YL (Hc a b) c d
abbrev EM a b c:=And (And a b) c
abbrev Is a b c d:=TD a (YL b c d)
abbrev OU a b c d e:=Is a (AQX b c) d e
abbrev BZ a:=AN a 0
abbrev Fl a b c d:=AQ (CL a b) c d
abbrev GT a:=Sr a Fa
abbrev C2 a b:=AN (hd95 a) b
abbrev LP:=OY 0
abbrev AJ a:=JM 0 a
abbrev Bu a:=KO a 0
abbrev BNE a b c:=BB a (KO b c)
abbrev WU a b c:=AQ a (IM b) c
abbrev YV:=KM 0 0
abbrev BW a b c d e f:=And a (CB b c d e f)
abbrev LL a b c d:=AQ a (AN b c) d
abbrev Qu a b c d e:=LL a b c (AN d e)
abbrev fM a b:=AE (λi=>ATN i a b)
abbrev Mg a b:=fM a (Cs b)
abbrev W6 a:=BI (CO a)
abbrev AIG a b c:=Hc (Hc a b) c
attribute [go_sem] Fa hd94 hd95 hd97 wJ hd99 BSJ OY JM Hc Ba EM Is OU BZ Fl GT C2 LP AJ Bu BNE WU YV BW LL Qu fM Mg W6 AIG
theorem BWI(c:Cht):(BGX c)=(Ba (not (hd1 (AZ (CO c)) 1 40)) (hd94 (AZ (FU c)) 20) (C2 c 3) (Ba (AIG (not (hd9 (Cht.p c) 1 600)) (not (hd1 (Xr c) (-1000000) 1000000)) (not (hd1 (K4 c) 0 1000))) (not (hd1 (Sk c) 0 1000)) (C2 c 30) (And ((@Exists NIQ) (λi=>EM (AN (hd97 i) (-1)) (PO (W6 c) (Mg (CO c) c) (AZ (CO c)) (BC (wJ i)) (BV (KC c) (NL c) (GE c) (EN c) (FC c) (CO c) (λj=>Qc j (CO c) c) (UE c) (Ih c))) (Qu (DC (wJ i) (CO c)) (hd99 c) 0 (mkC (hd97 i) (BSJ (wJ i) (Cs c))) (mkC (-1) (Cs c))))) ((λ(f:NIQ->Prop)=>∀(x:NIQ),f x) (λi=>Mm (Qu (DC (wJ i) (CO c)) (hd99 c) 0 (mkC (hd97 i) (BSJ (wJ i) (Cs c))) (mkC (-1) (Cs c))) (wJ i) (CO c) (CL (wJ i) (CO c)) (Ba (not (hd1 (Zc (Cs c) (wJ i)) 0 10000)) (not (hd1 (pW (Cs c) (wJ i)) 0 1000)) (C2 c 30) (YL (hd7 (Zc (Cs c) (wJ i)) (hd97 i)) (C2 c 9) ((@Exists NIQ) (λj=>EO (And (AN (hd97 j) (Zc (Cs c) (wJ i))) (PO (W6 c) (Mg (CO c) c) (AZ (CO c)) (AR (wJ j) (wJ i)) (BV (KC c) (NL c) (GE c) (EN c) (FC c) (CO c) (λk=>Qc k (CO c) c) (UE c) (Ih c)))) (Qu (DC (wJ j) (CO c)) (hd99 c) 0 (mkC (hd97 j) (BSJ (wJ j) (Cs c))) (mkC (-1) (Cs c))) (CO c) (wJ j) (wJ i))))) (EM (WN c) (DO (AE (λj=>XG j c j j)) (GA c) (IS c) (GE c) (DY (EN c) (FC c) (BB (ZA c) (CO c)) (λj=>Vw j (ZA c) (Mf c) (Cs c)) (WN c) (AE (λj=>XG j c j j)) (KC c) (NL c) (BU (GE c) (EN c) (FC c) (BB (CO c) (ZA c)) (Og (CO c) c (Mf c)) (Ez c) (λj=>Ex j c j j j) (JY (ADS c)) EB))) (Be (hd80 (Se c) (λj=>Oe j (ZA c))) (C2 c 30) (LR (λj=>BW (PO (UE c) (Ih c) (AZ (FU c)) (BC j) (BV (KC c) (NL c) (GE c) (EN c) (FC c) (CO c) (λk=>Qc k (CO c) c) (UE c) (Ih c))) (DC j (FU c)) (BZ (hd99 c)) (BZ (mkC (-1) (Cs c))) (GT (hd80 (kW c) (λk=>Oe k (CO c)))) (GT (Xl (dupP (kW c)) j))) (λj=>OU (CB (DC j (FU c)) (BZ (hd99 c)) (BZ (mkC (-1) (Cs c))) (GT (hd80 (kW c) (λk=>Oe k (CO c)))) (GT (Xl (dupP (kW c)) j))) j (FU c) (Fl j (FU c) (AQ (WU YV (AZ j) (KM (AZ j) (AZ (FU c)))) (BNE (Xt (hd73 (KO j LP) (λk=>LG c (JM LP k)))) j LP) (DO (AE (λk=>Hx k (hd73 (Bu j) (λl=>LG c (AJ l))) (AQG (lW (hd73 (KO j LP) (λl=>LG c (JM LP l))) k) c (JM LP k) (LG c (JM LP k))))) (RJ c j) (QX (LG c j)) (A7 (LG c j)) (ATR (M0 (LG c j)) (zX (LG c j)) (AI (RJ c j)) (AI (QX (LG c j))) (A7 (LG c j)) (H9 (hd73 (Bu j) (λk=>LG c (AJ k)))) EB))) (YL ((@List.any Nt) (hd73 (KO j LP) (λk=>LG c (JM LP k))) (λk=>BAE k (RJ c j))) (C2 c 10) (EA (λk=>EO (PO (UE c) (Ih c) (AZ (FU c)) (AR k j) (BV (KC c) (NL c) (GE c) (EN c) (FC c) (CO c) (λl=>Qc l (CO c) c) (UE c) (Ih c))) (CB (DC k (FU c)) (BZ (hd99 c)) (BZ (mkC (-1) (Cs c))) (GT (hd80 (kW c) (λl=>Oe l (CO c)))) (GT (Xl (dupP (kW c)) k))) (FU c) k j)))) (BZ (hd95 c))))))))))):=by kernel_rfl
theorem CJU{α:Type}[Inhabited α]{l:List α}{k:Nat}(h:k<=l.length):(HQ k λi=>gD l i)=l.take k:=by
 refine CHZ (by simp[h]) λi hi=>?_
 have hi:i<k:=by simpa using hi
 rw[CS _ _ _ hi]
 simp[gD,List.getD_eq_getElem?_getD,List.getElem?_take,hi]
theorem BWW{p:Nat->Bool}{n k:Nat}(hk:k<n)(h:p k=false):Xl p n=false:=by
 cases hc:Xl p n with
 |false=>rfl
 |true=>rw[Yc.1 hc k hk] at h;cases h
theorem CLV(c:Cht)(h:c.ms.length<4611686018427387904/\c.ns.length<4611686018427387904):BGX c:=by
 obtain⟨hm,hn⟩:=h
 rw[BWI]<;> dsimp only[go_sem];simp only[P3,CU,Nat.sub_zero,Int.toNat_zero]
 refine⟨λh1=>?_,λh1=>⟨λh2=>?_,λh2=>?_⟩⟩
 ·have e:Tv c=3:=by unfold Tv;rw[h1];rfl
  unfold FB;rw[e];rfl
 ·have e:Tv c=30:=by unfold Tv;rw[h1,h2];rfl
  unfold FB;rw[e];rfl
 have e:Tv c=0:=by unfold Tv;rw[h1,h2];rfl
 have k0:∀v:Int,v≠0->mkC (-1) c.ms=v->FB c=v:=λv hv hm=>by 
  have hv0:=hv
  have hv':(v != 0)=true:=by simpa using hv
  unfold FB;rw[e,hm,hv'];rfl
 refine⟨⟨⟨0,-1⟩,⟨rfl,rfl⟩,Nat.zero_le _,e,rfl⟩,λs ⟨s1,_,s3⟩=>⟨λhlt=>?_,λhge=>?_⟩⟩
 ·have hlt:s.k<c.ms.length:=by omega
  have hd:=BDR hlt
  rw[hd] at s3
  refine⟨by omega,λh3=>?_,λh3=>⟨λh4=>?_,λh4=>⟨⟨s.k+1,(gD c.ms s.k).pl⟩,⟨rfl,(BJ (by omega)).symm⟩,⟨by show s.k+1<=_;omega,e,?_⟩,by show c.ms.length-(s.k+1)<_;omega⟩⟩⟩
  ·exact k0 30 (by decide) (by rw[<-s3];unfold mkC;rw[h3];rfl)
  ·exact k0 9 (by decide) (by rw[<-s3];unfold mkC;rw[h3,decide_eq_true h4];rfl)
  ·rw[<-s3];conv=>rhs;unfold mkC
   rw[h3,decide_eq_false h4];rfl
 ·have hmk:mkC (-1) c.ms=0:=by rw[<-s3,List.drop_of_length_le (by omega)];rfl
  refine⟨by omega,λh3=>?_,λh3=>⟨⟨0,rfl,Nat.zero_le _,e,hmk,h3,rfl⟩,λk ⟨k1,_,_,_,k5⟩=>⟨λhlt=>?_,λhge=>?_⟩⟩⟩
  ·unfold FB;rw[e,hmk,h3];rfl
  ·have hlt:k<c.ns.length:=by omega
   have et:(HQ k λi=>gD c.ns i)=c.ns.take k:=CJU (by omega)
   rw[et]
   refine⟨by omega,⟨⟨by omega,by omega,by omega⟩,λi hi=>?_,by omega⟩,λh4=>?_,λh4=>⟨k+1,(BJ (by omega)).symm,⟨by omega,e,hmk,h3,?_⟩,by omega⟩⟩
   ·rw[<-et,CS _ _ _ hi];exact⟨rfl,rfl,rfl,rfl,rfl⟩
   ·have hp:Xl (dupP c.ns) c.ns.length=false:=BWW hlt (by unfold dupP;rw[h4];rfl)
    unfold FB;rw[e,hmk,h3,hp];rfl
   ·show (Xl (dupP c.ns) k&&dupP c.ns k)=true
    unfold dupP at k5 ⊢;rw[k5,h4];rfl
  ·obtain rfl:k=c.ns.length:=by omega
   unfold FB;rw[e,hmk,h3,k5];rfl
theorem AWH:AH ZP 127 (C_CheckQ.spec dC1):=MK C_CheckQ BGQ [] [] Tryz.func127 (λ_=>by kernel_rfl) (λ_=>AA ATA (AA CEL (AA DCA (AA DAS AD)))) CLV (λ_=>OA rfl rfl) _
def hasN(l:List Nt)(j:Int):Bool:=l.any λx=>x.mi==j
def ntOf:List Nt->Int->Nt
 |[],_=>default
 |n :: r,j=>bif hasN r j then ntOf r j else bif n.mi==j then n else default
structure Dk where
 c:Cht
 st:Int->Int
 sp:Nat->Bool
def zNt:Value:=.agg #[.int .i64 0,.int .i64 0,.int .i64 0,.int .i64 0,.int .i64 0]
def dkB(w:Dk)(m:Nat):AObj:=.abox [.int w.c.p.lo,.int w.c.p.hi,.int w.c.base,.int w.c.scale,.int w.c.off,.d (eMks w.c.ms),.d (eNts w.c.ns),.mref m] 40 w.sp
def dkM(w:Dk):AObj:=.imap (.int .i64) zNt (hasN w.c.ns) (λj=>eNt (ntOf w.c.ns j)) w.st none
def dkL(w:Dk):List (Nat×AObj):=[(100,dkB w 101),(101,dkM w)]
def dkK(w:Dk):List (Nat×HCell):=[(100,.live (dkB w 101)),(101,.live (dkM w))]
def dkN(w:Dk):List (Nat×HCell):=[(0,.live (dkB w 1)),(1,.live (dkM w))]
def BFK(H:Heap)(id:Nat):Option (Dk×Nat):=match H id with
 | .live (.abox [.d a,.d b,.d c,.d d,.d e,.d (.list _ n f _),.d (.list _ m g _),.mref q] _ sp)=>match H q with
  | .live (.imap _ _ _ _ st _)=>some (⟨⟨⟨DG a,DG b⟩,DG c,DG d,DG e,HQ n λi=>dMk (f i),HQ m λi=>dNt (g i)⟩,st,sp⟩,q)
  |_=>none
 |_=>none
def stK(l:List Nt):Nat->Int->Int
 |0=>λ_=>0
 |k+1=>kP (hasN (l.take k)) (stK l k) (gD l k).mi
def newD(c:Cht):Dk:=⟨c,stK c.ns c.ns.length,λ_=>false⟩
def C_openQ:Ctr:={ α:=Cht,xs:=λc=>[.d (eCht c)],val:=λ_=>.tup [.bptr 0 0,.int 0],keep:=λc=>dkN (newD c),pre:=λc=>[(c.ms.length<4611686018427387904/\c.ns.length<4611686018427387904)/\FB c=0] }
def C_openXQ:Ctr:={ α:=Cht,xs:=λc=>[.d (eCht c)],val:=λc=>.tup [.d (.v (.pointer none)),.int (FB c)],keep:=λ_=>[],pre:=λc=>[(c.ms.length<4611686018427387904/\c.ns.length<4611686018427387904)/\FB c≠0] }
def op6(c:Cht):Shape:={ α:=Nat,dflt:=0,T:=λk=>⟨[(5,.bptr 201 0),(18,.d (eNts c.ns)),(19,.int c.ns.length),(20,.int k)],[(201,.live (.abox [.int c.p.lo,.int c.p.hi,.int c.base,.int c.scale,.int c.off,.d (eMks c.ms),.d (eNts c.ns),.mref 202] 40 λ_=>false)),(202,.live (.imap (.int .i64) zNt (hasN (c.ns.take k)) (λj=>eNt (ntOf (c.ns.take k) j)) (stK c.ns k) none))]⟩,inv:=λk=>k<=c.ns.length,meas:=λk=>c.ns.length-k,first:=[(201,5048),(202,5016)] }
def AMR(c:Cht):Ann:={ ann 33 [(127,C_CheckQ.spec dC1)] with loops:=λid=>if id=6 then some [op6 c] else none }
def BRA(c:Cht):Prop:=AS ZP (AMR c) Tryz.f97 (AG Tryz.f97) (C_openQ.xs c) (AC []) (C_openQ.val c) (C_openQ.keep c) [(0,201),(1,202)] []
abbrev vA:=@bne Int (@instBEqOfDecidableEq Int Int.instDecidableEq)
abbrev Tt:=False
abbrev BEM:=@Eq Value
abbrev BFR:=Value.agg
abbrev BIA:=@List.toArray Value
abbrev AWQ:=@List.cons Value
abbrev AQE:=Value.int
abbrev BGM:=@List.nil Value
abbrev AM:=λ(f:Int->Prop)=>∀(x:Int),f x
abbrev mA:=hasN
abbrev MH:=Nat.le
abbrev vE:=@cond Int
abbrev BJA:=λ(x0 x1:Int)=>decide (x0=x1)
abbrev BK:=Dk.c
abbrev T1:=newD
abbrev I4:=Dk.st
abbrev UH a:=vA a 0
abbrev nJ a b c:=YL (UH a) b c
abbrev BVK a:=BEM a a
abbrev FE:=BVK zNt
abbrev Zh a b c(d:Nat->Prop) e f g h:=DY a b c d e FE f g h
abbrev aU a b:=(@List.take Nt) a (kW b)
abbrev PV a b c:=ntOf (aU a b) c
abbrev AAE a b:=ntOf (kW a) b
abbrev MU a b:=AAE (BK a) b
abbrev rC a b c:=AN (I4 a b) c
abbrev Ch a b c:=Sr a (mA b c)
abbrev Dx a b:=mA (kW a) b
abbrev QI a b:=Dx (BK a) b
abbrev BAP a b c:=HB a b (WI c)
abbrev AIM a b:=BAP a b P8
abbrev ADM a:=AE (λi=>AIM i a)
abbrev VH a b:=LG (BK a) b
abbrev xA a:=BK (T1 a)
abbrev E6 a b:=AOO (FU a) b
abbrev YS a:=Cs (BK a)
abbrev GU a:=hd55 (YS a)
abbrev tN a b:=BB (GU a) b
abbrev BAB a b:=AN (K4 a) b
abbrev rB a b:=BAB a (K4 b)
abbrev BOA a b:=AN (Xr a) b
abbrev pE a b:=BOA a (Xr b)
abbrev iH a b c d e f:=EO a (MH b c) d e f
abbrev Bg a b c d e:=iH a b c c d e
abbrev ACD a b c d e f g h p:=AP a b c (KC d) e f g h p
abbrev PU a b c d e f g:=ACD a b c d (NL d) (GE d) e f g
abbrev A6 a b c d e f g:=BKZ a b c d e d f d g
abbrev kE a b c d:=vE (BJA a b) c d
abbrev aQ a b c d e:=kE a (RJ b c) d e
abbrev WK a b c:=Sr (mA a b) c
abbrev Vs a b c:=And a (MH b c)
abbrev Hd a:=Sr a P8
abbrev BOY a b:=AWQ a (AWQ a b)
abbrev gU a b:=BOY a (BOY a b)
abbrev BLJ a b c d e f:=Cht.mk a (Xr b) (K4 c) (Sk d) e f
abbrev rX a b c:=BLJ (Cht.p a) a a a b c
attribute [go_sem] vA Tt BEM BFR BIA AWQ AQE BGM AM mA MH vE BJA BK T1 I4 UH nJ BVK FE Zh aU PV AAE MU rC Ch Dx QI BAP AIM ADM VH xA E6 YS GU tN BAB rB BOA pE iH Bg ACD PU A6 kE aQ WK Vs Hd BOY gU BLJ rX
theorem CFB(c:Cht):(BRA c)=(And (KD (GA c) (IS c) (BU (GE c) (EN c) (FC c) (BB (ZA c) (CO c)) (ZL (ZA c) (Mf c) c) (WN c) (λi=>XG i c i i) (JY (ZA c)) (JY (ADS c)))) (nJ (hd95 (rX c (Mf c) (Se c))) Tt (LR (λi=>Vs (Wt (FU c) (PU (Ih c) (BY (FU c)) (BC i) c (EN c) (FC c) (DY (W6 c) (Mg (CO c) c) (UE c) (λj=>ZH j c) (ADM 40) (BEM zNt (BFR (BIA (AWQ (AQE hd20 0) (gU (AQE hd20 0) BGM))))) (AM (λj=>Hd (mA (aU i c) j))) (AM (λj=>BZ (stK (kW c) i j))) (AM (λj=>A6 (Xv (PV i c j)) 0 (qD (PV i c j) 0) (PV i c j) 0 0 0))))) i (FU c)) (λi=>Mm (MH i (FU c)) i (FU c) (CL i (FU c)) (EA (λj=>Bg (Wt (FU c) (PU (Ih c) (BY (FU c)) (AR j i) c (EN c) (FC c) (Zh (W6 c) (Mg (CO c) c) (UE c) (λk=>ZH k c) (ADM 40) (AM (λk=>WK (aU j c) k (KE (mA (aU i c)) (RJ c i) k))) (AM (λk=>AN (stK (kW c) j k) (kP (mA (aU i c)) (stK (kW c) i) (RJ c i) k))) (AM (λk=>A6 (Xv (PV j c k)) (aQ k c i (RJ c i) (Xv (PV i c k))) (qD (PV j c k) (aQ k c i (QX (LG c i)) (QX (PV i c k)))) (PV j c k) (aQ k c i (Bw (LG c i)) (Bw (PV i c k))) (aQ k c i (Di (LG c i)) (Di (PV i c k))) (aQ k c i (El (LG c i)) (El (PV i c k)))))))) j (FU c) j i)) (LL AU (GA (xA c)) (GA c) (Kt (IS (xA c)) (IS c) (pE (xA c) c) (rB (xA c) c) (Sk (xA c)) (Sk c) (Zh (tN (T1 c) (CO c)) (ZL (GU (T1 c)) (YS (T1 c)) c) (E6 (xA c) c) (λj=>bA j (xA c) (RJ c j) (VH (T1 c) j) (LG c j)) (ADM 40) (AM (λj=>Ch (QI (T1 c) j) (aU i c) j)) (AM (λj=>rC (T1 c) j (stK (kW c) i j))) (AM (λj=>Hy (MU (T1 c) j) (PV i c j)))))))))):=by kernel_rfl
def BGT(c:Cht):Prop:=AS ZP (AMR c) Tryz.f97 (AG Tryz.f97) (C_openQ.xs c) (AC []) (C_openXQ.val c) [] [] []
abbrev pY:=BVK (Value.pointer (@none Addr))
attribute [go_sem] pY
theorem BWP(c:Cht):(BGT c)=(And (KD (GA c) (IS c) (BU (GE c) (EN c) (FC c) (BB (ZA c) (CO c)) (ZL (ZA c) (Mf c) c) (WN c) (λi=>XG i c i i) (JY (ZA c)) (JY (ADS c)))) (FW (UH (hd95 (rX c (Mf c) (Se c)))) pY (C2 c (hd95 (rX c (Mf c) (Se c)))) (LR (λi=>Vs (Wt (FU c) (PU (Ih c) (BY (FU c)) (BC i) c (EN c) (FC c) (DY (W6 c) (Mg (CO c) c) (UE c) (λj=>ZH j c) (ADM 40) (BEM zNt (BFR (BIA (AWQ (AQE hd20 0) (gU (AQE hd20 0) BGM))))) (AM (λj=>Hd (mA (aU i c) j))) (AM (λj=>BZ (stK (kW c) i j))) (AM (λj=>A6 (Xv (PV i c j)) 0 (qD (PV i c j) 0) (PV i c j) 0 0 0))))) i (FU c)) (λi=>Mm (MH i (FU c)) i (FU c) (CL i (FU c)) (EA (λj=>Bg (Wt (FU c) (PU (Ih c) (BY (FU c)) (AR j i) c (EN c) (FC c) (Zh (W6 c) (Mg (CO c) c) (UE c) (λk=>ZH k c) (ADM 40) (AM (λk=>WK (aU j c) k (KE (mA (aU i c)) (RJ c i) k))) (AM (λk=>AN (stK (kW c) j k) (kP (mA (aU i c)) (stK (kW c) i) (RJ c i) k))) (AM (λk=>A6 (Xv (PV j c k)) (aQ k c i (RJ c i) (Xv (PV i c k))) (qD (PV j c k) (aQ k c i (QX (LG c i)) (QX (PV i c k)))) (PV j c k) (aQ k c i (Bw (LG c i)) (Bw (PV i c k))) (aQ k c i (Di (LG c i)) (Di (PV i c k))) (aQ k c i (El (LG c i)) (El (PV i c k)))))))) j (FU c) j i)) Tt)))):=by kernel_rfl
theorem Kg(c:Cht):Cht.mk c.p c.base c.scale c.off c.ms c.ns=c:=rfl
theorem CCY(c:Cht):(newD c).c=c:=rfl
theorem AWY(l:List Nt)(x:Nt)(j:Int):hasN (l ++ [x]) j=KE (hasN l) x.mi j:=by
 unfold hasN KE;rw[List.any_append,Bool.or_comm]
 simp only[List.any_cons,List.any_nil,Bool.or_false]
 congr 1
 rw[Bool.eq_iff_iff,beq_iff_eq,decide_eq_true_eq];exact eq_comm
theorem BXS(l:List Nt)(x:Nt)(j:Int):ntOf (l ++ [x]) j=bif decide (j=x.mi) then x else ntOf l j:=by
 induction l with
 |nil=>
  simp only[List.nil_append,ntOf,hasN,List.any_nil,cond_false]
  have:(x.mi==j)=decide (j=x.mi):=by rw[Bool.eq_iff_iff,beq_iff_eq,decide_eq_true_eq];exact eq_comm
  rw[this]
 |cons y l ih=>
  simp only[List.cons_append,ntOf,ih,AWY,KE]
  cases decide (j=x.mi)<;>rfl
theorem CVF(c:Cht)(h:(c.ms.length<4611686018427387904/\c.ns.length<4611686018427387904)/\FB c=0):BRA c:=by
 obtain⟨⟨hm,hn⟩,h0⟩:=h
 rw[CFB]<;> dsimp only[go_sem];simp only[P3,CU,Kg,CCY,h0]
 refine⟨⟨hm,hn⟩,(λh=>by simp at h),λ_=>⟨⟨0,⟨rfl,rfl,λ_=>rfl,λ_=>rfl,λ_=>⟨rfl,rfl,rfl,rfl,rfl⟩⟩,Nat.zero_le _⟩,λk hk=>⟨λhlt=>?_,λhge=>?_⟩⟩⟩
 ·have hlt:k<c.ns.length:=by omega
  refine⟨by omega,k+1,⟨(BJ (by omega)).symm,λn=>?_,λn=>rfl,λn=>?_⟩,by omega,by omega⟩
  ·rw[ADJ hlt,AWY]
  ·rw[ADJ hlt,BXS]
   cases decide (n=(gD c.ns k).mi)<;>exact⟨rfl,rfl,rfl,rfl,rfl⟩
 ·obtain rfl:k=c.ns.length:=by omega
  simp[newD]
theorem BZE:AH ZP 97 (C_openQ.spec dC1):=MK C_openQ AMR [(0,201),(1,202)] [] Tryz.func97 (λ_=>by kernel_rfl) (λ_=>AA AWH AD) (λc h=>CVF c h) (λ_=>OA rfl rfl) _
theorem BXT:AH ZP 97 (C_openXQ.spec dC1):=MK C_openXQ AMR [] [] Tryz.func97 (λ_=>by kernel_rfl) (λ_=>AA AWH AD) (λ(c:Cht) h=>by
 obtain⟨⟨hm,hn⟩,h0⟩:(c.ms.length<4611686018427387904/\c.ns.length<4611686018427387904)/\FB c≠0:=h
 have h0':(FB c != 0)=true:=by simpa using h0
 show BGT c;rw[BWP]<;> dsimp only[go_sem];simp only[P3,CU,Kg,h0']
 simp[hm,hn]) (λ_=>OA rfl rfl) _
def bX(m:Int):Int->List Int->Bool
 |_,[]=>true
 |a,g :: r=>bif PX g (GM (a+1)) (GM (m-2)) then bX m g r else false
def E0(m:Int):Int->List Int->(Nat->Bool)->Nat->Bool
 |_,[],f,j=>f j
 |a,g :: r,f,j=>bif PX g (GM (a+1)) (GM (m-2)) then E0 m g r (λi=>bif decide (i=g.toNat) then true else f i) j else f j
structure DkZ where
 w:Dk
 z:List Int
def stD(a:DkZ):Dk:=⟨a.w.c,a.w.st,E0 a.w.c.ms.length (-1) a.z a.w.sp⟩
def dDkZ:List AVal->Heap->Option (DkZ×List (Nat×Nat)×List Nat)
 |[.bptr id _,y],H=>match BFK H id,S6 y H with
  |some (w,q),some (l,f)=>some (⟨w,l⟩,[(100,id),(101,q)],f)
  |_,_=>none
 |_,_=>none
structure StK where
 k:Nat
 m:Int
 f:Nat->Bool
 deriving Inhabited
def stp3(a:DkZ):Shape:={ α:=StK,dflt:=default,T:=λs=>⟨[(0,.bptr 100 0),(5,.int s.m),(8,.d (BM a.z)),(9,.int a.z.length),(10,.int s.k)],dkK ⟨a.w.c,a.w.st,s.f⟩⟩,inv:=λs=>(s.k<=a.z.length /\ -1<=s.m/\s.m<=40)/\bX a.w.c.ms.length s.m (a.z.drop s.k)=bX a.w.c.ms.length (-1) a.z/\∀j,E0 a.w.c.ms.length s.m (a.z.drop s.k) s.f j=E0 a.w.c.ms.length (-1) a.z a.w.sp j,meas:=λs=>a.z.length-s.k }
def C_stop:Ctr:={ ro:=[101],α:=DkZ,xs:=λa=>[.bptr 100 0,.d (BM a.z)],L:=λa=>dkL a.w,val:=λa=>.bool (bX a.w.c.ms.length (-1) a.z),keep:=λa=>dkK (stD a),pre:=λa=>[a.z.length<4611686018427387904/\a.w.c.ms.length<=40] }
def CFT(a:DkZ):Ann:={ ann 33 [(32,ALH)] with E:=[100,101],loops:=λid=>if id=3 then some [stp3 a] else none }
def CGN(a:DkZ):Prop:=AS ZP (CFT a) Tryz.f98 (AG Tryz.f98) (C_stop.xs a) (AC (C_stop.L a)) (C_stop.val a) (C_stop.keep a) [] []
abbrev Xm:=StK.m
abbrev BQ:=@List.length Int
abbrev OW:=DkZ.z
abbrev ID:=@gD Int Int.instInhabited
abbrev Ap:=StK.k
abbrev SY:=DkZ.w
abbrev AFT:=StK.f
abbrev Jr:=Dk.sp
abbrev S3:=@List.drop Int
abbrev BHS:=λ(x0 x1:Nat)=>decide (x0=x1)
abbrev Ck a b c d e f:=Km a (RL b c) d e f
abbrev gW a b c:=Hy a (MU b c)
abbrev fJ a b c d:=HB a b (Sr c d)
abbrev OT a:=BK (SY a)
abbrev Em a:=BK (stD a)
abbrev tI a b c:=US a b (YS c)
abbrev AHG a:=GU (SY a)
abbrev rO a:=AZ (AHG a)
abbrev nK a b c:=bX (rO a) b c
abbrev Mp a b(c:Nat->Prop):=AQ a b (AE c)
abbrev MA a:=AM (λi=>AI (I4 a i))
abbrev AZS a b c(d:Nat->Prop) e f g h:=Zh a b c d e f (MA g) h
abbrev wV a:=AM (λi=>Zm (MU a i))
abbrev AOL(a:Int->Bool):=AM (λi=>WI (a i))
abbrev iR a:=AOL (λi=>QI a i)
abbrev gB a b c d:=BBU a b (VH c d)
abbrev ATS a b:=fM a (YS b)
abbrev Wj a:=BI (GU a)
abbrev gX a:=BY (BQ a)
abbrev tD a b c:=HB a (BQ b) c
abbrev ACP a b:=AI (ID a b)
abbrev UV a b:=tD a b (ACP b a)
abbrev IU a:=AE (λi=>UV i a)
abbrev MO a:=BI (BQ a)
abbrev FI a b:=MH (Nat.succ a) b
abbrev MZ a b:=CL a (BQ b)
abbrev LW a:=AZ (BQ a)
abbrev Hl a b c(d:Nat->Prop):=AO a b c (AE d)
attribute [go_sem] Xm BQ OW ID Ap SY AFT Jr S3 BHS Ck gW fJ OT Em tI AHG rO nK Mp MA AZS wV AOL iR gB ATS Wj gX tD ACP UV IU MO FI MZ LW Hl
theorem CQQ(a:DkZ):(CGN a)=(And ((@Exists StK) (λi=>Hl (AQ (AN (Xm i) (-1)) (MO (OW a)) (PU (IU (OW a)) (gX (OW a)) (BC (Ap i)) (OT a) (EN (OT a)) (FC (OT a)) (AZS (Wj (SY a)) (ATS (AHG a) (SY a)) (UE (OT a)) (λj=>gB j (OT a) (SY a) j) (AE (λj=>fJ j 40 (AFT i j) (Jr (SY a) j))) (iR (SY a)) (SY a) (wV (SY a))))) (AQ (DC (Ap i) (BQ (OW a))) (KM (-1) (Xm i)) (KM (Xm i) 40)) (Sr (nK a (Xm i) (S3 (Ap i) (OW a))) (nK a (-1) (OW a))) (λj=>Sr (E0 (rO a) (Xm i) (S3 (Ap i) (OW a)) (AFT i) j) (E0 (rO a) (-1) (OW a) (Jr (SY a)) j)))) ((λ(f:StK->Prop)=>∀(x:StK),f x) (λi=>Ck (Mp (AQ (DC (Ap i) (BQ (OW a))) (KM (-1) (Xm i)) (KM (Xm i) 40)) (Sr (nK a (Xm i) (S3 (Ap i) (OW a))) (nK a (-1) (OW a))) (λj=>Sr (E0 (rO a) (Xm i) (S3 (Ap i) (OW a)) (AFT i) j) (E0 (rO a) (-1) (OW a) (Jr (SY a)) j))) (Ap i) (LW (OW a)) (MZ (Ap i) (OW a)) (Be (hd1 (ID (OW a) (Ap i)) (JF (Xm i)) (CW (rO a) 2)) (LL (Hd (nK a (-1) (OW a))) (GA (Em a)) (GA (OT a)) (Kt (IS (Em a)) (IS (OT a)) (pE (Em a) (OT a)) (rB (Em a) (OT a)) (Sk (Em a)) (Sk (OT a)) (Zh (tN (stD a) (AHG a)) (tI (GU (stD a)) (YS (stD a)) (SY a)) (E6 (Em a) (OT a)) (λj=>bA j (Em a) (RJ (OT a) j) (VH (stD a) j) (VH (SY a) j)) (AE (λj=>fJ j 40 (Jr (stD a) j) (AFT i j))) (AM (λj=>Sr (QI (stD a) j) (QI (SY a) j))) (AM (λj=>rC (stD a) j (I4 (SY a) j))) (AM (λj=>gW (MU (stD a) j) (SY a) j))))) (EM (Uh (ID (OW a) (Ap i)) (ZK (ID (OW a) (Ap i)) 40)) (FI (OY (ID (OW a) (Ap i))) 40) ((@Exists StK) (λj=>EO (AQ (AN (Xm j) (ID (OW a) (Ap i))) (MO (OW a)) (PU (IU (OW a)) (gX (OW a)) (AR (Ap j) (Ap i)) (OT a) (EN (OT a)) (FC (OT a)) (AZS (Wj (SY a)) (ATS (AHG a) (SY a)) (UE (OT a)) (λk=>gB k (OT a) (SY a) k) (AE (λk=>fJ k 40 (AFT j k) (Hc (BHS k (OY (ID (OW a) (Ap i)))) (AFT i k)))) (iR (SY a)) (SY a) (wV (SY a))))) (Mp (AQ (DC (Ap j) (BQ (OW a))) (KM (-1) (Xm j)) (KM (Xm j) 40)) (Sr (nK a (Xm j) (S3 (Ap j) (OW a))) (nK a (-1) (OW a))) (λk=>Sr (E0 (rO a) (Xm j) (S3 (Ap j) (OW a)) (AFT j) k) (E0 (rO a) (-1) (OW a) (Jr (SY a)) k))) (BQ (OW a)) (Ap j) (Ap i))))) (LL (GT (nK a (-1) (OW a))) (GA (Em a)) (GA (OT a)) (Kt (IS (Em a)) (IS (OT a)) (pE (Em a) (OT a)) (rB (Em a) (OT a)) (Sk (Em a)) (Sk (OT a)) (Zh (tN (stD a) (AHG a)) (tI (GU (stD a)) (YS (stD a)) (SY a)) (E6 (Em a) (OT a)) (λj=>bA j (Em a) (RJ (OT a) j) (VH (stD a) j) (VH (SY a) j)) (AE (λj=>fJ j 40 (Jr (stD a) j) (AFT i j))) (AM (λj=>Sr (QI (stD a) j) (QI (SY a) j))) (AM (λj=>rC (stD a) j (I4 (SY a) j))) (AM (λj=>gW (MU (stD a) j) (SY a) j)))))))):=by kernel_rfl
theorem CSA(a:DkZ):(stD a).c=a.w.c:=rfl
theorem CWN(a:DkZ)(h:a.z.length<4611686018427387904/\a.w.c.ms.length<=40):CGN a:=by
 obtain⟨hz,hm⟩:=h
 rw[CQQ]<;> dsimp only[go_sem];simp only[P3,CU,CSA]
 have e2:IntKind.i64.wrap ((a.w.c.ms.length:Int)-2)=(a.w.c.ms.length:Int)-2:=ER (by omega) (by omega)
 refine⟨⟨⟨0,-1,a.w.sp⟩,⟨rfl,rfl,λ_ _=>rfl⟩,⟨Nat.zero_le _,by show (-1:Int) <= -1;omega,by show (-1:Int)<=40;omega⟩,rfl,λ_=>rfl⟩,λs ⟨⟨s1,s2,s3⟩,s4,s5⟩=>⟨λhlt=>?_,λhge=>?_⟩⟩
 ·have hlt:s.k<a.z.length:=by omega
  have hd:=BDR hlt
  rw[hd] at s4 s5
  have e1:IntKind.i64.wrap (s.m+1)=s.m+1:=ER (by omega) (by omega)
  refine⟨by omega,λh1=>⟨?_,λj _=>?_,λ_=>rfl⟩,λh1=>?_⟩
  ·rw[<-s4];unfold bX GM;rw[h1];rfl
  ·show E0 _ _ _ _ j=_
   rw[<-s5 j];unfold E0 GM;rw[h1];rfl
  ·have h2:=h1
   rw[e1,e2] at h2
   simp only[PX,Bool.and_eq_true,decide_eq_true_eq] at h2
   refine⟨by omega,⟨s.k+1,gD a.z s.k,λi=>bif decide (i=(gD a.z s.k).toNat) then true else s.f i⟩,⟨rfl,(BJ (by omega)).symm,λ_ _=>rfl⟩,⟨⟨by show s.k+1<=_;omega,by show -1<=gD a.z s.k;omega,by show gD a.z s.k<=40;omega⟩,?_,λj=>?_⟩,by show a.z.length-(s.k+1)<_;omega⟩
   ·rw[<-s4];conv=>rhs;unfold bX GM
    rw[h1];rfl
   ·rw[<-s5 j];conv=>rhs;unfold E0 GM
    rw[h1];rfl
 ·rw[List.drop_of_length_le (by omega)] at s4 s5
  exact⟨s4.symm,λj _=>(s5 j).symm,λ_=>rfl⟩
theorem CMC:AH ZP 98 (C_stop.spec dDkZ):=MK C_stop CFT [] [] Tryz.func98 (λ_=>by kernel_rfl) (λ_=>AA ATA AD) (λa h=>CWN a h) (λ_=>OA rfl rfl) _
structure CZ where
 c:Cht
 z:List Int
def dCZ:List AVal->Heap->Option (CZ×List (Nat×Nat)×List Nat)
 |[x,y],H=>match CAJ x H,S6 y H with
  |some (c,f),some (l,e)=>some (⟨c,l⟩,[],f ++ e)
  |_,_=>none
 |_,_=>none
def xCZ(a:CZ):List AVal:=[.d (eCht a.c),.d (BM a.z)]
def XK(a:CZ):Dk:=stD ⟨newD a.c,a.z⟩
def okZ(a:CZ):Bool:=bX a.c.ms.length (-1) a.z
def begE(a:CZ):Int:=bif FB a.c==0 then bif okZ a then 0 else 2 else FB a.c
def C_beg:Ctr:={ α:=CZ,xs:=xCZ,val:=λa=>.tup [.bptr 0 0,.int (begE a)],keep:=λa=>dkN (XK a),pre:=λa=>[(a.c.ms.length<4611686018427387904/\a.c.ns.length<4611686018427387904/\a.z.length<4611686018427387904)/\FB a.c=0] }
def C_begX:Ctr:={ α:=CZ,xs:=xCZ,val:=λa=>.tup [.d (.v (.pointer none)),.int (begE a)],keep:=λ_=>[],pre:=λa=>[(a.c.ms.length<4611686018427387904/\a.c.ns.length<4611686018427387904/\a.z.length<4611686018427387904)/\FB a.c≠0] }
def CRN:Ann:={ ann 23 [(97,C_openQ.spec dC1),(98,C_stop.spec dDkZ)] with md:=λid=>if id=2 then some λk=>if k=3∨k=4∨k=5∨k=6 then 8 else 0 else none }
def CAL:Ann:={ ann 23 [(97,C_openXQ.spec dC1)] with md:=λid=>if id=2 then some λk=>if k=3∨k=4∨k=5∨k=6 then 9 else 0 else none }
def CTS(a:CZ):Prop:=AS ZP CRN Tryz.f60 (AG Tryz.f60) (xCZ a) (AC []) (C_beg.val a) (C_beg.keep a) [(0,2016),(1,2017)] []
abbrev QM:=CZ.c
abbrev wH:=@HQ Int
abbrev dL:=CZ.z
abbrev V3:=begE
abbrev wB:=XK
abbrev BFN a b c d:=CB a b c a d
abbrev Gq a b c:=Hy (AAE a b) c
abbrev nY a b:=LG (QM a) b
abbrev Ye a:=AZJ (QM a) (λi=>nY a i)
abbrev J4 a:=Cs (QM a)
abbrev gL a:=BDO (J4 a) (J4 a)
abbrev AZY a:=Cht.p (QM a)
abbrev E4 a:=BLJ (AZY a) (QM a) (QM a) (QM a) (gL a) (Ye a)
abbrev NR a:=T1 (E4 a)
abbrev MF a:=BK (wB a)
abbrev Nc a:=BK (NR a)
abbrev CAZ a b:=wH (BQ a) (λi=>ID b i)
abbrev LI a:=CAZ a a
abbrev XT a:=LI (dL a)
abbrev qV a b:=Dk.mk a (I4 b) (Jr b)
abbrev II a:=Se (BK a)
abbrev Fc a:=BDO (YS a) (YS a)
abbrev BPU a b:=rX a (Fc b) (II b)
abbrev X3 a b c:=qV (BPU a b) c
abbrev Vd a:=stD (DkZ.mk (X3 (Nc a) (NR a) (NR a)) (XT a))
abbrev Iz a:=Em (DkZ.mk (X3 (Nc a) (NR a) (NR a)) (XT a))
abbrev ABW a:=CO (MF a)
abbrev oT a b:=BB a (GU b)
abbrev HY a:=hd55 (Fc a)
abbrev Zr a:=DC a 40
abbrev oJ a:=JY (BQ a)
abbrev Wh a b:=ntOf (II a) b
abbrev eK a b:=AOO (Xt a) b
abbrev BLG a b c:=AN (ID a b) c
abbrev AYF a b c d e:=tD a b (BLG c d e)
abbrev jU a b c d:=AYF a b b a (ID c d)
abbrev Zs a b c:=jU a b c a
abbrev BO a b:=AE (λi=>Zs i a b)
abbrev Sc a b:=BB (BQ a) b
abbrev BH a b:=Sc a (BQ b)
abbrev CY:=WI Fa
abbrev aF a:=hd95 (E4 a)
abbrev I5 a:=H9 (Ye a)
abbrev jS a:=hd55 (gL a)
abbrev xZ a:=JY (jS a)
abbrev G4 a b:=eK (Ye a) b
abbrev E8 a b:=BB (jS a) b
abbrev AAZ a:=hd55 (J4 a)
abbrev F8 a:=GN (AZY a)
abbrev C3 a:=IP (AZY a)
attribute [go_sem] QM wH dL V3 wB BFN Gq nY Ye J4 gL AZY E4 NR MF Nc CAZ LI XT qV II Fc BPU X3 Vd Iz ABW oT HY Zr oJ Wh eK BLG AYF jU Zs BO Sc BH CY aF I5 jS xZ G4 E8 AAZ F8 C3
theorem CXX(a:CZ):(CTS a)=(AQ (KD (C3 a) (F8 a) (BU (GE (QM a)) (EN (QM a)) (FC (QM a)) (E8 a (AAZ a)) (US (jS a) (gL a) (J4 a)) (G4 a (QM a)) (λi=>Rf i (Ye a) i (nY a i)) (And (xZ a) (I5 a)) (BZ (aF a)))) CY (BFN CY CY (And (BH (XT a) (dL a)) (DO (BO (XT a) (dL a)) (GA (Nc a)) (IS (Nc a)) (GE (Nc a)) (BU (EN (Nc a)) (FC (Nc a)) (oT (HY (NR a)) (NR a)) (tI (HY (NR a)) (Fc (NR a)) (NR a)) (eK (II (NR a)) (Nc a)) (AE (λi=>Hx i (II (NR a)) (J8 (Nc a) i (VH (NR a) i)))) (λi=>AIM i 40) FE (AP (AM (λi=>WK (II (NR a)) i (Dx (Nc a) i))) (MA (NR a)) (AM (λi=>gW (Wh (NR a) i) (NR a) i)) FE (AM (λi=>Sr (Dx (Nc a) i) (QI (Vd a) i))) (AM (λi=>rC (NR a) i (I4 (Vd a) i))) (AM (λi=>gW (MU (NR a) i) (Vd a) i)) (oJ (XT a)) (Zr (HY (NR a))))))) (YL (IC ((@BEq.beq Nat (@instBEqOfDecidableEq Nat instDecidableEqNat)) 0 0) (not (bX (AZ (HY (NR a))) (-1) (XT a)))) (LL (AN (V3 a) 2) (GA (MF a)) (GA (Iz a)) (Kt (IS (MF a)) (IS (Iz a)) (pE (MF a) (Iz a)) (rB (MF a) (Iz a)) (Sk (MF a)) (Sk (Iz a)) (Zh (oT (ABW a) (Vd a)) (Og (ABW a) (MF a) (YS (Vd a))) (E6 (MF a) (Iz a)) (λi=>bA i (MF a) (RJ (Iz a) i) (LG (MF a) i) (VH (Vd a) i)) (AE (λi=>fJ i 40 (Jr (wB a) i) (Jr (Vd a) i))) (AM (λi=>Sr (Dx (MF a) i) (Dx (Nc a) i))) (AM (λi=>rC (wB a) i (I4 (NR a) i))) (AM (λi=>Gq (MF a) i (MU (NR a) i)))))) (LL (BZ (V3 a)) (GA (MF a)) (GA (Iz a)) (Kt (IS (MF a)) (IS (Iz a)) (pE (MF a) (Iz a)) (rB (MF a) (Iz a)) (Sk (MF a)) (Sk (Iz a)) (Zh (oT (ABW a) (Vd a)) (Og (ABW a) (MF a) (YS (Vd a))) (E6 (MF a) (Iz a)) (λi=>bA i (MF a) (RJ (Iz a) i) (LG (MF a) i) (VH (Vd a) i)) (AE (λi=>fJ i 40 (Jr (wB a) i) (Jr (Vd a) i))) (AM (λi=>Sr (Dx (MF a) i) (Dx (Nc a) i))) (AM (λi=>rC (wB a) i (I4 (NR a) i))) (AM (λi=>Gq (MF a) i (MU (NR a) i))))))))):=by kernel_rfl
def CHD(a:CZ):Prop:=AS ZP CAL Tryz.f60 (AG Tryz.f60) (xCZ a) (AC []) (C_begX.val a) [] [] []
abbrev BRD a b c d:=CB a b a c d
abbrev CBM a b c:=BRD a a b c
abbrev iM a b c d e:=FW a b c (And d e)
abbrev ABQ a b c d:=iM a b c b d
abbrev WO a:=wP a 0
abbrev RN a b:=TD (GT a) b
abbrev Ha a:=(@Ne Int) a 0
attribute [go_sem] BRD CBM iM ABQ WO RN Ha
theorem CLQ(a:CZ):(CHD a)=(AQ (KD (C3 a) (F8 a) (BU (GE (QM a)) (EN (QM a)) (FC (QM a)) (E8 a (AAZ a)) (US (jS a) (gL a) (J4 a)) (G4 a (QM a)) (λi=>Rf i (Ye a) i (nY a i)) (And (xZ a) (I5 a)) (Ha (aF a)))) (Hd (WO (aF a))) (CBM (Hd (WO (aF a))) (RN (WO (aF a)) (GT P8)) (ABQ (IC (WO (aF a)) P8) pY (AN (V3 a) 2) (AN (V3 a) (aF a))))):=by kernel_rfl
theorem AIF(a:CZ):(XK a).c=a.c:=rfl
theorem ARB(w:Dk):Dk.mk w.c w.st w.sp=w:=rfl
theorem Yb{c:Cht}(h:FB c=0):Tv c=0/\(1<=c.ms.length/\c.ms.length<=40)/\c.ns.length<=20:=by
 have h1:Tv c=0:=by
  unfold FB at h
  cases hc:(Tv c != 0) with
  |false=>simpa using hc
  |true=>rw[hc] at h;simpa using h
 refine⟨h1,?_⟩
 unfold Tv at h1
 cases hc:(bif !PX c.ms.length 1 40 then true else decide ((c.ns.length:Int)>20)) with
 |true=>rw[hc] at h1;cases h1
 |false=>
  cases hb:PX c.ms.length 1 40 with
  |false=>rw[hb] at hc;cases hc
  |true=>
   rw[hb] at hc
   have hc:decide ((c.ns.length:Int)>20)=false:=hc
   simp only[PX,Bool.and_eq_true,decide_eq_true_eq,decide_eq_false_iff_not] at hb hc
   omega
theorem CYS(a:CZ)(h:(a.c.ms.length<4611686018427387904/\a.c.ns.length<4611686018427387904/\a.z.length<4611686018427387904)/\FB a.c=0):CTS a:=by
 obtain⟨⟨hm,hn,hz⟩,h0⟩:=h
 have hl:=Yb h0
 rw[CXX]<;> dsimp only[go_sem];simp only[P3,CU,Kg,CCY,ARB,CSA,AIF]
 have e:begE a=bif okZ a then 0 else 2:=by unfold begE;rw[h0];rfl
 have e2:bX a.c.ms.length (-1) a.z=okZ a:=rfl
 have e3:stD ⟨newD a.c,a.z⟩=XK a:=rfl
 simp only[e,e2,e3,AIF]
 have e4:∀n,(newD a.c).st n=(XK a).st n:=λ_=>rfl
 cases okZ a<;>simp[hm,hn,hz,h0,hl.2.1.2,e4]<;>exact⟨λ_=>rfl,λ_ _=>rfl⟩
theorem CDU:AH ZP 60 (C_beg.spec dCZ):=MK C_beg (λ_=>CRN) [(0,2016),(1,2017)] [] Tryz.func60 (λ_=>by kernel_rfl) (λ_=>AA BZE (AA CMC AD)) (λa h=>CYS a h) (λ_=>OA rfl rfl) _
theorem CKI:AH ZP 60 (C_begX.spec dCZ):=MK C_begX (λ_=>CAL) [] [] Tryz.func60 (λ_=>by kernel_rfl) (λ_=>AA BXT AD) (λ(a:CZ) h=>by
 obtain⟨⟨hm,hn,hz⟩,h0⟩:(a.c.ms.length<4611686018427387904/\a.c.ns.length<4611686018427387904/\a.z.length<4611686018427387904)/\FB a.c≠0:=h
 have h0':(FB a.c==0)=false:=by simpa using h0
 have e:begE a=FB a.c:=by unfold begE;rw[h0'];rfl
 show CHD a;rw[CLQ]<;> dsimp only[go_sem];simp only[P3,CU,Kg,h0',e]
 simp[hm,hn,h0]) (λ_=>OA rfl rfl) _
end Go.Bal
