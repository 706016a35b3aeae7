/- Package chart: every. Printed by gench.py. -/
import Derived.Test.YtdbjalgfomknhaaGreatChZn
set_option linter.unusedVariables false
set_option linter.unusedSimpArgs false
namespace Go.Bal
open Go Go.Sym Go.Proofs
def Lu(p:Nat->Bool):Nat->Bool
 |0=>true
 |n+1=>Lu p n&&p n
theorem Rw{p:Nat->Bool}:∀{n:Nat},Lu p n=true↔∀i,i<n->p i=true
 |0=>by simp[Lu]
 |n+1=>by
  simp only[Lu,Bool.and_eq_true,Rw (n:=n)]
  constructor
  ·intro h i hi
   by_cases he:i=n
   ·subst he;exact h.2
   ·exact h.1 i (by omega)
  ·exact λh=>⟨λi hi=>h i (by omega),h n (by omega)⟩
theorem BQB{p:Nat->Bool}:∀{n k:Nat},(0<=sV p n k)↔∃i,k<=i/\i<k+n/\p i=true
 |0,k=>by simp[sV];omega
 |n+1,k=>by
  simp only[sV]
  by_cases h:p k=true
  ·rw[if_pos h]
   constructor
   ·intro _;exact⟨k,Nat.le_refl _,by omega,h⟩
   ·intro _;omega
  ·rw[if_neg h,BQB (n:=n) (k:=k+1)]
   constructor
   ·rintro⟨i,h1,h2,h3⟩;exact⟨i,by omega,by omega,h3⟩
   ·rintro⟨i,h1,h2,h3⟩
    refine⟨i,?_,by omega,h3⟩
    by_cases he:i=k
    ·subst he;exact absurd h3 h
    ·omega
theorem CBA{p:Nat->Bool}{n:Nat}:(!decide (0<=sV (λi=>!p i) n 0))=Lu p n:=by
 rw[Bool.eq_iff_iff,Rw]
 simp only[Bool.not_eq_true',decide_eq_false_iff_not,BQB,Nat.zero_le,Nat.zero_add,true_and]
 constructor
 ·intro h i hi
  cases hp:p i with
  |true=>rfl
  |false=>exact (h ⟨i,hi,by simp[hp]⟩).elim
 ·rintro h ⟨i,hi,hp⟩
  rw[h i hi] at hp;cases hp
theorem yD{α:Type}[Inhabited α]{p:α->Bool}{l:List α}:(!decide (0<=sV (λi=>!p (gD l i)) l.length 0))=l.all p:=by
 rw[CBA,Bool.eq_iff_iff,Rw,List.all_eq_true]
 exact⟨λh x hx=>by obtain⟨i,hi,rfl⟩:=Df hx;exact h i hi,λh i hi=>h _ (OH hi)⟩
def xO(c:Cht):AObj:=.box [.int c.p.lo,.int c.p.hi,.int c.base,.int c.scale,.int c.off,.d (dE c.ms),.d (sL c.ns)]
def rG(H:Heap)(id:Nat):Option Cht:=match H id with
 | .live (.box [.d a,.d b,.d c,.d d,.d e,.d (.list _ n f _),.d (.list _ m g _)])=>some ⟨⟨KN a,KN b⟩,KN c,KN d,KN e,NK n λi=>dMk (f i),NK m λi=>dNt (g i)⟩
 |_=>none
structure ChN where
 q:Cht
 e:Nt
def C_ck1:Ctr:={ ro:=[101],α:=ChN,xs:=λa=>[.d (eNt a.e),.bptr 101 0],L:=λa=>[(101,xO a.q)],val:=λa=>.bool (Du a.e a.q.ms.length),keep:=λa=>[(101,.live (xO a.q))] }
def CRA:List AVal->Heap->Option (ChN×List (Nat×Nat)×List Nat)
 |[.d d,.bptr id _],H=>match rG H id with
  |some q=>some (⟨q,dNt d⟩,[(101,id)],[])
  |none=>none
 |_,_=>none
def CQC:Ann:={ ann 9 [(BGJ,BTG)] with E:=[101] }
def CQZ(a:ChN):Prop:=ES Try.prog CQC BBN (AJ BBN) (C_ck1.xs a) (AD (C_ck1.L a)) (C_ck1.val a) (C_ck1.keep a) [] []
abbrev EB:=@List.length Mk
abbrev FX:=Cht.ms
abbrev EC:=Cht.p
abbrev GY:=Cht.base
abbrev GX:=Cht.scale
abbrev GR:=Cht.off
abbrev GG:=@gD Mk instInhabitedMk
abbrev DV:=@List.length Nt
abbrev FO:=Cht.ns
abbrev FU:=@gD Nt instInhabitedNt
abbrev BB a b c d e f g h p:=AI a b c d (AI e f g h p)
abbrev KQ a b c d e f(g:Nat->Prop) h p:=BB a b c d e f (AB g) h p
abbrev BQ a:=AF (GR a)
abbrev BV a:=AF (GX a)
abbrev BM a:=AF (GY a)
abbrev NP a b c d e(f:Nat->Prop) g h:=KQ a b (BM c) (BV d) (BQ d) e f g h
abbrev CY a b:=AQ (EC a) (EC b)
abbrev DF a:=CY a a
abbrev BY a:=BZ (EC a)
abbrev QD a b c(d:Nat->Prop) e f:=NP (BY a) (DF b) b b c d e f
abbrev AX a:=EB (FX a)
abbrev KL a b c d:=BF a (AX b) c d
abbrev CN a b:=GG (FX a) b
abbrev BS a b:=Mk.ht (CN a b)
abbrev BE a b:=Mk.pl (CN a b)
abbrev GP a b:=KL a b (AF (BE b a)) (AF (BS b a))
abbrev GD a:=BI (AX a)
abbrev Fq a b c:=QD a a (GD a) (λi=>GP i a) b c
abbrev AO a:=DV (FO a)
abbrev HG a:=BI (AO a)
abbrev Ew a b c:=Fq a (HG b) c
abbrev DD a b c d e f:=AI a b (AQ c d) e f
abbrev DC a b c d e f g:=DD a b c d e (AQ f g)
abbrev BJ a b c d e f g h p:=AV a b (DC c d e f g h p)
abbrev LY a b c d e f g:=BJ a b c d e e f g g
abbrev CK a b:=FU (FO a) b
abbrev AE a b:=EO (CK a b)
abbrev OT a b:=BZ (AE a b)
abbrev AC a b:=EM (CK a b)
abbrev OU a b:=BZ (AC a b)
abbrev BR a b:=DY (CK a b)
abbrev OR a b:=AF (BR a b)
abbrev FT a b:=LY a (AO b) (OR b a) (OU b a) (AC b a) (OT b a) (AE b a)
abbrev HI a:=AB (λi=>FT i a)
abbrev KP a:=Ew a a (HI a)
abbrev MZ a:=CG (AX a)
abbrev Zl a b:=hd15 a (MZ b)
attribute [go_sem] EB FX EC GY GX GR GG DV FO FU BB KQ BQ BV BM NP CY DF BY QD AX KL CN BS BE GP GD Fq AO HG Ew DD DC BJ LY CK AE OT AC OU BR OR FT HI KP MZ Zl
theorem CWH(a:ChN):(CQZ a)=(And (MD (Zl (ChN.e a) (ChN.q a)) (Zl (Nt.mk (DY (ChN.e a)) (EM (ChN.e a)) (EO (ChN.e a))) (ChN.q a))) (KP (ChN.q a))):=by kernel_rfl
theorem CXV:AW Try.prog AHV (C_ck1.spec CRA):=Je C_ck1 (λ_=>CQC) [] [] BVL (λ_=>by kernel_rfl) (λ_=>AA CBP AK) (λ(a:ChN) _=>by
 show CQZ a;rw[CWH]<;> delta MD BH BK hd15 DY EM EO CH AB CJ CE AY CG EB FX EC GY GX GR GG DV FO FU AH CK AX AI BC AV AF BI AQ BB AC BZ CN BF AE AO DD DC BR BE BS BJ BQ LY BV BM CY BY KL GD OT OR DF MZ OU HG KQ GP NP FT QD HI Fq Ew KP Zl;simp[wr,Li]) (λ_=>Kp rfl rfl) _
def Od(s:Span):Bool:=decide (s.lo<=s.hi)
def CDI(x:Span):Prop:=ES Try.prog (ann 8 []) BQH (AJ BQH) (xS1 x) (AD []) (.bool (Od x)) [] [] []
theorem CLV(x:Span):(CDI x)=(MD (Od x) (hd7 (BH x) (BK x))):=by kernel_rfl
def BHL:=pD dS1 λx=>.bool (Od x)
theorem COL:AW Try.prog BJA BHL:=cC xS1 hS1 λx _=>Wk (A:=ann 8 []) (ren:=[]) (fz:=[]) CMU (by kernel_rfl) AK (by
 show CDI x;rw[CLV]<;> delta MD hd7 BH BK;try simp[Od])
def CDD(x:Span):Prop:=ES Try.prog (ann 8 []) BOI (AJ BOI) (xS1 x) (AD []) (.bool (Od x)) [] [] []
theorem CKS(x:Span):(CDD x)=(MD (Od x) (hd7 (BH x) (BK x))):=by kernel_rfl
theorem CKQ:AW Try.prog BIH BHL:=cC xS1 hS1 λx _=>Wk (A:=ann 8 []) (ren:=[]) (fz:=[]) CJE (by kernel_rfl) AK (by
 show CDD x;rw[CKS]<;> delta MD hd7 BH BK;try simp[Od])
def COW(x:Int):Prop:=ES Try.prog (ann 5 [(n_in,s_in)]) BDE (AJ BDE) (xI1 x) (AD []) (.bool (PN x (-100000000) 100000000)) [] [] []
abbrev GJ a:=MD a a
abbrev Pm a:=PN a (-100000000) 100000000
attribute [go_sem] GJ Pm
theorem CVB(x:Int):(COW x)=(GJ (Pm x)):=by kernel_rfl
def CQB:=pD dI1 λx=>.bool (PN x (-100000000) 100000000)
theorem CZC:AW Try.prog AIZ CQB:=cC xI1 hI1 λx _=>Wk (A:=ann 5 [(n_in,s_in)]) (ren:=[]) (fz:=[]) BXB (by kernel_rfl) (AA R9 AK) (by
 show COW x;rw[CVB]<;> delta MD GJ Pm;try simp)
def LXNr(q:Cht):List (Nat×AObj):=[(101,xO q)]
def KXNr(q:Cht):List (Nat×HCell):=[(101,.live (xO q))]
def fvNr(q:Cht):AVal:=.fn (.func AHV) [] [.bptr 101 0]
def BNr(q:Cht):AObj:=.box [fvNr q]
structure ENr where
 q:Cht
 e:Nt
structure MNr where
 q:Cht
 l:List Nt
def C1Nr:Ctr:={ ro:=[100,101],α:=ENr,xs:=λa=>[.d (eNt a.e),.bptr 100 0],L:=λa=>(100,BNr a.q) :: LXNr a.q,val:=λa=>.bool (!Du a.e a.q.ms.length),keep:=λa=>(100,.live (BNr a.q)) :: KXNr a.q }
def d1Nr:List AVal->Heap->Option (ENr×List (Nat×Nat)×List Nat)
 |[.d d,.bptr id _],H=>match H id with
  | .live (.box [.fn _ _ [.bptr j _]])=>match rG H j with
   |some q=>some (⟨q,dNt d⟩,[(100,id),(101,j)],[])
   |none=>none
  |_=>none
 |_,_=>none
def A1Nr:Ann:={ ann 8 [(AHV,C_ck1.spec CRA)] with E:=[100,101] }
def V1Nr(a:ENr):Prop:=ES Try.prog A1Nr CDC (AJ CDC) (C1Nr.xs a) (AD (C1Nr.L a)) (C1Nr.val a) (C1Nr.keep a) [] []
abbrev hd70:=ENr.e
abbrev Zd:=ENr.q
abbrev Ng a b c d e:=AH (AH a b c) d e
abbrev Xh a b:=MD a (not b)
abbrev JE a b:=(@NK Mk) a (λi=>GG b i)
abbrev IN a:=JE (AX a) (FX a)
abbrev HK a:=EB (IN a)
abbrev eZ a:=CG (HK a)
abbrev Mb a b c d e:=DD a b c c d e
abbrev DI a b c d e f g(h:Nat->Prop) p:=BB a b c d e f g (AB h) p
abbrev RR a b c d e f g(h:Nat->Prop) p:=DI (DF a) b c d e f g h p
abbrev Gr a b(c:Nat->Prop) d e:=QD a a b c d e
abbrev HE a b:=CH (AO a) b
abbrev IW a(b:Nat->Nt):=(@NK Nt) (DV a) b
abbrev IK a:=IW (FO a) (λi=>CK a i)
abbrev HF a:=DV (IK a)
abbrev KS a:=HE a (HF a)
abbrev CI a b c d e f:=BF a b (AY c d) (AY e f)
abbrev OC a b:=GG (IN a) b
abbrev OE a b:=Mk.ht (OC a b)
abbrev OD a b:=Mk.pl (OC a b)
abbrev SC a b c d e:=CI a b c (OD d a) e (OE d a)
abbrev JL a b:=SC a (AX b) (BE b a) b (BS b a)
abbrev DO a b:=CH (AX a) b
abbrev HS a:=DO a (HK a)
abbrev Gd a b:=Gr a (HS a) (λi=>JL i a) (KS a) b
abbrev AU a b c d e f g h p:=BJ a (AO b) c d e f g h p
abbrev JB a b:=FU (IK a) b
abbrev AR a b:=EO (JB a b)
abbrev MN a b c:=AZ a (AR b c)
abbrev EH a b:=MN (AE a b) a b
abbrev AS a b:=EM (JB a b)
abbrev MQ a b c:=AZ a (AS b c)
abbrev EJ a b:=MQ (AC a b) a b
abbrev IE a b:=DY (JB a b)
abbrev RG a b c:=AY a (IE b c)
abbrev EI a b:=RG (BR a b) a b
abbrev AT a b c d e f g h p:=BJ a (HF b) c d e f g h p
abbrev CU a b c:=AZ a (AE b c)
abbrev AL a b:=CU (AR a b) a b
abbrev CX a b c:=AZ a (AC b c)
abbrev AN a b:=CX (AS a b) a b
abbrev DR a b c:=AY a (BR b c)
abbrev AM a b:=DR (IE a b) a b
abbrev BO a:=CH (HF a) (AO a)
abbrev DU a b c d e f g:=CI a b c (BE d e) f (BS d g)
abbrev HY a b c d e:=DU a b c d a e a
abbrev OF a b c d e f g:=HY a b (OD c d) e (OE f g)
abbrev ID a b:=OF a (HK b) b a b b a
abbrev DK a:=AB (λi=>ID i a)
abbrev FW a b:=CH a (AX b)
abbrev BW a:=FW (HK a) a
attribute [go_sem] hd70 Zd Ng Xh JE IN HK eZ Mb DI RR Gr HE IW IK HF KS CI OC OE OD SC JL DO HS Gd AU JB AR MN EH AS MQ EJ IE RG EI AT CU AL CX AN DR AM BO DU HY OF ID DK FW BW
theorem DDT(a:ENr):(V1Nr a)=(Ng (AF (DY (hd70 a))) (BZ (EM (hd70 a))) (Mb (IS (EM (hd70 a))) (BZ (EO (hd70 a))) (EO (hd70 a)) (BY (Zd a)) (RR (Zd a) (BM (Zd a)) (BV (Zd a)) (BQ (Zd a)) (BW (Zd a)) (DK (Zd a)) (BO (Zd a)) (λi=>AT i (Zd a) (AM (Zd a) i) (AN (Zd a) i) (AS (Zd a) i) (AC (Zd a) i) (AL (Zd a) i) (AR (Zd a) i) (AE (Zd a) i)) (Gd (Zd a) (AB (λi=>AU i (Zd a) (EI (Zd a) i) (EJ (Zd a) i) (AC (Zd a) i) (AS (Zd a) i) (EH (Zd a) i) (AE (Zd a) i) (AR (Zd a) i)))))) (Xh (not (Zl (hd70 a) (Zd a))) (hd15 (Nt.mk (DY (hd70 a)) (EM (hd70 a)) (EO (hd70 a))) (eZ (Zd a)))) (KP (Zd a))):=by kernel_rfl
theorem DED:AW Try.prog BKJ (C1Nr.spec d1Nr):=Je C1Nr (λ_=>A1Nr) [] [] CVA (λ_=>by kernel_rfl) (λ_=>AA CXV AK) (λ(a:ENr) h=>by
 show V1Nr a;rw[DDT]<;> delta MD BH BK hd15 DY EM EO CH AB CJ CE AY CG EB FX EC GY GX GR GG DV FO FU hd70 Zd AH CK IW AX JE AI BC AV AF IK IN BI AQ JB BB AC BZ CN BF AE AO BD HK DD AZ DC BR BE BS BJ AR BQ IS Mb LY BV HF CI OC AS BM CY BY IE KL CU GD CX OT OR OE DF DU HY MZ DR OU HG OD KQ FW AT HE OF RG AU DO DI BO BW AL AN AM GP ID NP MQ MN DK SC FT QD HI KS HS Gr EH EJ EI Fq JL Ew KP RR Zl Gd Ng Xh eZ;try simp[wr,Li]) (λ_=>Kp rfl rfl) _
def d2Nr:List AVal->Heap->Option (MNr×List (Nat×Nat)×List Nat)
 |[y,.fn _ _ [.bptr id _]],H=>match dRow y H with
  |some (n,g,f)=>match H id with
   | .live (.box [.fn _ _ [.bptr j _]])=>match rG H j with
    |some q=>some (⟨q,NK n λi=>dNt (g i)⟩,[(100,id),(101,j)],f)
    |none=>none
   |_=>none
  |none=>none
 |_,_=>none
def A2Nr(a:MNr):Ann:={ ann 19 [(BKJ,C1Nr.spec d1Nr)] with E:=[100,101],loops:=λid=>if id=2 then some [{ α:=Nat,dflt:=0,T:=λk=>⟨[(0,.d (sL a.l)),(1,.fn (.func BKJ) [] [.bptr 100 0]),(7,.int a.l.length),(8,.int k)],(100,.live (BNr a.q)) :: KXNr a.q⟩,inv:=λk=>k<=a.l.length/\sV (λi=>!Du (gD a.l i) a.q.ms.length) a.l.length 0=sV (λi=>!Du (gD a.l i) a.q.ms.length) (a.l.length-k) k,meas:=λk=>a.l.length-k }] else none }
def PNr(a:MNr):List Prop:=[a.l.length<4611686018427387904/\True]
def C2Nr:Ctr:={ ro:=[100,101],α:=MNr,xs:=λa=>[.d (sL a.l),.fn (.func BKJ) [] [.bptr 100 0]],L:=λa=>(100,BNr a.q) :: LXNr a.q,val:=λa=>.int (sV (λi=>!Du (gD a.l i) a.q.ms.length) a.l.length 0),keep:=λa=>(100,.live (BNr a.q)) :: KXNr a.q,pre:=PNr }
def V2Nr(a:MNr):Prop:=ES Try.prog (A2Nr a) BKY (AJ BKY) (C2Nr.xs a) (AD (C2Nr.L a)) (C2Nr.val a) (C2Nr.keep a) [] []
abbrev KI:=@Exists Nat
abbrev V8:=MNr.l
abbrev MX:=MNr.q
abbrev JK a(b:Nat->Prop):=And a (AB b)
abbrev HX(a:Nat->Prop)(b:Nat->Prop):=JK (KI a) b
abbrev EZ a b c d:=FV a (And b c) d
abbrev ON a b c d e:=CJ a (EZ b c d e)
abbrev OO a b c d e f:=ON a (JY b c) d e f
abbrev vA a:=KP (MX a)
abbrev Ox(a:Nat->Bool) b c:=sV (λi=>not (a i)) b c
abbrev Oy(a:Nat->Bool) b:=Ox a b 0
abbrev Rj(a:Nat->Bool) b c:=AY (Oy a b) c
abbrev Fj a:=DV (V8 a)
abbrev AMY a b:=Zl a (MX b)
abbrev jM a b c:=AMY (FU (V8 a) b) c
abbrev IF a b c d e:=AH a b (JH c d e)
abbrev Ji(a:Nat->Bool) b(c:Nat->Bool) d e:=Rj a b (Ox c (IG b d) e)
abbrev Ax a b:=EO (FU a b)
abbrev Yp a b:=Ax (V8 a) b
abbrev Ay a b:=EM (FU a b)
abbrev Yd a b:=Ay (V8 a) b
abbrev PH a b:=DY (FU a b)
attribute [go_sem] KI V8 MX JK HX EZ ON OO vA Ox Oy Rj Fj AMY jM IF Ji Ax Yp Ay Yd PH
theorem DCP(a:MNr):(V2Nr a)=(HX (λi=>AH (AI (BI (Fj a)) (AB (λj=>LY j (Fj a) (AF (PH (V8 a) j)) (BZ (Yd a j)) (Yd a j) (BZ (Yp a j)) (Yp a j))) (EF (Fj a)) (CQ i) (vA a)) (CW i (Fj a)) (Ji (λj=>jM a j a) (Fj a) (λj=>jM a j a) i i)) (λi=>OO (KH i (Fj a) (Ji (λj=>jM a j a) (Fj a) (λj=>jM a j a) i i)) i (Fj a) (CL i (Fj a) (AH (AF (PH (V8 a) i)) (BZ (Yd a i)) (Mb (IS (Yd a i)) (BZ (Yp a i)) (Yp a i) (BY (MX a)) (RR (MX a) (BM (MX a)) (BV (MX a)) (BQ (MX a)) (BW (MX a)) (DK (MX a)) (BO (MX a)) (λj=>AT j (MX a) (AM (MX a) j) (AN (MX a) j) (AS (MX a) j) (AC (MX a) j) (AL (MX a) j) (AR (MX a) j) (AE (MX a) j)) (Gd (MX a) (AB (λj=>AU j (MX a) (EI (MX a) j) (EJ (MX a) j) (AC (MX a) j) (AS (MX a) j) (EH (MX a) j) (AE (MX a) j) (AR (MX a) j)))))))) (EZ (not (hd15 (Nt.mk (PH (V8 a) i) (Yd a i) (Yp a i)) (eZ (MX a)))) (Rj (λj=>jM a j a) (Fj a) (CG i)) (vA a) (KI (λj=>IF (AI (BI (Fj a)) (AB (λk=>LY k (Fj a) (AF (PH (V8 a) k)) (BZ (Yd a k)) (Yd a k) (BZ (Yp a k)) (Yp a k))) (EF (Fj a)) (BA j i) (vA a)) (KH j (Fj a) (Ji (λk=>jM a k a) (Fj a) (λk=>jM a k a) j j)) (Fj a) j i))) (And (Rj (λj=>jM a j a) (Fj a) (-1)) (vA a)))):=by kernel_rfl
theorem p2Nr(a:MNr)(h:JS (PNr a)):V2Nr a:=by
 obtain⟨h,hp⟩:a.l.length<4611686018427387904/\True:=h
 rw[DCP]<;> delta BH BK hd15 DY RD RU EM EO CH AB CJ CE AY CG CW FV NL HD KA UI IG EB FX EC GY GX GR GG DV FO FU KI V8 MX AH CK IW AX JE AI BC AV AF IK IN BI AQ JB BB AC BZ CN BF AE AO BD HK DD AZ DC BR BE BS BJ JQ AR BQ IS Mb LY BV HF CI OC EQ BL AS BM CY BY FL IE HR BX KL CU DN GD CX OT OR OE DF DU HY MZ DR OU HG OD KQ FE FW AT Ax MJ DX HE Ay OF EZ EX JJ BA RG AU DO DI PH HW BO BW JH AL AN AM GP ID NP FK MQ MN DK SC FT EF QD Ox HI KH CQ KS HS CL Gr EH EJ EI JY JK Fq JL Ew IF ON HX Oy KP Rj Fj RR OO Zl Gd Yd Yp Ji AMY jM vA eZ
 simp only[CC,eq_self,implies_true,forall_const]
 refine⟨⟨0,rfl,Nat.zero_le _,rfl⟩,λk ⟨h1,h2⟩=>⟨λhlt=>?_,λhge=>?_⟩⟩
 ·have hlt:k<a.l.length:=by omega
  refine⟨⟨by omega,by omega⟩,λhp=>?_,λhp=>⟨k+1,(II (by omega)).symm,⟨by omega,?_⟩,by omega⟩⟩
  ·rw[h2];exact xZ hlt (by simpa using hp)
  ·rw[h2];exact APH hlt (by simpa using hp)
 ·rw[h2];exact AAN (by omega)
theorem DAT:AW Try.prog BMG (C2Nr.spec d2Nr):=Je C2Nr A2Nr [] [] CHT (λ_=>by kernel_rfl) (λ_=>AA DED AK) p2Nr (λ_=>Kp rfl rfl) _
def C3Nr:Ctr:={ C2Nr with val:=λ(a:MNr)=>.bool (decide (sV (λi=>!Du (gD a.l i) a.q.ms.length) a.l.length 0>=0)) }
def d3Nr:List AVal->Heap->Option (C3Nr.α×List (Nat×Nat)×List Nat):=d2Nr
def A3Nr:Ann:={ ann 9 [(BMG,C2Nr.spec d2Nr)] with E:=[100,101] }
def V3Nr(a:MNr):Prop:=ES Try.prog A3Nr BKM (AJ BKM) (C3Nr.xs a) (AD (C3Nr.L a)) (C3Nr.val a) (C3Nr.keep a) [] []
abbrev IP:=True
abbrev Lj a:=tJ a 0
abbrev Cu(a:Nat->Bool) b:=Lj (Oy a b)
abbrev Wa a:=IW (V8 a) (λi=>FU (V8 a) i)
abbrev qD a:=DV (Wa a)
abbrev QP a b c d e(f:Nat->Prop) g h p:=BB a b c d e (AB f) g h p
abbrev Dp a b c d(e:Nat->Prop) f g h:=QP (BV a) (BQ a) b c d e f g h
abbrev Ar a b c(d:Nat->Prop) e f g:=Dp a b c (BO a) d e f g
abbrev CF a b c d(e:Nat->Prop) f g h p:=BB a b c d (AB e) f g h p
abbrev JA a b c d(e:Nat->Prop) f(g:Nat->Prop) h p:=CF a b c d e f (AB g) h p
abbrev MR a b(c:Nat->Prop) d(e:Nat->Prop) f g:=JA (BM a) (BV a) (BQ a) b c d e f g
abbrev GW a:=CE a 4611686018427387904
attribute [go_sem] IP Lj Cu Wa qD QP Dp Ar CF JA MR GW
theorem DBD(a:MNr):(V3Nr a)=(DT (CH (qD a) (Fj a)) (Mb (AB (λi=>BJ i (qD a) (AY (PH (Wa a) i) (PH (V8 a) i)) (AZ (Ay (Wa a) i) (Yd a i)) (Ay (Wa a) i) (Yd a i) (AZ (Ax (Wa a) i) (Yp a i)) (Ax (Wa a) i) (Yp a i))) (BY (MX a)) (EC (MX a)) (BM (MX a)) (Ar (MX a) (BW (MX a)) (DK (MX a)) (λi=>AT i (MX a) (AM (MX a) i) (AN (MX a) i) (AS (MX a) i) (AC (MX a) i) (AL (MX a) i) (AR (MX a) i) (AE (MX a) i)) (BY (MX a)) (DF (MX a)) (MR (MX a) (HS (MX a)) (λi=>JL i (MX a)) (KS (MX a)) (λi=>AU i (MX a) (EI (MX a) i) (EJ (MX a) i) (AC (MX a) i) (AS (MX a) i) (EH (MX a) i) (AE (MX a) i) (AR (MX a) i)) (GW (qD a)) IP))) (MD (Cu (λi=>jM a i a) (Fj a)) (Cu (λi=>hd15 (FU (Wa a) i) (eZ (MX a))) (qD a))) (vA a)):=by kernel_rfl
theorem DCA:AW Try.prog BKN (C3Nr.spec d3Nr):=Ctr.spec_ok (C:=C3Nr) (λ(a:MNr) h=>Wk (A:=A3Nr) (ren:=[]) (fz:=[]) CEF (by kernel_rfl) (AA DAT AK) (by
 obtain⟨h,hp⟩:a.l.length<4611686018427387904/\True:=h
 show V3Nr a;rw[DBD]<;> delta MD tJ BH BK hd15 DY EM EO CH AB CJ CE AY CG EB FX EC GY GX GR GG DV FO FU V8 MX IP AH CK IW AX JE AI BC AV AF IK IN BI AQ JB BB AC BZ CN BF AE AO BD HK DD AZ DC BR BE BS BJ AR BQ Mb LY BV HF CI OC AS BM CY BY CF IE KL CU GW GD CX OT OR OE DF DU HY MZ DR OU HG OD DT KQ FW AT Ax JA HE Ay OF RG AU DO PH BO BW AL AN AM GP ID NP MQ MN DK SC FT QD Ox HI KS HS MR EH EJ EI Fq JL Ew Oy KP QP Fj Wa Lj Zl Cu Dp Yd Yp Ar AMY qD jM vA eZ;simp[h,Li])) _
def d4Nr:List AVal->Heap->Option (MNr×List (Nat×Nat)×List Nat)
 |[y,.fn _ _ [.bptr j _]],H=>match dRow y H with
  |some (n,g,f)=>match rG H j with
   |some q=>some (⟨q,NK n λi=>dNt (g i)⟩,[(101,j)],f)
   |none=>none
  |none=>none
 |_,_=>none
def A4Nr:Ann:={ ann 9 [(BKN,C3Nr.spec d3Nr)] with E:=[101] }
def C4Nr:Ctr:={ ro:=[101],α:=MNr,xs:=λa=>[.d (sL a.l),fvNr a.q],L:=λa=>LXNr a.q,val:=λa=>.bool (a.l.all λx=>Du x a.q.ms.length),keep:=λa=>KXNr a.q,pre:=PNr }
def V4Nr(a:MNr):Prop:=ES Try.prog A4Nr F_eN (AJ F_eN) (C4Nr.xs a) (AD (C4Nr.L a)) (C4Nr.val a) (C4Nr.keep a) [] []
abbrev hd80:=@List.all Nt
attribute [go_sem] hd80
theorem DEH(a:MNr):(V4Nr a)=(DT (CH (qD a) (Fj a)) (Mb (AB (λi=>BJ i (qD a) (AY (PH (Wa a) i) (PH (V8 a) i)) (AZ (Ay (Wa a) i) (Yd a i)) (Ay (Wa a) i) (Yd a i) (AZ (Ax (Wa a) i) (Yp a i)) (Ax (Wa a) i) (Yp a i))) (BY (MX a)) (EC (MX a)) (BM (MX a)) (Ar (MX a) (BW (MX a)) (DK (MX a)) (λi=>AT i (MX a) (AM (MX a) i) (AN (MX a) i) (AS (MX a) i) (AC (MX a) i) (AL (MX a) i) (AR (MX a) i) (AE (MX a) i)) (BY (MX a)) (DF (MX a)) (MR (MX a) (HS (MX a)) (λi=>JL i (MX a)) (KS (MX a)) (λi=>AU i (MX a) (EI (MX a) i) (EJ (MX a) i) (AC (MX a) i) (AS (MX a) i) (EH (MX a) i) (AE (MX a) i) (AR (MX a) i)) (GW (qD a)) IP))) (Xh (hd80 (V8 a) (λi=>AMY i a)) (Cu (λi=>hd15 (FU (Wa a) i) (eZ (MX a))) (qD a))) (vA a)):=by kernel_rfl
theorem DBL(a:MNr)(h:JS (PNr a)):FnT Try.prog n_eN (C4Nr.xs a) (AD (C4Nr.L a)) (C4Nr.val a) (C4Nr.keep a):=Wk (A:=A4Nr) (ren:=[]) (fz:=[]) DAH (by kernel_rfl) (AA DCA AK) (by
 have h':a.l.length<4611686018427387904/\True:=h
 show V4Nr a;rw[DEH]<;> delta MD tJ BH BK hd15 DY EM EO CH AB CJ CE AY CG EB FX EC GY GX GR GG DV FO FU V8 MX IP hd80 AH CK IW AX JE AI BC AV AF IK IN BI AQ JB BB AC BZ CN BF AE AO BD HK DD AZ DC BR BE BS BJ AR BQ Mb LY BV HF CI OC AS BM CY BY CF IE KL CU GW GD CX OT OR OE DF DU HY MZ DR OU HG OD DT KQ FW AT Ax JA HE Ay OF RG AU DO PH BO BW AL AN AM GP ID NP MQ MN DK SC FT QD Ox HI KS HS MR EH EJ EI Fq JL Ew Oy KP QP Fj Wa Lj Zl Cu Dp Yd Yp Ar AMY qD Xh vA eZ;simp only[CC,eq_self,implies_true,forall_const,ge_iff_le]
 rw[<-yD]
 exact⟨h'.1,rfl⟩)
theorem DAG:AW Try.prog n_eN (C4Nr.spec d4Nr):=Ctr.spec_ok (C:=C4Nr) DBL _
def fvSa(q:One):AVal:=.fn (.func BJA) [] []
def BSa(q:One):AObj:=.box [fvSa q]
structure ESa where
 q:One
 e:Span
structure MSa where
 q:One
 l:List Span
def C1Sa:Ctr:={ ro:=[100],α:=ESa,xs:=λa=>[.d (MV a.e),.bptr 100 0],L:=λa=>(100,BSa a.q) :: [],val:=λa=>.bool (!Od a.e),keep:=λa=>(100,.live (BSa a.q)) :: [] }
def d1Sa:List AVal->Heap->Option (ESa×List (Nat×Nat)×List Nat)
 |[.d d,.bptr id _],H=>some (⟨default,bV d⟩,[(100,id)],[])
 |_,_=>none
def A1Sa:Ann:={ ann 8 [(BJA,BHL)] with E:=[100] }
def V1Sa(a:ESa):Prop:=ES Try.prog A1Sa BNM (AJ BNM) (C1Sa.xs a) (AD (C1Sa.L a)) (C1Sa.val a) (C1Sa.keep a) [] []
theorem DBB(a:ESa):(V1Sa a)=(GJ (not (Od (ESa.e a)))):=by kernel_rfl
theorem DDU:AW Try.prog AJX (C1Sa.spec d1Sa):=Je C1Sa (λ_=>A1Sa) [] [] BZW (λ_=>by kernel_rfl) (λ_=>AA COL AK) (λ(a:ESa) h=>by
 show V1Sa a;rw[DBB]<;> delta MD GJ;try simp[wr,Li]) (λ_=>Kp rfl rfl) _
def d2Sa:List AVal->Heap->Option (MSa×List (Nat×Nat)×List Nat)
 |[y,.fn _ _ [.bptr id _]],H=>match dRow y H with
  |some (n,g,f)=>some (⟨default,NK n λi=>bV (g i)⟩,[(100,id)],f)
  |none=>none
 |_,_=>none
def A2Sa(a:MSa):Ann:={ ann 19 [(AJX,C1Sa.spec d1Sa)] with E:=[100],loops:=λid=>if id=2 then some [{ α:=Nat,dflt:=0,T:=λk=>⟨[(0,.d (HA a.l)),(1,.fn (.func AJX) [] [.bptr 100 0]),(7,.int a.l.length),(8,.int k)],(100,.live (BSa a.q)) :: []⟩,inv:=λk=>k<=a.l.length/\sV (λi=>!Od (gD a.l i)) a.l.length 0=sV (λi=>!Od (gD a.l i)) (a.l.length-k) k,meas:=λk=>a.l.length-k }] else none }
def PSa(a:MSa):List Prop:=[a.l.length<4611686018427387904/\True]
def C2Sa:Ctr:={ ro:=[100],α:=MSa,xs:=λa=>[.d (HA a.l),.fn (.func AJX) [] [.bptr 100 0]],L:=λa=>(100,BSa a.q) :: [],val:=λa=>.int (sV (λi=>!Od (gD a.l i)) a.l.length 0),keep:=λa=>(100,.live (BSa a.q)) :: [],pre:=PSa }
def V2Sa(a:MSa):Prop:=ES Try.prog (A2Sa a) BKZ (AJ BKZ) (C2Sa.xs a) (AD (C2Sa.L a)) (C2Sa.val a) (C2Sa.keep a) [] []
abbrev qL:=MSa.l
abbrev Rz a:=IH (qL a)
abbrev AGB a b:=Od (OV a b)
abbrev gL a b:=AGB (qL a) b
abbrev WF a b(c:Nat->Prop):=FV a b (KI c)
abbrev TQ a b c d e:=DT a (DN b c) d e
abbrev Cl a b c d e:=TQ (DX a) b c d e
abbrev QN a b c d:=Cl a (CG a) b c d
attribute [go_sem] qL Rz AGB gL WF TQ Cl QN
theorem DDC(a:MSa):(V2Sa a)=(HX (λi=>Be (SK (qL a)) (RE (qL a)) (EF (Rz a)) (CQ i) (CW i (Rz a)) (Ji (λj=>gL a j) (Rz a) (λj=>gL a j) i i)) (λi=>OO (KH i (Rz a) (Ji (λj=>gL a j) (Rz a) (λj=>gL a j) i i)) i (Rz a) (QN i (Rz a) (ZP (qL a) i) (ZR (qL a) i)) (WF (not (gL a i)) (Rj (λj=>gL a j) (Rz a) (CG i)) (λj=>FH (SK (qL a)) (AH (RE (qL a)) (EF (Rz a)) (BA j i)) (KH j (Rz a) (Ji (λk=>gL a k) (Rz a) (λk=>gL a k) j j)) (Rz a) j i)) (Rj (λj=>gL a j) (Rz a) (-1)))):=by kernel_rfl
theorem p2Sa(a:MSa)(h:JS (PSa a)):V2Sa a:=by
 obtain⟨h,hp⟩:a.l.length<4611686018427387904/\True:=h
 rw[DDC]<;> delta BH BK RD RU CH IH AB CJ CE AY OV CG CW FV NL HD KA UI IG KI qL AH BC AV AF BI AQ BZ BF JQ IS EQ FL HR BX DN QQ DT FE SK MJ DX EZ JJ BA ZR JH ZP FK Bt EF Ox TQ KH CQ RE JY FH JK ON HX Oy Cl Rj AGB OO QN Rz WF Ji gL Be
 simp only[CC,eq_self,implies_true,forall_const]
 refine⟨⟨0,rfl,Nat.zero_le _,rfl⟩,λk ⟨h1,h2⟩=>⟨λhlt=>?_,λhge=>?_⟩⟩
 ·have hlt:k<a.l.length:=by omega
  refine⟨⟨by omega,by omega⟩,λhp=>?_,λhp=>⟨k+1,(II (by omega)).symm,⟨by omega,?_⟩,by omega⟩⟩
  ·rw[h2];exact xZ hlt (by simpa using hp)
  ·rw[h2];exact APH hlt (by simpa using hp)
 ·rw[h2];exact AAN (by omega)
theorem DAJ:AW Try.prog BNK (C2Sa.spec d2Sa):=Je C2Sa A2Sa [] [] BZV (λ_=>by kernel_rfl) (λ_=>AA DDU AK) p2Sa (λ_=>Kp rfl rfl) _
def C3Sa:Ctr:={ C2Sa with val:=λ(a:MSa)=>.bool (decide (sV (λi=>!Od (gD a.l i)) a.l.length 0>=0)) }
def d3Sa:List AVal->Heap->Option (C3Sa.α×List (Nat×Nat)×List Nat):=d2Sa
def A3Sa:Ann:={ ann 9 [(BNK,C2Sa.spec d2Sa)] with E:=[100] }
def V3Sa(a:MSa):Prop:=ES Try.prog A3Sa BKB (AJ BKB) (C3Sa.xs a) (AD (C3Sa.L a)) (C3Sa.val a) (C3Sa.keep a) [] []
abbrev Me:=@NK Span
abbrev HV a b c d e:=BL a (AH b c d) e
abbrev Yv a(b:Nat->Span):=Me (IH a) b
abbrev Av a:=Yv a (λi=>OV a i)
abbrev OM a:=IH (Av a)
abbrev WO a b:=OV (Av a) b
abbrev aT a:=GW (OM a)
abbrev LS a b c d:=QQ a b (AZ c d) (AQ c d)
abbrev TO a b c d e:=LS a b c (OV d e)
abbrev XP a b c d:=TO a b c d a
abbrev Sy a b c d:=XP a (Av b) c d
abbrev Kt a b:=Sy a b (WO b a) b
abbrev Fa a:=AB (λi=>Kt i a)
abbrev Kd a b:=CH a (IH b)
abbrev RJ a:=Kd (OM a) a
attribute [go_sem] Me HV Yv Av OM WO aT LS TO XP Sy Kt Fa Kd RJ
theorem DDO(a:MSa):(V3Sa a)=(HV (RJ (qL a)) (Fa (qL a)) (aT (qL a)) IP (MD (Cu (λi=>gL a i) (Rz a)) (Cu (λi=>Od (WO (qL a) i)) (OM (qL a))))):=by kernel_rfl
theorem DBT:AW Try.prog BNL (C3Sa.spec d3Sa):=Ctr.spec_ok (C:=C3Sa) (λ(a:MSa) h=>Wk (A:=A3Sa) (ren:=[]) (fz:=[]) CAT (by kernel_rfl) (AA DAJ AK) (by
 obtain⟨h,hp⟩:a.l.length<4611686018427387904/\True:=h
 show V3Sa a;rw[DDO]<;> delta MD tJ BH BK CH IH AB CJ CE AY OV IP qL Me AH BC AV AQ BF BD AZ Yv BL GW Av QQ OM WO LS Ox TO XP HV Oy Kd RJ AGB Sy Rz Lj Cu Kt Fa gL aT;simp[h,Li])) _
def d4Sa:List AVal->Heap->Option (MSa×List (Nat×Nat)×List Nat)
 |[y,.fn _ _ _],H=>match dRow y H with
  |some (n,g,f)=>some (⟨default,NK n λi=>bV (g i)⟩,[],f)
  |none=>none
 |_,_=>none
def A4Sa:Ann:={ ann 9 [(BNL,C3Sa.spec d3Sa)] with E:=[] }
def C4Sa:Ctr:={ ro:=[],α:=MSa,xs:=λa=>[.d (HA a.l),fvSa a.q],L:=λa=>[],val:=λa=>.bool (a.l.all λx=>Od x),keep:=λa=>[],pre:=PSa }
def V4Sa(a:MSa):Prop:=ES Try.prog A4Sa F_eS (AJ F_eS) (C4Sa.xs a) (AD (C4Sa.L a)) (C4Sa.val a) (C4Sa.keep a) [] []
abbrev hd84:=@List.all Span
attribute [go_sem] hd84
theorem DDZ(a:MSa):(V4Sa a)=(HV (RJ (qL a)) (Fa (qL a)) (aT (qL a)) IP (Xh (hd84 (qL a) Od) (Cu (λi=>Od (WO (qL a) i)) (OM (qL a))))):=by kernel_rfl
theorem CQU(a:MSa)(h:JS (PSa a)):FnT Try.prog n_eS (C4Sa.xs a) (AD (C4Sa.L a)) (C4Sa.val a) (C4Sa.keep a):=Wk (A:=A4Sa) (ren:=[]) (fz:=[]) CQI (by kernel_rfl) (AA DBT AK) (by
 have h':a.l.length<4611686018427387904/\True:=h
 show V4Sa a;rw[DDZ]<;> delta MD tJ BH BK CH IH AB CJ CE AY OV IP qL Me hd84 AH BC AV AQ BF BD AZ Yv BL GW Av QQ OM WO LS Ox TO XP HV Oy Kd RJ Sy Lj Cu Kt Fa aT Xh;simp only[CC,eq_self,implies_true,forall_const,ge_iff_le]
 rw[<-yD]
 exact⟨h'.1,rfl⟩)
theorem DEL:AW Try.prog n_eS (C4Sa.spec d4Sa):=Ctr.spec_ok (C:=C4Sa) CQU _
def fvSn(q:One):AVal:=.fn (.func BIH) [] []
def BSn(q:One):AObj:=.box [fvSn q]
structure ESn where
 q:One
 e:Span
structure MSn where
 q:One
 l:List Span
def C1Sn:Ctr:={ ro:=[100],α:=ESn,xs:=λa=>[.d (MV a.e),.bptr 100 0],L:=λa=>(100,BSn a.q) :: [],val:=λa=>.bool (!Od a.e),keep:=λa=>(100,.live (BSn a.q)) :: [] }
def d1Sn:List AVal->Heap->Option (ESn×List (Nat×Nat)×List Nat)
 |[.d d,.bptr id _],H=>some (⟨default,bV d⟩,[(100,id)],[])
 |_,_=>none
def A1Sn:Ann:={ ann 8 [(BIH,BHL)] with E:=[100] }
def V1Sn(a:ESn):Prop:=ES Try.prog A1Sn BNM (AJ BNM) (C1Sn.xs a) (AD (C1Sn.L a)) (C1Sn.val a) (C1Sn.keep a) [] []
theorem DEF(a:ESn):(V1Sn a)=(GJ (not (Od (ESn.e a)))):=by kernel_rfl
theorem DBW:AW Try.prog AJX (C1Sn.spec d1Sn):=Je C1Sn (λ_=>A1Sn) [] [] BZW (λ_=>by kernel_rfl) (λ_=>AA CKQ AK) (λ(a:ESn) h=>by
 show V1Sn a;rw[DEF]<;> delta MD GJ;try simp[wr,Li]) (λ_=>Kp rfl rfl) _
def d2Sn:List AVal->Heap->Option (MSn×List (Nat×Nat)×List Nat)
 |[y,.fn _ _ [.bptr id _]],H=>match dRow y H with
  |some (n,g,f)=>some (⟨default,NK n λi=>bV (g i)⟩,[(100,id)],f)
  |none=>none
 |_,_=>none
def A2Sn(a:MSn):Ann:={ ann 19 [(AJX,C1Sn.spec d1Sn)] with E:=[100],loops:=λid=>if id=2 then some [{ α:=Nat,dflt:=0,T:=λk=>⟨[(0,.d (HA a.l)),(1,.fn (.func AJX) [] [.bptr 100 0]),(7,.int a.l.length),(8,.int k)],(100,.live (BSn a.q)) :: []⟩,inv:=λk=>k<=a.l.length/\sV (λi=>!Od (gD a.l i)) a.l.length 0=sV (λi=>!Od (gD a.l i)) (a.l.length-k) k,meas:=λk=>a.l.length-k }] else none }
def PSn(a:MSn):List Prop:=[a.l.length<4611686018427387904/\True]
def C2Sn:Ctr:={ ro:=[100],α:=MSn,xs:=λa=>[.d (HA a.l),.fn (.func AJX) [] [.bptr 100 0]],L:=λa=>(100,BSn a.q) :: [],val:=λa=>.int (sV (λi=>!Od (gD a.l i)) a.l.length 0),keep:=λa=>(100,.live (BSn a.q)) :: [],pre:=PSn }
def V2Sn(a:MSn):Prop:=ES Try.prog (A2Sn a) BKZ (AJ BKZ) (C2Sn.xs a) (AD (C2Sn.L a)) (C2Sn.val a) (C2Sn.keep a) [] []
abbrev pA:=MSn.l
abbrev Tj a:=IH (pA a)
abbrev eF a b:=AGB (pA a) b
attribute [go_sem] pA Tj eF
theorem CZY(a:MSn):(V2Sn a)=(HX (λi=>Be (SK (pA a)) (RE (pA a)) (EF (Tj a)) (CQ i) (CW i (Tj a)) (Ji (λj=>eF a j) (Tj a) (λj=>eF a j) i i)) (λi=>OO (KH i (Tj a) (Ji (λj=>eF a j) (Tj a) (λj=>eF a j) i i)) i (Tj a) (QN i (Tj a) (ZP (pA a) i) (ZR (pA a) i)) (WF (not (eF a i)) (Rj (λj=>eF a j) (Tj a) (CG i)) (λj=>FH (SK (pA a)) (AH (RE (pA a)) (EF (Tj a)) (BA j i)) (KH j (Tj a) (Ji (λk=>eF a k) (Tj a) (λk=>eF a k) j j)) (Tj a) j i)) (Rj (λj=>eF a j) (Tj a) (-1)))):=by kernel_rfl
theorem p2Sn(a:MSn)(h:JS (PSn a)):V2Sn a:=by
 obtain⟨h,hp⟩:a.l.length<4611686018427387904/\True:=h
 rw[CZY]<;> delta BH BK RD RU CH IH AB CJ CE AY OV CG CW FV NL HD KA UI IG KI pA AH BC AV AF BI AQ BZ BF JQ IS EQ FL HR BX DN QQ DT FE SK MJ DX EZ JJ BA ZR JH ZP FK Bt EF Ox TQ KH CQ RE JY FH JK ON HX Oy Cl Rj AGB OO QN Tj WF Ji eF Be
 simp only[CC,eq_self,implies_true,forall_const]
 refine⟨⟨0,rfl,Nat.zero_le _,rfl⟩,λk ⟨h1,h2⟩=>⟨λhlt=>?_,λhge=>?_⟩⟩
 ·have hlt:k<a.l.length:=by omega
  refine⟨⟨by omega,by omega⟩,λhp=>?_,λhp=>⟨k+1,(II (by omega)).symm,⟨by omega,?_⟩,by omega⟩⟩
  ·rw[h2];exact xZ hlt (by simpa using hp)
  ·rw[h2];exact APH hlt (by simpa using hp)
 ·rw[h2];exact AAN (by omega)
theorem DAF:AW Try.prog BNK (C2Sn.spec d2Sn):=Je C2Sn A2Sn [] [] BZV (λ_=>by kernel_rfl) (λ_=>AA DBW AK) p2Sn (λ_=>Kp rfl rfl) _
def C3Sn:Ctr:={ C2Sn with val:=λ(a:MSn)=>.bool (decide (sV (λi=>!Od (gD a.l i)) a.l.length 0>=0)) }
def d3Sn:List AVal->Heap->Option (C3Sn.α×List (Nat×Nat)×List Nat):=d2Sn
def A3Sn:Ann:={ ann 9 [(BNK,C2Sn.spec d2Sn)] with E:=[100] }
def V3Sn(a:MSn):Prop:=ES Try.prog A3Sn BKB (AJ BKB) (C3Sn.xs a) (AD (C3Sn.L a)) (C3Sn.val a) (C3Sn.keep a) [] []
theorem DBZ(a:MSn):(V3Sn a)=(HV (RJ (pA a)) (Fa (pA a)) (aT (pA a)) IP (MD (Cu (λi=>eF a i) (Tj a)) (Cu (λi=>Od (WO (pA a) i)) (OM (pA a))))):=by kernel_rfl
theorem DDG:AW Try.prog BNL (C3Sn.spec d3Sn):=Ctr.spec_ok (C:=C3Sn) (λ(a:MSn) h=>Wk (A:=A3Sn) (ren:=[]) (fz:=[]) CAT (by kernel_rfl) (AA DAF AK) (by
 obtain⟨h,hp⟩:a.l.length<4611686018427387904/\True:=h
 show V3Sn a;rw[DBZ]<;> delta MD tJ BH BK CH IH AB CJ CE AY OV IP Me pA AH BC AV AQ BF BD AZ Yv BL GW Av QQ OM WO LS Ox TO XP HV Oy Kd RJ AGB Tj Sy Lj Cu Kt Fa eF aT;simp[h,Li])) _
def A4Sn:Ann:={ ann 9 [(BNL,C3Sn.spec d3Sn)] with E:=[] }
def C4Sn:Ctr:={ ro:=[],α:=MSn,xs:=λa=>[.d (HA a.l),fvSn a.q],L:=λa=>[],val:=λa=>.bool (a.l.all λx=>Od x),keep:=λa=>[],pre:=PSn }
def V4Sn(a:MSn):Prop:=ES Try.prog A4Sn F_eS (AJ F_eS) (C4Sn.xs a) (AD (C4Sn.L a)) (C4Sn.val a) (C4Sn.keep a) [] []
theorem DBM(a:MSn):(V4Sn a)=(HV (RJ (pA a)) (Fa (pA a)) (aT (pA a)) IP (Xh (hd84 (pA a) Od) (Cu (λi=>Od (WO (pA a) i)) (OM (pA a))))):=by kernel_rfl
theorem DBF(a:MSn)(h:JS (PSn a)):FnT Try.prog n_eS (C4Sn.xs a) (AD (C4Sn.L a)) (C4Sn.val a) (C4Sn.keep a):=Wk (A:=A4Sn) (ren:=[]) (fz:=[]) CQI (by kernel_rfl) (AA DDG AK) (by
 have h':a.l.length<4611686018427387904/\True:=h
 show V4Sn a;rw[DBM]<;> delta MD tJ BH BK CH IH AB CJ CE AY OV IP Me hd84 pA AH BC AV AQ BF BD AZ Yv BL GW Av QQ OM WO LS Ox TO XP HV Oy Kd RJ Sy Lj Cu Kt Fa aT Xh;simp only[CC,eq_self,implies_true,forall_const,ge_iff_le]
 rw[<-yD]
 exact⟨h'.1,rfl⟩)
def fvIh(q:One):AVal:=.fn (.func AIZ) [] []
def BIh(q:One):AObj:=.box [fvIh q]
structure EIh where
 q:One
 e:Int
structure MIh where
 q:One
 l:List Int
def C1Ih:Ctr:={ ro:=[100],α:=EIh,xs:=λa=>[.d (Gk a.e),.bptr 100 0],L:=λa=>(100,BIh a.q) :: [],val:=λa=>.bool (!PN a.e (-100000000) 100000000),keep:=λa=>(100,.live (BIh a.q)) :: [] }
def d1Ih:List AVal->Heap->Option (EIh×List (Nat×Nat)×List Nat)
 |[.d d,.bptr id _],H=>some (⟨default,KN d⟩,[(100,id)],[])
 |_,_=>none
def A1Ih:Ann:={ ann 8 [(AIZ,CQB)] with E:=[100] }
def V1Ih(a:EIh):Prop:=ES Try.prog A1Ih CBG (AJ CBG) (C1Ih.xs a) (AD (C1Ih.L a)) (C1Ih.val a) (C1Ih.keep a) [] []
abbrev ZO a b c:=not (PN a b c)
attribute [go_sem] ZO
theorem DAZ(a:EIh):(V1Ih a)=(GJ (ZO (EIh.e a) (-100000000) 100000000)):=by kernel_rfl
theorem DAW:AW Try.prog BLQ (C1Ih.spec d1Ih):=Je C1Ih (λ_=>A1Ih) [] [] CYT (λ_=>by kernel_rfl) (λ_=>AA CZC AK) (λ(a:EIh) h=>by
 show V1Ih a;rw[DAZ]<;> delta MD GJ ZO;try simp[wr,Li]) (λ_=>Kp rfl rfl) _
def d2Ih:List AVal->Heap->Option (MIh×List (Nat×Nat)×List Nat)
 |[y,.fn _ _ [.bptr id _]],H=>match dRow y H with
  |some (n,g,f)=>some (⟨default,NK n λi=>KN (g i)⟩,[(100,id)],f)
  |none=>none
 |_,_=>none
def A2Ih(a:MIh):Ann:={ ann 19 [(BLQ,C1Ih.spec d1Ih)] with E:=[100],loops:=λid=>if id=2 then some [{ α:=Nat,dflt:=0,T:=λk=>⟨[(0,.d (GB a.l)),(1,.fn (.func BLQ) [] [.bptr 100 0]),(7,.int a.l.length),(8,.int k)],(100,.live (BIh a.q)) :: []⟩,inv:=λk=>k<=a.l.length/\sV (λi=>!PN (gD a.l i) (-100000000) 100000000) a.l.length 0=sV (λi=>!PN (gD a.l i) (-100000000) 100000000) (a.l.length-k) k,meas:=λk=>a.l.length-k }] else none }
def PIh(a:MIh):List Prop:=[a.l.length<4611686018427387904/\True]
def C2Ih:Ctr:={ ro:=[100],α:=MIh,xs:=λa=>[.d (GB a.l),.fn (.func BLQ) [] [.bptr 100 0]],L:=λa=>(100,BIh a.q) :: [],val:=λa=>.int (sV (λi=>!PN (gD a.l i) (-100000000) 100000000) a.l.length 0),keep:=λa=>(100,.live (BIh a.q)) :: [],pre:=PIh }
def V2Ih(a:MIh):Prop:=ES Try.prog (A2Ih a) CHJ (AJ CHJ) (C2Ih.xs a) (AD (C2Ih.L a)) (C2Ih.val a) (C2Ih.keep a) [] []
abbrev FP:=@List.length Int
abbrev pU:=MIh.l
abbrev FS:=@gD Int Int.instInhabited
abbrev Rs a:=FP (pU a)
abbrev AHG a b:=Pm (FS a b)
abbrev lC a b:=AHG (pU a) b
abbrev GQ a b c:=AV a (FP b) c
abbrev HT a b:=AF (FS a b)
abbrev Py a b:=GQ a b (HT b a)
abbrev Ak a:=AB (λi=>Py i a)
abbrev Ge a:=BI (FP a)
attribute [go_sem] FP pU FS Rs AHG lC GQ HT Py Ak Ge
theorem DDK(a:MIh):(V2Ih a)=(HX (λi=>Be (Ge (pU a)) (Ak (pU a)) (EF (Rs a)) (CQ i) (CW i (Rs a)) (Ji (λj=>lC a j) (Rs a) (λj=>lC a j) i i)) (λi=>OO (KH i (Rs a) (Ji (λj=>lC a j) (Rs a) (λj=>lC a j) i i)) i (Rs a) (CL i (Rs a) (HT (pU a) i)) (WF (ZO (FS (pU a) i) (-100000000) 100000000) (Rj (λj=>lC a j) (Rs a) (CG i)) (λj=>FH (Ge (pU a)) (AH (Ak (pU a)) (EF (Rs a)) (BA j i)) (KH j (Rs a) (Ji (λk=>lC a k) (Rs a) (λk=>lC a k) j j)) (Rs a) j i)) (Rj (λj=>lC a j) (Rs a) (-1)))):=by kernel_rfl
theorem p2Ih(a:MIh)(h:JS (PIh a)):V2Ih a:=by
 obtain⟨h,hp⟩:a.l.length<4611686018427387904/\True:=h
 rw[DDK]<;> delta RD RU CH AB CJ CE AY CG CW FV NL HD KA UI IG KI FP pU FS AH AV AF BI JQ EQ GQ BL FL HR BX DN DT FE MJ DX Ge EZ EX JJ BA HT HW JH FK Py EF Ox KH CQ CL Ak JY FH JK ON HX ZO Oy Rj Pm OO Rs WF AHG Ji Be lC
 simp only[CC,eq_self,implies_true,forall_const]
 refine⟨⟨0,rfl,Nat.zero_le _,rfl⟩,λk ⟨h1,h2⟩=>⟨λhlt=>?_,λhge=>?_⟩⟩
 ·have hlt:k<a.l.length:=by omega
  refine⟨⟨by omega,by omega⟩,λhp=>?_,λhp=>⟨k+1,(II (by omega)).symm,⟨by omega,?_⟩,by omega⟩⟩
  ·rw[h2];exact xZ hlt (by simpa using hp)
  ·rw[h2];exact APH hlt (by simpa using hp)
 ·rw[h2];exact AAN (by omega)
theorem DAE:AW Try.prog CIE (C2Ih.spec d2Ih):=Je C2Ih A2Ih [] [] CYE (λ_=>by kernel_rfl) (λ_=>AA DAW AK) p2Ih (λ_=>Kp rfl rfl) _
def C3Ih:Ctr:={ C2Ih with val:=λ(a:MIh)=>.bool (decide (sV (λi=>!PN (gD a.l i) (-100000000) 100000000) a.l.length 0>=0)) }
def d3Ih:List AVal->Heap->Option (C3Ih.α×List (Nat×Nat)×List Nat):=d2Ih
def A3Ih:Ann:={ ann 9 [(CIE,C2Ih.spec d2Ih)] with E:=[100] }
def V3Ih(a:MIh):Prop:=ES Try.prog A3Ih CBW (AJ CBW) (C3Ih.xs a) (AD (C3Ih.L a)) (C3Ih.val a) (C3Ih.keep a) [] []
abbrev El:=@NK Int
abbrev WE a b(c:Nat->Nat):=El a (λi=>FS b (c i))
abbrev WV a b:=WE (FP a) b (λi=>i)
abbrev WQ a:=WV a a
abbrev Vf a:=FP (WQ a)
abbrev NV a:=GW (FP a)
abbrev PG a:=NV (WQ a)
abbrev HO a b c:=AY (FS a b) c
abbrev IC a b c d:=HO a b (FS c d)
abbrev HH a b c d e f:=GQ a b (IC c d e f)
abbrev LJ a b c d:=HH a b b a c d
abbrev KO a b c:=LJ a b c a
abbrev Mc a b c:=KO a (WQ b) c
abbrev QE a b:=Mc a b b
abbrev QW a:=AB (λi=>QE i a)
abbrev EV a b:=CH (FP a) b
abbrev IZ a b:=EV a (FP b)
abbrev Kr a b:=IZ (WQ a) b
abbrev HL a:=Kr a a
attribute [go_sem] El WE WV WQ Vf NV PG HO IC HH LJ KO Mc QE QW EV IZ Kr HL
theorem DEB(a:MIh):(V3Ih a)=(HV (HL (pU a)) (QW (pU a)) (PG (pU a)) IP (MD (Cu (λi=>lC a i) (Rs a)) (Cu (λi=>AHG (WQ (pU a)) i) (Vf (pU a))))):=by kernel_rfl
theorem DEC:AW Try.prog CHD (C3Ih.spec d3Ih):=Ctr.spec_ok (C:=C3Ih) (λ(a:MIh) h=>Wk (A:=A3Ih) (ren:=[]) (fz:=[]) CUN (by kernel_rfl) (AA DAE AK) (by
 obtain⟨h,hp⟩:a.l.length<4611686018427387904/\True:=h
 show V3Ih a;rw[DEB]<;> delta MD tJ CH AB CJ CE AY IP FP pU FS El AH WE AV WV WQ GQ BL EV GW HO IC HH IZ LJ KO Kr HL Mc NV Ox QE HV Oy PG QW Vf Pm Rs Lj Cu AHG lC;simp[h,Li])) _
def d4Ih:List AVal->Heap->Option (MIh×List (Nat×Nat)×List Nat)
 |[y,.fn _ _ _],H=>match dRow y H with
  |some (n,g,f)=>some (⟨default,NK n λi=>KN (g i)⟩,[],f)
  |none=>none
 |_,_=>none
def A4Ih:Ann:={ ann 9 [(CHD,C3Ih.spec d3Ih)] with E:=[] }
def C4Ih:Ctr:={ ro:=[],α:=MIh,xs:=λa=>[.d (GB a.l),fvIh a.q],L:=λa=>[],val:=λa=>.bool (a.l.all λx=>PN x (-100000000) 100000000),keep:=λa=>[],pre:=PIh }
def V4Ih(a:MIh):Prop:=ES Try.prog A4Ih F_eI (AJ F_eI) (C4Ih.xs a) (AD (C4Ih.L a)) (C4Ih.val a) (C4Ih.keep a) [] []
abbrev hd92:=@List.all Int
attribute [go_sem] hd92
theorem DDI(a:MIh):(V4Ih a)=(HV (HL (pU a)) (QW (pU a)) (PG (pU a)) IP (Xh (hd92 (pU a) Pm) (Cu (λi=>AHG (WQ (pU a)) i) (Vf (pU a))))):=by kernel_rfl
theorem DCM(a:MIh)(h:JS (PIh a)):FnT Try.prog n_eI (C4Ih.xs a) (AD (C4Ih.L a)) (C4Ih.val a) (C4Ih.keep a):=Wk (A:=A4Ih) (ren:=[]) (fz:=[]) DCU (by kernel_rfl) (AA DEC AK) (by
 have h':a.l.length<4611686018427387904/\True:=h
 show V4Ih a;rw[DDI]<;> delta MD tJ CH AB CJ CE AY IP FP pU FS El hd92 AH WE AV WV WQ GQ BL EV GW HO IC HH IZ LJ KO Kr HL Mc NV Ox QE HV Oy PG QW Vf Pm Lj Cu AHG Xh;simp only[CC,eq_self,implies_true,forall_const,ge_iff_le]
 rw[<-yD]
 exact⟨h'.1,rfl⟩)
theorem DBP:AW Try.prog n_eI (C4Ih.spec d4Ih):=Ctr.spec_ok (C:=C4Ih) DCM _
structure N2 where
 q:Nt
 e:Nt
def ntB(q:Nt):AObj:=.box [.int q.mi,.int q.t.lo,.int q.t.hi,.int q.s.lo,.int q.s.hi]
def CFG(H:Heap)(id:Nat):Option Nt:=match H id with
 | .live (.box [.d a,.d b,.d c,.d d,.d e])=>some ⟨KN a,⟨KN b,KN c⟩,⟨KN d,KN e⟩⟩
 |_=>none
def C_ck2:Ctr:={ ro:=[100],α:=N2,xs:=λa=>[.d (eNt a.e),.bptr 100 0],L:=λa=>[(100,ntB a.q)],val:=λa=>.bool (a.e.mi==a.q.mi),keep:=λa=>[(100,.live (ntB a.q))] }
def CPP:List AVal->Heap->Option (N2×List (Nat×Nat)×List Nat)
 |[.d d,.bptr id _],H=>match CFG H id with
  |some q=>some (⟨q,dNt d⟩,[(100,id)],[])
  |none=>none
 |_,_=>none
def CPH:Ann:={ ann 9 [] with E:=[100] }
def CTA(a:N2):Prop:=ES Try.prog CPH BBS (AJ BBS) (C_ck2.xs a) (AD (C_ck2.L a)) (C_ck2.val a) (C_ck2.keep a) [] []
abbrev Og:=@BEq.beq Int (@instBEqOfDecidableEq Int Int.instDecidableEq)
abbrev VX a b c:=DC (AF a) (BZ b) b b (BZ c) c c
attribute [go_sem] Og VX
theorem CYI(a:N2):(CTA a)=(And (GJ (Og (DY (N2.e a)) (DY (N2.q a)))) (VX (DY (N2.q a)) (EM (N2.q a)) (EO (N2.q a)))):=by kernel_rfl
theorem CTI:AW Try.prog S5 (C_ck2.spec CPP):=Je C_ck2 (λ_=>CPH) [] [] BVO (λ_=>by kernel_rfl) (λ_=>AK) (λ(a:N2) _=>by
 show CTA a;rw[CYI]<;> delta MD BH BK DY EM EO AY Og AH AI BC AF GJ AQ BZ DD DC VX;try simp) (λ_=>Kp rfl rfl) _
structure MNc where
 q:Nt
 l:List Nt
def d2Nc:List AVal->Heap->Option (MNc×List (Nat×Nat)×List Nat)
 |[y,.fn _ _ [.bptr id _]],H=>match dRow y H with
  |some (n,g,f)=>match CFG H id with
   |some q=>some (⟨q,NK n λi=>dNt (g i)⟩,[(100,id)],f)
   |none=>none
  |none=>none
 |_,_=>none
def A2Nc(a:MNc):Ann:={ ann 19 [(S5,C_ck2.spec CPP)] with E:=[100],loops:=λid=>if id=2 then some [{ α:=Nat,dflt:=0,T:=λk=>⟨[(0,.d (sL a.l)),(1,.fn (.func S5) [] [.bptr 100 0]),(7,.int a.l.length),(8,.int k)],[(100,.live (ntB a.q))]⟩,inv:=λk=>k<=a.l.length/\sV (λi=>(gD a.l i).mi==a.q.mi) a.l.length 0=sV (λi=>(gD a.l i).mi==a.q.mi) (a.l.length-k) k,meas:=λk=>a.l.length-k }] else none }
def C2Nc:Ctr:={ ro:=[100],α:=MNc,xs:=λa=>[.d (sL a.l),.fn (.func S5) [] [.bptr 100 0]],L:=λa=>[(100,ntB a.q)],val:=λa=>.int (sV (λi=>(gD a.l i).mi==a.q.mi) a.l.length 0),keep:=λa=>[(100,.live (ntB a.q))],pre:=λa=>[a.l.length<4611686018427387904/\True] }
def V2Nc(a:MNc):Prop:=ES Try.prog (A2Nc a) BKY (AJ BKY) (C2Nc.xs a) (AD (C2Nc.L a)) (C2Nc.val a) (C2Nc.keep a) [] []
abbrev hd96:=MNc.l
abbrev iZ a:=EO (MNc.q a)
abbrev kW a:=EM (MNc.q a)
abbrev X1 a:=DY (MNc.q a)
abbrev Ft a:=DV (hd96 a)
abbrev AQA a b:=Og a (X1 b)
abbrev O7 a b:=PH (hd96 a) b
abbrev oH a b c:=AQA (O7 a b) c
abbrev IA a(b:Nat->Prop) c d e f g h p:=BB a (AB b) c d e f g h p
abbrev I0 a:=BZ (iZ a)
abbrev E7 a:=BZ (kW a)
abbrev K4 a:=AF (X1 a)
abbrev pK a b:=Ax (hd96 a) b
abbrev pN a b:=Ay (hd96 a) b
abbrev yN a b c d e f g h:=BB a b c d e f b g h
abbrev SY a b c d:=AH a b (AY c d)
attribute [go_sem] hd96 iZ kW X1 Ft AQA O7 oH IA I0 E7 K4 pK pN yN SY
theorem DCQ(a:MNc):(V2Nc a)=(HX (λi=>SY (IA (BI (Ft a)) (λj=>LY j (Ft a) (AF (O7 a j)) (BZ (pN a j)) (pN a j) (BZ (pK a j)) (pK a j)) (EF (Ft a)) (CQ i) (K4 a) (E7 a) (IS (kW a)) (I0 a) (IS (iZ a))) (CW i (Ft a)) (sV (λj=>oH a j a) (Ft a) 0) (sV (λj=>oH a j a) (IG (Ft a) i) i)) (λi=>OO (KH i (Ft a) (AY (sV (λj=>oH a j a) (Ft a) 0) (sV (λj=>oH a j a) (IG (Ft a) i) i))) i (Ft a) (CL i (Ft a) (AH (AF (O7 a i)) (BZ (pN a i)) (Mb (IS (pN a i)) (BZ (pK a i)) (pK a i) (K4 a) (yN (E7 a) (IS (kW a)) (I0 a) (IS (iZ a)) (K4 a) (E7 a) (I0 a) (IS (iZ a)))))) (EZ (oH a i a) (AY (sV (λj=>oH a j a) (Ft a) 0) (CG i)) (VX (X1 a) (kW a) (iZ a)) (KI (λj=>IF (IA (BI (Ft a)) (λk=>LY k (Ft a) (AF (O7 a k)) (BZ (pN a k)) (pN a k) (BZ (pK a k)) (pK a k)) (EF (Ft a)) (BA j i) (K4 a) (E7 a) (IS (kW a)) (I0 a) (IS (iZ a))) (KH j (Ft a) (AY (sV (λk=>oH a k a) (Ft a) 0) (sV (λk=>oH a k a) (IG (Ft a) j) j))) (Ft a) j i))) (And (AY (sV (λj=>oH a j a) (Ft a) 0) (-1)) (VX (X1 a) (kW a) (iZ a))))):=by kernel_rfl
theorem p2Nc(a:MNc)(h:JS (C2Nc.pre a)):V2Nc a:=by
 obtain⟨h,hp⟩:a.l.length<4611686018427387904/\True:=h
 rw[DCQ]<;> delta BH BK DY RD RU EM EO CH AB CJ CE AY CG CW FV NL HD KA UI IG DV FU KI Og hd96 AH AI BC AV AF BI AQ BB BZ DD DC BJ JQ IS Mb LY yN EQ BL FL HR BX DN FE Ax MJ DX Ay EZ EX JJ BA PH HW JH VX FK EF KH CQ CL JY JK IF IA ON HX Ft SY X1 OO iZ kW O7 AQA oH pK pN E7 K4 I0
 simp only[CC,eq_self,implies_true,forall_const]
 refine⟨⟨0,rfl,Nat.zero_le _,rfl⟩,λk ⟨h1,h2⟩=>⟨λhlt=>?_,λhge=>?_⟩⟩
 ·have hlt:k<a.l.length:=by omega
  refine⟨⟨by omega,by omega⟩,λhp=>?_,λhp=>⟨k+1,(II (by omega)).symm,⟨by omega,?_⟩,by omega⟩⟩
  ·rw[h2];exact xZ hlt (by simpa using hp)
  ·rw[h2];exact APH hlt (by simpa using hp)
 ·rw[h2];exact AAN (by omega)
theorem DCI:AW Try.prog BMG (C2Nc.spec d2Nc):=Je C2Nc A2Nc [] [] CHT (λ_=>by kernel_rfl) (λ_=>AA CTI AK) p2Nc (λ_=>Kp rfl rfl) _
def C3Nc:Ctr:={ C2Nc with val:=λ(a:MNc)=>.bool (a.l.any λx=>x.mi==a.q.mi) }
def d3Nc:List AVal->Heap->Option (C3Nc.α×List (Nat×Nat)×List Nat):=d2Nc
def A3Nc:Ann:={ ann 9 [(BMG,C2Nc.spec d2Nc)] with E:=[100] }
def V3Nc(a:MNc):Prop:=ES Try.prog A3Nc BKM (AJ BKM) (C3Nc.xs a) (AD (C3Nc.L a)) (C3Nc.val a) (C3Nc.keep a) [] []
abbrev kA a:=IW (hd96 a) (λi=>FU (hd96 a) i)
attribute [go_sem] kA
theorem DAD(a:MNc):(V3Nc a)=(DT (CH (DV (kA a)) (Ft a)) (AI (AB (λi=>BJ i (DV (kA a)) (AY (PH (kA a) i) (O7 a i)) (AZ (Ay (kA a) i) (pN a i)) (Ay (kA a) i) (pN a i) (AZ (Ax (kA a) i) (pK a i)) (Ax (kA a) i) (pK a i))) (K4 a) (E7 a) (IS (kW a)) (yN (I0 a) (IS (iZ a)) (K4 a) (E7 a) (IS (kW a)) (I0 a) (GW (DV (kA a))) IP)) (MD ((@List.any Nt) (hd96 a) (λi=>AQA (DY i) a)) (Lj (sV (λi=>AQA (PH (kA a) i) a) (DV (kA a)) 0))) (VX (X1 a) (kW a) (iZ a))):=by kernel_rfl
theorem CHA{α:Type}[Inhabited α]{p:α->Bool}{l:List α}:decide (0<=sV (λi=>p (gD l i)) l.length 0)=l.any p:=by
 rw[Bool.eq_iff_iff,decide_eq_true_eq,BQB,List.any_eq_true]
 exact⟨λ⟨i,_,h1,h2⟩=>⟨gD l i,OH (by omega),h2⟩,λ⟨x,hx,h2⟩=>by obtain⟨i,hi,rfl⟩:=Df hx;exact⟨i,Nat.zero_le _,by omega,h2⟩⟩
theorem DAL:AW Try.prog BKN (C3Nc.spec d3Nc):=Ctr.spec_ok (C:=C3Nc) (λ(a:MNc) h=>Wk (A:=A3Nc) (ren:=[]) (fz:=[]) CEF (by kernel_rfl) (AA DCI AK) (by
 obtain⟨h,hp⟩:a.l.length<4611686018427387904/\True:=h
 show V3Nc a;rw[DAD]<;> delta MD tJ BH BK DY EM EO CH AB CJ CE AY DV FU IP Og hd96 AH IW AI BC AV AF AQ BB BZ BD DD AZ DC BJ IS yN GW DT Ax Ay PH VX Ft X1 Lj iZ kW O7 AQA kA pK pN E7 K4 I0;simp only[CC,eq_self,implies_true,forall_const,ge_iff_le]
 rw[<-CHA]
 simp[h,Li])) _
end Go.Bal
