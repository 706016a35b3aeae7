/- Package chart: every. Printed by gench.py. -/
import Derived.Test.YtceloknnpdonhaaGreatChT1
set_option linter.unusedVariables false
set_option linter.unusedSimpArgs false
namespace Go.Bal
open Go Go.Sym Go.Proofs
def jD(p:Nat->Bool):Nat->Bool
 |0=>true
 |n+1=>jD p n&&p n
theorem kG{p:Nat->Bool}:∀{n:Nat},jD p n=true↔∀i,i<n->p i=true
 |0=>by simp[jD]
 |n+1=>by
  simp only[jD,Bool.and_eq_true,kG (n:=n)]
  constructor
  ·intro h i hi
   by_cases he:i=n
   ·subst he;exact h.2
   ·exact h.1 i (by omega)
  ·exact λh=>⟨λi hi=>h i (by omega),h n (by omega)⟩
theorem BYW{p:Nat->Bool}:∀{n k:Nat},(0<=Gs p n k)↔∃i,k<=i/\i<k+n/\p i=true
 |0,k=>by simp[Gs];omega
 |n+1,k=>by
  simp only[Gs]
  by_cases h:p k=true
  ·rw[if_pos h]
   constructor
   ·intro _;exact⟨k,Nat.le_refl _,by omega,h⟩
   ·intro _;omega
  ·rw[if_neg h,BYW (n:=n) (k:=k+1)]
   constructor
   ·rintro⟨i,h1,h2,h3⟩;exact⟨i,by omega,by omega,h3⟩
   ·rintro⟨i,h1,h2,h3⟩
    refine⟨i,?_,by omega,h3⟩
    by_cases he:i=k
    ·subst he;exact absurd h3 h
    ·omega
theorem CSP{p:Nat->Bool}{n:Nat}:(!decide (0<=Gs (λi=>!p i) n 0))=jD p n:=by
 rw[Bool.eq_iff_iff,kG]
 simp only[Bool.not_eq_true',decide_eq_false_iff_not,BYW,Nat.zero_le,Nat.zero_add,true_and]
 constructor
 ·intro h i hi
  cases hp:p i with
  |true=>rfl
  |false=>exact (h ⟨i,hi,by simp[hp]⟩).elim
 ·rintro h ⟨i,hi,hp⟩
  rw[h i hi] at hp;cases hp
theorem AYF{α:Type}[Inhabited α]{p:α->Bool}{l:List α}:(!decide (0<=Gs (λi=>!p (gD l i)) l.length 0))=l.all p:=by
 rw[CSP,Bool.eq_iff_iff,kG,List.all_eq_true]
 exact⟨λh x hx=>by obtain⟨i,hi,rfl⟩:=aQ hx;exact h i hi,λh i hi=>h _ (HI hi)⟩
def chB(c:Cht):AObj:=.box [.int c.p.lo,.int c.p.hi,.int c.base,.int c.scale,.int c.off,.d (eMks c.ms),.d (eNts c.ns)]
def BYD(H:Heap)(id:Nat):Option Cht:=match H id with
 | .live (.box [.d a,.d b,.d c,.d d,.d e,.d (.list _ n f _),.d (.list _ m g _)])=>some ⟨⟨EO a,EO b⟩,EO c,EO d,EO e,KA n λi=>dMk (f i),KA m λi=>dNt (g i)⟩
 |_=>none
structure ChN where
 q:Cht
 e:Nt
def C_ck1:Ctr:={ ro:=[101],α:=ChN,xs:=λa=>[.d (eNt a.e),.bptr 101 0],L:=λa=>[(101,chB a.q)],val:=λa=>.bool (Ak a.e a.q.ms.length),keep:=λa=>[(101,.live (chB a.q))] }
def DNK:List AVal->Heap->Option (ChN×List (Nat×Nat)×List Nat)
 |[.d d,.bptr id _],H=>match BYD H id with
  |some q=>some (⟨q,dNt d⟩,[(101,id)],[])
  |none=>none
 |_,_=>none
def DOH:Ann:={ ann 9 [(BZC,CPI)] with E:=[101] }
def DMG(a:ChN):Prop:=BG Try.prog DOH BTS (AL BTS) (C_ck1.xs a) (AF (C_ck1.L a)) (C_ck1.val a) (C_ck1.keep a) [] []
abbrev Iz:=@List.length Mk
abbrev Bh:=Cht.ms
abbrev hd57:=ChN.q
abbrev YN:=Cht.p
abbrev Kz:=Cht.base
abbrev Rn:=Cht.scale
abbrev Pz:=Cht.off
abbrev Vq:=@gD Mk instInhabitedMk
abbrev Hc:=@List.length Nt
abbrev Av:=Cht.ns
abbrev Gh:=@gD Nt instInhabitedNt
abbrev AP a b c d e f g h p:=AJ a b c d (AJ e f g h p)
abbrev DC a b c d e f g h(p:Nat->Prop):=AP a b c d e f g h (AK p)
abbrev SE a b c d e f g:=AZ a b (AJ c d e f g)
abbrev JJ a:=Hc (Av a)
abbrev VB a b c d e f g:=SE a (JJ b) c d e f g
abbrev YJ a b:=Gh (Av a) b
abbrev JE a b:=NU (YJ a b)
abbrev YO a b:=IZ (JE a b)
abbrev YZ a b:=HA (JE a b)
abbrev NG a b:=ZF (YJ a b)
abbrev ZK a b:=AI (NG a b)
abbrev Az a b c:=VB a b (ZK b a) (YZ b a) (YO b a) (HA c) (IZ c)
abbrev FP a b:=XB (YJ a b)
abbrev OA a b:=Az a b (FP b a)
abbrev EE a:=BI (JJ a)
abbrev KJ a b c d:=BZ a b (AI c) d
abbrev NB a b c d:=KJ a b c (AI d)
abbrev WF a b:=Mk.ht (Vq a b)
abbrev As a b:=WF (Bh a) b
abbrev WK a b:=Mk.pl (Vq a b)
abbrev XR a b:=WK (Bh a) b
abbrev XN a:=Iz (Bh a)
abbrev VO a b:=NB a (XN b) (XR b a) (As b a)
abbrev Ml a:=AK (λi=>VO i a)
abbrev NP a:=BI (XN a)
abbrev CQ a:=AI (Pz a)
abbrev CO a:=AI (Rn a)
abbrev CP a:=AI (Kz a)
abbrev IE a:=IZ (YN a)
abbrev LC a:=HA (YN a)
abbrev Na a:=AU (XN a)
abbrev Wp a b:=hd15 a (Na b)
attribute [go_sem] Iz Bh hd57 YN Kz Rn Pz Vq Hc Av Gh AP DC SE JJ VB YJ JE YO YZ NG ZK Az FP OA EE KJ NB WF As WK XR XN VO Ml NP CQ CO CP IE LC Na Wp
theorem DOY(a:ChN):(DMG a)=(And (JB (Wp (ChN.e a) (hd57 a)) (Wp (Nt.mk (ZF (ChN.e a)) (NU (ChN.e a)) (XB (ChN.e a))) (hd57 a))) (DC (LC (hd57 a)) (IE (hd57 a)) (CP (hd57 a)) (CO (hd57 a)) (CQ (hd57 a)) (NP (hd57 a)) (Ml (hd57 a)) (EE (hd57 a)) (λi=>OA i (hd57 a)))):=by kernel_rfl
theorem DQB:AM Try.prog BDZ (C_ck1.spec DNK):=WY C_ck1 (λ_=>DOH) [] [] CTV (λ_=>by kernel_rfl) (λ_=>AB CYS AG) (λ(a:ChN) _=>by
 show DMG a;rw[DOY]<;> delta JB EM FL hd15 ZF NU XB AR AK BO CI AO AU Iz Bh hd57 YN Kz Rn Pz Vq Hc Av Gh AH YJ AJ JJ AZ AI BI AP HA BZ IZ JE FP WK NG WF XN SE IE VB LC XR YO KJ YZ As EE CQ CO CP NB ZK Az DC NP OA VO Na Wp Ml;simp[MQ,RI]) (λ_=>YE rfl rfl) _
def qF(s:Span):Bool:=decide (s.lo<=s.hi)
def CVE(x:Span):Prop:=BG Try.prog (ann 8 []) CIE (AL CIE) (xS1 x) (AF []) (.bool (qF x)) [] [] []
theorem DJH(x:Span):(CVE x)=(JB (qF x) (hd7 (EM x) (FL x))):=by kernel_rfl
def CCG:=pDQ dS1 λx=>.bool (qF x)
theorem DFX:AM Try.prog BZY CCG:=ATH xS1 hS1 λx _=>Mj (A:=ann 8 []) (ren:=[]) (fz:=[]) DGW (by kernel_rfl) AG (by
 show CVE x;rw[DJH]<;> delta JB hd7 EM FL;try simp[qF])
def DEB(x:Span):Prop:=BG Try.prog (ann 8 []) CLX (AL CLX) (xS1 x) (AF []) (.bool (qF x)) [] [] []
theorem DHI(x:Span):(DEB x)=(JB (qF x) (hd7 (EM x) (FL x))):=by kernel_rfl
theorem DJK:AM Try.prog CCW CCG:=ATH xS1 hS1 λx _=>Mj (A:=ann 8 []) (ren:=[]) (fz:=[]) DHL (by kernel_rfl) AG (by
 show DEB x;rw[DHI]<;> delta JB hd7 EM FL;try simp[qF])
def LXNr(q:Cht):List (Nat×AObj):=[(101,chB q)]
def KXNr(q:Cht):List (Nat×HCell):=[(101,.live (chB q))]
def fvNr(q:Cht):AVal:=.fn (.func BDZ) [] [.bptr 101 0]
def BNr(q:Cht):AObj:=.box [fvNr q]
structure ENr where
 q:Cht
 e:Nt
structure MNr where
 q:Cht
 l:List Nt
def C1Nr:Ctr:={ ro:=[100,101],α:=ENr,xs:=λa=>[.d (eNt a.e),.bptr 100 0],L:=λa=>(100,BNr a.q) :: LXNr a.q,val:=λa=>.bool (!Ak a.e a.q.ms.length),keep:=λa=>(100,.live (BNr a.q)) :: KXNr a.q }
def d1Nr:List AVal->Heap->Option (ENr×List (Nat×Nat)×List Nat)
 |[.d d,.bptr id _],H=>match H id with
  | .live (.box [.fn _ _ [.bptr j _]])=>match BYD H j with
   |some q=>some (⟨q,dNt d⟩,[(100,id),(101,j)],[])
   |none=>none
  |_=>none
 |_,_=>none
def A1Nr:Ann:={ ann 8 [(BDZ,C_ck1.spec DNK)] with E:=[100,101] }
def V1Nr(a:ENr):Prop:=BG Try.prog A1Nr DEH (AL DEH) (C1Nr.xs a) (AF (C1Nr.L a)) (C1Nr.val a) (C1Nr.keep a) [] []
abbrev hd70:=ENr.e
abbrev Hm:=ENr.q
abbrev jM:=@KA Nt
abbrev XJ a b:=JB a (not b)
abbrev Pq a(b:Nat->Mk):=(@KA Mk) (Iz a) b
abbrev Pb a b:=Pq a (λi=>Vq b i)
abbrev oI a:=Pb (Bh a) (Bh a)
abbrev QX a:=Iz (oI a)
abbrev FT a b c d e f g:=AH a b (AJ c d e f g)
abbrev EB a b c d e(f:Nat->Prop) g h p:=AP a b c d e (AK f) g h p
abbrev UP a b c d e f g h:=VB a b (AO (NG b c) d) e f (EW g h) (EJ g h)
abbrev Bs a b(c:Nat->Nat):=jM a (λi=>YJ b (c i))
abbrev Ui a b:=Bs (JJ a) b (λi=>i)
abbrev Cf a:=Ui a a
abbrev Xp a b:=Gh (Cf a) b
abbrev Gz a b:=XB (Xp a b)
abbrev Ec a b:=NU (Xp a b)
abbrev NR a b c d e f g h:=UP a b c (ZF (Xp b d)) (EW (JE b e) (Ec b e)) (EJ (JE b f) (Ec b f)) g (Gz b h)
abbrev Hj a b:=AR (JJ a) b
abbrev Hi a:=Hc (Cf a)
abbrev UM a:=Hj a (Hi a)
abbrev JZ a b c d e:=BZ a b (AO c d) e
abbrev DO a b c d e f:=JZ a b c d (AO e f)
abbrev Zh a b c d e f:=DO a (XN b) (XR b c) d (As b e) f
abbrev Yn a b:=WF (oI a) b
abbrev bB a b:=WK (oI a) b
abbrev YC a b c d e f:=Zh a b c (bB b d) e (Yn b f)
abbrev TD a b:=AR (XN a) b
abbrev PZ a b c:=EJ a (JE b c)
abbrev Am a b c d e f g h p:=SE a b c d (PZ e f g) h p
abbrev QZ a b c d e f g h:=Am a b c d e f a g h
abbrev JI a b c:=EW a (JE b c)
abbrev SB a b:=AO (ZF a) b
abbrev PY a b c:=SB a (NG b c)
abbrev YW a b c d e f g h:=QZ a b (PY (Xp c d) c d) (JI (Ec c e) c e) (Ec c f) c g h
abbrev OZ a b c d e f g:=YW a (Hi b) b c d e f g
abbrev SZ a b c:=EJ (Gz a b) c
abbrev VE a b c:=SZ a b (FP a c)
abbrev TA a b c:=EW (Gz a b) c
abbrev VY a b c:=TA a b (FP a c)
abbrev OC a b:=AR a (JJ b)
abbrev PL a:=OC (Hi a) a
abbrev Hl a b c d e f g:=DO a b c (XR d e) f (As d g)
abbrev SC a b c d e f g:=Hl a b (bB c d) c e (Yn c f) g
abbrev MY a b:=AR a (XN b)
abbrev Sb a:=IZ (XB a)
abbrev Hh a:=HA (XB a)
abbrev Su a:=IZ (NU a)
abbrev Gw a:=HA (NU a)
abbrev Zc a:=AI (ZF a)
attribute [go_sem] hd70 Hm jM XJ Pq Pb oI QX FT EB UP Bs Ui Cf Xp Gz Ec NR Hj Hi UM JZ DO Zh Yn bB YC TD PZ Am QZ JI SB PY YW OZ SZ VE TA VY OC PL Hl SC MY Sb Hh Su Gw Zc
theorem DVC(a:ENr):(V1Nr a)=(AH (FT (Zc (hd70 a)) (Gw (hd70 a)) (Su (hd70 a)) (Hh (hd70 a)) (Sb (hd70 a)) (LC (Hm a)) (EB (IE (Hm a)) (CP (Hm a)) (CO (Hm a)) (CQ (Hm a)) (MY (QX (Hm a)) (Hm a)) (λi=>SC i (QX (Hm a)) (Hm a) i i i i) (PL (Hm a)) (AK (λi=>OZ i (Hm a) i i i (VY (Hm a) i i) (VE (Hm a) i i))) (DC (LC (Hm a)) (IE (Hm a)) (CP (Hm a)) (CO (Hm a)) (CQ (Hm a)) (TD (Hm a) (QX (Hm a))) (AK (λi=>YC i (Hm a) i i i i)) (UM (Hm a)) (λi=>NR i (Hm a) i i i i (FP (Hm a) i) i)))) (XJ (not (Wp (hd70 a) (Hm a))) (hd15 (Nt.mk (ZF (hd70 a)) (NU (hd70 a)) (XB (hd70 a))) (AU (QX (Hm a))))) (DC (LC (Hm a)) (IE (Hm a)) (CP (Hm a)) (CO (Hm a)) (CQ (Hm a)) (NP (Hm a)) (Ml (Hm a)) (EE (Hm a)) (λi=>OA i (Hm a)))):=by kernel_rfl
theorem DTX:AM Try.prog CDS (C1Nr.spec d1Nr):=WY C1Nr (λ_=>A1Nr) [] [] DRS (λ_=>by kernel_rfl) (λ_=>AB DQB AG) (λ(a:ENr) h=>by
 show V1Nr a;rw[DVC]<;> delta JB EM FL hd15 ZF NU XB AR AK BO CI AO AU Iz Bh YN Kz Rn Pz Vq Hc Av Gh hd70 Hm jM AH YJ AJ JJ Bs AZ Pq AI BI Ui AP Pb HA BZ IZ Cf JE FQ FP HT EJ EW Xp WK NG oI WF XN SE IE JZ VB Gz LC XR YO KJ Ec SB YZ As EE QX CQ CO CP DO NB Hi ZK Az JI OC PZ DC Gw NP OA Hh PY EB Yn Am QZ VO bB Na FT TA SZ MY Hj Wp UP PL Sb Su Hl UM TD Ml YW XJ OZ VE VY Zc Zh NR SC YC;try simp[MQ,RI]) (λ_=>YE rfl rfl) _
def d2Nr:List AVal->Heap->Option (MNr×List (Nat×Nat)×List Nat)
 |[y,.fn _ _ [.bptr id _]],H=>match vE y H with
  |some (n,g,f)=>match H id with
   | .live (.box [.fn _ _ [.bptr j _]])=>match BYD H j with
    |some q=>some (⟨q,KA n λi=>dNt (g i)⟩,[(100,id),(101,j)],f)
    |none=>none
   |_=>none
  |none=>none
 |_,_=>none
def A2Nr(a:MNr):Ann:={ ann 19 [(CDS,C1Nr.spec d1Nr)] with E:=[100,101],loops:=λid=>if id=2 then some [{ α:=Nat,dflt:=0,T:=λk=>⟨[(0,.d (eNts a.l)),(1,.fn (.func CDS) [] [.bptr 100 0]),(7,.int a.l.length),(8,.int k)],(100,.live (BNr a.q)) :: KXNr a.q⟩,inv:=λk=>k<=a.l.length/\Gs (λi=>!Ak (gD a.l i) a.q.ms.length) a.l.length 0=Gs (λi=>!Ak (gD a.l i) a.q.ms.length) (a.l.length-k) k,meas:=λk=>a.l.length-k }] else none }
def PNr(a:MNr):List Prop:=[a.l.length<4611686018427387904/\True]
def C2Nr:Ctr:={ ro:=[100,101],α:=MNr,xs:=λa=>[.d (eNts a.l),.fn (.func CDS) [] [.bptr 100 0]],L:=λa=>(100,BNr a.q) :: LXNr a.q,val:=λa=>.int (Gs (λi=>!Ak (gD a.l i) a.q.ms.length) a.l.length 0),keep:=λa=>(100,.live (BNr a.q)) :: KXNr a.q,pre:=PNr }
def V2Nr(a:MNr):Prop:=BG Try.prog (A2Nr a) CHQ (AL CHQ) (C2Nr.xs a) (AF (C2Nr.L a)) (C2Nr.val a) (C2Nr.keep a) [] []
abbrev LA:=@Exists Nat
abbrev SK:=MNr.q
abbrev FK a(b:Nat->Prop):=And a (AK b)
abbrev KF(a:Nat->Prop)(b:Nat->Prop):=FK (LA a) b
abbrev vL a:=EE (SK a)
abbrev wU a:=Ml (SK a)
abbrev vW a:=NP (SK a)
abbrev Nx a:=CQ (SK a)
abbrev Oq a:=CO (SK a)
abbrev Nh a:=CP (SK a)
abbrev Nc a:=IE (SK a)
abbrev Mp a:=LC (SK a)
abbrev XX(a:Nat->Bool) b c:=Gs (λi=>not (a i)) b c
abbrev UK(a:Nat->Bool) b:=XX a b 0
abbrev Ap(a:Nat->Bool) b c:=AO (UK a b) c
abbrev TZ a:=Hc (MNr.l a)
abbrev BHF a b:=Wp a (SK b)
abbrev LG a b:=Gh (MNr.l a) b
abbrev gW a b c:=BHF (LG a b) c
abbrev BF a b c d:=And a (DV b c d)
abbrev KM a b c d:=BF a (not b) c d
abbrev Rh(a:Nat->Bool) b(c:Nat->Bool) d e:=Ap a b (XX c d e)
abbrev Bj(a:Nat->Bool) b(c:Nat->Bool) d e:=Rh a b c (IS b d) e
abbrev TT a:=AI (AU a)
abbrev Ox a:=QX (SK a)
abbrev AY a b c d:=And a (AH b c d)
abbrev HX a b c d e f g h:=AY a b c (AJ d e f g h)
attribute [go_sem] LA SK FK KF vL wU vW Nx Oq Nh Nc Mp XX UK Ap TZ BHF LG gW BF KM Rh Bj TT Ox AY HX
theorem DVL(a:MNr):(V2Nr a)=(KF (λi=>QB (AJ (BI (TZ a)) (AK (λj=>SE j (TZ a) (Zc (LG a j)) (Gw (LG a j)) (Su (LG a j)) (Hh (LG a j)) (Sb (LG a j)))) (TT (TZ a)) (BS i) (DC (Mp a) (Nc a) (Nh a) (Oq a) (Nx a) (vW a) (wU a) (vL a) (λj=>OA j (SK a)))) i (TZ a) (Bj (λj=>gW a j a) (TZ a) (λj=>gW a j a) i i)) (λi=>NA i (TZ a) (Bj (λj=>gW a j a) (TZ a) (λj=>gW a j a) i i) (AU (TZ a)) (KM (HX (DU i (TZ a)) (Zc (LG a i)) (Gw (LG a i)) (Su (LG a i)) (Hh (LG a i)) (Sb (LG a i)) (Mp a) (EB (Nc a) (Nh a) (Oq a) (Nx a) (MY (Ox a) (SK a)) (λj=>SC j (Ox a) (SK a) j j j j) (PL (SK a)) (AK (λj=>OZ j (SK a) j j j (VY (SK a) j j) (VE (SK a) j j))) (DC (Mp a) (Nc a) (Nh a) (Oq a) (Nx a) (TD (SK a) (Ox a)) (AK (λj=>YC j (SK a) j j j j)) (UM (SK a)) (λj=>NR j (SK a) j j j j (FP (SK a) j) j)))) (hd15 (Nt.mk (ZF (LG a i)) (NU (LG a i)) (XB (LG a i))) (AU (Ox a))) (And (Ap (λj=>gW a j a) (TZ a) (AU i)) (DC (Mp a) (Nc a) (Nh a) (Oq a) (Nx a) (vW a) (wU a) (vL a) (λj=>OA j (SK a)))) (LA (λj=>RN (AJ (BI (TZ a)) (AK (λk=>SE k (TZ a) (Zc (LG a k)) (Gw (LG a k)) (Su (LG a k)) (Hh (LG a k)) (Sb (LG a k)))) (TT (TZ a)) (AV j i) (DC (Mp a) (Nc a) (Nh a) (Oq a) (Nx a) (vW a) (wU a) (vL a) (λk=>OA k (SK a)))) j (TZ a) (Bj (λk=>gW a k a) (TZ a) (λk=>gW a k a) j j) i))) (And (Ap (λj=>gW a j a) (TZ a) (-1)) (DC (Mp a) (Nc a) (Nh a) (Oq a) (Nx a) (vW a) (wU a) (vL a) (λj=>OA j (SK a)))))):=by kernel_rfl
theorem p2Nr(a:MNr)(h:EL (PNr a)):V2Nr a:=by
 obtain⟨h,hp⟩:a.l.length<4611686018427387904/\True:=h
 rw[DVL]<;> delta EM FL hd15 ZF NE NU XB AR AK BO CI AO AU EA DV JD DJ DX OP IS Iz Bh YN Kz Rn Pz Vq Hc Av Gh jM LA SK AH YJ AJ JJ Bs AZ EV Pq AI BI Ui DK AP Pb HA BZ ED BC IZ Cf JE FQ FP HT EJ EW EU Xp WK NG GY oI WF AY XN SE IE GV CK JZ FK VB Gz XX LC XR YO CE KJ MW Ec SB YZ As EE EC AV QX CQ CO CP DO BF ES LG FF NB Hi JO ZK TZ UK Az CX NT JI OC PZ DC Gw NP Ap BS HR OA Hh DU PY EB Yn Am QZ VO bB Na TA SZ HX MY Rh KF TT Hj KM Wp UP PL Sb Bc Su QB Hl UM NA TD Oq Ml Nh Fe RN Ox Nx YW Mp Nc BHF Bj OZ VE VY Zc gW Zh NR SC wU vW YC vL
 simp only[CCQ,eq_self,implies_true,forall_const]
 refine⟨⟨0,rfl,Nat.zero_le _,rfl⟩,λk ⟨h1,h2⟩=>⟨λhlt=>?_,λhge=>?_⟩⟩
 ·have hlt:k<a.l.length:=by omega
  refine⟨⟨by omega,by omega⟩,λhp=>?_,λhp=>⟨k+1,(FN (by omega)).symm,⟨by omega,?_⟩,by omega⟩⟩
  ·rw[h2];exact Wd hlt (by simpa using hp)
  ·rw[h2];exact F3 hlt (by simpa using hp)
 ·rw[h2];exact jL (by omega)
theorem DVW:AM Try.prog CGA (C2Nr.spec d2Nr):=WY C2Nr A2Nr [] [] CUP (λ_=>by kernel_rfl) (λ_=>AB DTX AG) p2Nr (λ_=>YE rfl rfl) _
def C3Nr:Ctr:={ C2Nr with val:=λ(a:MNr)=>.bool (decide (Gs (λi=>!Ak (gD a.l i) a.q.ms.length) a.l.length 0>=0)) }
def d3Nr:List AVal->Heap->Option (C3Nr.α×List (Nat×Nat)×List Nat):=d2Nr
def A3Nr:Ann:={ ann 9 [(CGA,C2Nr.spec d2Nr)] with E:=[100,101] }
def V3Nr(a:MNr):Prop:=BG Try.prog A3Nr CDM (AL CDM) (C3Nr.xs a) (AF (C3Nr.L a)) (C3Nr.val a) (C3Nr.keep a) [] []
abbrev FI:=True
abbrev XE a:=hd6 a 0
abbrev MI(a:Nat->Bool) b:=XE (UK a b)
abbrev aS a(b:Nat->Nt):=Hc (jM a b)
abbrev qE a b:=aS (TZ a) (λi=>LG b i)
abbrev Kv a(b:Nat->Nt) c:=Gh (jM a b) c
abbrev Sw a b c:=Kv (TZ a) (λi=>LG b i) c
abbrev BB a b c d e f:=And a (AJ b c d e f)
abbrev GT a b c d(e:Nat->Prop) f g h p:=AP a b c d (AK e) f g h p
abbrev KE a b c d(e:Nat->Prop) f(g:Nat->Prop) h p:=GT a b c d e f (AK g) h p
abbrev BD a:=CI a 4611686018427387904
abbrev QD a b:=EJ (XB a) b
abbrev RO a b:=EW (XB a) b
abbrev iA a b:=RO a (XB b)
abbrev Kd a b:=SB a (ZF b)
attribute [go_sem] FI XE MI aS qE Kv Sw BB GT KE BD QD RO iA Kd
theorem DTY(a:MNr):(V3Nr a)=(AH (BB (AR (qE a a) (TZ a)) (AK (λi=>SE i (qE a a) (Kd (Sw a a i) (LG a i)) (EW (NU (Sw a a i)) (NU (LG a i))) (EJ (NU (Sw a a i)) (NU (LG a i))) (iA (Sw a a i) (LG a i)) (QD (Sw a a i) (XB (LG a i))))) (Mp a) (Nc a) (Nh a) (EB (Oq a) (Nx a) (MY (Ox a) (SK a)) (AK (λi=>SC i (Ox a) (SK a) i i i i)) (PL (SK a)) (λi=>OZ i (SK a) i i i (VY (SK a) i i) (VE (SK a) i i)) (Mp a) (Nc a) (KE (Nh a) (Oq a) (Nx a) (TD (SK a) (Ox a)) (λi=>YC i (SK a) i i i i) (UM (SK a)) (λi=>NR i (SK a) i i i i (FP (SK a) i) i) (BD (qE a a)) FI))) (JB (MI (λi=>gW a i a) (TZ a)) (MI (λi=>hd15 (Sw a a i) (AU (Ox a))) (qE a a))) (DC (Mp a) (Nc a) (Nh a) (Oq a) (Nx a) (vW a) (wU a) (vL a) (λi=>OA i (SK a)))):=by kernel_rfl
theorem DWP:AM Try.prog CGW (C3Nr.spec d3Nr):=Ctr.spec_ok (C:=C3Nr) (λ(a:MNr) h=>Mj (A:=A3Nr) (ren:=[]) (fz:=[]) CWS (by kernel_rfl) (AB DVW AG) (by
 obtain⟨h,hp⟩:a.l.length<4611686018427387904/\True:=h
 show V3Nr a;rw[DTY]<;> delta JB hd6 EM FL hd15 ZF NU XB AR AK BO CI AO AU Iz Bh YN Kz Rn Pz Vq Hc Av Gh jM SK FI AH YJ AJ JJ Bs AZ Pq AI BI Ui AP Pb HA BZ IZ Cf JE FQ FP HT EJ EW Xp WK NG GT oI WF XN SE IE BB JZ VB Gz XX LC BD XR YO KJ Ec SB YZ As EE QX CQ CO CP DO LG NB Hi ZK TZ UK Az JI Kd QD OC PZ RO DC NP OA PY EB Yn Am QZ VO bB Na Kv TA SZ iA XE MI MY Hj KE Wp UP PL aS Hl UM TD Oq Ml Nh Ox Nx YW Mp Nc Sw BHF OZ VE VY gW Zh NR SC qE wU vW YC vL;simp[h,RI])) _
def d4Nr:List AVal->Heap->Option (MNr×List (Nat×Nat)×List Nat)
 |[y,.fn _ _ [.bptr j _]],H=>match vE y H with
  |some (n,g,f)=>match BYD H j with
   |some q=>some (⟨q,KA n λi=>dNt (g i)⟩,[(101,j)],f)
   |none=>none
  |none=>none
 |_,_=>none
def A4Nr:Ann:={ ann 9 [(CGW,C3Nr.spec d3Nr)] with E:=[101] }
def C4Nr:Ctr:={ ro:=[101],α:=MNr,xs:=λa=>[.d (eNts a.l),fvNr a.q],L:=λa=>LXNr a.q,val:=λa=>.bool (a.l.all λx=>Ak x a.q.ms.length),keep:=λa=>KXNr a.q,pre:=PNr }
def V4Nr(a:MNr):Prop:=BG Try.prog A4Nr F_eN (AL F_eN) (C4Nr.xs a) (AF (C4Nr.L a)) (C4Nr.val a) (C4Nr.keep a) [] []
abbrev hd80:=@List.all Nt
attribute [go_sem] hd80
theorem DXT(a:MNr):(V4Nr a)=(AH (BB (AR (qE a a) (TZ a)) (AK (λi=>SE i (qE a a) (Kd (Sw a a i) (LG a i)) (EW (NU (Sw a a i)) (NU (LG a i))) (EJ (NU (Sw a a i)) (NU (LG a i))) (iA (Sw a a i) (LG a i)) (QD (Sw a a i) (XB (LG a i))))) (Mp a) (Nc a) (Nh a) (EB (Oq a) (Nx a) (MY (Ox a) (SK a)) (AK (λi=>SC i (Ox a) (SK a) i i i i)) (PL (SK a)) (λi=>OZ i (SK a) i i i (VY (SK a) i i) (VE (SK a) i i)) (Mp a) (Nc a) (KE (Nh a) (Oq a) (Nx a) (TD (SK a) (Ox a)) (λi=>YC i (SK a) i i i i) (UM (SK a)) (λi=>NR i (SK a) i i i i (FP (SK a) i) i) (BD (qE a a)) FI))) (XJ (hd80 (MNr.l a) (λi=>BHF i a)) (MI (λi=>hd15 (Sw a a i) (AU (Ox a))) (qE a a))) (DC (Mp a) (Nc a) (Nh a) (Oq a) (Nx a) (vW a) (wU a) (vL a) (λi=>OA i (SK a)))):=by kernel_rfl
theorem DXI(a:MNr)(h:EL (PNr a)):FnT Try.prog n_eN (C4Nr.xs a) (AF (C4Nr.L a)) (C4Nr.val a) (C4Nr.keep a):=Mj (A:=A4Nr) (ren:=[]) (fz:=[]) DUP (by kernel_rfl) (AB DWP AG) (by
 have h':a.l.length<4611686018427387904/\True:=h
 show V4Nr a;rw[DXT]<;> delta JB hd6 EM FL hd15 ZF NU XB AR AK BO CI AO AU Iz Bh YN Kz Rn Pz Vq Hc Av Gh jM SK FI hd80 AH YJ AJ JJ Bs AZ Pq AI BI Ui AP Pb HA BZ IZ Cf JE FQ FP HT EJ EW Xp WK NG GT oI WF XN SE IE BB JZ VB Gz XX LC BD XR YO KJ Ec SB YZ As EE QX CQ CO CP DO LG NB Hi ZK TZ UK Az JI Kd QD OC PZ RO DC NP OA PY EB Yn Am QZ VO bB Na Kv TA SZ iA XE MI MY Hj KE Wp UP PL aS Hl UM TD Oq Ml Nh Ox Nx YW Mp Nc XJ Sw BHF OZ VE VY Zh NR SC qE wU vW YC vL;simp only[CCQ,eq_self,implies_true,forall_const,ge_iff_le]
 rw[<-AYF]
 exact⟨h'.1,rfl⟩)
theorem DTU:AM Try.prog n_eN (C4Nr.spec d4Nr):=Ctr.spec_ok (C:=C4Nr) DXI _
def fvSa(q:One):AVal:=.fn (.func BZY) [] []
def BSa(q:One):AObj:=.box [fvSa q]
structure ESa where
 q:One
 e:Span
structure MSa where
 q:One
 l:List Span
def C1Sa:Ctr:={ ro:=[100],α:=ESa,xs:=λa=>[.d (TF a.e),.bptr 100 0],L:=λa=>(100,BSa a.q) :: [],val:=λa=>.bool (!qF a.e),keep:=λa=>(100,.live (BSa a.q)) :: [] }
def d1Sa:List AVal->Heap->Option (ESa×List (Nat×Nat)×List Nat)
 |[.d d,.bptr id _],H=>some (⟨default,Ty d⟩,[(100,id)],[])
 |_,_=>none
def A1Sa:Ann:={ ann 8 [(BZY,CCG)] with E:=[100] }
def V1Sa(a:ESa):Prop:=BG Try.prog A1Sa CEC (AL CEC) (C1Sa.xs a) (AF (C1Sa.L a)) (C1Sa.val a) (C1Sa.keep a) [] []
abbrev FJ a:=JB a a
attribute [go_sem] FJ
theorem DXB(a:ESa):(V1Sa a)=(FJ (not (qF (ESa.e a)))):=by kernel_rfl
theorem DWI:AM Try.prog BDE (C1Sa.spec d1Sa):=WY C1Sa (λ_=>A1Sa) [] [] CUG (λ_=>by kernel_rfl) (λ_=>AB DFX AG) (λ(a:ESa) h=>by
 show V1Sa a;rw[DXB]<;> delta JB FJ;try simp[MQ,RI]) (λ_=>YE rfl rfl) _
def d2Sa:List AVal->Heap->Option (MSa×List (Nat×Nat)×List Nat)
 |[y,.fn _ _ [.bptr id _]],H=>match vE y H with
  |some (n,g,f)=>some (⟨default,KA n λi=>Ty (g i)⟩,[(100,id)],f)
  |none=>none
 |_,_=>none
def A2Sa(a:MSa):Ann:={ ann 19 [(BDE,C1Sa.spec d1Sa)] with E:=[100],loops:=λid=>if id=2 then some [{ α:=Nat,dflt:=0,T:=λk=>⟨[(0,.d (SR a.l)),(1,.fn (.func BDE) [] [.bptr 100 0]),(7,.int a.l.length),(8,.int k)],(100,.live (BSa a.q)) :: []⟩,inv:=λk=>k<=a.l.length/\Gs (λi=>!qF (gD a.l i)) a.l.length 0=Gs (λi=>!qF (gD a.l i)) (a.l.length-k) k,meas:=λk=>a.l.length-k }] else none }
def PSa(a:MSa):List Prop:=[a.l.length<4611686018427387904/\True]
def C2Sa:Ctr:={ ro:=[100],α:=MSa,xs:=λa=>[.d (SR a.l),.fn (.func BDE) [] [.bptr 100 0]],L:=λa=>(100,BSa a.q) :: [],val:=λa=>.int (Gs (λi=>!qF (gD a.l i)) a.l.length 0),keep:=λa=>(100,.live (BSa a.q)) :: [],pre:=PSa }
def V2Sa(a:MSa):Prop:=BG Try.prog (A2Sa a) CFH (AL CFH) (C2Sa.xs a) (AF (C2Sa.L a)) (C2Sa.val a) (C2Sa.keep a) [] []
abbrev gI:=MSa.l
abbrev Ef a:=RP (gI a)
abbrev AZC a b:=qF (SH a b)
abbrev Zm a b:=AZC (gI a) b
attribute [go_sem] gI Ef AZC Zm
theorem DVH(a:MSa):(V2Sa a)=(KF (λi=>QB (EP (PH (gI a)) (QY (gI a)) (AU (Ef a)) (BS i)) i (Ef a) (Bj (λj=>Zm a j) (Ef a) (λj=>Zm a j) i i)) (λi=>NA i (Ef a) (Bj (λj=>Zm a j) (Ef a) (λj=>Zm a j) i i) (AU (Ef a)) (KM (AH (DU i (Ef a)) (Mx (gI a) i) (Mz (gI a) i)) (Zm a i) (Ap (λj=>Zm a j) (Ef a) (AU i)) (LA (λj=>RN (EP (PH (gI a)) (QY (gI a)) (AU (Ef a)) (AV j i)) j (Ef a) (Bj (λk=>Zm a k) (Ef a) (λk=>Zm a k) j j) i))) (Ap (λj=>Zm a j) (Ef a) (-1)))):=by kernel_rfl
theorem p2Sa(a:MSa)(h:EL (PSa a)):V2Sa a:=by
 obtain⟨h,hp⟩:a.l.length<4611686018427387904/\True:=h
 rw[DVH]<;> delta EM FL NE AR RP AK BO CI AO SH AU EA DV JD DJ DX OP IS LA gI AH AZ EV AI BI DK HA BZ ED BC IZ HE EU GY GV CK FK XX CE MW EC AV BF ES Cc FF JO PH UK CX NT Mz Mx Ap BS EP HR DU ADW QY AZC Ef Rh KF KM Bc QB NA Fe RN Bj Zm
 simp only[CCQ,eq_self,implies_true,forall_const]
 refine⟨⟨0,rfl,Nat.zero_le _,rfl⟩,λk ⟨h1,h2⟩=>⟨λhlt=>?_,λhge=>?_⟩⟩
 ·have hlt:k<a.l.length:=by omega
  refine⟨⟨by omega,by omega⟩,λhp=>?_,λhp=>⟨k+1,(FN (by omega)).symm,⟨by omega,?_⟩,by omega⟩⟩
  ·rw[h2];exact Wd hlt (by simpa using hp)
  ·rw[h2];exact F3 hlt (by simpa using hp)
 ·rw[h2];exact jL (by omega)
theorem DWK:AM Try.prog CDJ (C2Sa.spec d2Sa):=WY C2Sa A2Sa [] [] CWU (λ_=>by kernel_rfl) (λ_=>AB DWI AG) p2Sa (λ_=>YE rfl rfl) _
def C3Sa:Ctr:={ C2Sa with val:=λ(a:MSa)=>.bool (decide (Gs (λi=>!qF (gD a.l i)) a.l.length 0>=0)) }
def d3Sa:List AVal->Heap->Option (C3Sa.α×List (Nat×Nat)×List Nat):=d2Sa
def A3Sa:Ann:={ ann 9 [(CDJ,C2Sa.spec d2Sa)] with E:=[100] }
def V3Sa(a:MSa):Prop:=BG Try.prog A3Sa CEN (AL CEN) (C3Sa.xs a) (AF (C3Sa.L a)) (C3Sa.val a) (C3Sa.keep a) [] []
abbrev qH:=@KA Span
abbrev ADX a(b:Nat->Span):=qH (RP a) b
abbrev Kj a:=ADX a (λi=>SH a i)
abbrev QA a:=RP (Kj a)
abbrev Q8 a:=QA (gI a)
abbrev LB a b:=SH (Kj a) b
abbrev VS a b c:=AY a b c FI
abbrev ON a b c:=VS a b (BD c)
abbrev VV a b c d e f:=BZ a b c (EJ d (SH e f))
abbrev WB a b c:=EW a (SH b c)
abbrev Bq a b:=AR (QA a) b
attribute [go_sem] qH ADX Kj QA Q8 LB VS ON VV WB Bq
theorem DXZ(a:MSa):(V3Sa a)=(And (ON (Bq (gI a) (Ef a)) (AK (λi=>VV i (Q8 a) (WB (LB (gI a) i) (gI a) i) (LB (gI a) i) (gI a) i)) (Q8 a)) (JB (MI (λi=>Zm a i) (Ef a)) (MI (λi=>qF (LB (gI a) i)) (Q8 a)))):=by kernel_rfl
theorem DUB:AM Try.prog CEA (C3Sa.spec d3Sa):=Ctr.spec_ok (C:=C3Sa) (λ(a:MSa) h=>Mj (A:=A3Sa) (ren:=[]) (fz:=[]) DFE (by kernel_rfl) (AB DWK AG) (by
 obtain⟨h,hp⟩:a.l.length<4611686018427387904/\True:=h
 show V3Sa a;rw[DXZ]<;> delta JB hd6 EM FL AR RP AK BO CI AO SH FI gI qH AH AZ BZ FQ HT EJ EW ADX AY XX BD Kj QA UK LB XE MI AZC Ef VS ON WB Bq Zm VV Q8;simp[h,RI])) _
def d4Sa:List AVal->Heap->Option (MSa×List (Nat×Nat)×List Nat)
 |[y,.fn _ _ _],H=>match vE y H with
  |some (n,g,f)=>some (⟨default,KA n λi=>Ty (g i)⟩,[],f)
  |none=>none
 |_,_=>none
def A4Sa:Ann:={ ann 9 [(CEA,C3Sa.spec d3Sa)] with E:=[] }
def C4Sa:Ctr:={ ro:=[],α:=MSa,xs:=λa=>[.d (SR a.l),fvSa a.q],L:=λa=>[],val:=λa=>.bool (a.l.all λx=>qF x),keep:=λa=>[],pre:=PSa }
def V4Sa(a:MSa):Prop:=BG Try.prog A4Sa F_eS (AL F_eS) (C4Sa.xs a) (AF (C4Sa.L a)) (C4Sa.val a) (C4Sa.keep a) [] []
abbrev hd84:=@List.all Span
attribute [go_sem] hd84
theorem DVM(a:MSa):(V4Sa a)=(And (ON (Bq (gI a) (Ef a)) (AK (λi=>VV i (Q8 a) (WB (LB (gI a) i) (gI a) i) (LB (gI a) i) (gI a) i)) (Q8 a)) (XJ (hd84 (gI a) qF) (MI (λi=>qF (LB (gI a) i)) (Q8 a)))):=by kernel_rfl
theorem DNT(a:MSa)(h:EL (PSa a)):FnT Try.prog n_eS (C4Sa.xs a) (AF (C4Sa.L a)) (C4Sa.val a) (C4Sa.keep a):=Mj (A:=A4Sa) (ren:=[]) (fz:=[]) DMB (by kernel_rfl) (AB DUB AG) (by
 have h':a.l.length<4611686018427387904/\True:=h
 show V4Sa a;rw[DVM]<;> delta JB hd6 EM FL AR RP AK BO CI AO SH FI gI qH hd84 AH AZ BZ FQ HT EJ EW ADX AY XX BD Kj QA UK LB XE MI Ef VS ON XJ WB Bq VV Q8;simp only[CCQ,eq_self,implies_true,forall_const,ge_iff_le]
 rw[<-AYF]
 exact⟨h'.1,rfl⟩)
theorem DXJ:AM Try.prog n_eS (C4Sa.spec d4Sa):=Ctr.spec_ok (C:=C4Sa) DNT _
def fvSn(q:One):AVal:=.fn (.func CCW) [] []
def BSn(q:One):AObj:=.box [fvSn q]
structure ESn where
 q:One
 e:Span
structure MSn where
 q:One
 l:List Span
def C1Sn:Ctr:={ ro:=[100],α:=ESn,xs:=λa=>[.d (TF a.e),.bptr 100 0],L:=λa=>(100,BSn a.q) :: [],val:=λa=>.bool (!qF a.e),keep:=λa=>(100,.live (BSn a.q)) :: [] }
def d1Sn:List AVal->Heap->Option (ESn×List (Nat×Nat)×List Nat)
 |[.d d,.bptr id _],H=>some (⟨default,Ty d⟩,[(100,id)],[])
 |_,_=>none
def A1Sn:Ann:={ ann 8 [(CCW,CCG)] with E:=[100] }
def V1Sn(a:ESn):Prop:=BG Try.prog A1Sn CEC (AL CEC) (C1Sn.xs a) (AF (C1Sn.L a)) (C1Sn.val a) (C1Sn.keep a) [] []
theorem DUA(a:ESn):(V1Sn a)=(FJ (not (qF (ESn.e a)))):=by kernel_rfl
theorem DYI:AM Try.prog BDE (C1Sn.spec d1Sn):=WY C1Sn (λ_=>A1Sn) [] [] CUG (λ_=>by kernel_rfl) (λ_=>AB DJK AG) (λ(a:ESn) h=>by
 show V1Sn a;rw[DUA]<;> delta JB FJ;try simp[MQ,RI]) (λ_=>YE rfl rfl) _
def d2Sn:List AVal->Heap->Option (MSn×List (Nat×Nat)×List Nat)
 |[y,.fn _ _ [.bptr id _]],H=>match vE y H with
  |some (n,g,f)=>some (⟨default,KA n λi=>Ty (g i)⟩,[(100,id)],f)
  |none=>none
 |_,_=>none
def A2Sn(a:MSn):Ann:={ ann 19 [(BDE,C1Sn.spec d1Sn)] with E:=[100],loops:=λid=>if id=2 then some [{ α:=Nat,dflt:=0,T:=λk=>⟨[(0,.d (SR a.l)),(1,.fn (.func BDE) [] [.bptr 100 0]),(7,.int a.l.length),(8,.int k)],(100,.live (BSn a.q)) :: []⟩,inv:=λk=>k<=a.l.length/\Gs (λi=>!qF (gD a.l i)) a.l.length 0=Gs (λi=>!qF (gD a.l i)) (a.l.length-k) k,meas:=λk=>a.l.length-k }] else none }
def PSn(a:MSn):List Prop:=[a.l.length<4611686018427387904/\True]
def C2Sn:Ctr:={ ro:=[100],α:=MSn,xs:=λa=>[.d (SR a.l),.fn (.func BDE) [] [.bptr 100 0]],L:=λa=>(100,BSn a.q) :: [],val:=λa=>.int (Gs (λi=>!qF (gD a.l i)) a.l.length 0),keep:=λa=>(100,.live (BSn a.q)) :: [],pre:=PSn }
def V2Sn(a:MSn):Prop:=BG Try.prog (A2Sn a) CFH (AL CFH) (C2Sn.xs a) (AF (C2Sn.L a)) (C2Sn.val a) (C2Sn.keep a) [] []
abbrev gG:=MSn.l
abbrev Ed a:=RP (gG a)
abbrev cV a b:=AZC (gG a) b
attribute [go_sem] gG Ed cV
theorem DXA(a:MSn):(V2Sn a)=(KF (λi=>QB (EP (PH (gG a)) (QY (gG a)) (AU (Ed a)) (BS i)) i (Ed a) (Bj (λj=>cV a j) (Ed a) (λj=>cV a j) i i)) (λi=>NA i (Ed a) (Bj (λj=>cV a j) (Ed a) (λj=>cV a j) i i) (AU (Ed a)) (KM (AH (DU i (Ed a)) (Mx (gG a) i) (Mz (gG a) i)) (cV a i) (Ap (λj=>cV a j) (Ed a) (AU i)) (LA (λj=>RN (EP (PH (gG a)) (QY (gG a)) (AU (Ed a)) (AV j i)) j (Ed a) (Bj (λk=>cV a k) (Ed a) (λk=>cV a k) j j) i))) (Ap (λj=>cV a j) (Ed a) (-1)))):=by kernel_rfl
theorem p2Sn(a:MSn)(h:EL (PSn a)):V2Sn a:=by
 obtain⟨h,hp⟩:a.l.length<4611686018427387904/\True:=h
 rw[DXA]<;> delta EM FL NE AR RP AK BO CI AO SH AU EA DV JD DJ DX OP IS LA gG AH AZ EV AI BI DK HA BZ ED BC IZ HE EU GY GV CK FK XX CE MW EC AV BF ES Cc FF JO PH UK CX NT Mz Mx Ap BS EP HR DU ADW QY AZC Ed Rh KF KM Bc QB NA Fe RN cV Bj
 simp only[CCQ,eq_self,implies_true,forall_const]
 refine⟨⟨0,rfl,Nat.zero_le _,rfl⟩,λk ⟨h1,h2⟩=>⟨λhlt=>?_,λhge=>?_⟩⟩
 ·have hlt:k<a.l.length:=by omega
  refine⟨⟨by omega,by omega⟩,λhp=>?_,λhp=>⟨k+1,(FN (by omega)).symm,⟨by omega,?_⟩,by omega⟩⟩
  ·rw[h2];exact Wd hlt (by simpa using hp)
  ·rw[h2];exact F3 hlt (by simpa using hp)
 ·rw[h2];exact jL (by omega)
theorem DWE:AM Try.prog CDJ (C2Sn.spec d2Sn):=WY C2Sn A2Sn [] [] CWU (λ_=>by kernel_rfl) (λ_=>AB DYI AG) p2Sn (λ_=>YE rfl rfl) _
def C3Sn:Ctr:={ C2Sn with val:=λ(a:MSn)=>.bool (decide (Gs (λi=>!qF (gD a.l i)) a.l.length 0>=0)) }
def d3Sn:List AVal->Heap->Option (C3Sn.α×List (Nat×Nat)×List Nat):=d2Sn
def A3Sn:Ann:={ ann 9 [(CDJ,C2Sn.spec d2Sn)] with E:=[100] }
def V3Sn(a:MSn):Prop:=BG Try.prog A3Sn CEN (AL CEN) (C3Sn.xs a) (AF (C3Sn.L a)) (C3Sn.val a) (C3Sn.keep a) [] []
abbrev E8 a:=QA (gG a)
attribute [go_sem] E8
theorem DVD(a:MSn):(V3Sn a)=(And (ON (Bq (gG a) (Ed a)) (AK (λi=>VV i (E8 a) (WB (LB (gG a) i) (gG a) i) (LB (gG a) i) (gG a) i)) (E8 a)) (JB (MI (λi=>cV a i) (Ed a)) (MI (λi=>qF (LB (gG a) i)) (E8 a)))):=by kernel_rfl
theorem DUX:AM Try.prog CEA (C3Sn.spec d3Sn):=Ctr.spec_ok (C:=C3Sn) (λ(a:MSn) h=>Mj (A:=A3Sn) (ren:=[]) (fz:=[]) DFE (by kernel_rfl) (AB DWE AG) (by
 obtain⟨h,hp⟩:a.l.length<4611686018427387904/\True:=h
 show V3Sn a;rw[DVD]<;> delta JB hd6 EM FL AR RP AK BO CI AO SH FI qH gG AH AZ BZ FQ HT EJ EW ADX AY XX BD Kj QA UK LB XE MI AZC Ed VS ON WB cV Bq VV E8;simp[h,RI])) _
def A4Sn:Ann:={ ann 9 [(CEA,C3Sn.spec d3Sn)] with E:=[] }
def C4Sn:Ctr:={ ro:=[],α:=MSn,xs:=λa=>[.d (SR a.l),fvSn a.q],L:=λa=>[],val:=λa=>.bool (a.l.all λx=>qF x),keep:=λa=>[],pre:=PSn }
def V4Sn(a:MSn):Prop:=BG Try.prog A4Sn F_eS (AL F_eS) (C4Sn.xs a) (AF (C4Sn.L a)) (C4Sn.val a) (C4Sn.keep a) [] []
theorem DTI(a:MSn):(V4Sn a)=(And (ON (Bq (gG a) (Ed a)) (AK (λi=>VV i (E8 a) (WB (LB (gG a) i) (gG a) i) (LB (gG a) i) (gG a) i)) (E8 a)) (XJ (hd84 (gG a) qF) (MI (λi=>qF (LB (gG a) i)) (E8 a)))):=by kernel_rfl
theorem DXC(a:MSn)(h:EL (PSn a)):FnT Try.prog n_eS (C4Sn.xs a) (AF (C4Sn.L a)) (C4Sn.val a) (C4Sn.keep a):=Mj (A:=A4Sn) (ren:=[]) (fz:=[]) DMB (by kernel_rfl) (AB DUX AG) (by
 have h':a.l.length<4611686018427387904/\True:=h
 show V4Sn a;rw[DTI]<;> delta JB hd6 EM FL AR RP AK BO CI AO SH FI qH hd84 gG AH AZ BZ FQ HT EJ EW ADX AY XX BD Kj QA UK LB XE MI Ed VS ON XJ WB Bq VV E8;simp only[CCQ,eq_self,implies_true,forall_const,ge_iff_le]
 rw[<-AYF]
 exact⟨h'.1,rfl⟩)
structure N2 where
 q:Nt
 e:Nt
def ntB(q:Nt):AObj:=.box [.int q.mi,.int q.t.lo,.int q.t.hi,.int q.s.lo,.int q.s.hi]
def DBG(H:Heap)(id:Nat):Option Nt:=match H id with
 | .live (.box [.d a,.d b,.d c,.d d,.d e])=>some ⟨EO a,⟨EO b,EO c⟩,⟨EO d,EO e⟩⟩
 |_=>none
def C_ck2:Ctr:={ ro:=[100],α:=N2,xs:=λa=>[.d (eNt a.e),.bptr 100 0],L:=λa=>[(100,ntB a.q)],val:=λa=>.bool (a.e.mi==a.q.mi),keep:=λa=>[(100,.live (ntB a.q))] }
def DOP:List AVal->Heap->Option (N2×List (Nat×Nat)×List Nat)
 |[.d d,.bptr id _],H=>match DBG H id with
  |some q=>some (⟨q,dNt d⟩,[(100,id)],[])
  |none=>none
 |_,_=>none
def DNA:Ann:={ ann 9 [] with E:=[100] }
def DNE(a:N2):Prop:=BG Try.prog DNA BOQ (AL BOQ) (C_ck2.xs a) (AF (C_ck2.L a)) (C_ck2.val a) (C_ck2.keep a) [] []
abbrev Cu:=@BEq.beq Int (@instBEqOfDecidableEq Int Int.instDecidableEq)
abbrev AAK a b:=Cu (ZF a) b
attribute [go_sem] Cu AAK
theorem DPC(a:N2):(DNE a)=(BB (FJ (AAK (N2.e a) (ZF (N2.q a)))) (Zc (N2.q a)) (Gw (N2.q a)) (Su (N2.q a)) (Hh (N2.q a)) (Sb (N2.q a))):=by kernel_rfl
theorem DRJ:AM Try.prog AAP (C_ck2.spec DOP):=WY C_ck2 (λ_=>DNA) [] [] CTS (λ_=>by kernel_rfl) (λ_=>AG) (λ(a:N2) _=>by
 show DNE a;rw[DPC]<;> delta JB EM FL ZF NU XB AO Cu AH AJ AI FJ HA IZ BB Gw Hh Sb Su AAK Zc;try simp) (λ_=>YE rfl rfl) _
structure MNc where
 q:Nt
 l:List Nt
def d2Nc:List AVal->Heap->Option (MNc×List (Nat×Nat)×List Nat)
 |[y,.fn _ _ [.bptr id _]],H=>match vE y H with
  |some (n,g,f)=>match DBG H id with
   |some q=>some (⟨q,KA n λi=>dNt (g i)⟩,[(100,id)],f)
   |none=>none
  |none=>none
 |_,_=>none
def A2Nc(a:MNc):Ann:={ ann 19 [(AAP,C_ck2.spec DOP)] with E:=[100],loops:=λid=>if id=2 then some [{ α:=Nat,dflt:=0,T:=λk=>⟨[(0,.d (eNts a.l)),(1,.fn (.func AAP) [] [.bptr 100 0]),(7,.int a.l.length),(8,.int k)],[(100,.live (ntB a.q))]⟩,inv:=λk=>k<=a.l.length/\Gs (λi=>(gD a.l i).mi==a.q.mi) a.l.length 0=Gs (λi=>(gD a.l i).mi==a.q.mi) (a.l.length-k) k,meas:=λk=>a.l.length-k }] else none }
def C2Nc:Ctr:={ ro:=[100],α:=MNc,xs:=λa=>[.d (eNts a.l),.fn (.func AAP) [] [.bptr 100 0]],L:=λa=>[(100,ntB a.q)],val:=λa=>.int (Gs (λi=>(gD a.l i).mi==a.q.mi) a.l.length 0),keep:=λa=>[(100,.live (ntB a.q))],pre:=λa=>[a.l.length<4611686018427387904/\True] }
def V2Nc(a:MNc):Prop:=BG Try.prog (A2Nc a) CHQ (AL CHQ) (C2Nc.xs a) (AF (C2Nc.L a)) (C2Nc.val a) (C2Nc.keep a) [] []
abbrev hd91:=MNc.q
abbrev xJ a:=Sb (hd91 a)
abbrev pB a:=Hh (hd91 a)
abbrev uX a:=Su (hd91 a)
abbrev oB a:=Gw (hd91 a)
abbrev pR a:=AI (ZF (hd91 a))
abbrev MX a:=Hc (MNc.l a)
abbrev BGT a b:=AAK a (ZF (hd91 b))
abbrev MA a b:=Gh (MNc.l a) b
abbrev oC a b c:=BGT (MA a b) c
abbrev LP a(b:Nat->Prop) c d e f g h p:=AP a (AK b) c d e f g h p
abbrev AOU a b c d e f g h:=AP a b c d e f b g h
attribute [go_sem] hd91 xJ pB uX oB pR MX BGT MA oC LP AOU
theorem DXK(a:MNc):(V2Nc a)=(KF (λi=>QB (LP (BI (MX a)) (λj=>SE j (MX a) (Zc (MA a j)) (Gw (MA a j)) (Su (MA a j)) (Hh (MA a j)) (Sb (MA a j))) (TT (MX a)) (BS i) (pR a) (oB a) (uX a) (pB a) (xJ a)) i (MX a) (AO (Gs (λj=>oC a j a) (MX a) 0) (Gs (λj=>oC a j a) (IS (MX a) i) i))) (λi=>NA i (MX a) (AO (Gs (λj=>oC a j a) (MX a) 0) (Gs (λj=>oC a j a) (IS (MX a) i) i)) (AU (MX a)) (BF (HX (DU i (MX a)) (Zc (MA a i)) (Gw (MA a i)) (Su (MA a i)) (Hh (MA a i)) (Sb (MA a i)) (pR a) (AOU (oB a) (uX a) (pB a) (xJ a) (pR a) (oB a) (pB a) (xJ a))) (oC a i a) (BB (AO (Gs (λj=>oC a j a) (MX a) 0) (AU i)) (pR a) (oB a) (uX a) (pB a) (xJ a)) (LA (λj=>RN (LP (BI (MX a)) (λk=>SE k (MX a) (Zc (MA a k)) (Gw (MA a k)) (Su (MA a k)) (Hh (MA a k)) (Sb (MA a k))) (TT (MX a)) (AV j i) (pR a) (oB a) (uX a) (pB a) (xJ a)) j (MX a) (AO (Gs (λk=>oC a k a) (MX a) 0) (Gs (λk=>oC a k a) (IS (MX a) j) j)) i))) (BB (AO (Gs (λj=>oC a j a) (MX a) 0) (-1)) (pR a) (oB a) (uX a) (pB a) (xJ a)))):=by kernel_rfl
theorem p2Nc(a:MNc)(h:EL (C2Nc.pre a)):V2Nc a:=by
 obtain⟨h,hp⟩:a.l.length<4611686018427387904/\True:=h
 rw[DXK]<;> delta EM FL ZF NE NU XB AR AK BO CI AO AU EA DV JD DJ DX OP IS Hc Gh LA Cu hd91 AH AJ AZ EV AI BI DK AP HA ED BC IZ AOU EU GY AY SE GV BB CK FK CE MW EC AV BF ES FF JO CX NT MA Gw MX BS HR Hh DU HX KF TT Sb Bc Su LP QB NA AAK Fe RN BGT pB pR oB Zc oC uX xJ
 simp only[CCQ,eq_self,implies_true,forall_const]
 refine⟨⟨0,rfl,Nat.zero_le _,rfl⟩,λk ⟨h1,h2⟩=>⟨λhlt=>?_,λhge=>?_⟩⟩
 ·have hlt:k<a.l.length:=by omega
  refine⟨⟨by omega,by omega⟩,λhp=>?_,λhp=>⟨k+1,(FN (by omega)).symm,⟨by omega,?_⟩,by omega⟩⟩
  ·rw[h2];exact Wd hlt (by simpa using hp)
  ·rw[h2];exact F3 hlt (by simpa using hp)
 ·rw[h2];exact jL (by omega)
theorem DWQ:AM Try.prog CGA (C2Nc.spec d2Nc):=WY C2Nc A2Nc [] [] CUP (λ_=>by kernel_rfl) (λ_=>AB DRJ AG) p2Nc (λ_=>YE rfl rfl) _
def C3Nc:Ctr:={ C2Nc with val:=λ(a:MNc)=>.bool (a.l.any λx=>x.mi==a.q.mi) }
def d3Nc:List AVal->Heap->Option (C3Nc.α×List (Nat×Nat)×List Nat):=d2Nc
def A3Nc:Ann:={ ann 9 [(CGA,C2Nc.spec d2Nc)] with E:=[100] }
def V3Nc(a:MNc):Prop:=BG Try.prog A3Nc CDM (AL CDM) (C3Nc.xs a) (AF (C3Nc.L a)) (C3Nc.val a) (C3Nc.keep a) [] []
abbrev GP a b c d e:=AJ (AI a) b c d e
abbrev bL a b c d e:=GP (ZF a) b (IZ c) d (IZ e)
abbrev bV a:=bL a (Gw a) (NU a) (Hh a) (XB a)
attribute [go_sem] GP bL bV
theorem DUG(a:MNc):(V3Nc a)=(AH (BB (AR (aS (MX a) (λi=>MA a i)) (MX a)) (AK (λi=>SE i (aS (MX a) (λj=>MA a j)) (Kd (Kv (MX a) (λj=>MA a j) i) (MA a i)) (EW (NU (Kv (MX a) (λj=>MA a j) i)) (NU (MA a i))) (EJ (NU (Kv (MX a) (λj=>MA a j) i)) (NU (MA a i))) (iA (Kv (MX a) (λj=>MA a j) i) (MA a i)) (QD (Kv (MX a) (λj=>MA a j) i) (XB (MA a i))))) (pR a) (oB a) (uX a) (AOU (pB a) (xJ a) (pR a) (oB a) (uX a) (pB a) (BD (aS (MX a) (λi=>MA a i))) FI)) (JB ((@List.any Nt) (MNc.l a) (λi=>BGT i a)) (XE (Gs (λi=>BGT (Kv (MX a) (λj=>MA a j) i) a) (aS (MX a) (λi=>MA a i)) 0))) (bV (hd91 a))):=by kernel_rfl
theorem CXB{α:Type}[Inhabited α]{p:α->Bool}{l:List α}:decide (0<=Gs (λi=>p (gD l i)) l.length 0)=l.any p:=by
 rw[Bool.eq_iff_iff,decide_eq_true_eq,BYW,List.any_eq_true]
 exact⟨λ⟨i,_,h1,h2⟩=>⟨gD l i,HI (by omega),h2⟩,λ⟨x,hx,h2⟩=>by obtain⟨i,hi,rfl⟩:=aQ hx;exact⟨i,Nat.zero_le _,by omega,h2⟩⟩
theorem DYF:AM Try.prog CGW (C3Nc.spec d3Nc):=Ctr.spec_ok (C:=C3Nc) (λ(a:MNc) h=>Mj (A:=A3Nc) (ren:=[]) (fz:=[]) CWS (by kernel_rfl) (AB DWQ AG) (by
 obtain⟨h,hp⟩:a.l.length<4611686018427387904/\True:=h
 show V3Nc a;rw[DUG]<;> delta JB hd6 EM FL ZF NU XB AR AK BO CI AO Hc Gh jM FI Cu hd91 AH AJ AZ AI AP HA IZ AOU FQ HT EJ EW SE BB BD SB GP MA Kd QD RO Gw MX Hh bL Kv iA XE Sb aS Su bV AAK BGT pB pR oB uX xJ;simp only[CCQ,eq_self,implies_true,forall_const,ge_iff_le]
 rw[<-CXB]
 simp[h,RI])) _
end Go.Bal
