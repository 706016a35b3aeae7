/- Package chart: the order of notes, fewer than 13. Turned from RatR. -/
import Derived.Test.YtdbjalgfomknhaaGreatChD3
set_option linter.unusedVariables false
set_option linter.unusedSimpArgs false
namespace Go.Bal
open Go Go.Sym Go.Proofs
def CGO(x:Int):Prop:=ES Try.prog (ann 6 []) BPZ (AJ BPZ) (xI1 x) (AD []) (.bool false) [] [] []
abbrev lY a:=QR a a
attribute [go_sem] lY
theorem CNY(x:Int):(CGO x)=(MD Iv (lY x)):=by kernel_rfl
def BNZ:=pD dI1 λ_=>.bool false
theorem CLD:AW Try.prog BJR BNZ:=cC xI1 hI1 λg _=>Wk (A:=ann 6 []) (ren:=[]) (fz:=[]) CKM (by kernel_rfl) AK (by
 show CGO g;rw[CNY]<;> delta MD Iv QR lY;simp)
def cmpM(a b:Int):Int:=bif decide (a<b) then -1 else bif decide (a>b) then 1 else 0
def CFE(x:I2):Prop:=ES Try.prog (ann 20 [(BJR,BNZ)]) BNS (AJ BNS) (xI2 x) (AD []) (.int (cmpM x.a x.b)) [] [] []
theorem CIL(x:I2):(CFE x)=(FV (NL (Wh x) (Qk x)) (AY (cmpM (Wh x) (Qk x)) (-1)) (FV (WB (Wh x) (Qk x)) (OB (cmpM (Wh x) (Qk x))) (FG (cmpM (Wh x) (Qk x))))):=by kernel_rfl
def CGQ:=pD dI2 λx=>.int (cmpM x.a x.b)
theorem CMS:AW Try.prog BQD CGQ:=cC xI2 hI2 λg _=>Wk (A:=ann 20 [(BJR,BNZ)]) (ren:=[]) (fz:=[]) CND (by kernel_rfl) (AA CLD AK) (by
 show CFE g;rw[CIL]<;> delta AY FV NL WB Wh Qk FG OB;unfold cmpM;by_cases h:g.a<g.b<;>by_cases h2:g.b<g.a<;>simp[h,h2])
structure GAB where
 g:Cht
 a:Int
 b:Int
def aE(c:Cht)(x:Int):Int:=(gD c.ns x.toNat).mi
def bxG(c:Cht):AObj:=xO c
def dGAB:List AVal->Heap->Option (GAB×List (Nat×Nat)×List Nat)
 |[.d x,.d y,.bptr id _],H=>match rG H id with
  |some q=>some (⟨q,KN x,KN y⟩,[(100,id)],[])
  |none=>none
 |_,_=>none
def C_fw1:Ctr:={ ro:=[100],α:=GAB,xs:=λa=>[.int a.a,.int a.b,.bptr 100 0],L:=λa=>[(100,bxG a.g)],val:=λa=>.int (cmpM (aE a.g a.a) (aE a.g a.b)),keep:=λa=>[(100,.live (bxG a.g))],pre:=λa=>[(0<=a.a/\a.a<a.g.ns.length)/\0<=a.b/\a.b<a.g.ns.length] }
def CQQ:Ann:={ ann 19 [(BQD,CGQ)] with E:=[100] }
def CRF(a:GAB):Prop:=ES Try.prog CQQ BPL (AJ BPL) (C_fw1.xs a) (AD (C_fw1.L a)) (C_fw1.val a) (C_fw1.keep a) [] []
abbrev AJM:=GAB.g
abbrev Ni a b:=BR a (HM b)
abbrev Us a b:=DN a (AO b)
attribute [go_sem] AJM Ni Us
theorem CUL(a:GAB):(CRF a)=(AH (YG (GAB.a a) (AO (AJM a)) (BX (GAB.b a)) (Us (GAB.b a) (AJM a))) (AY (cmpM (aE (AJM a) (GAB.a a)) (aE (AJM a) (GAB.b a))) (cmpM (Ni (AJM a) (GAB.a a)) (Ni (AJM a) (GAB.b a)))) (KP (AJM a))):=by kernel_rfl
def rowI(l:List Int):AObj:=.row 1 l.length λi=>Gk (gD l i)
def DAR(n:Nat)(l:List Int):AObj:=.row 1 n λi=>Gk (gD l i)
def swL(l:List Int)(j:Nat):List Int:=(l.set j (gD l (j+1))).set (j+1) (gD l j)
def insJ(key:Int->Int):Nat->List Int->List Int
 |0,l=>l
 |j+1,l=>bif decide (cmpM (key (gD l (j+1))) (key (gD l j))<0) then insJ key j (swL l j) else l
def stR(key:Int->Int):Nat->Nat->List Int->List Int
 |0,_,l=>l
 |n+1,i,l=>stR key n (i+1) (insJ key i l)
def stM(key:Int->Int)(l:List Int):List Int:=stR key (l.length-1) 1 l
structure GL where
 g:Cht
 l:List Int
 a:Int
 b:Int
structure IL2 where
 i:Nat
 l:List Int
 deriving Inhabited
structure IJL where
 i:Nat
 j:Nat
 l:List Int
 deriving Inhabited
def fnW1:AVal:=.fn (.func jE) [] [.bptr 101 0]
def glK(a:GL)(l:List Int):List (Nat×HCell):=[(100,.live (DAR a.l.length l)),(101,.live (bxG a.g))]
def glIn(a:GL)(l:List Int):Prop:=l.length=a.l.length/\∀i,i<a.l.length->0<=gD l i/\gD l i<a.g.ns.length
def glOk(a:GL):Prop:=a.l.length<1073741824/\∀i,i<a.l.length->0<=gD a.l i/\gD a.l i<a.g.ns.length
def dGL:List AVal->Heap->Option (GL×List (Nat×Nat)×List Nat)
 |[.own id _ _ n,.d x,.d y,.fn (.func f) [] [.bptr c _]],H=>if f=jE then match H id,rG H c with
  | .live (.row _ m r),some q=>some (⟨q,NK n λi=>KN (r i),KN x,KN y⟩,[(100,id),(101,c)],[])
  |_,_=>none else none
 |_,_=>none
def C_ins:Ctr:={ ro:=[101],α:=GL,xs:=λa=>[.own 100 1 0 a.l.length,.int a.a,.int a.b,fnW1],L:=λa=>[(100,rowI a.l),(101,bxG a.g)],val:=λ_=>.d (.tup []),keep:=λa=>glK a (stM (aE a.g) a.l),pre:=λa=>[(a.a=0/\a.b=a.l.length)/\glOk a] }
def ins1(a:GL):Shape:={ α:=IL2,dflt:=default,T:=λx=>⟨[(0,.own 100 1 0 a.l.length),(1,.int 0),(2,.int a.l.length),(3,fnW1),(8,.int x.i)],glK a x.l⟩,inv:=λx=>1<=x.i/\(x.i<=a.l.length∨x.i=1)/\glIn a x.l/\stM (aE a.g) a.l=stR (aE a.g) (a.l.length-x.i) x.i x.l,meas:=λx=>a.l.length-x.i }
def ins4(a:GL)(m:Nat):Shape:={ α:=IJL,dflt:=default,T:=λx=>⟨[(0,.own 100 1 0 a.l.length),(1,.int 0),(2,.int a.l.length),(3,fnW1),(8,.int x.i),(9,.int x.j)],glK a x.l⟩,inv:=λx=>a.l.length-x.i=m/\1<=x.i/\x.i<a.l.length/\x.j<=x.i/\glIn a x.l/\stM (aE a.g) a.l=stR (aE a.g) (a.l.length-(x.i+1)) (x.i+1) (insJ (aE a.g) x.j x.l),meas:=λx=>x.j }
def COX(a:GL):Ann:={ ann 53 [(jE,C_fw1.spec dGAB)] with E:=[100,101],loops:=λid=>if id=1 then some [ins1 a] else none,inner:=λgs id=>if id=4 then some [ins4 a (gs.getD 0 0)] else none }
def CPA(a:GL):Prop:=ES Try.prog (COX a) AZK (AJ AZK) [.own 100 1 0 a.l.length,.int 0,.int a.l.length,fnW1] (AD (C_ins.L a)) (C_ins.val a) (C_ins.keep a) [] []
abbrev Gg:=GL.l
abbrev Le:=IL2.i
abbrev cH:=IL2.l
abbrev FJ:=GL.g
abbrev AED:=@Eq (List Int)
abbrev Zi:=IJL.i
abbrev Qy:=IJL.j
abbrev tI:=IJL.l
abbrev jB a:=KP (FJ a)
abbrev aF a:=aE (FJ a)
abbrev fJ a b:=stM (aF a) (Gg b)
abbrev jL a:=Ge (Gg a)
abbrev NM a:=FP (Gg a)
abbrev Pb a b c d:=BF a b (BX c) d
abbrev oT a:=EF (NM a)
abbrev W2 a:=KJ (Zi a)
abbrev Ue a b:=FS (tI a) b
abbrev PC a b c d:=MW (IG a b) c d
abbrev FI a b c:=PC a b a c
abbrev Xk a b c d e:=GQ a b (HO c d e)
abbrev vP a:=VJ (Qy a)
abbrev U9 a:=ZX (vP a)
abbrev A9 a:=BG (Qy a)
abbrev CV a b:=FL a (CG b)
abbrev GT a b c d:=AH (CE a b) c d
abbrev Xw a b c:=IB a (NL b c)
abbrev Ie a:=UP a 0
abbrev pH a b:=IT (Ie a) b
abbrev cL a b:=DN a (HF b)
abbrev wC a:=BM (FJ a)
abbrev vR a:=DF (FJ a)
abbrev xF a:=BY (FJ a)
attribute [go_sem] Gg Le cH FJ AED Zi Qy tI jB aF fJ jL NM Pb oT W2 Ue PC FI Xk vP U9 A9 CV GT Xw Ie pH cL wC vR xF
theorem CUU(a:GL):(CPA a)=(And ((@Exists IL2) (λi=>AI (And AG (CS (jL a) BP (oT a) (Fz (Le i)) (jL a) (AB (λj=>HH j (Gg a) (cH i) j (Gg a) j)) (jB a))) (NF (Le i)) (Or (CW (Le i) (NM a)) (LP (Le i))) (JK (IZ (cH i) (Gg a)) (λj=>Pb j (NM a) (FS (cH i) j) (Us (FS (cH i) j) (FJ a)))) (AED (fJ a a) (stR (aF a) (IG (NM a) (Le i)) (Le i) (cH i))))) ((λ(f:IL2->Prop)=>∀(x:IL2),f x) (λi=>OO (FY (NF (Le i)) (Or (CW (Le i) (NM a)) (LP (Le i))) (JK (IZ (cH i) (Gg a)) (λj=>Pb j (NM a) (FS (cH i) j) (Us (FS (cH i) j) (FJ a)))) (AED (fJ a a) (stR (aF a) (IG (NM a) (Le i)) (Le i) (cH i)))) (Le i) (NM a) ((@Exists IJL) (λj=>CS (yN AG (jL a) BP (oT a) (CV (Zi j) (Le i)) (CV (Qy j) (Le i)) (AB (λk=>HH k (Gg a) (tI j) k (cH i) k)) (jB a)) (FI (NM a) (Zi j) (Le i)) (NF (Zi j)) (CE (Zi j) (NM a)) (CW (Qy j) (Zi j)) (JK (IZ (tI j) (Gg a)) (λk=>Pb k (NM a) (Ue j k) (Us (Ue j k) (FJ a)))) (AED (fJ a a) (stR (aF a) (IG (NM a) (W2 j)) (W2 j) (insJ (aF a) (Qy j) (tI j)))))) ((λ(f:IJL->Prop)=>∀(x:IJL),f x) (λj=>CJ (Bq (FI (NM a) (Zi j) (Le i)) (NF (Zi j)) (CE (Zi j) (NM a)) (CW (Qy j) (Zi j)) (JK (IZ (tI j) (Gg a)) (λk=>Pb k (NM a) (Ue j k) (Us (Ue j k) (FJ a)))) (AED (fJ a a) (stR (aF a) (IG (NM a) (W2 j)) (W2 j) (insJ (aF a) (Qy j) (tI j))))) (Ic (AI (pH (Qy j) (NJ (Qy j) (NM a))) (pH (Qy j) (HU (A9 j) (NM a))) (UV (Ie (Qy j)) (vP j) (NM a)) (pH (Qy j) (XZ (vP j) (NM a))) (pH (Qy j) (CS (HT (tI j) (A9 j)) (HT (tI j) (U9 j)) (xF a) (vR a) (wC a) (BV (FJ a)) (CF (BQ (FJ a)) (BW (FJ a)) (DK (FJ a)) (BO (FJ a)) (λk=>AT k (FJ a) (AM (FJ a) k) (AN (FJ a) k) (AS (FJ a) k) (AC (FJ a) k) (AL (FJ a) k) (AR (FJ a) k) (AE (FJ a) k)) (xF a) (vR a) (wC a) (Dp (FJ a) (HS (FJ a)) (Gc (FJ a)) (KS (FJ a)) (λk=>AU k (FJ a) (EI (FJ a) k) (EJ (FJ a) k) (AC (FJ a) k) (AS (FJ a) k) (EH (FJ a) k) (AE (FJ a) k) (AR (FJ a) k)) (HZ (Ue j (A9 j)) (HF (FJ a))) (BX (Ue j (U9 j))) (cL (Ue j (U9 j)) (FJ a))))))) (Xw (Ie (Qy j)) (cmpM (aE (FQ (FJ a)) (Ue j (A9 j))) (aE (FQ (FJ a)) (Ue j (U9 j)))) 0) (WY (vP j) (NM a) (GT (U9 j) (NM a) (NJ (Qy j) (NM a)) (Jc (CE (A9 j) (NM a)) (NJ (Qy j) (NM a)) (HZ (vP j) (NM a)) (XZ (vP j) (NM a))))) ((@Exists IJL) (λk=>AH (yN AG (jL a) BP (oT a) (CV (Zi k) (Zi j)) (FL (Qy k) (vP j)) (AB (λl=>Xk l (Gg a) (tI k) l (YD l (vP j) (Ue j (A9 j)) (NU l (A9 j) (Ue j (U9 j)) (Ue j l))))) (jB a)) (Bq (FI (NM a) (Zi k) (Le i)) (NF (Zi k)) (CE (Zi k) (NM a)) (CW (Qy k) (Zi k)) (JK (IZ (tI k) (Gg a)) (λl=>Pb l (NM a) (Ue k l) (Us (Ue k l) (FJ a)))) (AED (fJ a a) (stR (aF a) (IG (NM a) (W2 k)) (W2 k) (insJ (aF a) (Qy k) (tI k))))) (CE (Qy k) (Qy j)))) ((@Exists IL2) (λk=>Jj (CS (jL a) BP (oT a) (BA (Le k) (Zi j)) (jL a) (AB (λl=>HH l (Gg a) (cH k) l (tI j) l)) (jB a)) (FY (NF (Le k)) (Or (CW (Le k) (NM a)) (LP (Le k))) (JK (IZ (cH k) (Gg a)) (λl=>Pb l (NM a) (FS (cH k) l) (Us (FS (cH k) l) (FJ a)))) (AED (fJ a a) (stR (aF a) (IG (NM a) (Le k)) (Le k) (cH k)))) (NM a) (Le k) (Le i)))))) (AH (jL a) (AB (λj=>HH j (Gg a) (fJ a a) j (cH i) j)) (jB a))))):=by kernel_rfl
def CFP:List AVal->Option Int
 |[.d (.v (.int .u64 a))]=>some a
 |_=>none
def BMK(a:Int):List AVal:=[.d (.v (.int .u64 a))]
def BVC(x:Int):Prop:=ES Try.prog (ann 25 []) AZF (AJ AZF) (BMK x) (AD []) .any [] [] []
abbrev F8 a b:=RD IntKind.u8 (uV a b)
attribute [go_sem] F8
theorem CHP(x:Int):(BVC x)=(FV (tJ x 4294967296) (BL (BX 32) (kH 32) (FV (tJ (Xc x) 65536) (BL (BX 16) (kH 16) (FV (tJ (ARV (Xc x) 16) 256) (DT (BX 8) (kH 8) (HZ (F8 (uV (uV x 32) 16) 8) 256) IP) (WY (F8 (uV x 32) 16) 256 IP))) (FV (tJ (Xc x) 256) (DT (BX 8) (kH 8) (HZ (F8 (uV x 32) 8) 256) IP) (WY (F8 x 32) 256 IP)))) (FV (tJ x 65536) (BL (BX 16) (kH 16) (FV (tJ (ARV x 16) 256) (DT (BX 8) (kH 8) (HZ (F8 (uV x 16) 8) 256) IP) (WY (F8 x 16) 256 IP))) (FV (tJ x 256) (DT (BX 8) (kH 8) (HZ (F8 x 8) 256) IP) (WY (RD IntKind.u8 x) 256 IP)))):=by kernel_rfl
def BFL:=pD CFP (λ_=>.any) (λx=>[0<=x/\x<=20])
def CRY(x:Int):Prop:=ES Try.prog (ann 8 [(AKM,BFL)]) BPV (AJ BPV) (BMK x) (AD []) .any [] [] []
theorem CWD(x:Int):(CRY x)=(jV (BX x) (HD x 20)):=by kernel_rfl
def dGLp:List AVal->Heap->Option (GL×List (Nat×Nat)×List Nat)
 |[.own id _ _ n,.d x,.d y,_,.fn (.func f) [] [.bptr c _]],H=>if f=jE then match H id,rG H c with
  | .live (.row _ m r),some q=>some (⟨q,NK n λi=>KN (r i),KN x,KN y⟩,[(100,id),(101,c)],[])
  |_,_=>none else none
 |_,_=>none
def C_pdq:Ctr:={ ro:=[101],α:=GL,xs:=λa=>[.own 100 1 0 a.l.length,.int a.a,.int a.b,.any,fnW1],L:=λa=>[(100,rowI a.l),(101,bxG a.g)],val:=λ_=>.d (.tup []),keep:=λa=>glK a (stM (aE a.g) a.l),pre:=λa=>[((a.a=0/\a.b=a.l.length)/\a.l.length<=12)/\glOk a] }
def pq2(a:GL):Shape:={ α:=One,dflt:=default,T:=λ_=>⟨[(0,.own 100 1 0 a.l.length),(1,.int 0),(2,.int a.l.length),(3,.any),(4,fnW1),(10,.bool true),(11,.bool true)],glK a a.l⟩,inv:=λ_=>True,meas:=λ_=>0 }
def CSN(a:GL):Ann:={ ann 148 [(AUD,C_ins.spec dGL)] with E:=[100,101],loops:=λid=>if id=2 then some [pq2 a] else none }
def CSE(a:GL):Prop:=ES Try.prog (CSN a) BKC (AJ BKC) [.own 100 1 0 a.l.length,.int 0,.int a.l.length,.any,fnW1] (AD (C_pdq.L a)) (C_pdq.val a) (C_pdq.keep a) [] []
abbrev qC a:=WQ (Gg a)
abbrev Ow a b:=AH AG a b
abbrev uK a:=Vf (Gg a)
attribute [go_sem] qC Ow uK
theorem CXN(a:GL):(CSE a)=(And (Dg (AI AG (jL a) BP (oT a) (Qo IU (jL a) (Ak (Gg a)) (jB a)))) (Qj (λi=>ON IP (hd7 (LH (CG (NM a)) 0) 12) (Ow (HL (Gg a)) (BB Sx (oT a) (HL (Gg a)) (QW (Gg a)) (xF a) (vR a) (wC a) (BV (FJ a)) (CF (BQ (FJ a)) (BW (FJ a)) (DK (FJ a)) (BO (FJ a)) (λj=>AT j (FJ a) (AM (FJ a) j) (AN (FJ a) j) (AS (FJ a) j) (AC (FJ a) j) (AL (FJ a) j) (AR (FJ a) j) (AE (FJ a) j)) (xF a) (vR a) (wC a) (Dp (FJ a) (HS (FJ a)) (Gc (FJ a)) (KS (FJ a)) (λj=>AU j (FJ a) (EI (FJ a) j) (EJ (FJ a) j) (AC (FJ a) j) (AS (FJ a) j) (EH (FJ a) j) (AE (FJ a) j) (AR (FJ a) j)) (And Sx (CV (NM a) (uK a))) (MI (uK a)) (AB (λj=>Pb j (uK a) (FS (qC a) j) (cL (FS (qC a) j) (FJ a)))))))) (AH (IZ (Gg a) (qC a)) (AB (λj=>HH j (Gg a) (fJ a a) j (stM (aE (FQ (FJ a))) (qC a)) j)) (jB a)) VS))):=by kernel_rfl
def dGLt:List AVal->Heap->Option (GL×List (Nat×Nat)×List Nat)
 |[.own id _ _ n,.fn (.func f) [] [.bptr c _]],H=>if f=jE then match H id,rG H c with
  | .live (.row _ m r),some q=>some (⟨q,NK n λi=>KN (r i),0,0⟩,[(100,id),(101,c)],[])
  |_,_=>none else none
 |_,_=>none
def C_sort:Ctr:={ ro:=[101],α:=GL,xs:=λa=>[.own 100 1 0 a.l.length,fnW1],L:=λa=>[(100,rowI a.l),(101,bxG a.g)],val:=λ_=>.d (.tup []),keep:=λa=>glK a (stM (aE a.g) a.l),pre:=λa=>[a.l.length<=12/\glOk a] }
def CGK:Ann:={ ann 14 [(BIO,BFL),(BEV,C_pdq.spec dGLp)] with E:=[100,101] }
def CEW(a:GL):Prop:=ES Try.prog CGK AHZ (AJ AHZ) (C_sort.xs a) (AD (C_sort.L a)) (C_sort.val a) (C_sort.keep a) [] []
theorem CIS(a:GL):(CEW a)=(FY (BL (BX (Zh (CG (NM a)))) (HD (Zh (CG (NM a))) 20) (Ow (HL (Gg a)) (BB Sx (oT a) (HL (Gg a)) (QW (Gg a)) (xF a) (vR a) (wC a) (BV (FJ a)) (CF (BQ (FJ a)) (BW (FJ a)) (DK (FJ a)) (BO (FJ a)) (λi=>AT i (FJ a) (AM (FJ a) i) (AN (FJ a) i) (AS (FJ a) i) (AC (FJ a) i) (AL (FJ a) i) (AR (FJ a) i) (AE (FJ a) i)) (xF a) (vR a) (wC a) (Dp (FJ a) (HS (FJ a)) (Gc (FJ a)) (KS (FJ a)) (λi=>AU i (FJ a) (EI (FJ a) i) (EJ (FJ a) i) (AC (FJ a) i) (AS (FJ a) i) (EH (FJ a) i) (AE (FJ a) i) (AR (FJ a) i)) (BL Sx (CV (NM a) (uK a)) (CW (uK a) 12)) (MI (uK a)) (AB (λi=>Pb i (uK a) (FS (qC a) i) (cL (FS (qC a) i) (FJ a))))))))) (IZ (Gg a) (qC a)) (AB (λi=>HH i (Gg a) (fJ a a) i (stM (aE (FQ (FJ a))) (qC a)) i)) (jB a)):=by kernel_rfl
theorem CXE:AW Try.prog jE (C_fw1.spec dGAB):=Je C_fw1 (λ_=>CQQ) [] [] CJK (λ_=>by kernel_rfl) (λ_=>AA CMS AK) (λ(a:GAB) h=>by
 show CRF a;rw[CUL]<;> delta BH BK DY EM EO CH AB CJ CE AY CG HD KA EB FX EC GY GX GR GG DV FO FU HM AJM AH CK AX AI BC AV AF BI AQ BB AC BZ CN BF AE AO DD DC BR BE BS BJ BQ LY BV BM CY BY BX KL DN GD OT OR DF OU HG DT KQ GP NP FT QD HI TQ Fq Ew KP YG Ni Us;simp only[CC,eq_self,implies_true,forall_const]
 exact⟨h,rfl⟩) (λ_=>Kp rfl rfl) _
theorem BTK{l:List Int}{j i:Nat}{x:Int}(hj:j<l.length):gD (l.set j x) i=bif decide (i=j) then x else gD l i:=by
 unfold gD
 rw[List.getD_eq_getElem?_getD,List.getD_eq_getElem?_getD,List.getElem?_set]
 by_cases h:i=j
 ·subst h;simp[hj]
 ·simp[h,Ne.symm h]
theorem BCR{l:List Int}{j i:Nat}(hj:j+1<l.length):gD (swL l j) i=bif decide (i=j) then gD l (j+1) else bif decide (i=j+1) then gD l j else gD l i:=by
 unfold swL
 rw[BTK (by simpa using hj),BTK (by omega)]
 by_cases h:i=j
 ·subst h;simp
 ·simp[h]
theorem BAU(l:List Int)(j:Nat):(swL l j).length=l.length:=by simp[swL]
theorem DBI(a:GL)(h:glOk a):CPA a:=by
 rw[CUU]<;> delta MD N6 Iv BH BK DY RD RU Mr EM EO CH AB CJ CE AY CG MY CW FV NL HD KA UI IG EB FX EC GY GX GR GG DV FO FU FP FS LW WB HM IV ED NR WW Gg Le cH FJ AED Zi Qy tI AH CK IW AX JE AI BC AV AF IK IN BI Jc AQ JB BB AC BZ CN BF MC AE AO BD HK DD LZ AZ DC BG BR BE BS BJ JQ AR BQ LY yN SZ BV HF CI OC EQ GQ BL AS BM CY BY ER FL EV CF AG IE HR BX KL NU CU KJ HO DN MW GD CX OT OR OE LH FQ DF DU HY IC DR OU HG PC OD EA DT KQ HH FE FW AT IZ ZX MJ ZN ZS IT DX HE OF Ge EZ GT EX JJ BA BP NF RG CV HT AU DO CS HU BO BW JH FI AL AN AM GP ID NP FK MQ MN DK SC FT EF QD VW HI IB NM VJ HZ KS HS EH EJ EI JY FH FY Dt JK Fq JL Ew ON UP NJ KP LP QP UV XZ aF Ie OO YD WY Dp Ue vP Xk Zy Gc Bq Fz Pb Us jL jB fJ Ic Xw oT A9 pH cL U9 W2 xF vR Jj wC;simp only[CC,eq_self,implies_true,forall_const]
 obtain⟨hlen,hin⟩:=h
 refine⟨⟨⟨1,a.l⟩,⟨by show (1:Int)=_;rw[Ap (by omega) (by omega)];rfl,λ_ _=>rfl⟩,Nat.one_pos,.inr rfl,⟨rfl,hin⟩,rfl⟩,λx ⟨x1,x2,⟨x3,x4⟩,x5⟩=>⟨λhlt=>⟨⟨⟨x.i,x.i,x.l⟩,⟨rfl,rfl,λ_ _=>rfl⟩,rfl,x1,Int.ofNat_lt.1 hlt,Nat.le_refl _,⟨x3,x4⟩,?_⟩,λy ⟨y1,y2,y3,y4,⟨y5,y6⟩,y7⟩=>?_⟩,λhge=>?_⟩⟩
 ·rw[x5,show a.l.length-x.i=(a.l.length-(x.i+1))+1 by omega];rfl
 ·refine⟨⟨λ_=>⟨by omega,by omega⟩,λ_=>by omega,λhj=>?_,λhj=>?_,λhj=>⟨y6 _ (by omega),?_⟩⟩,λhc=>?_,λhc=>?_⟩
  ·rw[Ap (by omega) (by omega)];omega
  ·rw[Ap (by omega) (by omega)];omega
  ·rw[Ap (by omega) (by omega)];exact y6 _ (by omega)
  ·have hj:0<y.j:=by
    cases hd:decide ((y.j:Int)>0) with
    |false=>rw[hd] at hc;cases hc
    |true=>have:=of_decide_eq_true hd;omega
   obtain⟨j,hj2⟩:∃j,y.j=j+1:=⟨y.j-1,by omega⟩
   have e:IntKind.i64.wrap ((y.j:Int)-1)=(j:Nat):=by rw[Ap (by omega) (by omega)];omega
   rw[decide_eq_true (show (y.j:Int)>0 by omega)] at hc
   have hc:decide (cmpM (aE a.g (gD y.l y.j)) (aE a.g (gD y.l (IntKind.i64.wrap ((y.j:Int)-1)).toNat))<0)=true:=hc
   rw[e] at hc ⊢
   simp only[Int.toNat_natCast] at hc ⊢
   refine⟨⟨⟨by omega,by omega⟩,by omega,⟨by omega,by omega⟩,by omega,⟨by omega,by omega⟩,by omega,⟨by omega,by omega⟩,by omega⟩,⟨y.i,j,swL y.l j⟩,⟨rfl,rfl,λi hi=>?_⟩,⟨y1,y2,y3,by show j<=y.i;omega,⟨by rw[BAU];exact y5,λi hi=>?_⟩,?_⟩,by show j<_;omega⟩
   ·show gD (swL y.l j) i=_
    rw[BCR (by omega),hj2]
   ·show 0<=gD (swL y.l j) i/\gD (swL y.l j) i<_
    rw[BCR (by omega)]
    cases decide (i=j)
    ·cases decide (i=j+1)
     ·exact y6 i hi
     ·exact y6 j (by omega)
    ·exact y6 (j+1) (by omega)
   ·rw[hj2] at hc y7
    unfold insJ at y7
    rw[hc] at y7;exact y7
  ·have hq:insJ (aE a.g) y.j y.l=y.l:=by
    cases hd:decide ((y.j:Int)>0) with
    |false=>
     have:=of_decide_eq_false hd
     rw[show y.j=0 by omega];rfl
    |true=>
     have hj:=of_decide_eq_true hd
     obtain⟨j,hj2⟩:∃j,y.j=j+1:=⟨y.j-1,by omega⟩
     have e:IntKind.i64.wrap ((y.j:Int)-1)=(j:Nat):=by rw[Ap (by omega) (by omega)];omega
     rw[hd] at hc
     have hc:decide (cmpM (aE a.g (gD y.l y.j)) (aE a.g (gD y.l (IntKind.i64.wrap ((y.j:Int)-1)).toNat))<0)=false:=hc
     rw[e,hj2] at hc
     simp only[Int.toNat_natCast] at hc
     rw[hj2];unfold insJ;rw[hc];rfl
   rw[hq] at y7
   refine⟨⟨y.i+1,y.l⟩,⟨(II (by omega)).symm,λ_ _=>rfl⟩,⟨by show 0<y.i+1;omega,.inl (by show y.i+1<=_;omega),⟨y5,y6⟩,y7⟩,by show a.l.length-(y.i+1)<_;omega⟩
 ·intro i hi
  rw[x5,show a.l.length-x.i=0 by omega];rfl
theorem CYR:AW Try.prog AUD (C_ins.spec dGL):=okT C_ins (λ(a:GL) h=>by
 obtain⟨⟨ha,hb⟩,h⟩:(a.a=0/\a.b=a.l.length)/\glOk a:=h
 show FnT Try.prog AUD [.own 100 1 0 a.l.length,.int a.a,.int a.b,fnW1] _ _ _
 rw[ha,hb]
 exact Wk (A:=COX a) (L:=C_ins.L a) (keep:=C_ins.keep a) (ren:=[]) (fz:=[]) BUD (by kernel_rfl) (AA CXE AK) (DBI a h)) _
theorem CSB(xs:List AVal)(a:Int)(h:CFP xs=some a):xs=BMK a:=by
 unfold CFP at h;split at h<;>cases h;rfl
theorem DAI(n:Int):0<=IntKind.u8.wrap n/\IntKind.u8.wrap n<((256:Nat):Int):=by
 have e:IntKind.u8.wrap n=n % 256:=by
  simp only[IntKind.wrap,IntKind.bits,IntKind.signed]
  simp
 rw[e];exact⟨Int.emod_nonneg _ (by omega),Int.emod_lt_of_pos _ (by omega)⟩
theorem CAR:AW Try.prog AKM BFL:=cC BMK CSB λx h=>Wk (A:=ann 25 []) (ren:=[]) (fz:=[]) BVU (by kernel_rfl) AK (by
 have h:0<=x/\x<=20:=h
 show BVC x;rw[CHP]<;> delta tJ RD CG FV HD KA IP HM BEM AH BL BX DN DT ZS EX VW HZ uV Hr WY ARV Xc kH F8;simp only[CC,eq_self,implies_true,forall_const]
 exact⟨λh=>by omega,λ_=>⟨λh=>by omega,λ_=>⟨λh=>by omega,λ_=>DAI _⟩⟩⟩)
theorem CEI:AW Try.prog BIO BFL:=cC BMK CSB λx h=>Wk (A:=ann 8 [(AKM,BFL)]) (ren:=[]) (fz:=[]) CLH (by kernel_rfl) (AA CAR AK) (by
 show CRY x;rw[CWD]<;> delta HD IP BL BX jV;exact⟨h,trivial⟩)
theorem CUS:AW Try.prog BEV (C_pdq.spec dGLp):=okT C_pdq (λ(a:GL) h=>by
 obtain⟨⟨⟨ha,hb⟩,hl⟩,h⟩:((a.a=0/\a.b=a.l.length)/\a.l.length<=12)/\glOk a:=h
 show FnT Try.prog BEV [.own 100 1 0 a.l.length,.int a.a,.int a.b,.any,fnW1] _ _ _
 rw[ha,hb]
 refine Wk (A:=CSN a) (L:=C_pdq.L a) (keep:=C_pdq.keep a) (ren:=[]) (fz:=[]) BZB (by kernel_rfl) (AA CYR AK) ?_
 show CSE a
 rw[CXN]<;> delta MD hd7 BH BK DY RD RU Mr EM EO CH AB CJ CE AY CG MY FV HD KA EB FX EC GY GX GR GG DV FO FU IP FP FS El LW VS Qr Qj Gg FJ AH CK IW AX JE AI WE BC AV AF IK IN BI GJ Qo AQ WV JB BB AC BZ CN BF MC AE AO BD HK DD LZ AZ DC BR BE BS BJ JQ AR BQ WQ LY SZ BV HF CI OC GQ AS BM CY BY ER FL EV CF AG IE BX KL CU HO DN GD CX OT OR OE LH FQ DF DU HY IC DR OU HG OD KQ HH FW AT IZ HE OF Ge EZ BP RG CV HT AU DO BO BW AL AN AM LJ KO GP ID NP MQ MN DK IU Kr HL Py SC FT EF QD Mc HI NM QE KS HS EH EJ EI Ak Fq JL Ew ZZ ON MI KP QW QP Si Vf aF Xn Dp Dg Gc Pb Sx jL jB fJ qC uK oT Ow cL xF vR wC;simp only[CC,eq_self,implies_true,forall_const]
 have e:IntKind.i64.wrap ((a.l.length:Int)-0)=a.l.length:=by rw[Ap (by omega) (by omega)];omega
 rw[e]
 exact⟨⟨default,trivial⟩,λ_=>⟨rfl,rfl,h⟩,λhc=>by omega⟩) _
theorem CLC:AW Try.prog AKN (C_sort.spec dGLt):=Je C_sort (λ_=>CGK) [] [] BMF (λ_=>by kernel_rfl) (λ_=>AA CEI (AA CUS AK)) (λ(a:GL) h=>by
 obtain⟨hl,h⟩:a.l.length<=12/\glOk a:=h
 show CEW a;rw[CIS]<;> delta BH BK DY RD EM EO CH AB CJ CE AY CG MY CW HD KA EB FX EC GY GX GR GG DV FO FU FP FS El Gg FJ AH CK IW AX JE AI WE BC AV AF IK IN BI AQ WV JB BB AC BZ CN BF MC AE AO BD HK DD LZ AZ DC BR BE BS BJ AR BQ WQ LY SZ BV HF CI OC GQ BL AS BM CY BY FL EV CF AG IE BX KL CU HO DN GD CX OT OR OE FQ DF DU HY IC DR OU HG OD KQ HH FW AT IZ HE OF RG CV AU DO BO BW AL AN AM LJ KO GP ID NP MQ MN DK Kr HL SC FT EF QD Mc HI NM QE KS HS EH EJ EI FY Fq JL Ew ZZ MI KP QW QP Si Vf aF Dp Zh Gc Pb Sx jB fJ qC uK oT Ow cL xF vR wC;simp only[CC,eq_self,implies_true,forall_const]
 have e:IntKind.u64.wrap (a.l.length:Int)=a.l.length:=u64w (by omega) (by omega)
 rw[e]
 exact⟨by omega,rfl,⟨rfl,hl⟩,h⟩) (λ_=>Kp rfl rfl) _
end Go.Bal
