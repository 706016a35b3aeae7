/- Package rating: the least and the greatest flow at a stage. -/
import Derived.Test.YtpidmmilfdcepaaGreatRatG
set_option linter.unusedVariables false
set_option linter.unusedSimpArgs false
namespace Go.Bal
open Go Go.Sym Go.Proofs
def jT(p q:Rt):Int:=Ib (wr (p.n*q.d)) (wr (q.n*p.d))
def BCH:=pD dR2 λx=>.bool (decide (jT x.lo x.hi<0))
def AKL:=pD dR2 λx=>.bool (decide (jT x.lo x.hi>0))
def A_lm:Ann:=ann 9 [(92,ADT)]
def BST(a:Bnd):Prop:=AS ZP A_lm Tryz.f120 (AE Tryz.f120) (xR2 a) (AB []) (.bool (decide (jT a.lo a.hi<0))) [] [] []
abbrev eC a b:=cV (hd30 a b)
attribute [go_sem] eC
theorem CFB(a:Bnd):(BST a)=(Va (cV (jT (hd76 a) (hd77 a))) (eC (Zy (MV a) (NT a)) (Zy (NS a) (OO a)))):=by kernel_rfl
def BOF(a:Bnd):Prop:=AS ZP A_lm Tryz.f121 (AE Tryz.f121) (xR2 a) (AB []) (.bool (decide (jT a.lo a.hi>0))) [] [] []
theorem BYZ(a:Bnd):(BOF a)=(Va (pF (jT (hd76 a) (hd77 a))) (pF (hd30 (Zy (MV a) (NT a)) (Zy (NS a) (OO a))))):=by kernel_rfl
theorem BWI:AH ZP 120 BCH:=OG xR2 hR2 λg _=>WP (A:=A_lm) (ren:=[]) (fz:=[]) Tryz.func120 (by kernel_rfl) (AA mJ AD) (by
 show BST g;rw[CFB]<;> dsimp only[go_sem];rfl)
theorem AQV:AH ZP 121 AKL:=OG xR2 hR2 λg _=>WP (A:=A_lm) (ren:=[]) (fz:=[]) Tryz.func121 (by kernel_rfl) (AA mJ AD) (by
 show BOF g;rw[BYZ]<;> dsimp only[go_sem];rfl)
def CMN:AVal:=.agg [.fn (.func 120) [] []]
def COJ:AVal:=.agg [.fn (.func 121) [] []]
def d0:List AVal->Heap->Option (One×List (Nat×Nat)×List Nat)
 |[],_=>some (default,[],[])
 |_,_=>none
def C_less:Ctr:={ α:=One,xs:=λ_=>[],L:=λ_=>[],val:=λ_=>CMN,keep:=λ_=>[] }
def C_more:Ctr:={ α:=One,xs:=λ_=>[],L:=λ_=>[],val:=λ_=>COJ,keep:=λ_=>[] }
def BVY(_x:One):Prop:=AS ZP (ann 2 []) Tryz.f85 (AE Tryz.f85) [] (AB []) CMN [] [] []
theorem CLG(_x:One):(BVY _x)=(HO):=by kernel_rfl
def BZN(_x:One):Prop:=AS ZP (ann 2 []) Tryz.f86 (AE Tryz.f86) [] (AB []) COJ [] [] []
theorem CKQ(_x:One):(BZN _x)=(HO):=by kernel_rfl
def dAL:List AVal->Option LnI
 |[.d (.iface 28 (.agg [.v (.int .i64 a),.v (.int .i64 b),.v (.int .i64 c),.v (.int .i64 d)])),.d (.v (.int .i64 s))]=>some ⟨⟨a,b,c,d⟩,s⟩
 |_=>none
def xAL(a:LnI):List AVal:=[.d (.iface 28 (eLn a.x)),.int a.s]
def BKI:=pD dAL (λa=>.d (G2 (JF a.x a.s))) (λa=>[MI a.x,0<=a.s/\a.s<=2000])
def CFX(a:LnI):Prop:=AS ZP (ann 8 [(161,AJO)]) Tryz.f61 (AE Tryz.f61) (xAL a) (AB []) (.d (G2 (JF a.x a.s))) [] [] []
abbrev AMV a:=AK (QA a)
attribute [go_sem] AMV
theorem CHV(a:LnI):(CFX a)=(ARQ (YE (HX (Zk a)) (Ig a) (VF (Ig a))) (MH (hd82 (Zk a) (Ig a))) (AMV (hd82 (Zk a) (Ig a)))):=by kernel_rfl
theorem AKK:AH ZP 85 (C_less.spec d0):=PW C_less (λ_=>ann 2 []) [] [] Tryz.func85 (λ_=>by kernel_rfl) (λ_=>AD) (λ(x:One) _=>by
 show BVY x;rw[CLG]<;> dsimp only[go_sem]) (λ_=>RA rfl rfl) _
theorem F9:AH ZP 86 (C_more.spec d0):=PW C_more (λ_=>ann 2 []) [] [] Tryz.func86 (λ_=>by kernel_rfl) (λ_=>AD) (λ(x:One) _=>by
 show BZN x;rw[CKQ]<;> dsimp only[go_sem]) (λ_=>RA rfl rfl) _
theorem hAL(xs:List AVal)(a:LnI)(h:dAL xs=some a):xs=xAL a:=by
 unfold dAL at h;split at h<;>cases h;rfl
theorem BBP:AH ZP 61 BKI:=OG xAL hAL λa h=>WP (A:=ann 8 [(161,AJO)]) (ren:=[]) (fz:=[]) Tryz.func61 (by kernel_rfl) (AA BGA AD) (by
 show CFX a;rw[CHV]<;> dsimp only[go_sem];exact⟨⟨h.1,h.2⟩,rfl,rfl⟩)
def Ez(lt:Rt->Rt->Bool)(t:Int)(b x:Ln):Ln:=bif lt (JF x t) (JF b t) then x else b
def jK(lt:Rt->Rt->Bool)(t:Int)(l:List Ln)(i:Nat):Ln:=(l.take i).foldl (Ez lt t) (gD l 0)
def Es(lt:Rt->Rt->Bool)(t:Int)(l:List Ln):Ln:=l.foldl (Ez lt t) (gD l 0)
def jX(p q:Rt):Bool:=decide (jT p q<0)
def jY(p q:Rt):Bool:=decide (jT p q>0)
structure BkT where
 w:Bk
 st:Int
def kB(a:BkT):Int:=KB a.w.b a.st
def lB(a:BkT):List Ln:=PX (Jp a.w (kB a)) a.st
def dBkT(n:FuncId):List AVal->Heap->Option (BkT×List (Nat×Nat)×List Nat)
 |[.bptr id _,.d t,.agg [.fn (.func g) [] []]],H=>if g=n then match ARU H id with
  |some (w,q)=>some (⟨w,EG t⟩,[(100,id),(101,q)],[])
  |none=>none else none
 |_,_=>none
def bvL(x:Ln)(b:Bool):AVal:=.tup [.d (eLn x),.bool b]
def be6(lt:Rt->Rt->Bool)(n:FuncId)(a:BkT):Shape:={ α:=Nat,dflt:=0,T:=λi=>⟨[(1,.int a.st),(5,.bptr 1000 0),(6,.bptr 1016 0),(9,.bptr 5048 0),(29,.d (Qr (lB a))),(30,.int (lB a).length),(31,.int i)],bkK (C3 a.w (kB a)) ++ [(1000,.live (.box [.fn (.func n) [] []])),(1016,zLn),(5048,.live (.box [.int (jK lt a.st (lB a) i).a0,.int (jK lt a.st (lB a) i).a1,.int (jK lt a.st (lB a) i).b0,.int (jK lt a.st (lB a) i).b1]))]⟩,inv:=λi=>i<=(lB a).length,meas:=λi=>(lB a).length-i }
def Da(lt:Rt->Rt->Bool)(n:FuncId):Ctr:={ ro:=[100],α:=BkT,xs:=λa=>[.bptr 100 0,.int a.st,.agg [.fn (.func n) [] []]],L:=λa=>bkL a.w,val:=λa=>bvL (bif decide ((lB a).length=0) then default else Es lt a.st (lB a)) (decide ((lB a).length≠0)),keep:=λa=>bkK (C3 a.w (kB a)),pre:=λa=>[US a.w.g a.w.b/\0<=a.st/\a.st<=2000] }
def AWY(lt:Rt->Rt->Bool)(n:FuncId)(f:Sym.Spec)(a:BkT):Ann:={ ann 49 [(64,C_part.spec dIX),(88,C_lns.spec dBkS),(61,BKI),(n,f)] with E:=[100,101],loops:=λid=>if id=6 then some [be6 lt n a] else none }
def BRR(a:BkT):Prop:=AS ZP (AWY jX 120 BCH a) Tryz.f87 (AE Tryz.f87) ((Da jX 120).xs a) (AB ((Da jX 120).L a)) ((Da jX 120).val a) ((Da jX 120).keep a) [] []
abbrev BV:=BkT.w
abbrev VY:=BkT.st
abbrev BXI a b:=C3 a (kB b)
abbrev BI a:=BXI (BV a) a
abbrev Mk a b c:=BE (BI a) b c
abbrev Oc a b:=Ex (BI a) b
abbrev K1 a:=MU (BI a)
abbrev Z4 a:=VO (BI a)
abbrev Q3 a:=EZ (Cp (BI a))
abbrev L5 a:=IW (Cp (BI a))
abbrev M5 a:=AP (Be (BI a))
abbrev Q7 a:=BQ (Be (BI a))
abbrev Z3 a:=(λ(x0 x1:Nat)=>decide (x0≠x1)) a 0
abbrev JN a:=CO (lB a)
abbrev T5 a:=Z3 (JN a)
abbrev BJB a b c:=jK a (VY b) (lB b) c
abbrev QR a b:=BJB jX a b
abbrev dJ a b c d:=(@cond Ln) (AOF a 0) (@default Ln instInhabitedLn) (Es b c d)
abbrev uI a b c d:=dJ a b (VY c) d
abbrev ZG a b c d:=uI (JN a) b c (lB d)
abbrev BEC a b c d e f g h:=BK a b c d b e f g h
abbrev ZU a b c d e:=BEC a BB BB BB b c d e
abbrev nD a b:=GQ (lB a) b
abbrev Pn a:=AK (VY a)
abbrev qP a b:=hd82 a (VY b)
abbrev DW:=NV 0
abbrev BHG a b c d:=BLB (BkS.mk a b c) d
abbrev BLR a b c:=BHG a b c c
abbrev ON a:=Is (BV a)
abbrev CBF a b c d e:=BVT a b (BV c) d e
abbrev Ju a:=BSM (BV a) (BV a)
abbrev VB a:=CBF (Ju a) (BV a) a (BV a) (BV a)
abbrev Kr a:=BLR (VB a) (tB (ON a) (VY a)) (VY a)
abbrev DI a b c(d:Nat->Prop):=fC (Ex a b) c b d
abbrev zL a b c d e f:=wC a b c d a (AMC e d a) f
abbrev CP a b c d e:=zL a (Ex b c) b c d e
abbrev FV a:=C3 (VB a) (tB (ON a) (VY a))
abbrev OX a b:=BR a (Cp b)
abbrev JM a b:=OX (Cp a) b
abbrev OL a b:=BC a (Cp b)
abbrev JI a b:=OL (Cp a) b
abbrev mS a b:=EK a (Be b)
abbrev JK a b:=mS (Be a) b
abbrev kJ a b:=HQ a (Be b)
abbrev JJ a b:=kJ (Be a) b
abbrev V8 a:=CO (Kr a)
abbrev VL a:=Wg (Wr 0 a)
abbrev X7 a b c d e f g h p:=BK a b c d e f g (FJ h) p
abbrev S9 a b c d e f g h:=X7 a b c d e f g h (VF h)
abbrev Jf a(b:Int->Prop) c d e f g h:=S9 a (EL b) c d e f g h
attribute [go_sem] BV VY BXI BI Mk Oc K1 Z4 Q3 L5 M5 Q7 Z3 JN T5 BJB QR dJ uI ZG BEC ZU nD Pn qP DW BHG BLR ON CBF Ju VB Kr DI zL CP FV OX JM OL JI mS JK kJ JJ V8 VL X7 S9 Jf
theorem CGU(a:BkT):(BRR a)=(TC (AR (OL (ON a) (BV a)) (OX (ON a) (BV a)) (Pn a) (And (ZS (ON a)) (vI OB (ON a))) (BK (BP (KB (ON a) (VY a))) (Pn a) (kJ (Ju a) (BV a)) (mS (Ju a) (BV a)) (OL (ON a) (BV a)) (OX (ON a) (BV a)) CZ (VO (BV a)) (Jf (MU (BV a)) (λi=>DI (VB a) i (BV a) (λj=>CP j (VB a) i (BV a) (CE (BA (VB a) i j) (BA (BV a) i j) (BE (VB a) i j) (BE (BV a) i j) (VB a) i j (BZ (BV a) i j)))) (JJ (BV a) (FV a)) (JK (BV a) (FV a)) (JI (BV a) (FV a)) (JM (BV a) (FV a)) (AFR (kW (Ju a)) (Ju a) (ON a) OB) (VY a)))) (mN (V8 a)) (Rn (MG (ZG a jX a a)) (QT (ZG a jX a a)) (RU (ZG a jX a a)) (SJ (ZG a jX a a)) (Tg (KU (T5 a)) (JJ (BI a) (BV a)) (JK (BI a) (BV a)) (JI (BI a) (BV a)) (JM (BI a) (BV a)) CZ (λi=>Sb (BI a) i (FV a)) (LA (BI a) (FV a)) (EL (λi=>DI (BI a) i (FV a) (λj=>CP j (BI a) i (FV a) (CE (BA (BI a) i j) (BA (FV a) i j) (Mk a i j) (BE (FV a) i j) (BI a) i j (BZ (FV a) i j))))))) (WX (VL (V8 a)) (EI (λi=>XV (AR (Pn a) (Hf (lB a) (Kr a)) (RS (JN a) (lB a) (Kr a)) (AI (JN a) (V8 a)) (Tg (BX i) (JJ (BI a) (BV a)) (JK (BI a) (BV a)) (JI (BI a) (BV a)) (JM (BI a) (BV a)) CZ (λj=>Sb (BI a) j (FV a)) (LA (BI a) (FV a)) (ZU (EL (λj=>DI (BI a) j (FV a) (λk=>CP k (BI a) j (FV a) (CE (BA (BI a) j k) (BA (FV a) j k) (Mk a j k) (BE (FV a) j k) (BI a) j k (BZ (FV a) j k))))) (dK (QR a i) (GQ (Kr a) DW)) (tZ (QR a i) (LO (Kr a) DW)) (xV (QR a i) (IV (Kr a) DW)) (zE (QR a i) (OE (Kr a) DW))))) i (JN a))) (λi=>YH (Ko i (JN a)) i (JN a) (CR i (JN a)) (AR (AFT (nD a i) (IV (lB a) i) (LO (lB a) i) (OE (lB a) i)) (UW (VY a)) (HX (QR a i)) (FJ (VY a)) (VF (VY a))) (HZ (cV (jT (qP (bL (lB a) i) a) (qP (QR a i) a))) (EI (λj=>Bm (AR (Pn a) (DR (JN a)) (AG (λk=>Jq k (JN a) (nD a k) (lB a) k k)) (BP (JN a)) (Ag (AJ j i) (Q7 a) (M5 a) (L5 a) (Q3 a) (Z4 a) (K1 a) (ZU (EL (λk=>YJ (Oc a k) (λl=>Js l (Oc a k) (Mk a k l) (BI a) k))) (dK (QR a j) (nD a i)) (tZ (QR a j) (LO (lB a) i)) (xV (QR a j) (IV (lB a) i)) (zE (QR a j) (OE (lB a) i))))) j (JN a) j i)) (EI (λj=>Bm (AR (Pn a) (DR (JN a)) (AG (λk=>Jq k (JN a) (nD a k) (lB a) k k)) (BP (JN a)) (Ag (AJ j i) (Q7 a) (M5 a) (L5 a) (Q3 a) (Z4 a) (K1 a) (ZU (EL (λk=>YJ (Oc a k) (λl=>Js l (Oc a k) (Mk a k l) (BI a) k))) (Cz (QR a j) (QR a i)) (Dr (QR a j) (QR a i)) (Dz (QR a j) (QR a i)) (Dj (QR a j) (QR a i))))) j (JN a) j i))) (AR (Cz (ZG a jX a a) (QR a i)) (Dr (ZG a jX a a) (QR a i)) (Dz (ZG a jX a a) (QR a i)) (Dj (ZG a jX a a) (QR a i)) (TX (IN (T5 a)) (Q7 a) (M5 a) (L5 a) (Q3 a) (Z4 a) (K1 a) (λj=>YJ (Oc a j) (λk=>Js k (Oc a j) (Mk a j k) (BI a) j))))))):=by kernel_rfl
def BTW(a:BkT):Prop:=AS ZP (AWY jY 121 AKL a) Tryz.f87 (AE Tryz.f87) ((Da jY 121).xs a) (AB ((Da jY 121).L a)) ((Da jY 121).val a) ((Da jY 121).keep a) [] []
abbrev QV a b:=BJB jY a b
attribute [go_sem] QV
theorem CCJ(a:BkT):(BTW a)=(TC (AR (OL (ON a) (BV a)) (OX (ON a) (BV a)) (Pn a) (And (ZS (ON a)) (vI OB (ON a))) (BK (BP (KB (ON a) (VY a))) (Pn a) (kJ (Ju a) (BV a)) (mS (Ju a) (BV a)) (OL (ON a) (BV a)) (OX (ON a) (BV a)) CZ (VO (BV a)) (Jf (MU (BV a)) (λi=>DI (VB a) i (BV a) (λj=>CP j (VB a) i (BV a) (CE (BA (VB a) i j) (BA (BV a) i j) (BE (VB a) i j) (BE (BV a) i j) (VB a) i j (BZ (BV a) i j)))) (JJ (BV a) (FV a)) (JK (BV a) (FV a)) (JI (BV a) (FV a)) (JM (BV a) (FV a)) (AFR (kW (Ju a)) (Ju a) (ON a) OB) (VY a)))) (mN (V8 a)) (Rn (MG (ZG a jY a a)) (QT (ZG a jY a a)) (RU (ZG a jY a a)) (SJ (ZG a jY a a)) (Tg (KU (T5 a)) (JJ (BI a) (BV a)) (JK (BI a) (BV a)) (JI (BI a) (BV a)) (JM (BI a) (BV a)) CZ (λi=>Sb (BI a) i (FV a)) (LA (BI a) (FV a)) (EL (λi=>DI (BI a) i (FV a) (λj=>CP j (BI a) i (FV a) (CE (BA (BI a) i j) (BA (FV a) i j) (Mk a i j) (BE (FV a) i j) (BI a) i j (BZ (FV a) i j))))))) (WX (VL (V8 a)) (EI (λi=>XV (AR (Pn a) (Hf (lB a) (Kr a)) (RS (JN a) (lB a) (Kr a)) (AI (JN a) (V8 a)) (Tg (BX i) (JJ (BI a) (BV a)) (JK (BI a) (BV a)) (JI (BI a) (BV a)) (JM (BI a) (BV a)) CZ (λj=>Sb (BI a) j (FV a)) (LA (BI a) (FV a)) (ZU (EL (λj=>DI (BI a) j (FV a) (λk=>CP k (BI a) j (FV a) (CE (BA (BI a) j k) (BA (FV a) j k) (Mk a j k) (BE (FV a) j k) (BI a) j k (BZ (FV a) j k))))) (dK (QV a i) (GQ (Kr a) DW)) (tZ (QV a i) (LO (Kr a) DW)) (xV (QV a i) (IV (Kr a) DW)) (zE (QV a i) (OE (Kr a) DW))))) i (JN a))) (λi=>YH (Ko i (JN a)) i (JN a) (CR i (JN a)) (AR (AFT (nD a i) (IV (lB a) i) (LO (lB a) i) (OE (lB a) i)) (UW (VY a)) (HX (QV a i)) (FJ (VY a)) (VF (VY a))) (HZ (pF (jT (qP (bL (lB a) i) a) (qP (QV a i) a))) (EI (λj=>Bm (AR (Pn a) (DR (JN a)) (AG (λk=>Jq k (JN a) (nD a k) (lB a) k k)) (BP (JN a)) (Ag (AJ j i) (Q7 a) (M5 a) (L5 a) (Q3 a) (Z4 a) (K1 a) (ZU (EL (λk=>YJ (Oc a k) (λl=>Js l (Oc a k) (Mk a k l) (BI a) k))) (dK (QV a j) (nD a i)) (tZ (QV a j) (LO (lB a) i)) (xV (QV a j) (IV (lB a) i)) (zE (QV a j) (OE (lB a) i))))) j (JN a) j i)) (EI (λj=>Bm (AR (Pn a) (DR (JN a)) (AG (λk=>Jq k (JN a) (nD a k) (lB a) k k)) (BP (JN a)) (Ag (AJ j i) (Q7 a) (M5 a) (L5 a) (Q3 a) (Z4 a) (K1 a) (ZU (EL (λk=>YJ (Oc a k) (λl=>Js l (Oc a k) (Mk a k l) (BI a) k))) (Cz (QV a j) (QV a i)) (Dr (QV a j) (QV a i)) (Dz (QV a j) (QV a i)) (Dj (QV a j) (QV a i))))) j (JN a) j i))) (AR (Cz (ZG a jY a a) (QV a i)) (Dr (ZG a jY a a) (QV a i)) (Dz (ZG a jY a a) (QV a i)) (Dj (ZG a jY a a) (QV a i)) (TX (IN (T5 a)) (Q7 a) (M5 a) (L5 a) (Q3 a) (Z4 a) (K1 a) (λj=>YJ (Oc a j) (λk=>Js k (Oc a j) (Mk a j k) (BI a) j))))))):=by kernel_rfl
theorem pO{lt:Rt->Rt->Bool}{t:Int}{l:List Ln}{i:Nat}(h:i<l.length):jK lt t l (i+1)=Ez lt t (jK lt t l i) (gD l i):=by
 unfold jK;rw[LG h,List.foldl_append];rfl
theorem AEJ{lt:Rt->Rt->Bool}{t:Int}{l:List Ln}:jK lt t l l.length=Es lt t l:=by unfold jK Es;rw[List.take_length]
theorem BRC{lt:Rt->Rt->Bool}{t:Int}:∀(l:List Ln) (b:Ln),(∀x∈l,MI x)->MI b->MI (l.foldl (Ez lt t) b)
 |[],_,_,hb=>hb
 |x :: l,b,h,hb=>by
  rw[List.foldl_cons]
  refine BRC l _ (λy hy=>h y (by simp[hy])) ?_
  unfold Ez;cases lt (JF x t) (JF b t)
  ·exact hb
  ·exact h x (by simp)
theorem APM{lt:Rt->Rt->Bool}{t:Int}{l:List Ln}{i:Nat}(h:∀x∈l,MI x)(h0:0<l.length):MI (jK lt t l i):=
 BRC _ _ (λx hx=>h x (List.mem_of_mem_take hx)) (h _ (BU h0))
theorem BNZ{s:List Gau}(h:∀g∈s,IT g):∀x∈Lf s,MI x:=λx hx=>by
 unfold Lf at hx
 obtain⟨p,hp,hx⟩:=List.mem_flatMap.1 hx
 unfold blk at hx
 rcases List.mem_cons.1 hx with rfl | hx
 ·exact eG (bS h hp)
 ·exact aI.1 (List.mem_filter.1 hx).2
theorem CAN{s:List Gau}{t:Int}(h:∀g∈s,IT g):∀x∈PX s t,MI x:=λx hx=>by
 rw[Q5] at hx
 revert hx
 cases (bif decide ((s.length:Int)>0) then ((bG s).length:Int)==0 else false) with
 |true=>intro hx;cases hx
 |false=>
  intro hx
  rcases List.mem_append.1 hx with hx | hx
  ·exact BNZ h x (List.mem_filter.1 hx).1
  ·have:=(List.mem_filter.1 hx).2
   unfold okX at this
   cases hr:Kv x with
   |true=>exact aI.1 hr
   |false=>rw[hr] at this;cases this
theorem BWG{a:BkT}(h:US a.w.g a.w.b):(lB a).length<=10098/\∀x∈lB a,MI x:=by
 obtain⟨hs,hN,hg⟩:=CBY (a:=⟨a.w,kB a,a.st⟩) h
 refine⟨?_,CAN hg⟩
 show (PX (sB ⟨a.w,kB a,a.st⟩) a.st).length<=_
 have h1:=BPE hN
 have h2:=List.length_filter_le (okX (sB ⟨a.w,kB a,a.st⟩)) (XD (sB ⟨a.w,kB a,a.st⟩) a.st)
 have h3:=ABY (s:=sB ⟨a.w,kB a,a.st⟩) (t:=a.st)
 rw[Q5]
 cases (bif decide (((sB ⟨a.w,kB a,a.st⟩).length:Int)>0) then ((bG (sB ⟨a.w,kB a,a.st⟩)).length:Int)==0 else false) with
 |true=>exact Nat.zero_le _
 |false=>rw[cond_false,List.length_append];omega
theorem CJQ(a:BkT)(h:US a.w.g a.w.b)(h2:0<=a.st/\a.st<=2000):BRR a:=by
 rw[CGU]<;> dsimp only[go_sem];simp only[CC,CU,XS,show KB a.w.b a.st=kB a from rfl,show (BkS.mk a.w (kB a) a.st).w=a.w from rfl,show PX (sB (BkS.mk a.w (kB a) a.st)) a.st=lB a from rfl,if_true]
 obtain⟨hl,hok⟩:=BWG h
 refine⟨⟨⟨by have:=h.2.2.1;omega,h.2.2.2.1⟩,rfl,λ_ _=>⟨rfl,rfl,rfl⟩,rfl,λ_ _=>rfl,h,h2⟩,λhc=>?_,λhc=>?_⟩
 ·have hc:(lB a).length=0:=by simpa using hc
  rw[decide_eq_true hc]
  exact⟨rfl,rfl,rfl,rfl,by omega,rfl,λ_ _=>⟨rfl,rfl,rfl⟩,rfl,λ_ _=>rfl⟩
 ·have hc:(lB a).length≠0:=by simpa using hc
  have hb:∀i,MI (jK jX a.st (lB a) i):=λi=>APM hok (by omega)
  refine⟨⟨by omega,by omega⟩,⟨0,⟨rfl,rfl,λ_ _=>⟨rfl,rfl,rfl⟩,rfl,λ_ _=>rfl,rfl,rfl,rfl,rfl⟩,Nat.zero_le _⟩,λi hi=>⟨λhlt=>?_,λhge=>?_⟩⟩
  ·have hlt':i<(lB a).length:=Int.ofNat_lt.1 hlt
   refine⟨⟨by omega,hlt⟩,⟨hok _ (BU hlt'),h2,hb i,h2⟩,λhp=>⟨i+1,⟨(BF (by omega)).symm,?_⟩,hlt',by omega⟩,λhp=>⟨i+1,⟨(BF (by omega)).symm,?_⟩,hlt',by omega⟩⟩
   ·rw[pO hlt',Ez,show jX _ _=true from decide_eq_true hp];exact⟨rfl,rfl,rfl,rfl⟩
   ·rw[pO hlt',Ez,show jX _ _=false from decide_eq_false hp];exact⟨rfl,rfl,rfl,rfl⟩
  ·rw[decide_eq_false hc,show i=(lB a).length by omega,AEJ]
   exact⟨rfl,rfl,rfl,rfl,hc⟩
theorem ACJ:AH ZP 87 ((Da jX 120).spec (dBkT 120)):=PW (Da jX 120) (AWY jX 120 BCH) [] [] Tryz.func87 (λ_=>by kernel_rfl) (λ_=>AA ADJ (AA AGW (AA BBP (AA BWI AD)))) (λ(a:BkT) h=>by
 have h:US a.w.g a.w.b/\0<=a.st/\a.st<=2000:=h
 exact CJQ a h.1 h.2) (λ_=>RA rfl rfl) _
theorem CIH(a:BkT)(h:US a.w.g a.w.b)(h2:0<=a.st/\a.st<=2000):BTW a:=by
 rw[CCJ]<;> dsimp only[go_sem];simp only[CC,CU,XS,show KB a.w.b a.st=kB a from rfl,show (BkS.mk a.w (kB a) a.st).w=a.w from rfl,show PX (sB (BkS.mk a.w (kB a) a.st)) a.st=lB a from rfl,if_true]
 obtain⟨hl,hok⟩:=BWG h
 refine⟨⟨⟨by have:=h.2.2.1;omega,h.2.2.2.1⟩,rfl,λ_ _=>⟨rfl,rfl,rfl⟩,rfl,λ_ _=>rfl,h,h2⟩,λhc=>?_,λhc=>?_⟩
 ·have hc:(lB a).length=0:=by simpa using hc
  rw[decide_eq_true hc]
  exact⟨rfl,rfl,rfl,rfl,by omega,rfl,λ_ _=>⟨rfl,rfl,rfl⟩,rfl,λ_ _=>rfl⟩
 ·have hc:(lB a).length≠0:=by simpa using hc
  have hb:∀i,MI (jK jY a.st (lB a) i):=λi=>APM hok (by omega)
  refine⟨⟨by omega,by omega⟩,⟨0,⟨rfl,rfl,λ_ _=>⟨rfl,rfl,rfl⟩,rfl,λ_ _=>rfl,rfl,rfl,rfl,rfl⟩,Nat.zero_le _⟩,λi hi=>⟨λhlt=>?_,λhge=>?_⟩⟩
  ·have hlt':i<(lB a).length:=Int.ofNat_lt.1 hlt
   refine⟨⟨by omega,hlt⟩,⟨hok _ (BU hlt'),h2,hb i,h2⟩,λhp=>⟨i+1,⟨(BF (by omega)).symm,?_⟩,hlt',by omega⟩,λhp=>⟨i+1,⟨(BF (by omega)).symm,?_⟩,hlt',by omega⟩⟩
   ·rw[pO hlt',Ez,show jY _ _=true from decide_eq_true hp];exact⟨rfl,rfl,rfl,rfl⟩
   ·rw[pO hlt',Ez,show jY _ _=false from decide_eq_false hp];exact⟨rfl,rfl,rfl,rfl⟩
  ·rw[decide_eq_false hc,show i=(lB a).length by omega,AEJ]
   exact⟨rfl,rfl,rfl,rfl,hc⟩
theorem ACD:AH ZP 87 ((Da jY 121).spec (dBkT 121)):=PW (Da jY 121) (AWY jY 121 AKL) [] [] Tryz.func87 (λ_=>by kernel_rfl) (λ_=>AA ADJ (AA AGW (AA BBP (AA AQV AD)))) (λ(a:BkT) h=>by
 have h:US a.w.g a.w.b/\0<=a.st/\a.st<=2000:=h
 exact CIH a h.1 h.2) (λ_=>RA rfl rfl) _
end Go.Bal
