/- Package rating: what proves parts, in the reference's words (plain). -/
import Derived.Test.YtpidmmilfdcepaaGreatRPt0
set_option linter.unusedVariables false
set_option linter.unusedSimpArgs false
namespace Go.Bal
open Go Go.Sym Go.Proofs
theorem BDR{s t:List Gau}(h:fA s t):fA t s:=h.symm
theorem AGV{α:Type}[Inhabited α]{l:List α}{i:Nat}(h:i<l.length):gD l i=l[i]:=by simp[gD,List.getD_eq_getElem?_getD,h]
theorem BEU{S:List (List Gau)}(hl:∀s∈S,fsS s<laS s)(h:∀i,i+1<S.length->laS (gD S i)<=fsS (gD S (i+1))){i:Nat}:∀j,i<j->j<S.length->laS (gD S i)<=fsS (gD S j)
 |0,h1,_=>absurd h1 (Nat.not_lt_zero _)
 |j+1,h1,h2=>by
  by_cases e:i=j
  ·subst e;exact h i h2
  ·have p:=BEU hl h (i:=i) j (by omega) (by omega)
   have q:=h j h2
   have r:=hl _ (BU (show j<S.length by omega))
   omega
theorem BIV{S:List (List Gau)}(hl:∀s∈S,fsS s<laS s)(h:∀i,i+1<S.length->laS (gD S i)<=fsS (gD S (i+1))):S.Pairwise fA:=by
 rw[List.pairwise_iff_getElem]
 intro i j hi hj hij
 have:=BEU hl h j hij hj
 rw[AGV hi,AGV hj] at this
 exact .inl this
theorem BZD{α:Type}[Inhabited α]{R:α->α->Prop}{S:List α}:S.Pairwise R↔∀j i,j<i->i<S.length->R (gD S j) (gD S i):=by
 rw[List.pairwise_iff_getElem]
 constructor
 ·intro h j i h1 h2
  rw[AGV h2,AGV (show j<S.length by omega)]
  exact h j i _ _ h1
 ·intro h j i hj hi hji
  have:=h j i hji hi
  rw[AGV hi,AGV hj] at this
  exact this
theorem BZJ{g:List Gau}{z:List Int}(h:0<z.length):fsS (Ax ⟨g,z⟩)=sP ⟨g,z⟩ 0:=by
 unfold fsS sP Ax
 rw[BCC _ h]
theorem BWK{g:List Gau}{z:List Int}(h:0<z.length):laS (Ax ⟨g,z⟩)=sP ⟨g,z⟩ (z.length-1):=by
 unfold laS sP Ax
 rw[List.length_map,BCC _ (by show z.length-1<z.length;omega)]
def ovK(a b:GK):Bool:=bif decide (sP a 0<sP b (b.k.length-1)) then decide (sP b 0<sP a (a.k.length-1)) else false
theorem CCW{a b:GK}(ha:0<a.k.length)(hb:0<b.k.length):ovK a b=false↔fA (Ax a) (Ax b):=by
 obtain⟨g,z⟩:=a
 obtain⟨q,w⟩:=b
 unfold fA ovK
 rw[BZJ ha,BWK ha,BZJ hb,BWK hb]
 show (bif decide (sP ⟨g,z⟩ 0<sP ⟨q,w⟩ (w.length-1)) then decide (sP ⟨q,w⟩ 0<sP ⟨g,z⟩ (z.length-1)) else false)=false↔_
 by_cases h1:sP ⟨g,z⟩ 0<sP ⟨q,w⟩ (w.length-1)
 ·rw[decide_eq_true h1]
  by_cases h2:sP ⟨q,w⟩ 0<sP ⟨g,z⟩ (z.length-1)
  ·rw[decide_eq_true h2];simp;omega
  ·rw[decide_eq_false h2];simp;omega
 ·rw[decide_eq_false h1];simp;omega
theorem CJM{g:List Gau}{m:Int}{k:List (List Int)}{o:Bool}(hc:AL g=0)(hk:k.length<=24)(hn:∀i,i<k.length->(Cn ⟨g,gD k i⟩).2=true):Rs ⟨g,m,k,o⟩=true↔m<=k.length+1/\(∀i,i<k.length->PC ⟨g,gD k i⟩=true)/\∀j i,j<i->i<k.length->ovK ⟨g,gD k j⟩ ⟨g,gD k i⟩=false:=by
 obtain⟨⟨c1,c2⟩,ho⟩:=JU hc
 have hl:g.length<1073741824:=by omega
 rw[(ALP (o:=o) hc hk hn).2]
 have hS:(Yh ⟨g,m,k,o⟩).length=k.length:=Bt _
 have hG:∀i,i<k.length->gD (Yh ⟨g,m,k,o⟩) i=Ax ⟨g,gD k i⟩:=λi hi=>AZF (a:=⟨g,m,k,o⟩) hi
 have hz:∀i,i<k.length->0<(gD k i).length:=λi hi=>by have:=(M8 hl (hn i hi)).1;show 0<(GK.mk g (gD k i)).k.length;omega
 have h1:(∀s∈Yh ⟨g,m,k,o⟩,¬Can s)↔∀i,i<k.length->PC ⟨g,gD k i⟩=true:=by
  constructor
  ·intro h i hi
   have:=h _ (BU (show i<(Yh ⟨g,m,k,o⟩).length by rw[hS];exact hi))
   rw[hG i hi] at this
   exact (iR hl ho).2 ⟨hn i hi,this⟩
  ·intro h s hs
   obtain⟨i,hi,rfl⟩:=JP hs
   rw[hS] at hi
   rw[hG i hi]
   exact ((iR hl ho).1 (h i hi)).2
 have hlt:∀s∈Yh ⟨g,m,k,o⟩,fsS s<laS s:=λs hs=>by
  obtain⟨i,hi,rfl⟩:=JP hs
  rw[hS] at hi
  rw[hG i hi,BZJ (hz i hi),BWK (hz i hi)]
  exact (M8 hl (hn i hi)).2.2.2
 have hp:=ABB ⟨g,m,k,o⟩
 have h2:(∀i,i+1<(Fg ⟨g,m,k,o⟩).length->laS (gD (Fg ⟨g,m,k,o⟩) i)<=fsS (gD (Fg ⟨g,m,k,o⟩) (i+1)))↔(Yh ⟨g,m,k,o⟩).Pairwise fA:=by
  constructor
  ·intro h
   exact (hp.pairwise_iff BDR).1 (BIV (λs hs=>hlt s (hp.mem_iff.1 hs)) h)
  ·intro h
   exact ACI hp h hlt λi hi=>AOA i hi
 have h3:(Yh ⟨g,m,k,o⟩).Pairwise fA↔∀j i,j<i->i<k.length->ovK ⟨g,gD k j⟩ ⟨g,gD k i⟩=false:=by
  rw[BZD,hS]
  constructor
  ·intro h j i hji hi
   have:=h j i hji hi
   rw[hG i hi,hG j (by omega)] at this
   exact (CCW (a:=⟨g,gD k j⟩) (b:=⟨g,gD k i⟩) (hz j (by omega)) (hz i hi)).2 this
  ·intro h j i hji hi
   rw[hG i hi,hG j (by omega)]
   exact (CCW (a:=⟨g,gD k j⟩) (b:=⟨g,gD k i⟩) (hz j (by omega)) (hz i hi)).1 (h j i hji hi)
 rw[h1,h2,h3]
def gkA(a:PV)(i:Nat):GK:=⟨a.g,gD a.k i⟩
def dPVd:List AVal->Heap->Option (PV×List (Nat×Nat)×List Nat)
 |[x,.d (.v (.int .i64 m)),.d (.list _ n r _)],H=>match Ht x H with
  |some (l,f)=>some (⟨l,m,sW n r,false⟩,[],f)
  |none=>none
 |_,_=>none
def C_rProv:Ctr:={ α:=PV,xs:=λa=>[.d (AT a.g),.int a.m,eLLd a],val:=pvV,pre:=λa=>[(a.g.length<1073741824/\a.k.length<1073741824)/\∀i,i<a.k.length->(gD a.k i).length<1073741824] }
structure PvI7(a:PV)(i:Nat):Prop where
 hc:AL a.g=0
 hl:a.k.length<=24
 hi:i<=a.k.length
 hn:∀j,j<i->(Cn (gkA a j)).2=true
structure PvI(a:PV)(i k:Nat):Prop where
 hc:AL a.g=0
 hl:a.k.length<=24
 hn:∀j,j<a.k.length->(Cn (gkA a j)).2=true
 hi:i<=a.k.length
 hk:k<=i
 ht:∀j,j<i->PC (gkA a j)=true
 ho:∀j i',j<i'->i'<a.k.length->(i'<i∨i'=i/\j<k)->ovK (gkA a j) (gkA a i')=false
def pvSl(a:PV):List (Nat×AVal):=[(0,.d (AT a.g)),(1,.int a.m),(2,eLLd a)]
def rp7(a:PV):Shape:={ α:=Nat,dflt:=0,T:=λi=>⟨pvSl a ++ [(9,.int i)],[]⟩,inv:=λi=>PvI7 a i,meas:=λi=>a.k.length-i }
def rp12(a:PV):Shape:={ α:=Nat,dflt:=0,T:=λi=>⟨pvSl a ++ [(10,.int i)],[]⟩,inv:=λi=>PvI a i 0,meas:=λi=>a.k.length-i }
def loKz(a:PV)(i:Nat):Int:=(gD a.g (gD (gD a.k i) 0).toNat).st
def hiKz(a:PV)(i:Nat):Int:=(gD a.g (gD (gD a.k i) ((gD a.k i).length-1)).toNat).st
def rp18(a:PV)(m:Nat):Shape:={ α:=NN,dflt:=default,T:=λx=>⟨pvSl a ++ [(10,.int x.a),(11,.int (loKz a x.a)),(12,.int (hiKz a x.a)),(13,.int x.b)],[]⟩,inv:=λx=>a.k.length-x.a=m/\x.a<a.k.length/\PC (gkA a x.a)=true/\PvI a x.a x.b,meas:=λx=>x.a-x.b }
def BTJ(a:PV):Ann:={ ann 119 [(14,C_rCheck.spec NU),(75,C_rUnn.spec dGK),(76,C_rTied.spec dGK)] with loops:=λid=>if id=7 then some [rp7 a] else if id=12 then some [rp12 a] else none,inner:=λgs id=>if id=18 then some [rp18 a (gs.getD 0 0)] else none }
def BPY(a:PV):Prop:=AS ZP (BTJ a) Tryz.f34 (AE Tryz.f34) (C_rProv.xs a) (AB []) (C_rProv.val a) [] [] []
abbrev T8 a:=AP (GX a)
abbrev N7 a:=BQ (GX a)
abbrev Z0 a:=Uh (GZ a)
abbrev Wy a b:=FZ a (DV b)
attribute [go_sem] T8 N7 Z0 Wy
theorem BWT(a:PV):(BPY a)=(SK (xA (GX a) (HV (GX a))) (J8 (GX a)) (Tq a) (eR (jM a) (GX a)) (FD (NO (HI a) 24) (Tq a) (BM (jM a) 3) (HU (λi=>And (AW (N7 a) (T8 a) (Io a) (Dn a) (AG (λj=>Iu j a a j)) (BX i)) (PvI7 a i)) (λi=>WU (PvI7 a i) i (HI a) (CY (uG i a) (AY (GX a)) (BJ (GX a)) (EA (FZ a i)) (CM (FZ a i)) (HV (GX a)) (LV (FZ a i))) (FD (not (dM (GX a) (FZ a i))) (Tq a) (aS (jM a)) (EI (λj=>EO (AW (N7 a) (T8 a) (Io a) (Dn a) (AG (λk=>Iu k a a k)) (AJ j i)) (PvI7 a j) (HI a) j i))) (HU (λj=>And (AW (N7 a) (T8 a) (Io a) (Dn a) (AG (λk=>Iu k a a k)) (BX j)) (PvI a j 0)) (λj=>WU (PvI a j 0) j (HI a) (CY (uG j a) (AY (GX a)) (BJ (GX a)) (EA (FZ a j)) (CM (FZ a j)) (And (HV (GX a)) (Sn (GX a))) (IN (dM (GX a) (FZ a j)))) (FD (not (AHD (BCF (GX a) (FZ a j)))) (Tq a) (N2 a) (Sg (uG j a) (VL (GZ (FZ a j))) (VA (FZ a j) 0 (GX a)) (ATD (uG j a) (ANK (GZ (FZ a j))) (Zs (FZ a j) (Z0 (FZ a j))) (fT (FZ a j) (Z0 (FZ a j)) (GX a))) (Y3 (λk=>AR (BK (N7 a) (T8 a) (Io a) (Dn a) (AG (λl=>Iu l a a l)) (AI (CS k) j) (BM (loKz a (CS k)) (Te (GX a) (FZ a j) DW)) (BM (hiKz a (CS k)) (Te (GX a) (FZ a j) (Z0 (FZ a j)))) (BX (DV k))) (IZ (HI a) (CS k) j) (FC (CS k) (HI a)) (IN (AHD (gkA a (CS k)))) (PvI a (CS k) (DV k)))) (hd66 (λk=>WU (SG (IZ (HI a) (CS k) j) (CS k) (HI a) (IN (AHD (gkA a (CS k)))) (PvI a (CS k) (DV k))) (DV k) (CS k) (BD (uG (DV k) a) (VL (GZ (Wy a k))) (VA (Wy a k) 0 (GX a)) (ATD (uG (DV k) a) (ANK (GZ (Wy a k))) (Zs (Wy a k) (Z0 (Wy a k))) (fT (Wy a k) (Z0 (Wy a k)) (GX a)))) (FD (EP (Tx (Te (GX a) (Wy a k) DW) (hiKz a (CS k))) (Tx (loKz a (CS k)) (Te (GX a) (Wy a k) (Z0 (Wy a k))))) (Tq a) (N2 a) (Y3 (λl=>S7 (BK (N7 a) (T8 a) (Io a) (Dn a) (AG (λm=>Iu m a a m)) (AI (CS l) (CS k)) (BM (loKz a (CS l)) (loKz a (CS k))) (BM (hiKz a (CS l)) (hiKz a (CS k))) (AJ (DV l) (DV k))) (SG (IZ (HI a) (CS l) j) (CS l) (HI a) (IN (AHD (gkA a (CS l)))) (PvI a (CS l) (DV l))) (CS l) (DV l) (CS k) (DV k)))) (EI (λl=>EO (AW (N7 a) (T8 a) (Io a) (Dn a) (AG (λm=>Iu m a a m)) (AJ l (CS k))) (PvI a l 0) (HI a) l j)))))) (And (nO (Rs a) (PV.m a) (P7 (HI a))) (N2 a)))))))):=by kernel_rfl
theorem CJU(a:PV)(h1:a.g.length<1073741824)(h2:a.k.length<1073741824)(h3:∀i,i<a.k.length->(gD a.k i).length<1073741824):BPY a:=by
 rw[BWT]<;> dsimp only[go_sem];simp only[CC,CU]
 refine⟨h1,λhc=>?_,λhc=>?_⟩
 ·have e:(AL a.g==0)=false:=by simpa using hc
  have e2:bF a=AL a.g:=by unfold bF;rw[e];rfl
  refine⟨?_,e2⟩
  unfold Rs;rw[e2,e];rfl
 have hC:AL a.g=0:=by simpa using hc
 obtain⟨⟨c1,c2⟩,ho⟩:=JU hC
 refine⟨λhk=>BTD hC (by omega),λhk=>?_⟩
 have hk:a.k.length<=24:=by omega
 refine⟨⟨0,rfl,hC,hk,Nat.zero_le _,λj hj=>absurd hj (Nat.not_lt_zero _)⟩,λi hI=>⟨λhlt=>⟨⟨⟨by omega,hlt⟩,h1,h3 i (by omega)⟩,λhf=>BKL hC hk (show i<a.k.length by omega) hf,λht=>⟨i+1,(BF (by omega)).symm,⟨hC,hk,by omega,λj hj=>?_⟩,by omega⟩⟩,λhge=>?_⟩⟩
 ·by_cases q:j<i
  ·exact hI.hn j q
  ·obtain rfl:j=i:=by omega
   exact ht
 have hn:∀j,j<a.k.length->(Cn (gkA a j)).2=true:=λj hj=>hI.hn j (by omega)
 have hE:bF a=0:=(ALP (g:=a.g) (m:=a.m) (k:=a.k) (o:=a.o) hC hk hn).1
 have hP:=CJM (g:=a.g) (m:=a.m) (k:=a.k) (o:=a.o) hC hk hn
 have hna:∀j,j<a.k.length->(2<=(gD a.k j).length/\(gD a.k j).length<=3)/\∀i,i<(gD a.k j).length->0<=gD (gD a.k j) i/\gD (gD a.k j) i<a.g.length:=λj hj=>by
  obtain⟨p,q,_⟩:=M8 (a:=gkA a j) h1 (hn j hj)
  exact⟨p,q⟩
 have wl:∀j,j<a.k.length->IntKind.i64.wrap (((gD a.k j).length:Int)-1)=(((gD a.k j).length-1:Nat):Int):=λj hj=>by
  have:=(hna j hj).1
  rw[HL (by omega) (by omega)];omega
 refine⟨⟨0,rfl,hC,hk,hn,Nat.zero_le _,Nat.le_refl _,λj hj=>absurd hj (Nat.not_lt_zero _),λj i' h1 h2 h3=>by omega⟩,λx hX=>⟨λhlt=>?_,λhge2=>?_⟩⟩
 ·have hx:x<a.k.length:=by omega
  have nx:=hna x hx
  refine⟨⟨⟨by omega,hlt⟩,⟨h1,ho⟩,hn x hx⟩,λhf=>⟨?_,hE⟩,λht=>?_⟩
  ·cases hq:Rs a with
   |false=>rfl
   |true=>
    have:=(hP.1 hq).2.1 x hx
    rw[show PC ⟨a.g,gD a.k x⟩=false from hf] at this;cases this
  ·rw[wl x hx,Int.toNat_natCast]
   refine⟨⟨⟨by omega,hlt⟩,⟨by omega,by omega⟩,nx.2 0 (by omega),⟨by omega,hlt⟩,⟨by omega,hlt⟩,⟨by omega,by omega⟩,nx.2 _ (by omega)⟩,⟨⟨x,0⟩,⟨rfl,rfl,rfl,rfl⟩,rfl,hx,ht,hC,hk,hn,by show x<=_;omega,Nat.zero_le _,hX.ht,λj i' j1 j2 j3=>hX.ho j i' j1 j2 (by have j3:i'<x∨i'=x/\j<0:=j3;omega)⟩,λy ⟨y1,y2,y3,hY⟩=>⟨λhlt2=>?_,λhge3=>⟨y.a+1,(BF (by omega)).symm,⟨hC,hk,hn,by omega,Nat.zero_le _,λj hj=>?_,λj i' j1 j2 j3=>hY.ho j i' j1 j2 (by omega)⟩,by omega⟩⟩⟩
   ·have hb:y.b<a.k.length:=by omega
    have nb:=hna y.b hb
    rw[wl y.b hb,Int.toNat_natCast]
    have eo:∀c,(bif decide ((gD a.g (gD (gD a.k y.b) (Int.toNat 0)).toNat).st<hiKz a y.a) then decide (loKz a y.a<(gD a.g (gD (gD a.k y.b) ((gD a.k y.b).length-1)).toNat).st) else false)=c->ovK (gkA a y.b) (gkA a y.a)=c:=λc h=>h
    refine⟨⟨⟨by omega,by omega⟩,⟨by omega,by omega⟩,nb.2 0 (by omega),⟨by omega,by omega⟩,⟨by omega,by omega⟩,⟨by omega,by omega⟩,nb.2 _ (by omega)⟩,λhT=>⟨?_,hE⟩,λhF=>⟨⟨y.a,y.b+1⟩,⟨rfl,rfl,rfl,(BF (by omega)).symm⟩,⟨y1,y2,y3,hC,hk,hn,hY.hi,by show y.b+1<=y.a;omega,hY.ht,λj i' j1 j2 j3=>?_⟩,by show y.a-(y.b+1)<_;omega⟩⟩
    ·cases hq:Rs a with
     |false=>rfl
     |true=>
      have:=(hP.1 hq).2.2 y.b y.a (by omega) y2
      rw[show ovK ⟨a.g,gD a.k y.b⟩ ⟨a.g,gD a.k y.a⟩=true from eo _ hT] at this;cases this
    ·have j3:i'<y.a∨i'=y.a/\j<y.b+1:=j3
     by_cases q:i'=y.a/\j=y.b
     ·obtain⟨rfl,rfl⟩:=q
      exact eo _ hF
     ·exact hY.ho j i' j1 j2 (by omega)
   ·by_cases q:j<y.a
    ·exact hY.ht j q
    ·obtain rfl:j=y.a:=by omega
     exact y3
 ·refine⟨?_,hE⟩
  have hx:x=a.k.length:=by have:=hX.hi;omega
  subst hx
  rw[BF (by omega)]
  have ht:=hX.ht
  have hov:∀j i,j<i->i<a.k.length->ovK ⟨a.g,gD a.k j⟩ ⟨a.g,gD a.k i⟩=false:=λj i j1 j2=>hX.ho j i j1 j2 (.inl j2)
  by_cases hm:a.m<=a.k.length+1
  ·rw[hP.2 ⟨hm,ht,hov⟩]
   symm;exact decide_eq_true (by omega)
  ·cases hq:Rs a with
   |true=>exact absurd (hP.1 hq).1 hm
   |false=>symm;exact decide_eq_false (by omega)
theorem BXG:AH ZP 34 (C_rProv.spec dPVd):=PW C_rProv BTJ [] [] Tryz.func34 (λ_=>by kernel_rfl) (λ_=>AA Vt (AA BPJ (AA BFG AD))) (λ(a:PV) h=>CJU a h.1.1 h.1.2 h.2) (λ_=>RA rfl rfl) _
theorem AAK{s:List Gau}:∀(k i:Nat),chn s k i->k+i<=s.length
 |0,i,h=>by have h:i=s.length:=h;omega
 |k+1,i,h=>by
  obtain⟨h1,_,j,h2,h3,_,_,h4⟩:=h
  have:=AAK k j h4;omega
def minP(P:Nat->Prop)(v:Int):Prop:=(∃m:Nat,v=m/\P m/\∀m',P m'->m<=m')∨(v=99/\∀m,¬P m)
theorem CGK{P C P':Nat->Prop}{v b:Int}(h:minP P v)(hb:minP C b)(hP:∀m,P m->m<90)(hC:∀m,C m->m<90)(e:∀m,P' m↔P m∨∃k,C k/\m=k+1):minP P' (bif decide (b+1<v) then b+1 else v):=by
 rcases hb with⟨k,rfl,k1,k2⟩ | ⟨rfl,k1⟩
 ·have:=hC k k1
  rcases h with⟨m,rfl,m1,m2⟩ | ⟨rfl,m1⟩
  ·by_cases q:(k:Int)+1<m
   ·rw[decide_eq_true q]
    refine .inl ⟨k+1,rfl,(e _).2 (.inr ⟨k,k1,rfl⟩),λm' hm=>?_⟩
    rcases (e m').1 hm with q1 | ⟨k',q1,rfl⟩
    ·have:=m2 m' q1;omega
    ·have:=k2 k' q1;omega
   ·rw[decide_eq_false q]
    refine .inl ⟨m,rfl,(e _).2 (.inl m1),λm' hm=>?_⟩
    rcases (e m').1 hm with q1 | ⟨k',q1,rfl⟩
    ·exact m2 m' q1
    ·have:=k2 k' q1;omega
  ·rw[decide_eq_true (show (k:Int)+1<99 by omega)]
   refine .inl ⟨k+1,rfl,(e _).2 (.inr ⟨k,k1,rfl⟩),λm' hm=>?_⟩
   rcases (e m').1 hm with q1 | ⟨k',q1,rfl⟩
   ·exact absurd q1 (m1 _)
   ·have:=k2 k' q1;omega
 ·have hv:¬(99:Int)+1<v:=by
   rcases h with⟨m,rfl,m1,m2⟩ | ⟨rfl,m1⟩
   ·have:=hP m m1;omega
   ·omega
  rw[decide_eq_false hv]
  have e':∀m,P' m↔P m:=λm=>(e m).trans ⟨λh=>h.elim id λ⟨k,hk,_⟩=>absurd hk (k1 k),.inl⟩
  rcases h with⟨m,rfl,m1,m2⟩ | ⟨rfl,m1⟩
  ·exact .inl ⟨m,rfl,(e' _).2 m1,λm' hm=>m2 m' ((e' _).1 hm)⟩
  ·exact .inr ⟨rfl,λm hm=>m1 m ((e' _).1 hm)⟩
theorem BDL{P P':Nat->Prop}{v:Int}(h:minP P v)(e:∀m,P' m↔P m):minP P' v:=by
 rcases h with⟨m,rfl,m1,m2⟩ | ⟨rfl,m1⟩
 ·exact .inl ⟨m,rfl,(e _).2 m1,λm' hm=>m2 m' ((e _).1 hm)⟩
 ·exact .inr ⟨rfl,λm hm=>m1 m ((e _).1 hm)⟩
def ADM(s:List Gau)(j:Nat)(v:Int):Prop:=minP (λk=>chn s k j) v
def optP(s:List Gau)(i t m:Nat):Prop:=∃j k,i<j/\j<t/\j<=s.length/\bdG s j/\Can (jF s i j)/\chn s k j/\m=k+1
def H6(s:List Gau)(i t:Nat)(v:Int):Prop:=minP (optP s i t) v
theorem CIA(s:List Gau):ADM s s.length 0:=.inl ⟨0,rfl,rfl,λ_ _=>Nat.zero_le _⟩
theorem CSQ{s:List Gau}{i:Nat}(h1:i<s.length)(h:¬bdG s i):ADM s i 99:=.inr ⟨rfl,λk hk=>by
 cases k with
 |zero=>have hk:i=s.length:=hk;omega
 |succ k=>exact h hk.2.1⟩
theorem CYT(s:List Gau)(i:Nat):H6 s i (i+1) 99:=.inr ⟨rfl,λm ⟨j,k,h1,h2,_⟩=>by omega⟩
theorem BFD{s:List Gau}{i t:Nat}{v:Int}(h:H6 s i t v)(hn:bdG s t->Can (jF s i t)->False):H6 s i (t+1) v:=BDL h λm=>by
 constructor
 ·rintro⟨j,k,h1,h2,h3,h4,h5,h6⟩
  by_cases e:j=t
  ·subst e;exact absurd h5 (hn h4)
  ·exact⟨j,k,h1,by omega,h3,h4,h5,h6⟩
 ·rintro⟨j,k,h1,h2,h3⟩
  exact⟨j,k,h1,by omega,h3⟩
theorem BFB{s:List Gau}{i t:Nat}{v b:Int}(hs:s.length<=24)(hi:i<t)(ht:t<=s.length)(h:H6 s i t v)(hb:ADM s t b)(h1:bdG s t)(h2:Can (jF s i t)):H6 s i (t+1) (bif decide (b+1<v) then b+1 else v):=by
 refine CGK h hb (λm ⟨j,k,_,_,_,_,_,q,e⟩=>by have:=AAK k j q;omega) (λm q=>by have:=AAK m t q;omega) λm=>?_
 constructor
 ·rintro⟨j,k,p1,p2,p3,p4,p5,p6,p7⟩
  by_cases e:j=t
  ·subst e;exact .inr ⟨k,p6,p7⟩
  ·exact .inl ⟨j,k,p1,by omega,p3,p4,p5,p6,p7⟩
 ·rintro (⟨j,k,p1,p2,p3⟩ | ⟨k,p1,p2⟩)
  ·exact⟨j,k,p1,by omega,p3⟩
  ·exact⟨t,k,hi,by omega,ht,h1,h2,p1,p2⟩
theorem CJT{s:List Gau}{i:Nat}{v:Int}(hi:i<s.length)(hb:bdG s i)(h:H6 s i (s.length+1) v):ADM s i v:=BDL h λm=>by
 constructor
 ·intro hm
  cases m with
  |zero=>have hm:i=s.length:=hm;omega
  |succ k=>
   obtain⟨_,_,j,h1,h2,h3,h4,h5⟩:=hm
   exact⟨j,k,h1,by omega,h2,h3,h4,h5,rfl⟩
 ·rintro⟨j,k,h1,h2,h3,h4,h5,h6,rfl⟩
  exact⟨hi,hb,j,h1,h3,h4,h5,h6⟩
theorem CUK{s:List Gau}(hs:s.length<=24){j:Nat}{v:Int}(h:ADM s j v):0<=v/\v<=99:=by
 rcases h with⟨k,rfl,k1,_⟩ | ⟨rfl,_⟩
 ·have:=AAK k j k1;omega
 ·omega
theorem AOH{g:List Gau}{o:List Int}:∀(n:Nat) (s:FS),(Qi g o n s).e≠0->(Qi g o n s).r=⟨[],[]⟩/\(Qi g o n s).k=[]
 |0,s,h=>absurd rfl h
 |n+1,s,h=>by
  unfold Qi at h ⊢
  cases h1:decide (s.to<o.length) with
  |false=>rw[h1] at h;exact absurd rfl h
  |true=>
   rw[h1] at h
   simp only[cond_true] at h ⊢
   cases h2:(EV (L7 g o s.to (Kw g o s.to))).2 with
   |false=>exact⟨rfl,rfl⟩
   |true=>
    rw[h2] at h
    simp only[cond_true] at h ⊢
    cases h3:(EV (L7 g o s.fr (Kw g o s.to))).2 with
    |false=>rw[h3] at h;exact AOH n _ h
    |true=>rw[h3] at h;exact AOH n _ h
theorem AZE{g:List Gau}(h:(FT g).e≠0):(FT g).r=⟨[],[]⟩/\(FT g).k=[]:=by
 unfold FT at h ⊢
 cases hc:AL g==0 with
 |false=>exact⟨rfl,rfl⟩
 |true=>rw[hc] at h;exact AOH _ _ h
theorem BVK{g:List Gau}{v:Int}(hc:AL g=0)(h:ADM (EJ g) 0 v):(v>=99->(0:Int)=((FT g).r.l.length:Int)/\(6:Int)=(FT g).e)/\(¬v>=99->v=((FT g).r.l.length:Int)/\(0:Int)=(FT g).e):=by
 obtain⟨⟨c1,c2⟩,ho⟩:=JU hc
 have hl:=(JW g).length_eq
 rcases BZW hc with⟨e,x,hx,hn⟩ | ⟨e,W⟩
 ·obtain⟨e1,e2⟩:=AZE (g:=g) (by rw[e];omega)
  have hno:=BZO hx hn
  rcases h with⟨k,_,k1,_⟩ | ⟨rfl,_⟩
  ·exact absurd k1 (hno k)
  ·refine⟨λ_=>⟨by rw[e1];rfl,e.symm⟩,λq=>absurd (Int.le_refl 99) q⟩
 ·have h1:=CJH W hc (FT g).r.b.length 0 (by omega)
  have e0:idxG (EJ g) (FT g).r.b 0=0:=rfl
  rw[e0] at h1
  rcases h with⟨k,rfl,k1,k2⟩ | ⟨rfl,k1⟩
  ·have h2:=BUB W k1 (by omega)
   have h3:=k2 _ h1
   have h4:=AAK k 0 k1
   have h5:=W.lenl
   refine⟨λq=>by omega,λ_=>⟨by omega,e.symm⟩⟩
  ·exact absurd h1 (k1 _)
end Go.Bal
