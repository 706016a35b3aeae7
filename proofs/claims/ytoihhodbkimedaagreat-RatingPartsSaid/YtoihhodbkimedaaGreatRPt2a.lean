/- Package rating: what proves parts, in the reference's words (plain). -/
import Derived.Test.YtoihhodbkimedaaGreatRPt0
import Derived.Test.YtoihhodbkimedaaGreatRT14
import Derived.Test.YtoihhodbkimedaaGreatRZ6
set_option linter.unusedVariables false
set_option linter.unusedSimpArgs false
namespace Go.Bal
open Go Go.Sym Go.Proofs
theorem BCG{s t:List Gau}(h:eN s t):eN t s:=h.symm
theorem AEK{α:Type}[Inhabited α]{l:List α}{i:Nat}(h:i<l.length):gD l i=l[i]:=by simp[gD,List.getD_eq_getElem?_getD,h]
theorem BDZ{S:List (List Gau)}(hl:∀s∈S,fsS s<laS s)(h:∀i,i+1<S.length->laS (gD S i)<=fsS (gD S (i+1))){i:Nat}:∀j,i<j->j<S.length->laS (gD S i)<=fsS (gD S j)
 |0,h1,_=>absurd h1 (Nat.not_lt_zero _)
 |j+1,h1,h2=>by
  by_cases e:i=j
  ·subst e;exact h i h2
  ·have p:=BDZ hl h (i:=i) j (by omega) (by omega)
   have q:=h j h2
   have r:=hl _ (CV (show j<S.length by omega))
   omega
theorem BIQ{S:List (List Gau)}(hl:∀s∈S,fsS s<laS s)(h:∀i,i+1<S.length->laS (gD S i)<=fsS (gD S (i+1))):S.Pairwise eN:=by
 rw[List.pairwise_iff_getElem]
 intro i j hi hj hij
 have:=BDZ hl h j hij hj
 rw[AEK hi,AEK hj] at this
 exact .inl this
theorem BYG{α:Type}[Inhabited α]{R:α->α->Prop}{S:List α}:S.Pairwise R↔∀j i,j<i->i<S.length->R (gD S j) (gD S i):=by
 rw[List.pairwise_iff_getElem]
 constructor
 ·intro h j i h1 h2
  rw[AEK h2,AEK (show j<S.length by omega)]
  exact h j i _ _ h1
 ·intro h j i hj hi hji
  have:=h j i hji hi
  rw[AEK hi,AEK hj] at this
  exact this
theorem BUL{g:List Gau}{z:List Int}(h:0<z.length):fsS (By ⟨g,z⟩)=qM ⟨g,z⟩ 0:=by
 unfold fsS qM By
 rw[BBG _ h]
theorem CCV{g:List Gau}{z:List Int}(h:0<z.length):laS (By ⟨g,z⟩)=qM ⟨g,z⟩ (z.length-1):=by
 unfold laS qM By
 rw[List.length_map,BBG _ (by show z.length-1<z.length;omega)]
def ovK(a b:GK):Bool:=bif decide (qM a 0<qM b (b.k.length-1)) then decide (qM b 0<qM a (a.k.length-1)) else false
theorem CBT{a b:GK}(ha:0<a.k.length)(hb:0<b.k.length):ovK a b=false↔eN (By a) (By b):=by
 obtain⟨g,z⟩:=a
 obtain⟨q,w⟩:=b
 unfold eN ovK
 rw[BUL ha,CCV ha,BUL hb,CCV hb]
 show (bif decide (qM ⟨g,z⟩ 0<qM ⟨q,w⟩ (w.length-1)) then decide (qM ⟨q,w⟩ 0<qM ⟨g,z⟩ (z.length-1)) else false)=false↔_
 by_cases h1:qM ⟨g,z⟩ 0<qM ⟨q,w⟩ (w.length-1)
 ·rw[decide_eq_true h1]
  by_cases h2:qM ⟨q,w⟩ 0<qM ⟨g,z⟩ (z.length-1)
  ·rw[decide_eq_true h2];simp;omega
  ·rw[decide_eq_false h2];simp;omega
 ·rw[decide_eq_false h1];simp;omega
theorem CHB{g:List Gau}{m:Int}{k:List (List Int)}{o:Bool}(hc:AV g=0)(hk:k.length<=24)(hn:∀i,i<k.length->(Gr ⟨g,gD k i⟩).2=true):pQ ⟨g,m,k,o⟩=true↔m<=k.length+1/\(∀i,i<k.length->QZ ⟨g,gD k i⟩=true)/\∀j i,j<i->i<k.length->ovK ⟨g,gD k j⟩ ⟨g,gD k i⟩=false:=by
 obtain⟨⟨c1,c2⟩,ho⟩:=NV hc
 have hl:g.length<1073741824:=by omega
 rw[(APU (o:=o) hc hk hn).2]
 have hS:(bS ⟨g,m,k,o⟩).length=k.length:=Dz _
 have hG:∀i,i<k.length->gD (bS ⟨g,m,k,o⟩) i=By ⟨g,gD k i⟩:=λi hi=>AYZ (a:=⟨g,m,k,o⟩) hi
 have hz:∀i,i<k.length->0<(gD k i).length:=λi hi=>by have:=(I1 hl (hn i hi)).1;show 0<(GK.mk g (gD k i)).k.length;omega
 have h1:(∀s∈bS ⟨g,m,k,o⟩,¬Can s)↔∀i,i<k.length->QZ ⟨g,gD k i⟩=true:=by
  constructor
  ·intro h i hi
   have:=h _ (CV (show i<(bS ⟨g,m,k,o⟩).length by rw[hS];exact hi))
   rw[hG i hi] at this
   exact (iW hl ho).2 ⟨hn i hi,this⟩
  ·intro h s hs
   obtain⟨i,hi,rfl⟩:=NL hs
   rw[hS] at hi
   rw[hG i hi]
   exact ((iW hl ho).1 (h i hi)).2
 have hlt:∀s∈bS ⟨g,m,k,o⟩,fsS s<laS s:=λs hs=>by
  obtain⟨i,hi,rfl⟩:=NL hs
  rw[hS] at hi
  rw[hG i hi,BUL (hz i hi),CCV (hz i hi)]
  exact (I1 hl (hn i hi)).2.2.2
 have hp:=AAV ⟨g,m,k,o⟩
 have h2:(∀i,i+1<(Hp ⟨g,m,k,o⟩).length->laS (gD (Hp ⟨g,m,k,o⟩) i)<=fsS (gD (Hp ⟨g,m,k,o⟩) (i+1)))↔(bS ⟨g,m,k,o⟩).Pairwise eN:=by
  constructor
  ·intro h
   exact (hp.pairwise_iff BCG).1 (BIQ (λs hs=>hlt s (hp.mem_iff.1 hs)) h)
  ·intro h
   exact ABE hp h hlt λi hi=>AMV i hi
 have h3:(bS ⟨g,m,k,o⟩).Pairwise eN↔∀j i,j<i->i<k.length->ovK ⟨g,gD k j⟩ ⟨g,gD k i⟩=false:=by
  rw[BYG,hS]
  constructor
  ·intro h j i hji hi
   have:=h j i hji hi
   rw[hG i hi,hG j (by omega)] at this
   exact (CBT (a:=⟨g,gD k j⟩) (b:=⟨g,gD k i⟩) (hz j (by omega)) (hz i hi)).2 this
  ·intro h j i hji hi
   rw[hG i hi,hG j (by omega)]
   exact (CBT (a:=⟨g,gD k j⟩) (b:=⟨g,gD k i⟩) (hz j (by omega)) (hz i hi)).1 (h j i hji hi)
 rw[h1,h2,h3]
end Go.Bal

namespace Go.Bal
open Go Go.Sym Go.Proofs
def gkA(a:PV)(i:Nat):GK:=⟨a.g,gD a.k i⟩
def dPVd:List AVal->Heap->Option (PV×List (Nat×Nat)×List Nat)
 |[x,.d (.v (.int .i64 m)),.d (.list _ n r _)],H=>match aE x H with
  |some (l,f)=>some (⟨l,m,dLLr n r,false⟩,[],f)
  |none=>none
 |_,_=>none
def C_rProv:Ctr:={ α:=PV,xs:=λa=>[.d (BX a.g),.int a.m,eLLd a],val:=pvV,pre:=λa=>[(a.g.length<1073741824/\a.k.length<1073741824)/\∀i,i<a.k.length->(gD a.k i).length<1073741824] }
structure PvI7(a:PV)(i:Nat):Prop where
 hc:AV a.g=0
 hl:a.k.length<=24
 hi:i<=a.k.length
 hn:∀j,j<i->(Gr (gkA a j)).2=true
structure PvI(a:PV)(i k:Nat):Prop where
 hc:AV a.g=0
 hl:a.k.length<=24
 hn:∀j,j<a.k.length->(Gr (gkA a j)).2=true
 hi:i<=a.k.length
 hk:k<=i
 ht:∀j,j<i->QZ (gkA a j)=true
 ho:∀j i',j<i'->i'<a.k.length->(i'<i∨i'=i/\j<k)->ovK (gkA a j) (gkA a i')=false
def pvSl(a:PV):List (Nat×AVal):=[(0,.d (BX a.g)),(1,.int a.m),(2,eLLd a)]
def rp7(a:PV):Shape:={ α:=Nat,dflt:=0,T:=λi=>⟨pvSl a ++ [(9,.int i)],[]⟩,inv:=λi=>PvI7 a i,meas:=λi=>a.k.length-i }
def rp12(a:PV):Shape:={ α:=Nat,dflt:=0,T:=λi=>⟨pvSl a ++ [(10,.int i)],[]⟩,inv:=λi=>PvI a i 0,meas:=λi=>a.k.length-i }
def loKz(a:PV)(i:Nat):Int:=(gD a.g (gD (gD a.k i) 0).toNat).st
def hiKz(a:PV)(i:Nat):Int:=(gD a.g (gD (gD a.k i) ((gD a.k i).length-1)).toNat).st
def rp18(a:PV)(m:Nat):Shape:={ α:=NN,dflt:=default,T:=λx=>⟨pvSl a ++ [(10,.int x.a),(11,.int (loKz a x.a)),(12,.int (hiKz a x.a)),(13,.int x.b)],[]⟩,inv:=λx=>a.k.length-x.a=m/\x.a<a.k.length/\QZ (gkA a x.a)=true/\PvI a x.a x.b,meas:=λx=>x.a-x.b }
def BPY(a:PV):Ann:={ ann 119 [(Tc,C_rCheck.spec WJ),(AYT,C_rUnn.spec dGK),(ALE,C_rTied.spec dGK)] with loops:=λid=>if id=7 then some [rp7 a] else if id=12 then some [rp12 a] else none,inner:=λgs id=>if id=18 then some [rp18 a (gs.getD 0 0)] else none }
def BNU(a:PV):Prop:=BQ Try.prog (BPY a) BAP (AI BAP) (C_rProv.xs a) (AD []) (C_rProv.val a) [] [] []
abbrev tU a:=BN (JN a)
abbrev uU a:=AZ (JN a)
abbrev Nq a b:=TM a (DZ b)
attribute [go_sem] tU uU Nq
theorem CCC(a:PV):(BNU a)=(VE (JN a) (FN (JN a)) (UK (Cq (JN a)) (Ex a) (Sx a) (Ao (JN a)) (UK (KO (AQ (LQ a)) 24) (Ex a) (Sx a) 3 (DJ (λi=>And (BJ (uU a) (tU a) (Tk a) (Am a) (AK (λj=>Fx j a a j)) (BD i)) (PvI7 a i)) (λi=>PI (PvI7 a i) i (LQ a) (AG (IR i (LQ a)) (CE (JN a)) (AF (BB (JN a)) (IA (TM a i)) (FA (TM a i)) (FN (JN a)) (HS (TM a i)))) (UK (not (Mv (Ug a a i))) (Ex a) (Sx a) 2 (FB (λj=>EV (BJ (uU a) (tU a) (Tk a) (Am a) (AK (λk=>Fx k a a k)) (BS j i)) (PvI7 a j) (LQ a) j i))) (DJ (λj=>And (BJ (uU a) (tU a) (Tk a) (Am a) (AK (λk=>Fx k a a k)) (BD j)) (PvI a j 0)) (λj=>PI (PvI a j 0) j (LQ a) (AG (IR j (LQ a)) (CE (JN a)) (AF (BB (JN a)) (IA (TM a j)) (FA (TM a j)) (And (FN (JN a)) (RZ (JN a))) (EL (Mv (Ug a a j))))) (Is (not (qK (pL (JN a) (TM a j)))) (Ex a) (eF a) (EI (IR j (LQ a)) (TL (CG (TM a j))) (Lh (TM a j) 0 (JN a)) (Xb (IR j (LQ a)) (KJ (JZ (EK (TM a j))) (TM a j)) (BC (aM (TM a j) (EK (TM a j)))) (Gi (aM (TM a j) (EK (TM a j))) (JN a))) (UT (λk=>AF (AX (uU a) (tU a) (Tk a) (Am a) (AK (λl=>Fx l a a l)) (XF k j) (AO (loKz a (BK k)) (Fi (JN a) (TM a j) HB)) (AO (hiKz a (BK k)) (Fi (JN a) (TM a j) (UO (EK (TM a j))))) (CP (HV k))) (Rs (LQ a) k j) (Dk k (LQ a)) (EL (qK (gkA a (BK k)))) (PvI a (BK k) (DZ k)))) (Iv (λk=>FL (AN (Rs (LQ a) k j) (Dk k (LQ a)) (EL (qK (gkA a (BK k)))) (PvI a (BK k) (DZ k))) (GD (HV k) (JB k)) (AN (Aq k (LQ a)) (TL (CG (Nq a k))) (Lh (Nq a k) 0 (JN a)) (Xb (Aq k (LQ a)) (KJ (JZ (EK (Nq a k))) (Nq a k)) (BC (aM (Nq a k) (EK (Nq a k)))) (Gi (aM (Nq a k) (EK (Nq a k))) (JN a)))) (Is (FU (GD (Fi (JN a) (Nq a k) HB) (hiKz a (BK k))) (GD (loKz a (BK k)) (Fi (JN a) (Nq a k) (UO (EK (Nq a k)))))) (Ex a) (eF a) (UT (λl=>LL (AX (uU a) (tU a) (Tk a) (Am a) (AK (λm=>Fx m a a m)) (NR l k) (AO (loKz a (BK l)) (loKz a (BK k))) (AO (hiKz a (BK l)) (hiKz a (BK k))) (OG l (Tl k))) (AN (Rs (LQ a) l j) (Dk l (LQ a)) (EL (qK (gkA a (BK l)))) (PvI a (BK l) (DZ l))) (BK l) (DZ l) (BK k) (DZ k)))) (FB (λl=>EV (BJ (uU a) (tU a) (Tk a) (Am a) (AK (λm=>Fx m a a m)) (EA l (JB k))) (PvI a l 0) (LQ a) l j)))))) (And (Mj (Ex a) (PV.m a) (Kz (LQ a))) (eF a))))))))):=by kernel_rfl
theorem CIC(a:PV)(h1:a.g.length<1073741824)(h2:a.k.length<1073741824)(h3:∀i,i<a.k.length->(gD a.k i).length<1073741824):BNU a:=by
 rw[CCC]<;> delta JT qD F3 XL EE EC DP GD WI JG CS AO KO AR CG AK BV BZ CM AQ DD ES LX EF NK Ba UT BK DZ Iv CI EZ FB LZ FP VY Ep EU Mv qK HF IF JN Ex Sx AG GT JO GV IE DG AF AT AH FF Jn CA CF BH AM CT BL GQ Xb AP HA BR AS AW DF DX HV DU CR AX BC HH GA CQ HL IC AN JZ AZ EP GI ED AY BW TM HU EL XY GC HI CX JD FZ II JA HG JB CL EK GU EA LQ HY CP FU DV EM GH PG IH GF FE CB BJ BN BM EW FM FK FD LN ON HB SL MI LL KJ FL OG Ac cG CE EV IA BS ZX SD NQ BD LC FH BB FA HZ DY HS FN DJ UO pL Ly FI tV EI Tl NR ML Bd Is RO IR Ao TQ Am RZ Aq QP UK Fx XF Fi Nq TL Dk Gi Tk Lh Cq PI Ug VE Kz Mj aM tU eF Rs uU;simp only[CC,eq_self,implies_true,forall_const]
 refine⟨h1,λhc=>?_,λhc=>?_⟩
 ·have e:(AV a.g==0)=false:=by simpa using hc
  have e2:bV a=AV a.g:=by unfold bV;rw[e];rfl
  refine⟨?_,e2⟩
  unfold pQ;rw[e2,e];rfl
 have hC:AV a.g=0:=by simpa using hc
 obtain⟨⟨c1,c2⟩,ho⟩:=NV hC
 refine⟨λhk=>BNZ hC (by omega),λhk=>?_⟩
 have hk:a.k.length<=24:=by omega
 refine⟨⟨0,rfl,hC,hk,Nat.zero_le _,λj hj=>absurd hj (Nat.not_lt_zero _)⟩,λi hI=>⟨λhlt=>⟨⟨⟨by omega,hlt⟩,h1,h3 i (by omega)⟩,λhf=>BFO hC hk (show i<a.k.length by omega) hf,λht=>⟨i+1,(CN (by omega)).symm,⟨hC,hk,by omega,λj hj=>?_⟩,by omega⟩⟩,λhge=>?_⟩⟩
 ·by_cases q:j<i
  ·exact hI.hn j q
  ·obtain rfl:j=i:=by omega
   exact ht
 have hn:∀j,j<a.k.length->(Gr (gkA a j)).2=true:=λj hj=>hI.hn j (by omega)
 have hE:bV a=0:=(APU (g:=a.g) (m:=a.m) (k:=a.k) (o:=a.o) hC hk hn).1
 have hP:=CHB (g:=a.g) (m:=a.m) (k:=a.k) (o:=a.o) hC hk hn
 have hna:∀j,j<a.k.length->(2<=(gD a.k j).length/\(gD a.k j).length<=3)/\∀i,i<(gD a.k j).length->0<=gD (gD a.k j) i/\gD (gD a.k j) i<a.g.length:=λj hj=>by
  obtain⟨p,q,_⟩:=I1 (a:=gkA a j) h1 (hn j hj)
  exact⟨p,q⟩
 have wl:∀j,j<a.k.length->IntKind.i64.wrap (((gD a.k j).length:Int)-1)=(((gD a.k j).length-1:Nat):Int):=λj hj=>by
  have:=(hna j hj).1
  rw[JH (by omega) (by omega)];omega
 refine⟨⟨0,rfl,hC,hk,hn,Nat.zero_le _,Nat.le_refl _,λj hj=>absurd hj (Nat.not_lt_zero _),λj i' h1 h2 h3=>by omega⟩,λx hX=>⟨λhlt=>?_,λhge2=>?_⟩⟩
 ·have hx:x<a.k.length:=by omega
  have nx:=hna x hx
  refine⟨⟨⟨by omega,hlt⟩,⟨h1,ho⟩,hn x hx⟩,λhf=>⟨?_,hE⟩,λht=>?_⟩
  ·cases hq:pQ a with
   |false=>rfl
   |true=>
    have:=(hP.1 hq).2.1 x hx
    rw[show QZ ⟨a.g,gD a.k x⟩=false from hf] at this;cases this
  ·rw[wl x hx,Int.toNat_natCast]
   refine⟨⟨⟨by omega,hlt⟩,⟨by omega,by omega⟩,nx.2 0 (by omega),⟨by omega,hlt⟩,⟨by omega,hlt⟩,⟨by omega,by omega⟩,nx.2 _ (by omega)⟩,⟨⟨x,0⟩,⟨rfl,rfl,rfl,rfl⟩,rfl,hx,ht,hC,hk,hn,by show x<=_;omega,Nat.zero_le _,hX.ht,λj i' j1 j2 j3=>hX.ho j i' j1 j2 (by have j3:i'<x∨i'=x/\j<0:=j3;omega)⟩,λy ⟨y1,y2,y3,hY⟩=>⟨λhlt2=>?_,λhge3=>⟨y.a+1,(CN (by omega)).symm,⟨hC,hk,hn,by omega,Nat.zero_le _,λj hj=>?_,λj i' j1 j2 j3=>hY.ho j i' j1 j2 (by omega)⟩,by omega⟩⟩⟩
   ·have hb:y.b<a.k.length:=by omega
    have nb:=hna y.b hb
    rw[wl y.b hb,Int.toNat_natCast]
    have eo:∀c,(bif decide ((gD a.g (gD (gD a.k y.b) (Int.toNat 0)).toNat).st<hiKz a y.a) then decide (loKz a y.a<(gD a.g (gD (gD a.k y.b) ((gD a.k y.b).length-1)).toNat).st) else false)=c->ovK (gkA a y.b) (gkA a y.a)=c:=λc h=>h
    refine⟨⟨⟨by omega,by omega⟩,⟨by omega,by omega⟩,nb.2 0 (by omega),⟨by omega,by omega⟩,⟨by omega,by omega⟩,⟨by omega,by omega⟩,nb.2 _ (by omega)⟩,λhT=>⟨?_,hE⟩,λhF=>⟨⟨y.a,y.b+1⟩,⟨rfl,rfl,rfl,(CN (by omega)).symm⟩,⟨y1,y2,y3,hC,hk,hn,hY.hi,by show y.b+1<=y.a;omega,hY.ht,λj i' j1 j2 j3=>?_⟩,by show y.a-(y.b+1)<_;omega⟩⟩
    ·cases hq:pQ a with
     |false=>rfl
     |true=>
      have:=(hP.1 hq).2.2 y.b y.a (by omega) y2
      rw[show ovK ⟨a.g,gD a.k y.b⟩ ⟨a.g,gD a.k y.a⟩=true from eo _ hT] at this;cases this
    ·have j3:i'<y.a∨i'=y.a/\j<y.b+1:=j3
     by_cases q:i'=y.a/\j=y.b
     ·obtain⟨rfl,rfl⟩:=q
      exact eo _ hF
     ·exact hY.ho j i' j1 j2 (by omega)
   ·by_cases q:j<y.a
    ·exact hY.ht j q
    ·obtain rfl:j=y.a:=by omega
     exact y3
 ·refine⟨?_,hE⟩
  have hx:x=a.k.length:=by have:=hX.hi;omega
  subst hx
  rw[CN (by omega)]
  have ht:=hX.ht
  have hov:∀j i,j<i->i<a.k.length->ovK ⟨a.g,gD a.k j⟩ ⟨a.g,gD a.k i⟩=false:=λj i j1 j2=>hX.ho j i j1 j2 (.inl j2)
  by_cases hm:a.m<=a.k.length+1
  ·rw[hP.2 ⟨hm,ht,hov⟩]
   symm;exact decide_eq_true (by omega)
  ·cases hq:pQ a with
   |true=>exact absurd (hP.1 hq).1 hm
   |false=>symm;exact decide_eq_false (by omega)
theorem CBR:AJ Try.prog BAV (C_rProv.spec dPVd):=VD C_rProv BPY [] [] BVP (λ_=>by kernel_rfl) (λ_=>AC kM (AC BMS (AC BCL AE))) (λ(a:PV) h=>CIC a h.1.1 h.1.2 h.2) (λ_=>WK rfl rfl) _
end Go.Bal

namespace Go.Bal
open Go Go.Sym Go.Proofs
theorem ACR{s:List Gau}:∀(k i:Nat),chn s k i->k+i<=s.length
 |0,i,h=>by have h:i=s.length:=h;omega
 |k+1,i,h=>by
  obtain⟨h1,_,j,h2,h3,_,_,h4⟩:=h
  have:=ACR k j h4;omega
def minP(P:Nat->Prop)(v:Int):Prop:=(∃m:Nat,v=m/\P m/\∀m',P m'->m<=m')∨(v=99/\∀m,¬P m)
theorem CBU{P C P':Nat->Prop}{v b:Int}(h:minP P v)(hb:minP C b)(hP:∀m,P m->m<90)(hC:∀m,C m->m<90)(e:∀m,P' m↔P m∨∃k,C k/\m=k+1):minP P' (bif decide (b+1<v) then b+1 else v):=by
 rcases hb with⟨k,rfl,k1,k2⟩ | ⟨rfl,k1⟩
 ·have:=hC k k1
  rcases h with⟨m,rfl,m1,m2⟩ | ⟨rfl,m1⟩
  ·by_cases q:(k:Int)+1<m
   ·rw[decide_eq_true q]
    refine .inl ⟨k+1,rfl,(e _).2 (.inr ⟨k,k1,rfl⟩),λm' hm=>?_⟩
    rcases (e m').1 hm with q1 | ⟨k',q1,rfl⟩
    ·have:=m2 m' q1;omega
    ·have:=k2 k' q1;omega
   ·rw[decide_eq_false q]
    refine .inl ⟨m,rfl,(e _).2 (.inl m1),λm' hm=>?_⟩
    rcases (e m').1 hm with q1 | ⟨k',q1,rfl⟩
    ·exact m2 m' q1
    ·have:=k2 k' q1;omega
  ·rw[decide_eq_true (show (k:Int)+1<99 by omega)]
   refine .inl ⟨k+1,rfl,(e _).2 (.inr ⟨k,k1,rfl⟩),λm' hm=>?_⟩
   rcases (e m').1 hm with q1 | ⟨k',q1,rfl⟩
   ·exact absurd q1 (m1 _)
   ·have:=k2 k' q1;omega
 ·have hv:¬(99:Int)+1<v:=by
   rcases h with⟨m,rfl,m1,m2⟩ | ⟨rfl,m1⟩
   ·have:=hP m m1;omega
   ·omega
  rw[decide_eq_false hv]
  have e':∀m,P' m↔P m:=λm=>(e m).trans ⟨λh=>h.elim id λ⟨k,hk,_⟩=>absurd hk (k1 k),.inl⟩
  rcases h with⟨m,rfl,m1,m2⟩ | ⟨rfl,m1⟩
  ·exact .inl ⟨m,rfl,(e' _).2 m1,λm' hm=>m2 m' ((e' _).1 hm)⟩
  ·exact .inr ⟨rfl,λm hm=>m1 m ((e' _).1 hm)⟩
theorem BEX{P P':Nat->Prop}{v:Int}(h:minP P v)(e:∀m,P' m↔P m):minP P' v:=by
 rcases h with⟨m,rfl,m1,m2⟩ | ⟨rfl,m1⟩
 ·exact .inl ⟨m,rfl,(e _).2 m1,λm' hm=>m2 m' ((e _).1 hm)⟩
 ·exact .inr ⟨rfl,λm hm=>m1 m ((e _).1 hm)⟩
def AAZ(s:List Gau)(j:Nat)(v:Int):Prop:=minP (λk=>chn s k j) v
def optP(s:List Gau)(i t m:Nat):Prop:=∃j k,i<j/\j<t/\j<=s.length/\bdG s j/\Can (iF s i j)/\chn s k j/\m=k+1
def zJ(s:List Gau)(i t:Nat)(v:Int):Prop:=minP (optP s i t) v
theorem CJB(s:List Gau):AAZ s s.length 0:=.inl ⟨0,rfl,rfl,λ_ _=>Nat.zero_le _⟩
theorem CPT{s:List Gau}{i:Nat}(h1:i<s.length)(h:¬bdG s i):AAZ s i 99:=.inr ⟨rfl,λk hk=>by
 cases k with
 |zero=>have hk:i=s.length:=hk;omega
 |succ k=>exact h hk.2.1⟩
theorem CRT(s:List Gau)(i:Nat):zJ s i (i+1) 99:=.inr ⟨rfl,λm ⟨j,k,h1,h2,_⟩=>by omega⟩
theorem BBL{s:List Gau}{i t:Nat}{v:Int}(h:zJ s i t v)(hn:bdG s t->Can (iF s i t)->False):zJ s i (t+1) v:=BEX h λm=>by
 constructor
 ·rintro⟨j,k,h1,h2,h3,h4,h5,h6⟩
  by_cases e:j=t
  ·subst e;exact absurd h5 (hn h4)
  ·exact⟨j,k,h1,by omega,h3,h4,h5,h6⟩
 ·rintro⟨j,k,h1,h2,h3⟩
  exact⟨j,k,h1,by omega,h3⟩
theorem BEZ{s:List Gau}{i t:Nat}{v b:Int}(hs:s.length<=24)(hi:i<t)(ht:t<=s.length)(h:zJ s i t v)(hb:AAZ s t b)(h1:bdG s t)(h2:Can (iF s i t)):zJ s i (t+1) (bif decide (b+1<v) then b+1 else v):=by
 refine CBU h hb (λm ⟨j,k,_,_,_,_,_,q,e⟩=>by have:=ACR k j q;omega) (λm q=>by have:=ACR m t q;omega) λm=>?_
 constructor
 ·rintro⟨j,k,p1,p2,p3,p4,p5,p6,p7⟩
  by_cases e:j=t
  ·subst e;exact .inr ⟨k,p6,p7⟩
  ·exact .inl ⟨j,k,p1,by omega,p3,p4,p5,p6,p7⟩
 ·rintro (⟨j,k,p1,p2,p3⟩ | ⟨k,p1,p2⟩)
  ·exact⟨j,k,p1,by omega,p3⟩
  ·exact⟨t,k,hi,by omega,ht,h1,h2,p1,p2⟩
theorem CIE{s:List Gau}{i:Nat}{v:Int}(hi:i<s.length)(hb:bdG s i)(h:zJ s i (s.length+1) v):AAZ s i v:=BEX h λm=>by
 constructor
 ·intro hm
  cases m with
  |zero=>have hm:i=s.length:=hm;omega
  |succ k=>
   obtain⟨_,_,j,h1,h2,h3,h4,h5⟩:=hm
   exact⟨j,k,h1,by omega,h2,h3,h4,h5,rfl⟩
 ·rintro⟨j,k,h1,h2,h3,h4,h5,h6,rfl⟩
  exact⟨hi,hb,j,h1,h3,h4,h5,h6⟩
theorem CPW{s:List Gau}(hs:s.length<=24){j:Nat}{v:Int}(h:AAZ s j v):0<=v/\v<=99:=by
 rcases h with⟨k,rfl,k1,_⟩ | ⟨rfl,_⟩
 ·have:=ACR k j k1;omega
 ·omega
theorem APQ{g:List Gau}{o:List Int}:∀(n:Nat) (s:FS),(Sw g o n s).e≠0->(Sw g o n s).r=⟨[],[]⟩/\(Sw g o n s).k=[]
 |0,s,h=>absurd rfl h
 |n+1,s,h=>by
  unfold Sw at h ⊢
  cases h1:decide (s.to<o.length) with
  |false=>rw[h1] at h;exact absurd rfl h
  |true=>
   rw[h1] at h
   simp only[cond_true] at h ⊢
   cases h2:(DC (T4 g o s.to (Mp g o s.to))).2 with
   |false=>exact⟨rfl,rfl⟩
   |true=>
    rw[h2] at h
    simp only[cond_true] at h ⊢
    cases h3:(DC (T4 g o s.fr (Mp g o s.to))).2 with
    |false=>rw[h3] at h;exact APQ n _ h
    |true=>rw[h3] at h;exact APQ n _ h
theorem AWM{g:List Gau}(h:(IP g).e≠0):(IP g).r=⟨[],[]⟩/\(IP g).k=[]:=by
 unfold IP at h ⊢
 cases hc:AV g==0 with
 |false=>exact⟨rfl,rfl⟩
 |true=>rw[hc] at h;exact APQ _ _ h
theorem BRJ{g:List Gau}{v:Int}(hc:AV g=0)(h:AAZ (FW g) 0 v):(v>=99->(0:Int)=((IP g).r.l.length:Int)/\(6:Int)=(IP g).e)/\(¬v>=99->v=((IP g).r.l.length:Int)/\(0:Int)=(IP g).e):=by
 obtain⟨⟨c1,c2⟩,ho⟩:=NV hc
 have hl:=(LR g).length_eq
 rcases BZB hc with⟨e,x,hx,hn⟩ | ⟨e,W⟩
 ·obtain⟨e1,e2⟩:=AWM (g:=g) (by rw[e];omega)
  have hno:=BUT hx hn
  rcases h with⟨k,_,k1,_⟩ | ⟨rfl,_⟩
  ·exact absurd k1 (hno k)
  ·refine⟨λ_=>⟨by rw[e1];rfl,e.symm⟩,λq=>absurd (Int.le_refl 99) q⟩
 ·have h1:=CGG W hc (IP g).r.b.length 0 (by omega)
  have e0:idxG (FW g) (IP g).r.b 0=0:=rfl
  rw[e0] at h1
  rcases h with⟨k,rfl,k1,k2⟩ | ⟨rfl,k1⟩
  ·have h2:=BRM W k1 (by omega)
   have h3:=k2 _ h1
   have h4:=ACR k 0 k1
   have h5:=W.lenl
   refine⟨λq=>by omega,λ_=>⟨by omega,e.symm⟩⟩
  ·exact absurd h1 (k1 _)
end Go.Bal
