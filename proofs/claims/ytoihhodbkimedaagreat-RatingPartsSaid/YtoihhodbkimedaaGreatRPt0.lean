/- Package rating: parts and knots in the reference's words (plain). -/
import Derived.Test.YtoihhodbkimedaaGreatRT14
import Derived.Test.YtoihhodbkimedaaGreatRZ6
import Derived.Test.YtoihhodbkimedaaGreatRLn1
import Derived.Test.YtoihhodbkimedaaGreatRFl2
set_option linter.unusedVariables false
set_option linter.unusedSimpArgs false
namespace Go.Bal
open Go Go.Sym Go.Proofs
def qM(a:GK)(i:Nat):Int:=(gD a.g (gD a.k i).toNat).st
def inK(a:GK)(i:Nat):Prop:=0<=gD a.k i/\gD a.k i<a.g.length
theorem BRQ{a:GB}(ho:∀g∈a.g,RK g)(k:Int):(DC (Ja (PB a) k)).2=qF (qW a.g a.b k):=by
 have h1:=BQJ (b:=a.b) (k:=k) ho
 have h2:=(bY (s:=PH a.g a.b k) λg hg=>xM ho g hg).1
 have h3:(DC (Ja (PB a) k)).2=(DC (PH a.g a.b k)).2:=rfl
 rw[h3]
 cases hp:qF (qW a.g a.b k) with
 |true=>exact h2.2 (h1.1 hp)
 |false=>
  cases hq:(DC (PH a.g a.b k)).2 with
  |false=>rfl
  |true=>rw[h1.2 (h2.1 hq)] at hp;cases hp
theorem CQT{a:GK}(h:(bif decide ((a.k.length:Int)<2) then true else decide ((a.k.length:Int)>3))=true):(Gr a).2=false:=by
 have:QY (a.k.length:Int) 2 3=false:=by
  rcases CPQ.1 h with h | h
  ·have:=of_decide_eq_true h;unfold QY;simp;omega
  ·have:=of_decide_eq_true h;unfold QY;simp;omega
 unfold Gr Sp;rw[this];rfl
theorem CQU{a:GK}{i:Nat}(hi:i<a.k.length)(h:QY (gD a.k i) 0 (wr (a.g.length-1))=false):(Gr a).2=false:=by
 have e:(a.k.all λx=>QY x 0 (wr (a.g.length-1)))=false:=AYC hi h
 unfold Gr Sp;rw[e]
 cases QY (a.k.length:Int) 2 3<;>rfl
theorem CSW{a:GK}(hl:a.g.length<1073741824)(h1:2<=a.k.length/\a.k.length<=3)(h2:∀j,j<a.k.length->inK a j):(Gr a).2=nmB (By a):=by
 have e:wr ((a.g.length:Int)-1)=(a.g.length:Int)-1:=JH (by omega) (by omega)
 have hok:Sp a=true:=by
  unfold Sp
  rw[show QY (a.k.length:Int) 2 3=true by unfold QY;simp;omega]
  show (a.k.all λx=>QY x 0 (wr (a.g.length-1)))=true
  refine AYW.2 λi hi=>?_
  obtain⟨p,q⟩:=h2 i hi
  rw[e];unfold QY;simp;omega
 unfold Gr;rw[hok];rfl
theorem CPD{a:GK}(hl:a.g.length<1073741824)(h1:2<=a.k.length/\a.k.length<=3)(h2:∀j,j<a.k.length->inK a j)(h3:∀j,0<j->j<a.k.length->qM a (j-1)<=qM a j):(!(Gr a).2)=(qM a 0==qM a (a.k.length-1)):=by
 rw[CSW hl h1 h2]
 obtain⟨g,k⟩:=a
 rcases k with _ | ⟨p,_ | ⟨q,_ | ⟨r,_ | ⟨t,l⟩⟩⟩⟩
 ·exact absurd h1.1 (by show ¬2<=0;omega)
 ·exact absurd h1.1 (by show ¬2<=1;omega)
 ·have s1:(gD g p.toNat).st<=(gD g q.toNat).st:=h3 1 (by omega) (by show 1<2;omega)
  show (!nmB [gD g p.toNat,gD g q.toNat])=((gD g p.toNat).st==(gD g q.toNat).st)
  have:=BNB (gD g p.toNat) (gD g q.toNat)
  cases hb:nmB [gD g p.toNat,gD g q.toNat] with
  |true=>rw[hb] at this;have:=this.1 rfl;symm;show ((gD g p.toNat).st==(gD g q.toNat).st)=false;simp;omega
  |false=>
   rw[hb] at this
   have:¬(gD g p.toNat).st<(gD g q.toNat).st:=λh=>by cases this.2 h
   symm;show ((gD g p.toNat).st==(gD g q.toNat).st)=true;simp;omega
 ·have s1:(gD g p.toNat).st<=(gD g q.toNat).st:=h3 1 (by omega) (by show 1<3;omega)
  have s2:(gD g q.toNat).st<=(gD g r.toNat).st:=h3 2 (by omega) (by show 2<3;omega)
  show (!nmB [gD g p.toNat,gD g q.toNat,gD g r.toNat])=((gD g p.toNat).st==(gD g r.toNat).st)
  have:=BPO (gD g p.toNat) (gD g q.toNat) (gD g r.toNat)
  cases hb:nmB [gD g p.toNat,gD g q.toNat,gD g r.toNat] with
  |true=>rw[hb] at this;have:=this.1 rfl;symm;show ((gD g p.toNat).st==(gD g r.toNat).st)=false;simp;omega
  |false=>
   rw[hb] at this
   have:¬(gD g p.toNat).st<(gD g r.toNat).st:=λh=>by cases this.2 ⟨s1,s2,h⟩
   symm;show ((gD g p.toNat).st==(gD g r.toNat).st)=true;simp;omega
 ·exact absurd h1.2 (by show ¬(l.length+1+1+1+1<=3);omega)
theorem I1{a:GK}(hl:a.g.length<1073741824)(h:(Gr a).2=true):(2<=a.k.length/\a.k.length<=3)/\(∀j,j<a.k.length->inK a j)/\(∀j,0<j->j<a.k.length->qM a (j-1)<=qM a j)/\qM a 0<qM a (a.k.length-1):=by
 obtain⟨ho,hb,_⟩:=BUH h
 obtain⟨k1,k2,k3⟩:=cZ hl ho
 refine⟨⟨k1,k2⟩,λj hj=>k3 _ (CV hj),?_⟩
 obtain⟨g,k⟩:=a
 rcases k with _ | ⟨p,_ | ⟨q,_ | ⟨r,_ | ⟨t,l⟩⟩⟩⟩
 ·exact absurd k1 (by show ¬2<=0;omega)
 ·exact absurd k1 (by show ¬2<=1;omega)
 ·have hb:(gD g p.toNat).st<(gD g q.toNat).st:=(BNB _ _).1 hb
  refine⟨λj j1 j2=>?_,hb⟩
  have j2:j<2:=j2
  obtain rfl:j=1:=by omega
  exact Int.le_of_lt hb
 ·obtain⟨b1,b2,b3⟩:(gD g p.toNat).st<=(gD g q.toNat).st/\(gD g q.toNat).st<=(gD g r.toNat).st/\(gD g p.toNat).st<(gD g r.toNat).st:=(BPO _ _ _).1 hb
  refine⟨λj j1 j2=>?_,b3⟩
  have j2:j<3:=j2
  rcases (show j=1∨j=2 by omega) with rfl | rfl
  ·exact b1
  ·exact b2
 ·exact absurd k2 (by show ¬(l.length+1+1+1+1<=3);omega)
theorem CGM{a:GK}(hl:a.g.length<1073741824){i:Nat}(h1:0<i)(h2:i<a.k.length)(h:qM a i<qM a (i-1)):(Gr a).2=false:=by
 cases hn:(Gr a).2 with
 |false=>rfl
 |true=>have:=(I1 hl hn).2.2.1 i h1 h2;omega
theorem CCR{a:GK}(hl:a.g.length<1073741824)(ho:∀x∈a.g,RK x)(hn:(Gr a).2=true):QZ a=!Wd (gD a.g (gD a.k 0).toNat) (gD a.g (gD a.k (a.k.length / 2)).toNat) (gD a.g (gD a.k (a.k.length-1)).toNat):=by
 obtain⟨k1,k2,k3,k4⟩:=I1 hl hn
 have ht:=iW hl ho
 have hK:∀j,j<a.k.length->RK (gD a.g (gD a.k j).toNat):=λj hj=>by
  obtain⟨p,q⟩:=k2 j hj
  exact ho _ (CV (by omega))
 have key:Can (By a)↔Wd (gD a.g (gD a.k 0).toNat) (gD a.g (gD a.k (a.k.length / 2)).toNat) (gD a.g (gD a.k (a.k.length-1)).toNat)=true:=by
  have o0:=hK 0 (by omega)
  have o1:=hK (a.k.length / 2) (by omega)
  have o2:=hK (a.k.length-1) (by omega)
  have s1:qM a 0<=qM a (a.k.length / 2):=by
   have:a.k.length / 2=1:=by omega
   rw[this];exact k3 1 (by omega) (by omega)
  have s2:qM a (a.k.length / 2)<=qM a (a.k.length-1):=by
   have e:a.k.length / 2=1:=by omega
   rcases (show a.k.length=2∨a.k.length=3 by omega) with q | q
   ·rw[q];exact Int.le_refl _
   ·rw[q];exact k3 2 (by omega) (by omega)
  rw[AON o0.2.2.2.1 o1.2.2.2.1 o2.2.2.2.1 s1 s2]
  have hm:∀(P:Gau->Prop),(∀x∈By a,P x)↔P (gD a.g (gD a.k 0).toNat)/\P (gD a.g (gD a.k 1).toNat)/\P (gD a.g (gD a.k (a.k.length-1)).toNat):=λP=>by
   obtain⟨g,k⟩:=a
   rcases k with _ | ⟨p,_ | ⟨q,_ | ⟨r,_ | ⟨t,l⟩⟩⟩⟩
   ·exact absurd k1.1 (by show ¬2<=0;omega)
   ·exact absurd k1.1 (by show ¬2<=1;omega)
   ·show (∀x∈[gD g p.toNat,gD g q.toNat],P x)↔P (gD g p.toNat)/\P (gD g q.toNat)/\P (gD g q.toNat)
    simp
   ·show (∀x∈[gD g p.toNat,gD g q.toNat,gD g r.toNat],P x)↔P (gD g p.toNat)/\P (gD g q.toNat)/\P (gD g r.toNat)
    simp
   ·exact absurd k1.2 (by show ¬(l.length+1+1+1+1<=3);omega)
  have e1:a.k.length / 2=1:=by omega
  rw[e1]
  constructor
  ·rintro⟨x,x1,x2⟩
   exact⟨RA x,MM x1,(hm λg=>(RA x).pass g).1 x2⟩
  ·rintro⟨f,f1,f2⟩
   have hoL:∀g∈By a,RK g:=(hm RK).2 ⟨o0,by rw[e1] at o1;exact o1,o2⟩
   exact BHY hoL f1 ((hm λg=>f.pass g).2 f2)
 cases hq:Wd (gD a.g (gD a.k 0).toNat) (gD a.g (gD a.k (a.k.length / 2)).toNat) (gD a.g (gD a.k (a.k.length-1)).toNat) with
 |true=>
  cases hT:QZ a with
  |false=>rfl
  |true=>exact absurd (key.2 hq) (ht.1 hT).2
 |false=>exact ht.2 ⟨hn,λhc=>by rw[key.1 hc] at hq;cases hq⟩
end Go.Bal

namespace Go.Bal
open Go Go.Sym Go.Proofs
def C_rThru:Ctr:={ α:=GB,xs:=xGB,val:=λa=>.tup [.bool (thrM a),.int (EG a)],pre:=λx=>[x.g.length<1073741824/\x.b.length<1073741824] }
def rt5(a:GB):Shape:={ α:=Nat,dflt:=0,T:=λk=>⟨[(0,.d (BX a.g)),(1,.d (CZ a.b)),(7,.int k)],[]⟩,inv:=λk=>EG a=0/\k<=a.b.length+1/\thrM a=thrK a (a.b.length+1-k) k,meas:=λk=>a.b.length+1-k }
def BOW(a:GB):Ann:={ ann 26 [(AQW,C_rAsk.spec dGB),(BGI,C_rIns.spec dGBI),(ALK,C_rPb.spec WJ)] with loops:=λid=>if id=5 then some [rt5 a] else none }
def BKQ(a:GB):Prop:=BQ Try.prog (BOW a) AVX (AI AVX) (xGB a) (AD []) (C_rThru.val a) [] [] []
abbrev eH a b c:=qW (TJ a) (TE b) (AQ c)
attribute [go_sem] eH
theorem BVB(a:GB):(BKQ a)=(And (BJ (AW (TJ a) (WE a)) (UG a) (UA a) (UB a) (Ur (TJ a)) (SL (TE a))) (UK (FI (TD a)) (Lo a) (SZ a) (TD a) (DJ (λi=>And (YT (WE a) (CX (Jl a)) (FC (Jl a)) (BD i)) (Ey (SZ a) (BU i (YW a)) (JT (Lo a) (thrK a (EF (YW a) i) i)))) (λi=>FL (Ey (SZ a) (BU i (YW a)) (JT (Lo a) (thrK a (EF (YW a) i) i))) (F3 (AQ i) (tJ a)) (IQ (TJ a) (WE a) (UG a) (FO (UA a) (UB a) (BE i) (And (Ur (TJ a)) (SL (TE a))) (CE (eH a a i)) (BB (eH a a i)) (FN (eH a a i)) (RZ (eH a a i)) (λj=>AK (λk=>Hv j k k (BH (eH a a i)) (DD (HU (eH a a i) j) (HU (eH a a i) k)))))) (Is (not (qA (BH (eH a a i)))) (Lo a) (CP (SZ a)) (FB (λj=>EV (YT (WE a) (CX (Jl a)) (FC (Jl a)) (BS j i)) (Ey (SZ a) (BU j (YW a)) (JT (Lo a) (thrK a (EF (YW a) j) j))) (YW a) j i))) (And (EL (Lo a)) (CP (SZ a))))))):=by kernel_rfl
def C_rUnn:Ctr:={ α:=GK,xs:=xGK,val:=λa=>.bool (!(Gr a).2),pre:=λa=>[a.g.length<1073741824/\a.k.length<1073741824] }
def un4(a:GK):Shape:={ α:=Nat,dflt:=0,T:=λi=>⟨[(0,.d (BX a.g)),(1,.d (CZ a.k)),(5,.int i)],[]⟩,inv:=λi=>(2<=a.k.length/\a.k.length<=3)/\i<=a.k.length/\∀j,j<i->inK a j,meas:=λi=>a.k.length-i }
def un9(a:GK):Shape:={ α:=Nat,dflt:=0,T:=λi=>⟨[(0,.d (BX a.g)),(1,.d (CZ a.k)),(6,.int i)],[]⟩,inv:=λi=>(2<=a.k.length/\a.k.length<=3)/\(∀j,j<a.k.length->inK a j)/\1<=i/\i<=a.k.length/\∀j,0<j->j<i->qM a (j-1)<=qM a j,meas:=λi=>a.k.length-i }
def BZC(a:GK):Ann:={ ann 71 [(W3,AHU)] with loops:=λid=>if id=4 then some [un4 a] else if id=9 then some [un9 a] else none }
def BTL(a:GK):Prop:=BQ Try.prog (BZC a) BGY (AI BGY) (xGK a) (AD []) (C_rUnn.val a) [] [] []
abbrev Kp a:=UO (Cx a)
attribute [go_sem] Kp
theorem CGL(a:GK):(BTL a)=(CS (MS (GD (Cx a) 2) (KO (Cx a) 3)) (EL (not (Rb a))) (DJ (λi=>VV (YT (DO a) (eK a) (fQ a) (BD i)) (And (Au 2 a) (eD (IK a) 3)) (Au i a) (λj=>GA j i (BC (Fy a j)) (Gi (Fy a j) (DO a)))) (λi=>FH (DE (Au 2 a) (eD (IK a) 3) (Au i a) (AK (λj=>GA j i (BC (Fy a j)) (Gi (Fy a j) (DO a))))) i (Cx a) (IN i (IK a)) (NO (WR (Fy a i) (JZ (EY (DO a)))) (EL (not (Rb a))) (λj=>EV (YT (DO a) (eK a) (fQ a) (BS j i)) (DE (Au 2 a) (eD (IK a) 3) (Au j a) (AK (λk=>GA k j (BC (Fy a k)) (Gi (Fy a k) (DO a))))) (Yb a) j i)) (DJ (λj=>And (YT (DO a) (eK a) (fQ a) (CQ j 1)) (CU (And (Au 2 a) (eD (IK a) 3)) (AK (λk=>DF k (IK a) (Mg a k a))) (NB j) (Au j a) (λk=>AT 0 k (AT k j (DD (qM a (gC k)) (qM a k)))))) (λj=>FH (CU (And (Au 2 a) (eD (IK a) 3)) (AK (λk=>DF k (IK a) (Mg a k a))) (NB j) (Au j a) (λk=>AT 0 k (AT k j (DD (qM a (gC k)) (qM a k))))) j (Cx a) (AF (IN j (IK a)) (Mg a j a) (KJ (US j) (IK a)) (BC (Fy a (UO (AQ j)))) (Gi (Fy a (UO (AQ j))) (DO a))) (NO (GD (Gc a a j) (Gc a a (UO (AQ j)))) (EL (not (Rb a))) (λk=>EV (YT (DO a) (eK a) (fQ a) (BS k j)) (CU (And (Au 2 a) (eD (IK a) 3)) (AK (λl=>DF l (IK a) (Mg a l a))) (NB k) (Au k a) (λl=>AT 0 l (AT l k (DD (qM a (gC l)) (qM a l))))) (Yb a) k j)) (And (AF (TL (Yb a)) (Mg a 0 a) (KJ (JZ (Cx a)) (IK a)) (BC (Fy a (Kp a))) (Gi (Fy a (Kp a)) (DO a))) (JT (not (Rb a)) (OL (Gc a a HB) (Gc a a (Kp a)))))))))):=by kernel_rfl
def C_rTied:Ctr:={ α:=GK,xs:=xGK,val:=λa=>.bool (QZ a),pre:=λa=>[(a.g.length<1073741824/\∀x∈a.g,RK x)/\(Gr a).2=true] }
def BOL:Ann:=ann 31 [(BAG,BGQ)]
def BLF(a:GK):Prop:=BQ Try.prog BOL AYX (AI AYX) (xGK a) (AD []) (C_rTied.val a) [] [] []
abbrev uA a:=EU (Tv (Cx a) 2)
attribute [go_sem] uA
theorem BWH(a:GK):(BLF a)=(And (BJ (TL (Yb a)) (Mg a 0 a) (Bg 2) (KJ (Tv (Cx a) 2) (IK a)) (Mg a (uA a) a) (AX (KJ (JZ (Cx a)) (IK a)) (Mg a (Kp a) a) (HZ (BC (Gc a a 0)) (Gc a a 0) (AP (DO a) (YN a 0)) (AS (DO a) (YN a 0))) (HZ (BC (Gc a a (uA a))) (Gc a a (uA a)) (AP (DO a) (YN a (uA a))) (AS (DO a) (YN a (uA a)))) (BC (Gc a a (Kp a))) (GU (Gc a a (Kp a))) (BC (AP (DO a) (YN a (Kp a)))) (DD (AP (DO a) (YN a (Kp a))) (AS (DO a) (YN a (Kp a)))) (MI (AS (DO a) (YN a (Kp a)))))) (JT (qK a) (not (Li (DO a) (YN a HB) (DO a) (YN a (uA a)) (DO a) (YN a (Kp a)))))):=by kernel_rfl
def C_rKnot:Ctr:={ α:=GK,xs:=xGK,val:=λa=>.tup [.bool (pY a),.int (bX a)],pre:=λa=>[a.g.length<1073741824/\a.k.length<1073741824] }
def BNX:Ann:=ann 18 [(Tc,C_rCheck.spec WJ),(AYT,C_rUnn.spec dGK),(ALE,C_rTied.spec dGK)]
def BNP(a:GK):Prop:=BQ Try.prog BNX AZO (AI AZO) (xGK a) (AD []) (C_rKnot.val a) [] [] []
theorem BVI(a:GK):(BNP a)=(VE (DO a) (FN (DO a)) (UK (Cq (DO a)) (Sq a) (Sk a) (Ao (DO a)) (And (Do (CE (DO a)) (BB (DO a)) (IK a) (FN (DO a)) (HS (IK a))) (UK (not (Mv (gF a a))) (Sq a) (Sk a) 2 (AG (Do (CE (DO a)) (BB (DO a)) (IK a) (And (FN (DO a)) (RZ (DO a))) (EL (Mv (gF a a)))) (JT (Sq a) (qK (pL (DO a) (IK a)))) (CP (Sk a))))))):=by kernel_rfl
theorem CFO(a:GB)(h1:a.g.length<1073741824)(h2:a.b.length<1073741824):BKQ a:=by
 rw[BVB]<;> delta JT F3 XL EE EC DP WI JG CS AO AR CG AK BV BZ CM AQ BU DD LX EF NK CI EZ FB LZ VY LM WE Jl SZ qA Lo AG GT JO GV IE DG AF AT AH FF CA CF BH AM CT BL GQ TJ TE AP BR AS AW DF DX EO DU CR AX BC HH CQ HL IC AZ EP GI BE AY BW HU EL GC CX JD FZ II JA HG CL EK GU EA HY CP EM GH PG IH GF FE BJ BN BM FC EW FM FK LN PX SL MI LL FL CE EV NT ER BS SD NQ BD LC BB HZ Ht FO FN DJ YW Ey FI WU Ur IQ Is RO RZ TD Md Ll Kn tJ UK UB UA UG Hv YT eH;simp only[CC,eq_self,implies_true,forall_const]
 refine⟨⟨h1,h2⟩,λhc=>?_,λhc=>?_⟩
 ·have hc:EG a≠0:=by simpa using hc
  unfold thrM;rw[show (EG a==0)=false by simpa using hc];rfl
 ·have hE:EG a=0:=by simpa using hc
  have ho:=CNV hE
  have eT:thrM a=thrK a (a.b.length+1) 0:=by unfold thrM;rw[hE];rfl
  refine⟨⟨0,rfl,hE,Nat.zero_le _,eT⟩,λk ⟨_,k1,k2⟩=>⟨λhle=>?_,λhgt=>?_⟩⟩
  ·obtain⟨n,hn⟩:∃n,a.b.length+1-k=n+1:=⟨a.b.length-k,by omega⟩
   rw[hn] at k2;unfold thrK at k2;rw[BRQ ho] at k2
   refine⟨⟨⟨h1,h2⟩,by have:=BYQ a.g a.b k;omega,λg hg=>BLJ ho g hg,BSL _ _ _⟩,λhq=>?_,λhq=>?_⟩
   ·rw[hq] at k2;exact⟨k2,hE⟩
   ·rw[hq] at k2
    exact⟨k+1,(CN (by omega)).symm,⟨hE,by omega,by rw[show a.b.length+1-(k+1)=n by omega];exact k2⟩,by omega⟩
  ·rw[show a.b.length+1-k=0 by omega] at k2
   exact⟨k2,hE⟩
theorem CAU:AJ Try.prog AXL (C_rThru.spec dGB):=VD C_rThru BOW [] [] CAK (λ_=>by kernel_rfl) (λ_=>AC CER (AC CGZ (AC BTM AE))) (λ(a:GB) h=>CFO a h.1 h.2) (λ_=>WK rfl rfl) _
theorem CQL(a:GK)(h1:a.g.length<1073741824)(h2:a.k.length<1073741824):BTL a:=by
 rw[CGL]<;> delta JT qD EE EC DP GD JG CS AO KO AR CG AK BV BZ CM AQ BU DD ES LX EF Ba OL CI EZ FB EU IK DO Mv AG DG AF AT AH FF Jn CA CF AM BL GQ AP HA BR AS AW DF DU BC HH GA CQ HL AN JZ AZ ED BW EL HI CX JD FZ JA CL EK CU EA DV PG GF BN FC FD LN ON HB LL KJ FL MS EV BS JF BD FH EY NB OE DE DJ Cx UO YN eD WR Fy ML VV IN TQ Au US NO Kp Gc TL Gi Rb Mg fQ YT eK Yb gC;simp only[CC,eq_self,implies_true,forall_const]
 refine⟨λhc=>CQT hc,λhc=>?_⟩
 have hk:2<=a.k.length/\a.k.length<=3:=by
  by_cases q:(a.k.length:Int)<2
  ·rw[decide_eq_true q] at hc;cases hc
  ·rw[decide_eq_false q] at hc
   have:=of_decide_eq_false hc
   omega
 have wl:IntKind.i64.wrap ((a.k.length:Int)-1)=((a.k.length-1:Nat):Int):=by rw[JH (by omega) (by omega)];omega
 refine⟨⟨0,rfl,hk,Nat.zero_le _,λj hj=>absurd hj (Nat.not_lt_zero _)⟩,λi ⟨_,i2,i3⟩=>⟨λhlt=>⟨⟨by omega,hlt⟩,λhf=>CQU (by omega) hf,λht=>⟨i+1,(CN (by omega)).symm,⟨hk,by omega,λj hj=>?_⟩,by omega⟩⟩,λhge=>?_⟩⟩
 ·by_cases q:j<i
  ·exact i3 j q
  ·obtain rfl:j=i:=by omega
   rw[show IntKind.i64.wrap ((a.g.length:Int)-1)=(a.g.length:Int)-1 from JH (by omega) (by omega)] at ht
   unfold QY at ht;simp at ht;omega
 ·have hin:∀j,j<a.k.length->inK a j:=λj hj=>i3 j (by omega)
  refine⟨⟨1,rfl,hk,hin,by omega,by omega,λj j1 j2=>by omega⟩,λm ⟨_,_,m1,m2,m3⟩=>⟨λhlt=>?_,λhge2=>?_⟩⟩
  ·have wm:IntKind.i64.wrap ((m:Int)-1)=((m-1:Nat):Int):=by rw[JH (by omega) (by omega)];omega
   rw[wm,Int.toNat_natCast]
   refine⟨⟨⟨by omega,hlt⟩,hin m (by omega),⟨by omega,by omega⟩,hin (m-1) (by omega)⟩,λhq=>CGM h1 m1 (by omega) hq,λhq=>⟨m+1,(CN (by omega)).symm,⟨hk,hin,by omega,by omega,λj j1 j2=>?_⟩,by omega⟩⟩
   by_cases q:j<m
   ·exact m3 j j1 q
   ·obtain rfl:j=m:=by omega
    exact Int.not_lt.1 hq
  ·rw[wl,Int.toNat_natCast]
   exact⟨⟨⟨by omega,by omega⟩,hin 0 (by omega),⟨by omega,by omega⟩,hin (a.k.length-1) (by omega)⟩,CPD h1 hk hin λj j1 j2=>m3 j j1 (by omega)⟩
theorem BMS:AJ Try.prog AYT (C_rUnn.spec dGK):=VD C_rUnn BZC [] [] CIY (λ_=>by kernel_rfl) (λ_=>AC ALO AE) (λ(a:GK) h=>CQL a h.1 h.2) (λ_=>WK rfl rfl) _
theorem CEU(a:GK)(h1:a.g.length<1073741824)(ho:∀x∈a.g,RK x)(hn:(Gr a).2=true):BLF a:=by
 rw[BWH]<;> delta JT EE EC DP CG CM AQ DD ES Ba CI EZ EU IK DO qK AG DG AF AH Jn AP HA AS AX BC JZ ED HI EK GU DV BJ ON HB MI KJ HZ Cx UO YN Fy ML TQ Tv Kp Gc TL Mg Bg Li Yb uA
 obtain⟨k1,k2,k3,k4⟩:=I1 h1 hn
 have wl:IntKind.i64.wrap ((a.k.length:Int)-1)=((a.k.length-1:Nat):Int):=by rw[JH (by omega) (by omega)];omega
 have wd:IntKind.i64.wrap ((a.k.length:Int).tdiv 2)=((a.k.length / 2:Nat):Int):=by
  have:(a.k.length:Int).tdiv 2=((a.k.length / 2:Nat):Int):=by
   rw[Int.tdiv_eq_ediv_of_nonneg (by omega)];omega
  rw[this];exact JH (by omega) (by omega)
 rw[wl,wd,Int.toNat_natCast,Int.toNat_natCast]
 have hK:∀j,j<a.k.length->RK (gD a.g (gD a.k j).toNat):=λj hj=>by
  obtain⟨p,q⟩:=k2 j hj
  exact ho _ (CV (by omega))
 exact⟨⟨⟨by omega,by omega⟩,k2 0 (by omega),by omega,⟨by omega,by omega⟩,k2 _ (by omega),⟨by omega,by omega⟩,k2 _ (by omega),hK _ (by omega),hK _ (by omega),hK _ (by omega)⟩,CCR h1 ho hn⟩
theorem BCL:AJ Try.prog ALE (C_rTied.spec dGK):=VD C_rTied (λ_=>BOL) [] [] BST (λ_=>by kernel_rfl) (λ_=>AC BNL AE) (λ(a:GK) h=>CEU a h.1.1 h.1.2 h.2) (λ_=>WK rfl rfl) _
theorem BYN:AJ Try.prog AYE (C_rKnot.spec dGK):=VD C_rKnot (λ_=>BNX) [] [] CCH (λ_=>by kernel_rfl) (λ_=>AC kM (AC BMS (AC BCL AE))) (λ(a:GK) h=>by
 show BNP a;rw[BVI]<;> delta JT XL EE EC DP WI JG CS AO AR CG AK BV BZ CM DD NK CI EZ LZ FP VY Ep IK DO Mv Sq Sk qK AG GT JO GV IE AF AT AH CA CF BH CT AP BR AS AW DF DX CR BC IC AN EP GI AY HU EL GC II HG CL GU HY CP EM GH IH FE BJ BM EW FM FK SL MI Ac cG CE IA ZX SD NQ LC BB FA HZ DY HS FN pL FI tV Is RO Ao RZ gF QP UK Cq sX VE Do;simp only[CC,eq_self,implies_true,forall_const]
 obtain⟨h1,h2⟩:a.g.length<1073741824/\a.k.length<1073741824:=h
 refine⟨h1,λhc=>?_,λhc=>?_⟩
 ·have e:(AV a.g==0)=false:=by simpa using hc
  have e2:bX a=AV a.g:=by unfold bX;rw[e];rfl
  refine⟨?_,e2⟩
  unfold pY;rw[e2,e];rfl
 ·have e0:AV a.g=0:=by simpa using hc
  have e:(AV a.g==0)=true:=by rw[e0];rfl
  have e2:bX a=bif (Gr a).2 then 0 else 2:=by unfold bX;rw[e];rfl
  refine⟨⟨h1,h2⟩,λhn=>?_,λhn=>⟨⟨⟨h1,(NV e0).2⟩,hn⟩,?_⟩⟩
  ·have hn:(Gr a).2=false:=hn
   rw[hn] at e2
   refine⟨?_,e2⟩
   unfold pY;rw[e2];rfl
  ·have hn:(Gr a).2=true:=hn
   rw[hn] at e2
   refine⟨?_,e2⟩
   unfold pY QZ;rw[e2,hn];rfl) (λ_=>WK rfl rfl) _
end Go.Bal
