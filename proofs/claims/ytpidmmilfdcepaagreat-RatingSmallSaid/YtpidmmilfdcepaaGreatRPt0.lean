/- Package rating: parts and knots in the reference's words (plain). -/
import Derived.Test.YtpidmmilfdcepaaGreatRatZ
set_option linter.unusedVariables false
set_option linter.unusedSimpArgs false
namespace Go.Bal
open Go Go.Sym Go.Proofs
def sP(a:GK)(i:Nat):Int:=(gD a.g (gD a.k i).toNat).st
def inK(a:GK)(i:Nat):Prop:=0<=gD a.k i/\gD a.k i<a.g.length
theorem BUV{a:GB}(ho:∀g∈a.g,IT g)(k:Int):(EV (Jp (FM a) k)).2=Ci (SB a.g a.b k):=by
 have h1:=Nr (b:=a.b) (k:=k) ho
 have h2:=(bR (s:=CV a.g a.b k) λg hg=>Bv ho g hg).1
 have h3:(EV (Jp (FM a) k)).2=(EV (CV a.g a.b k)).2:=rfl
 rw[h3]
 cases hp:Ci (SB a.g a.b k) with
 |true=>exact h2.2 (h1.1 hp)
 |false=>
  cases hq:(EV (CV a.g a.b k)).2 with
  |false=>rfl
  |true=>rw[h1.2 (h2.1 hq)] at hp;cases hp
theorem CSR{a:GK}(h:(bif decide ((a.k.length:Int)<2) then true else decide ((a.k.length:Int)>3))=true):(Cn a).2=false:=by
 have:JD (a.k.length:Int) 2 3=false:=by
  rcases CSS.1 h with h | h
  ·have:=of_decide_eq_true h;unfold JD;simp;omega
  ·have:=of_decide_eq_true h;unfold JD;simp;omega
 unfold Cn Fx;rw[this];rfl
theorem CVX{a:GK}{i:Nat}(hi:i<a.k.length)(h:JD (gD a.k i) 0 (wr (a.g.length-1))=false):(Cn a).2=false:=by
 have e:(a.k.all λx=>JD x 0 (wr (a.g.length-1)))=false:=AZG hi h
 unfold Cn Fx;rw[e]
 cases JD (a.k.length:Int) 2 3<;>rfl
theorem CYP{a:GK}(hl:a.g.length<1073741824)(h1:2<=a.k.length/\a.k.length<=3)(h2:∀j,j<a.k.length->inK a j):(Cn a).2=nmB (Ax a):=by
 have e:wr ((a.g.length:Int)-1)=(a.g.length:Int)-1:=HL (by omega) (by omega)
 have hok:Fx a=true:=by
  unfold Fx
  rw[show JD (a.k.length:Int) 2 3=true by unfold JD;simp;omega]
  show (a.k.all λx=>JD x 0 (wr (a.g.length-1)))=true
  refine BBX.2 λi hi=>?_
  obtain⟨p,q⟩:=h2 i hi
  rw[e];unfold JD;simp;omega
 unfold Cn;rw[hok];rfl
theorem CRM{a:GK}(hl:a.g.length<1073741824)(h1:2<=a.k.length/\a.k.length<=3)(h2:∀j,j<a.k.length->inK a j)(h3:∀j,0<j->j<a.k.length->sP a (j-1)<=sP a j):(!(Cn a).2)=(sP a 0==sP a (a.k.length-1)):=by
 rw[CYP hl h1 h2]
 obtain⟨g,k⟩:=a
 rcases k with _ | ⟨p,_ | ⟨q,_ | ⟨r,_ | ⟨t,l⟩⟩⟩⟩
 ·exact absurd h1.1 (by show ¬2<=0;omega)
 ·exact absurd h1.1 (by show ¬2<=1;omega)
 ·have s1:(gD g p.toNat).st<=(gD g q.toNat).st:=h3 1 (by omega) (by show 1<2;omega)
  show (!nmB [gD g p.toNat,gD g q.toNat])=((gD g p.toNat).st==(gD g q.toNat).st)
  have:=BRW (gD g p.toNat) (gD g q.toNat)
  cases hb:nmB [gD g p.toNat,gD g q.toNat] with
  |true=>rw[hb] at this;have:=this.1 rfl;symm;show ((gD g p.toNat).st==(gD g q.toNat).st)=false;simp;omega
  |false=>
   rw[hb] at this
   have:¬(gD g p.toNat).st<(gD g q.toNat).st:=λh=>by cases this.2 h
   symm;show ((gD g p.toNat).st==(gD g q.toNat).st)=true;simp;omega
 ·have s1:(gD g p.toNat).st<=(gD g q.toNat).st:=h3 1 (by omega) (by show 1<3;omega)
  have s2:(gD g q.toNat).st<=(gD g r.toNat).st:=h3 2 (by omega) (by show 2<3;omega)
  show (!nmB [gD g p.toNat,gD g q.toNat,gD g r.toNat])=((gD g p.toNat).st==(gD g r.toNat).st)
  have:=BRB (gD g p.toNat) (gD g q.toNat) (gD g r.toNat)
  cases hb:nmB [gD g p.toNat,gD g q.toNat,gD g r.toNat] with
  |true=>rw[hb] at this;have:=this.1 rfl;symm;show ((gD g p.toNat).st==(gD g r.toNat).st)=false;simp;omega
  |false=>
   rw[hb] at this
   have:¬(gD g p.toNat).st<(gD g r.toNat).st:=λh=>by cases this.2 ⟨s1,s2,h⟩
   symm;show ((gD g p.toNat).st==(gD g r.toNat).st)=true;simp;omega
 ·exact absurd h1.2 (by show ¬(l.length+1+1+1+1<=3);omega)
theorem M8{a:GK}(hl:a.g.length<1073741824)(h:(Cn a).2=true):(2<=a.k.length/\a.k.length<=3)/\(∀j,j<a.k.length->inK a j)/\(∀j,0<j->j<a.k.length->sP a (j-1)<=sP a j)/\sP a 0<sP a (a.k.length-1):=by
 obtain⟨ho,hb,_⟩:=CEK h
 obtain⟨k1,k2,k3⟩:=cK hl ho
 refine⟨⟨k1,k2⟩,λj hj=>k3 _ (BU hj),?_⟩
 obtain⟨g,k⟩:=a
 rcases k with _ | ⟨p,_ | ⟨q,_ | ⟨r,_ | ⟨t,l⟩⟩⟩⟩
 ·exact absurd k1 (by show ¬2<=0;omega)
 ·exact absurd k1 (by show ¬2<=1;omega)
 ·have hb:(gD g p.toNat).st<(gD g q.toNat).st:=(BRW _ _).1 hb
  refine⟨λj j1 j2=>?_,hb⟩
  have j2:j<2:=j2
  obtain rfl:j=1:=by omega
  exact Int.le_of_lt hb
 ·obtain⟨b1,b2,b3⟩:(gD g p.toNat).st<=(gD g q.toNat).st/\(gD g q.toNat).st<=(gD g r.toNat).st/\(gD g p.toNat).st<(gD g r.toNat).st:=(BRB _ _ _).1 hb
  refine⟨λj j1 j2=>?_,b3⟩
  have j2:j<3:=j2
  rcases (show j=1∨j=2 by omega) with rfl | rfl
  ·exact b1
  ·exact b2
 ·exact absurd k2 (by show ¬(l.length+1+1+1+1<=3);omega)
theorem CHO{a:GK}(hl:a.g.length<1073741824){i:Nat}(h1:0<i)(h2:i<a.k.length)(h:sP a i<sP a (i-1)):(Cn a).2=false:=by
 cases hn:(Cn a).2 with
 |false=>rfl
 |true=>have:=(M8 hl hn).2.2.1 i h1 h2;omega
theorem CEQ{a:GK}(hl:a.g.length<1073741824)(ho:∀x∈a.g,IT x)(hn:(Cn a).2=true):PC a=!Vh (gD a.g (gD a.k 0).toNat) (gD a.g (gD a.k (a.k.length / 2)).toNat) (gD a.g (gD a.k (a.k.length-1)).toNat):=by
 obtain⟨k1,k2,k3,k4⟩:=M8 hl hn
 have ht:=iR hl ho
 have hK:∀j,j<a.k.length->IT (gD a.g (gD a.k j).toNat):=λj hj=>by
  obtain⟨p,q⟩:=k2 j hj
  exact ho _ (BU (by omega))
 have key:Can (Ax a)↔Vh (gD a.g (gD a.k 0).toNat) (gD a.g (gD a.k (a.k.length / 2)).toNat) (gD a.g (gD a.k (a.k.length-1)).toNat)=true:=by
  have o0:=hK 0 (by omega)
  have o1:=hK (a.k.length / 2) (by omega)
  have o2:=hK (a.k.length-1) (by omega)
  have s1:sP a 0<=sP a (a.k.length / 2):=by
   have:a.k.length / 2=1:=by omega
   rw[this];exact k3 1 (by omega) (by omega)
  have s2:sP a (a.k.length / 2)<=sP a (a.k.length-1):=by
   have e:a.k.length / 2=1:=by omega
   rcases (show a.k.length=2∨a.k.length=3 by omega) with q | q
   ·rw[q];exact Int.le_refl _
   ·rw[q];exact k3 2 (by omega) (by omega)
  rw[APW o0.2.2.2.1 o1.2.2.2.1 o2.2.2.2.1 s1 s2]
  have hm:∀(P:Gau->Prop),(∀x∈Ax a,P x)↔P (gD a.g (gD a.k 0).toNat)/\P (gD a.g (gD a.k 1).toNat)/\P (gD a.g (gD a.k (a.k.length-1)).toNat):=λP=>by
   obtain⟨g,k⟩:=a
   rcases k with _ | ⟨p,_ | ⟨q,_ | ⟨r,_ | ⟨t,l⟩⟩⟩⟩
   ·exact absurd k1.1 (by show ¬2<=0;omega)
   ·exact absurd k1.1 (by show ¬2<=1;omega)
   ·show (∀x∈[gD g p.toNat,gD g q.toNat],P x)↔P (gD g p.toNat)/\P (gD g q.toNat)/\P (gD g q.toNat)
    simp
   ·show (∀x∈[gD g p.toNat,gD g q.toNat,gD g r.toNat],P x)↔P (gD g p.toNat)/\P (gD g q.toNat)/\P (gD g r.toNat)
    simp
   ·exact absurd k1.2 (by show ¬(l.length+1+1+1+1<=3);omega)
  have e1:a.k.length / 2=1:=by omega
  rw[e1]
  constructor
  ·rintro⟨x,x1,x2⟩
   exact⟨HM x,EM x1,(hm λg=>(HM x).pass g).1 x2⟩
  ·rintro⟨f,f1,f2⟩
   have hoL:∀g∈Ax a,IT g:=(hm IT).2 ⟨o0,by rw[e1] at o1;exact o1,o2⟩
   exact BNK hoL f1 ((hm λg=>f.pass g).2 f2)
 cases hq:Vh (gD a.g (gD a.k 0).toNat) (gD a.g (gD a.k (a.k.length / 2)).toNat) (gD a.g (gD a.k (a.k.length-1)).toNat) with
 |true=>
  cases hT:PC a with
  |false=>rfl
  |true=>exact absurd (key.2 hq) (ht.1 hT).2
 |false=>exact ht.2 ⟨hn,λhc=>by rw[key.1 hc] at hq;cases hq⟩
def C_rThru:Ctr:={ α:=GB,xs:=xGB,val:=λa=>.tup [.bool (thrM a),.int (AV a)],pre:=λx=>[x.g.length<1073741824/\x.b.length<1073741824] }
def rt5(a:GB):Shape:={ α:=Nat,dflt:=0,T:=λk=>⟨[(0,.d (AT a.g)),(1,.d (AZ a.b)),(7,.int k)],[]⟩,inv:=λk=>AV a=0/\k<=a.b.length+1/\thrM a=thrK a (a.b.length+1-k) k,meas:=λk=>a.b.length+1-k }
def BPQ(a:GB):Ann:={ ann 26 [(70,C_rAsk.spec dGB),(72,C_rIns.spec dGBI),(71,C_rPb.spec NU)] with loops:=λid=>if id=5 then some [rt5 a] else none }
def BSA(a:GB):Prop:=AS ZP (BPQ a) Tryz.f30 (AE Tryz.f30) (xGB a) (AB []) (C_rThru.val a) [] [] []
abbrev Zi a:=EZ (Eu a)
abbrev aG a:=IW (Eu a)
abbrev ALH a b c:=CG (Et a b c)
abbrev Nt a b c:=ALH a b (BO c)
abbrev pZ a b c:=KO a (BL b c)
attribute [go_sem] Zi aG ALH Nt pZ
theorem BZC(a:GB):(BSA a)=(SK (AW (Tk a a) (Sc a a) (Lz a a) (Lw a a) (KV (PO a)) (Y5 a)) (RR (Mq a a)) (KU (Wj a)) (oG a (Mq a a)) (HU (λi=>JO (XC (G9 a) (aG a) (Zi a) (BX i)) (Rf a) i (Mo a) (Va (Wj a) (thrK a (TJ (Mo a) i) i))) (λi=>MO (EE (Rf a) i (Mo a) (Va (Wj a) (thrK a (TJ (Mo a) i) i))) (hd7 (BO i) (NP (Eu a))) (AO (Tk a a) (Sc a a) (BK (Lz a a) (Lw a a) (BP i) (And (KV (PO a)) (Y5 a)) (AY (Et (PO a) (PQ a) (BO i))) (BJ (Et (PO a) (PQ a) (BO i))) (KV (Nt (PO a) (PQ a) i)) (Pb (Nt (PO a) (PQ a) i)) (Tj (λk j=>YG k j j (Nt (PO a) (PQ a) i) (pZ (BL (Nt (PO a) (PQ a) i) k) (Nt (PO a) (PQ a) i) j))))) (FD (not (Us (Nt (PO a) (PQ a) i))) (KU (Wj a)) (Rf a) (EI (λj=>Am (XC (G9 a) (aG a) (Zi a) (AJ j i)) (Rf a) j (Mo a) (Va (Wj a) (thrK a (TJ (Mo a) j) j)) i))) (And (IN (Wj a)) (Rf a))))):=by kernel_rfl
def C_rUnn:Ctr:={ α:=GK,xs:=xGK,val:=λa=>.bool (!(Cn a).2),pre:=λa=>[a.g.length<1073741824/\a.k.length<1073741824] }
def un4(a:GK):Shape:={ α:=Nat,dflt:=0,T:=λi=>⟨[(0,.d (AT a.g)),(1,.d (AZ a.k)),(5,.int i)],[]⟩,inv:=λi=>(2<=a.k.length/\a.k.length<=3)/\i<=a.k.length/\∀j,j<i->inK a j,meas:=λi=>a.k.length-i }
def un9(a:GK):Shape:={ α:=Nat,dflt:=0,T:=λi=>⟨[(0,.d (AT a.g)),(1,.d (AZ a.k)),(6,.int i)],[]⟩,inv:=λi=>(2<=a.k.length/\a.k.length<=3)/\(∀j,j<a.k.length->inK a j)/\1<=i/\i<=a.k.length/\∀j,0<j->j<i->sP a (j-1)<=sP a j,meas:=λi=>a.k.length-i }
def CAU(a:GK):Ann:={ ann 71 [(56,Rw)] with loops:=λid=>if id=4 then some [un4 a] else if id=9 then some [un9 a] else none }
def BWF(a:GK):Prop:=AS ZP (CAU a) Tryz.f75 (AE Tryz.f75) (xGK a) (AB []) (C_rUnn.val a) [] [] []
abbrev Um a:=Uh (EQ a)
abbrev ANK a:=TV a a
abbrev AFQ a:=TJ a 1
attribute [go_sem] Um ANK AFQ
theorem CHP(a:GK):(BWF a)=(Hd (UO (EQ a) 2) (NO (EQ a) 3) (IN (not (cW a))) (HU (λi=>JO (XC (CI a) (vE a) (vP a) (BX i)) (ZN 2 (EQ a) 3) i (EQ a) (AG (λj=>Gu j i (GW a) j j (CI a)))) (λi=>An (EE (ZN 2 (EQ a) 3) i (EQ a) (AG (λj=>Gu j i (GW a) j j (CI a)))) i (EQ a) (CR i (EQ a)) (qQ (KL (GW a) i) (Dv (CH (CI a)))) (IN (not (cW a))) (λj=>Am (XC (CI a) (vE a) (vP a) (AJ j i)) (ZN 2 (EQ a) 3) j (EQ a) (AG (λk=>Gu k j (GW a) k k (CI a))) i) (HU (λj=>HF (XC (CI a) (vE a) (vP a) (MM j 1)) (ZN 2 (EQ a) 3) (AG (λk=>Gu k (EQ a) (GW a) k k (CI a))) (Nq j) j (EQ a) (AG (λk=>HJ 0 k (HJ k j (KO (sP a (AFQ k)) (sP a k)))))) (λj=>An (FE (ZN 2 (EQ a) 3) (AG (λk=>Gu k (EQ a) (GW a) k k (CI a))) (Nq j) j (EQ a) (AG (λk=>HJ 0 k (HJ k j (KO (sP a (AFQ k)) (sP a k)))))) j (EQ a) (AR (CR j (EQ a)) (VA (GW a) j (CI a)) (TV j (EQ a)) (Zs (GW a) (Uh j)) (fT (GW a) (Uh j) (CI a))) (Tx (Qx a a j) (Qx a a (Uh j))) (IN (not (cW a))) (λk=>EO (XC (CI a) (vE a) (vP a) (AJ k j)) (FE (ZN 2 (EQ a) 3) (AG (λl=>Gu l (EQ a) (GW a) l l (CI a))) (Nq k) k (EQ a) (AG (λl=>HJ 0 l (HJ l k (KO (sP a (AFQ l)) (sP a l)))))) (EQ a) k j) (Wo (AR (VL (EQ a)) (VA (GW a) 0 (CI a)) (ANK (EQ a)) (Zs (GW a) (Um a)) (fT (GW a) (Um a) (CI a))) (not (cW a)) (VS (Qx a a DW) (Qx a a (Um a))))))))):=by kernel_rfl
def C_rTied:Ctr:={ α:=GK,xs:=xGK,val:=λa=>.bool (PC a),pre:=λa=>[(a.g.length<1073741824/\∀x∈a.g,IT x)/\(Cn a).2=true] }
def BQJ:Ann:=ann 31 [(108,BJX)]
def BOE(a:GK):Prop:=AS ZP BQJ Tryz.f76 (AE Tryz.f76) (xGK a) (AB []) (C_rTied.val a) [] [] []
abbrev AMP a:=J4 a 2
abbrev BBJ a:=NV (AMP a)
abbrev T3 a:=BBJ (AEH a)
abbrev oR:=II 2
attribute [go_sem] AMP BBJ T3 oR
theorem BWW(a:GK):(BOE a)=(Wo (AW (VL (EQ a)) (VA (GW a) 0 (CI a)) oR (TG (AMP (AEH a)) (EQ a)) (VA (GW a) (T3 a) (CI a)) (BK (ANK (EQ a)) (VA (GW a) (Um a) (CI a)) (vB (FJ (Qx a a 0)) (Qx a a 0) (DF (CI a) (Cu a 0)) (DG (CI a) (Cu a 0))) (vB (FJ (Qx a a (T3 a))) (Qx a a (T3 a)) (DF (CI a) (Cu a (T3 a))) (DG (CI a) (Cu a (T3 a)))) (FJ (Qx a a (Um a))) (VF (Qx a a (Um a))) (FJ (DF (CI a) (Cu a (Um a)))) (KO (DF (CI a) (Cu a (Um a))) (DG (CI a) (Cu a (Um a)))) (qH (DG (CI a) (Cu a (Um a)))))) (AHD a) (not (Tm (CI a) (Cu a DW) (CI a) (Cu a (T3 a)) (CI a) (Cu a (Um a))))):=by kernel_rfl
def C_rKnot:Ctr:={ α:=GK,xs:=xGK,val:=λa=>.tup [.bool (rV a),.int (cI a)],pre:=λa=>[a.g.length<1073741824/\a.k.length<1073741824] }
def BOZ:Ann:=ann 18 [(14,C_rCheck.spec NU),(75,C_rUnn.spec dGK),(76,C_rTied.spec dGK)]
def BRA(a:GK):Prop:=AS ZP BOZ Tryz.f36 (AE Tryz.f36) (xGK a) (AB []) (C_rKnot.val a) [] [] []
theorem CDR(a:GK):(BRA a)=(SK (xA (CI a) (HV (CI a))) (J8 (CI a)) (KU (vF a)) (eR (tJ a) (CI a)) (SK (Sd (AY (CI a)) (BJ (CI a)) (GW a) (CM (GW a)) (HV (CI a)) (LV (GW a))) (not (dM (CI a) (GW a))) (KU (vF a)) (aS (tJ a)) (AO (Sd (AY (CI a)) (BJ (CI a)) (GW a) (CM (GW a)) (And (HV (CI a)) (Sn (CI a))) (IN (dM (CI a) (GW a)))) (Va (vF a) (AHD (BCF (CI a) (GW a)))) (CL (tJ a))))):=by kernel_rfl
theorem CIS(a:GB)(h1:a.g.length<1073741824)(h2:a.b.length<1073741824):BSA a:=by
 rw[BZC]<;> dsimp only[go_sem];simp only[CC,CU]
 refine⟨⟨h1,h2⟩,λhc=>?_,λhc=>?_⟩
 ·have hc:AV a≠0:=by simpa using hc
  unfold thrM;rw[show (AV a==0)=false by simpa using hc];rfl
 ·have hE:AV a=0:=by simpa using hc
  have ho:=Ts hE
  have eT:thrM a=thrK a (a.b.length+1) 0:=by unfold thrM;rw[hE];rfl
  refine⟨⟨0,rfl,hE,Nat.zero_le _,eT⟩,λk ⟨_,k1,k2⟩=>⟨λhle=>?_,λhgt=>?_⟩⟩
  ·obtain⟨n,hn⟩:∃n,a.b.length+1-k=n+1:=⟨a.b.length-k,by omega⟩
   rw[hn] at k2;unfold thrK at k2;rw[BUV ho] at k2
   refine⟨⟨⟨h1,h2⟩,by have:=iG a.g a.b k;omega,λg hg=>mR ho g hg,aL _ _ _⟩,λhq=>?_,λhq=>?_⟩
   ·rw[hq] at k2;exact⟨k2,hE⟩
   ·rw[hq] at k2
    exact⟨k+1,(BF (by omega)).symm,⟨hE,by omega,by rw[show a.b.length+1-(k+1)=n by omega];exact k2⟩,by omega⟩
  ·rw[show a.b.length+1-k=0 by omega] at k2
   exact⟨k2,hE⟩
theorem BYD:AH ZP 30 (C_rThru.spec dGB):=PW C_rThru BPQ [] [] Tryz.func30 (λ_=>by kernel_rfl) (λ_=>AA ACS (AA ABD (AA AMJ AD))) (λ(a:GB) h=>CIS a h.1 h.2) (λ_=>RA rfl rfl) _
theorem CTD(a:GK)(h1:a.g.length<1073741824)(h2:a.k.length<1073741824):BWF a:=by
 rw[CHP]<;> dsimp only[go_sem];simp only[CC,CU]
 refine⟨λhc=>CSR hc,λhc=>?_⟩
 have hk:2<=a.k.length/\a.k.length<=3:=by
  by_cases q:(a.k.length:Int)<2
  ·rw[decide_eq_true q] at hc;cases hc
  ·rw[decide_eq_false q] at hc
   have:=of_decide_eq_false hc
   omega
 have wl:IntKind.i64.wrap ((a.k.length:Int)-1)=((a.k.length-1:Nat):Int):=by rw[HL (by omega) (by omega)];omega
 refine⟨⟨0,rfl,hk,Nat.zero_le _,λj hj=>absurd hj (Nat.not_lt_zero _)⟩,λi ⟨_,i2,i3⟩=>⟨λhlt=>⟨⟨by omega,hlt⟩,λhf=>CVX (by omega) hf,λht=>⟨i+1,(BF (by omega)).symm,⟨hk,by omega,λj hj=>?_⟩,by omega⟩⟩,λhge=>?_⟩⟩
 ·by_cases q:j<i
  ·exact i3 j q
  ·obtain rfl:j=i:=by omega
   rw[show IntKind.i64.wrap ((a.g.length:Int)-1)=(a.g.length:Int)-1 from HL (by omega) (by omega)] at ht
   unfold JD at ht;simp at ht;omega
 ·have hin:∀j,j<a.k.length->inK a j:=λj hj=>i3 j (by omega)
  refine⟨⟨1,rfl,hk,hin,by omega,by omega,λj j1 j2=>by omega⟩,λm ⟨_,_,m1,m2,m3⟩=>⟨λhlt=>?_,λhge2=>?_⟩⟩
  ·have wm:IntKind.i64.wrap ((m:Int)-1)=((m-1:Nat):Int):=by rw[HL (by omega) (by omega)];omega
   rw[wm,Int.toNat_natCast]
   refine⟨⟨⟨by omega,hlt⟩,hin m (by omega),⟨by omega,by omega⟩,hin (m-1) (by omega)⟩,λhq=>CHO h1 m1 (by omega) hq,λhq=>⟨m+1,(BF (by omega)).symm,⟨hk,hin,by omega,by omega,λj j1 j2=>?_⟩,by omega⟩⟩
   by_cases q:j<m
   ·exact m3 j j1 q
   ·obtain rfl:j=m:=by omega
    exact Int.not_lt.1 hq
  ·rw[wl,Int.toNat_natCast]
   exact⟨⟨⟨by omega,by omega⟩,hin 0 (by omega),⟨by omega,by omega⟩,hin (a.k.length-1) (by omega)⟩,CRM h1 hk hin λj j1 j2=>m3 j j1 (by omega)⟩
theorem BPJ:AH ZP 75 (C_rUnn.spec dGK):=PW C_rUnn CAU [] [] Tryz.func75 (λ_=>by kernel_rfl) (λ_=>AA Vj AD) (λ(a:GK) h=>CTD a h.1 h.2) (λ_=>RA rfl rfl) _
theorem CIM(a:GK)(h1:a.g.length<1073741824)(ho:∀x∈a.g,IT x)(hn:(Cn a).2=true):BOE a:=by
 rw[BWW]<;> dsimp only[go_sem]
 obtain⟨k1,k2,k3,k4⟩:=M8 h1 hn
 have wl:IntKind.i64.wrap ((a.k.length:Int)-1)=((a.k.length-1:Nat):Int):=by rw[HL (by omega) (by omega)];omega
 have wd:IntKind.i64.wrap ((a.k.length:Int).tdiv 2)=((a.k.length / 2:Nat):Int):=by
  have:(a.k.length:Int).tdiv 2=((a.k.length / 2:Nat):Int):=by
   rw[Int.tdiv_eq_ediv_of_nonneg (by omega)];omega
  rw[this];exact HL (by omega) (by omega)
 rw[wl,wd,Int.toNat_natCast,Int.toNat_natCast]
 have hK:∀j,j<a.k.length->IT (gD a.g (gD a.k j).toNat):=λj hj=>by
  obtain⟨p,q⟩:=k2 j hj
  exact ho _ (BU (by omega))
 exact⟨⟨⟨by omega,by omega⟩,k2 0 (by omega),by omega,⟨by omega,by omega⟩,k2 _ (by omega),⟨by omega,by omega⟩,k2 _ (by omega),hK _ (by omega),hK _ (by omega),hK _ (by omega)⟩,CEQ h1 ho hn⟩
theorem BFG:AH ZP 76 (C_rTied.spec dGK):=PW C_rTied (λ_=>BQJ) [] [] Tryz.func76 (λ_=>by kernel_rfl) (λ_=>AA BTF AD) (λ(a:GK) h=>CIM a h.1.1 h.1.2 h.2) (λ_=>RA rfl rfl) _
theorem CDM:AH ZP 36 (C_rKnot.spec dGK):=PW C_rKnot (λ_=>BOZ) [] [] Tryz.func36 (λ_=>by kernel_rfl) (λ_=>AA Vt (AA BPJ (AA BFG AD))) (λ(a:GK) h=>by
 show BRA a;rw[CDR]<;> dsimp only[go_sem];simp only[CC,CU]
 obtain⟨h1,h2⟩:a.g.length<1073741824/\a.k.length<1073741824:=h
 refine⟨h1,λhc=>?_,λhc=>?_⟩
 ·have e:(AL a.g==0)=false:=by simpa using hc
  have e2:cI a=AL a.g:=by unfold cI;rw[e];rfl
  refine⟨?_,e2⟩
  unfold rV;rw[e2,e];rfl
 ·have e0:AL a.g=0:=by simpa using hc
  have e:(AL a.g==0)=true:=by rw[e0];rfl
  have e2:cI a=bif (Cn a).2 then 0 else 2:=by unfold cI;rw[e];rfl
  refine⟨⟨h1,h2⟩,λhn=>?_,λhn=>⟨⟨⟨h1,(JU e0).2⟩,hn⟩,?_⟩⟩
  ·have hn:(Cn a).2=false:=hn
   rw[hn] at e2
   refine⟨?_,e2⟩
   unfold rV;rw[e2];rfl
  ·have hn:(Cn a).2=true:=hn
   rw[hn] at e2
   refine⟨?_,e2⟩
   unfold rV PC;rw[e2,hn];rfl) (λ_=>RA rfl rfl) _
end Go.Bal
