/- Package rating: what is allowed; parts; ends. -/
import Derived.Test.YtpidmmilfdcepaaGreatRatE
set_option linter.unusedVariables false
set_option linter.unusedSimpArgs false
namespace Go.Bal
open Go Go.Sym Go.Proofs
def AL(l:List Gau):Int:=bif !JD l.length 1 24 then 3 else bif !l.all riG then 50 else 0
def NU:List AVal->Heap->Option (List Gau×List (Nat×Nat)×List Nat)
 |[y],H=>match Ht y H with
  |some (l,f)=>some (l,[],f)
  |none=>none
 |_,_=>none
def C_Check:Ctr:={ α:=List Gau,xs:=λl=>[.d (AT l)],L:=λ_=>[],val:=λl=>.int (AL l),keep:=λ_=>[],pre:=λl=>[l.length<4611686018427387904/\True] }
def BSR:Ann:=ann 12 [(49,G4),(50,C4Gr.spec d4Gr)]
def BPS(l:List Gau):Prop:=AS ZP BSR Tryz.f9 (AE Tryz.f9) (C_Check.xs l) (AB []) (C_Check.val l) [] [] []
abbrev sE:=AL
abbrev TC a b c d:=And a (HZ b c d)
abbrev Gg a:=CL (sE a)
attribute [go_sem] sE TC Gg
theorem CGI(l:List Gau):(BPS l)=(HZ (Lx (XA l) 1 24) (BM (sE l) 3) (TC (zF l) (not (CBS (CG l) riG)) (BM (sE l) 50) (Gg l))):=by kernel_rfl
theorem Jx:AH ZP 9 (C_Check.spec NU):=PW C_Check (λ_=>BSR) [] [] Tryz.func9 (λ_=>by kernel_rfl) (λ_=>AA aH (AA CXS AD)) (λ(l:List Gau) h=>by
 show BPS l;rw[CGI]<;> dsimp only[go_sem];simp only[CC,CU]
 have h':l.length<4611686018427387904/\True:=h
 unfold AL
 cases JD l.length 1 24<;>cases hr:l.all riG<;>simp[h'.1,hr]) (λ_=>RA rfl rfl) _
def brk:Int->List Int->Int
 |_,[]=>0
 |a,b :: r=>bif JD b (wr (a+1)) 2000 then brk b r else 2
def OC(l:List Int):Int:=if (l.length:Int)>24 then 3 else brk 0 l
def dIs1:List AVal->Heap->Option (List Int×List (Nat×Nat)×List Nat)
 |[y],H=>match Xt y H with
  |some (l,f)=>some (l,[],f)
  |none=>none
 |_,_=>none
def C_checkB:Ctr:={ α:=List Int,xs:=λl=>[.d (AZ l)],L:=λ_=>[],val:=λl=>.int (OC l),keep:=λ_=>[],pre:=λl=>[l.length<4611686018427387904/\True] }
def BFV(l:List Int):Ann:={ ann 22 [(49,G4)] with loops:=λid=>if id=5 then some [{ α:=NI,dflt:=default,T:=λs=>⟨[(3,.int s.m),(9,.d (AZ l)),(10,.int l.length),(11,.int s.k)],[]⟩,inv:=λs=>s.k<=l.length/\brk s.m (l.drop s.k)=brk 0 l,meas:=λs=>l.length-s.k }] else none }
def BER(l:List Int):Prop:=AS ZP (BFV l) Tryz.f52 (AE Tryz.f52) (C_checkB.xs l) (AB []) (C_checkB.val l) [] [] []
abbrev La:=OC
abbrev ANX:=@List.drop Int
abbrev Gj a b c d:=HZ a b (And c d)
abbrev aS a:=BM a 2
abbrev BKJ a b c d e:=AR (CL a) b c d e
abbrev NO a b:=Oa (BO a) b
attribute [go_sem] La ANX Gj aS BKJ NO
theorem BVF(l:List Int):(BER l)=(Gj (NO (GZ l) 24) (BM (La l) 3) (hd33 (λi=>EE (BKJ (hd34 i) (IW l) (EZ l) (BP (GZ l)) (BX (Kx i))) (Kx i) (GZ l) (BM (brk (hd34 i) (ANX (Kx i) l)) (brk 0 l)))) (hd49 (λi=>AGN (GP (Kx i) (GZ l) (BM (brk (hd34 i) (ANX (Kx i) l)) (brk 0 l))) (Kx i) (GZ l) (JL (Kx i) l) (Lx (KL l (Kx i)) (XM (hd34 i)) 2000) (aS (La l)) (hd33 (λj=>QS (AR (BM (hd34 j) (KL l (Kx i))) (IW l) (EZ l) (BP (GZ l)) (AJ (Kx j) (Kx i))) (Kx j) (GZ l) (BM (brk (hd34 j) (ANX (Kx j) l)) (brk 0 l)) (Kx i))) (CL (La l))))):=by kernel_rfl
theorem AGS:AH ZP 52 (C_checkB.spec dIs1):=PW C_checkB BFV [] [] Tryz.func52 (λ_=>by kernel_rfl) (λ_=>AA aH AD) (λ(l:List Int) h=>by
 show BER l;rw[BVF]<;> dsimp only[go_sem];simp only[CC,CU]
 have h':l.length<4611686018427387904/\True:=h
 unfold OC
 refine⟨λh1=>by rw[if_pos h1],λh1=>⟨⟨⟨0,0⟩,⟨rfl,rfl⟩,Nat.zero_le _,rfl⟩,λs hs=>⟨λhlt=>?_,λhge=>?_⟩⟩⟩
 ·have hlt:s.k<l.length:=by omega
  have hd:=BSJ hlt
  refine⟨⟨by omega,by omega⟩,λhb=>?_,λhb=>⟨⟨s.k+1,gD l s.k⟩,⟨rfl,(BF (by omega)).symm⟩,⟨hlt,?_⟩,?_⟩⟩
  ·rw[if_neg h1,<-hs.2,hd];simp[brk,wr,hb]
  ·show brk (gD l s.k) _=_
   rw[<-hs.2,hd];simp[brk,wr,hb]
  ·show l.length-(s.k+1)<l.length-s.k;omega
 ·rw[if_neg h1,<-hs.2,List.drop_of_length_le (by omega)];rfl) (λ_=>RA rfl rfl) _
def HB(r:Rtg):Int:=bif OC r.b != 0 then OC r.b else bif (r.l.length:Int) != (r.b.length:Int)+1 then 2 else bif !r.l.all Kv then 50 else 0
def dRt1:List AVal->Heap->Option (Rtg×List (Nat×Nat)×List Nat)
 |[y],H=>match dRtg y H with
  |some (l,f)=>some (l,[],f)
  |none=>none
 |_,_=>none
def C_CheckR:Ctr:={ α:=Rtg,xs:=λr=>[.d (eRtg r)],L:=λ_=>[],val:=λr=>.int (HB r),keep:=λ_=>[],pre:=λr=>[r.b.length<4611686018427387904/\r.l.length<4611686018427387904] }
def BDV:Ann:=ann 25 [(52,C_checkB.spec dIs1),(53,C4Lr.spec d4Lr)]
def BDE(r:Rtg):Prop:=AS ZP BDV Tryz.f10 (AE Tryz.f10) (C_CheckR.xs r) (AB []) (C_CheckR.val r) [] [] []
abbrev Cm:=Rtg.b
abbrev Hj:=HB
abbrev Sa a b c d:=TC a (RR b) c d
abbrev KX a b:=bL (Rtg.l a) b
abbrev IS a:=CO (Rtg.l a)
abbrev rZ a:=(@HA Ln) (IS a) (λi=>KX a i)
abbrev BMS a b c d e:=OU a b c (MG d) (QT d) (RU d) e
abbrev AQM a b c d:=BMS a b c d (SJ d)
abbrev Ov a b c:=AQM a (CO b) b c
abbrev Sk a b:=LB a (IS b)
abbrev NP a:=BO (GZ a)
abbrev S0 a:=BO (IS a)
abbrev Ce a:=FI (Cm a)
abbrev Cq a b:=BR a (Cm b)
abbrev Dq a b:=BC a (Cm b)
attribute [go_sem] Cm Hj Sa KX IS rZ BMS AQM Ov Sk NP S0 Ce Cq Dq
theorem BTY(r:Rtg):(BDE r)=(Sa (Dd (Dq (Ce r) r) (Cq (Ce r) r) (ZS (Ce r))) (La (Ce r)) (BM (Hj r) (La (Ce r))) (HZ (hd23 (S0 r) (XM (NP (Cm r)))) (aS (Hj r)) (TC (Dd (Sk (rZ r) r) (AG (λi=>Ov i (rZ r) (KX r i))) (Hb (CO (rZ r)))) (not ((@List.all Ln) (rZ r) Kv)) (BM (Hj r) 50) (CL (Hj r))))):=by kernel_rfl
theorem D7:AH ZP 10 (C_CheckR.spec dRt1):=PW C_CheckR (λ_=>BDV) [] [] Tryz.func10 (λ_=>by kernel_rfl) (λ_=>AA AGS (AA DBJ AD)) (λ(r:Rtg) h=>by
 show BDE r;rw[BTY]<;> dsimp only[go_sem];simp only[CC,CU]
 have h':r.b.length<4611686018427387904/\r.l.length<4611686018427387904:=h
 have e:IntKind.i64.wrap ((r.b.length:Int)+1)=(r.b.length:Int)+1:=HL (by omega) (by omega)
 rw[e]
 unfold HB
 cases h1:(OC r.b != 0)<;>cases h2:((r.l.length:Int) != (r.b.length:Int)+1)<;>cases hr:r.l.all Kv<;>simp[h',h1,h2,hr]) (λ_=>RA rfl rfl) _
structure IX where
 l:List Int
 x:Int
structure IJ where
 i:Nat
 j:Nat
 deriving Inhabited
def ltC(l:List Int)(x:Int):Nat:=l.countP λb=>decide (b<x)
def KB(l:List Int)(x:Int):Nat:=l.countP λb=>decide (b<=x)
def asc(l:List Int):Prop:=l.Pairwise (· < ·)
def dIX:List AVal->Heap->Option (IX×List (Nat×Nat)×List Nat)
 |[y,.d x],H=>match Xt y H with
  |some (l,f)=>some (⟨l,EG x⟩,[],f)
  |none=>none
 |_,_=>none
def xIX(a:IX):List AVal:=[.d (AZ a.l),.int a.x]
def C_bins:Ctr:={ α:=IX,xs:=xIX,L:=λ_=>[],val:=λa=>.tup [.int (ltC a.l a.x),.bool (decide (a.x∈a.l))],keep:=λ_=>[],pre:=λa=>[a.l.length<4611686018427387904/\asc a.l] }
def CCQ(a:IX):Ann:={ ann 54 [(127,BRU),(128,O7)] with loops:=λid=>if id=3 then some [{ α:=IJ,dflt:=default,T:=λs=>⟨[(0,.d (AZ a.l)),(1,.int a.x),(6,.int a.l.length),(7,.int s.i),(8,.int s.j)],[]⟩,inv:=λs=>s.i<=s.j/\s.j<=a.l.length/\(∀k,k<s.i->gD a.l k<a.x)/\(∀k,s.j<=k->k<a.l.length->a.x<=gD a.l k),meas:=λs=>s.j-s.i }] else none }
def CDK(a:IX):Prop:=AS ZP (CCQ a) Tryz.f104 (AE Tryz.f104) (xIX a) (AB []) (C_bins.val a) [] [] []
abbrev XJ:=@Exists IJ
abbrev OH:=IX.l
abbrev Ho:=IX.x
abbrev EB:=IJ.i
abbrev BY:=IJ.j
abbrev uD:=λ(f:IJ->Prop)=>∀(x:IJ),f x
abbrev BEG:=@HPow.hPow Int Nat Int (@instHPow Int Nat (@instPowNat Int Int.instNatPow))
abbrev NV:=Int.toNat
abbrev BZI:=λ(x0:List Int) (x1:Int)=>decide (x1∈x0)
abbrev Ys a b c d:=PY a (HZ b c d)
abbrev Ee a b c d e:=Ys a (Gh b c) d e
abbrev YH a b c d e f g:=Ee a b c (AO d e f) g
abbrev Ms a b:=KL (OH a) b
abbrev Jh a:=GZ (OH a)
abbrev IN a:=Va a aN
abbrev FA a b:=PY (IN a) b
abbrev BKX a b c:=FA (and a b) c
abbrev APE a b c:=FA (Gh a b) c
abbrev Tt a b:=FF a (GZ b)
abbrev Sz a b c d e:=BD a (Tt b c) d e
abbrev Bi a b c:=PY (FF a b) c
abbrev wY a b:=Up a (BO b)
abbrev BIB a b c:=AME ((@HDiv.hDiv Int Int Int (@instHDiv Int Int.instDiv)) (IntKind.wrap IntKind.u64 (wY (BO a) b)) (BEG 2 c))
abbrev WF a b:=BIB a b (NV 1)
abbrev APC a b:=AI (EB a) b
abbrev UY a b:=APC a (EB b)
abbrev yP a:=AK (Ho a)
abbrev P8 a:=EZ (OH a)
abbrev L1 a:=IW (OH a)
abbrev TG a b:=BIF a a b
abbrev nI a b:=BIB a b 1
abbrev W9 a:=KO 1 a
abbrev BBM a b c d(e:Nat->Prop):=AR a b c d (AG e)
abbrev BLC a b c d e(f:Nat->Prop):=BBM a (FF b c) d e f
attribute [go_sem] XJ OH Ho EB BY uD BEG NV BZI Ys Ee YH Ms Jh IN FA BKX APE Tt Sz Bi wY BIB WF APC UY yP P8 L1 TG nI W9 BBM BLC
theorem CLM(a:IX):(CDK a)=(And (XJ (λi=>BLC (AW (L1 a) (P8 a) (yP a) (BP (Jh a)) (BX (EB i)) (AI (BY i) (Jh a))) (EB i) (BY i) (Tt (BY i) (OH a)) (AG (λj=>HJ j (EB i) (OB (Ms a j) (Ho a)))) (λj=>Bi (BY i) j (sL j (OH a) (KO (Ho a) (Ms a j)))))) (uD (λi=>YH (Sz (FF (EB i) (BY i)) (BY i) (OH a) (AG (λj=>HJ j (EB i) (OB (Ms a j) (Ho a)))) (AG (λj=>Bi (BY i) j (sL j (OH a) (KO (Ho a) (Ms a j)))))) (EB i) (BY i) (Cd 1 (W9 (BO 64))) (TG (nI (EB i) (BY i)) (Jh a)) (HZ (Tx (Ms a (NV (WF (EB i) (BY i)))) (Ho a)) (XJ (λj=>S7 (AW (L1 a) (P8 a) (yP a) (BP (Jh a)) (AIO (EB j) (WF (EB i) (BY i))) (AI (BY j) (BY i))) (Sz (FF (EB j) (BY j)) (BY j) (OH a) (AG (λk=>HJ k (EB j) (OB (Ms a k) (Ho a)))) (AG (λk=>Bi (BY j) k (sL k (OH a) (KO (Ho a) (Ms a k)))))) (BY j) (EB j) (BY i) (EB i))) (XJ (λj=>S7 (AW (L1 a) (P8 a) (yP a) (BP (Jh a)) (UY j i) (MM (BY j) (WF (EB i) (BY i)))) (Sz (FF (EB j) (BY j)) (BY j) (OH a) (AG (λk=>HJ k (EB j) (OB (Ms a k) (Ho a)))) (AG (λk=>Bi (BY j) k (sL k (OH a) (KO (Ho a) (Ms a k)))))) (BY j) (EB j) (BY i) (EB i)))) (Hk (And (APE (EB i) (Jh a) (JL (EB i) (OH a))) (BKX (Gh (EB i) (Jh a)) (not (VS (Ms a (EB i)) (Ho a))) (JL (EB i) (OH a)))) (BO (ltC (OH a) (Ho a))) (BO (EB i)) (Mn (BZI (OH a) (Ho a)) (Gh (EB i) (Jh a)) (JR (VS (Ms a (EB i)) (Ho a)) (BTE hd8 hd8))))))):=by kernel_rfl
theorem u64w{n:Int}(h0:0<=n)(h1:n<18446744073709551616):IntKind.u64.wrap n=n:=by
 simp only[IntKind.wrap,IntKind.bits,IntKind.signed]
 have:n % (2 ^ 64:Int)=n:=Int.emod_eq_of_lt h0 (by omega)
 simp only[this]
 simp
theorem half{i j:Nat}(h:i+j<9223372036854775807):IntKind.i64.wrap (IntKind.u64.wrap (IntKind.i64.wrap ((i:Int)+j)) / 2 ^ Int.toNat 1)=(((i+j) / 2:Nat):Int):=by
 rw[HL (n:=(i:Int)+j) (by omega) (by omega),u64w (by omega) (by omega)]
 show IntKind.i64.wrap (((i:Int)+j) / 2)=_
 rw[HL (by omega) (by omega)];omega
theorem iL{p:Int->Bool}{l:List Int}{i:Nat}(hi:i<=l.length)(h1:∀k,k<i->p (gD l k)=true)(h2:∀k,i<=k->k<l.length->p (gD l k)=false):l.countP p=i:=by
 conv=>lhs;rw[<-List.take_append_drop i l]
 rw[List.countP_append]
 have e1:(l.take i).countP p=i:=by
  rw[List.countP_eq_length.2]
  ·simp;omega
  ·intro x hx
   obtain⟨k,hk,rfl⟩:=List.getElem_of_mem hx
   have hk':k<i:=by simp at hk;omega
   have:=h1 k hk'
   simpa[gD,List.getD_eq_getElem?_getD,show k<l.length by omega] using this
 have e2:(l.drop i).countP p=0:=by
  rw[List.countP_eq_zero]
  intro x hx
  obtain⟨k,hk,rfl⟩:=List.getElem_of_mem hx
  have hk':i+k<l.length:=by simp at hk;omega
  have:=h2 (i+k) (by omega) hk'
  simp[gD,List.getD_eq_getElem?_getD,hk'] at this
  simp[this]
 omega
theorem Lt{l:List Int}(h:asc l){i j:Nat}(hij:i<j)(hj:j<l.length):gD l i<gD l j:=by
 have:=List.pairwise_iff_getElem.1 h i j (by omega) hj hij
 simpa[gD,List.getD_eq_getElem?_getD,hj,show i<l.length by omega] using this
theorem CUU{l:List Int}{x:Int}{i:Nat}(h:asc l)(hi:i<=l.length)(h1:∀k,k<i->gD l k<x)(h2:∀k,i<=k->k<l.length->x<=gD l k):decide (x∈l)=(decide ((i:Int)<l.length)&&gD l i==x):=by
 rw[Bool.eq_iff_iff]
 simp only[decide_eq_true_eq,Bool.and_eq_true,beq_iff_eq]
 constructor
 ·intro hx
  obtain⟨k,hk,rfl⟩:=JP hx
  have hik:i<=k:=by
   rcases Nat.lt_or_ge k i with h3 | h3
   ·have:=h1 k h3;omega
   ·exact h3
  refine⟨by omega,?_⟩
  rcases Nat.lt_or_ge i k with h3 | h3
  ·have:=Lt h h3 hk
   have:=h2 i (Nat.le_refl _) (by omega)
   omega
  ·rw[show i=k by omega]
 ·rintro⟨h3,rfl⟩
  exact BU (by omega)
theorem CHF:AH ZP 104 (C_bins.spec dIX):=PW C_bins CCQ [] [] Tryz.func104 (λ_=>by kernel_rfl) (λ_=>AA BVV (AA CHH AD)) (λ(a:IX) h=>by
 show CDK a;rw[CLM]<;> dsimp only[go_sem];simp only[CC,CU]
 obtain⟨hl,ha⟩:a.l.length<4611686018427387904/\asc a.l:=h
 refine⟨⟨⟨0,a.l.length⟩,⟨rfl,rfl⟩,Nat.zero_le _,Nat.le_refl _,λk hk=>absurd hk (Nat.not_lt_zero k),λk h1 h2=>absurd h2 (by have h1:a.l.length<=k:=h1;omega)⟩,λs ⟨h1,h2,h3,h4⟩=>⟨λhlt=>?_,λhge=>?_⟩⟩
 ·have hlt:s.i<s.j:=by omega
  have hh:=half (i:=s.i) (j:=s.j) (by omega)
  obtain⟨m,hm⟩:∃m,m=(s.i+s.j) / 2:=⟨_,rfl⟩
  have hh':IntKind.i64.wrap (IntKind.u64.wrap (IntKind.i64.wrap ((s.i:Int)+s.j)) / 2 ^ 1)=(m:Int):=by rw[hm];exact hh
  rw[<-hm] at hh
  rw[hh,hh']
  have hm1:s.i<=m:=by omega
  have hm2:m<s.j:=by omega
  refine⟨by omega,⟨by omega,by omega⟩,λhx=>⟨⟨m+1,s.j⟩,⟨(BF (by omega)).symm,rfl⟩,⟨by show m+1<=s.j;omega,h2,λk hk=>?_,h4⟩,by show s.j-(m+1)<s.j-s.i;omega⟩,λhx=>⟨⟨s.i,m⟩,⟨rfl,rfl⟩,⟨hm1,by show m<=_;omega,h3,λk h5 h6=>?_⟩,by show m-s.i<s.j-s.i;omega⟩⟩
  ·have hk:k<m+1:=hk
   simp only[Int.toNat_natCast] at hx
   rcases Nat.lt_or_ge k m with h7 | h7
   ·have:=Lt ha h7 (by omega);omega
   ·rw[show k=m by omega];exact hx
  ·have h5:m<=k:=h5
   simp only[Int.toNat_natCast] at hx
   rcases Nat.lt_or_ge m k with h7 | h7
   ·have:=Lt ha h7 h6;omega
   ·rw[show k=m by omega];omega
 ·have he:s.i=s.j:=by omega
  have h4:∀k,s.i<=k->k<a.l.length->a.x<=gD a.l k:=by rw[he];exact h4
  refine⟨⟨λh5=>by omega,λh5=>by simp at h5;omega⟩,?_,?_⟩
  ·have:=iL (p:=λb=>decide (b<a.x)) (l:=a.l) (i:=s.i) (by omega) (λk hk=>by simpa using h3 k hk) (λk h5 h6=>by have:=h4 k h5 h6;simp;omega)
   unfold ltC;omega
  ·rw[CUU ha (by omega) h3 h4]
   cases decide ((s.i:Int)<a.l.length)<;>cases (gD a.l s.i==a.x)<;>rfl) (λ_=>RA rfl rfl) _
theorem CAD{l:List Int}{x:Int}(h:asc l):(KB l x:Int)=if x∈l then (ltC l x:Int)+1 else ltC l x:=by
 unfold KB ltC
 induction l with
 |nil=>simp
 |cons b r ih=>
  obtain⟨h1,h2⟩:=List.pairwise_cons.1 h
  have ih:=ih h2
  by_cases hb:b=x
  ·subst hb
   have:b∉r:=λhm=>absurd (h1 b hm) (by omega)
   simp only[this,if_false] at ih
   simp;omega
  ·by_cases hm:x∈r
   ·have h3:=h1 x hm
    simp only[hm,if_true] at ih
    simp[hm,h3,show b<=x by omega]
    omega
   ·simp only[hm,if_false] at ih
    have hne:x≠b:=λh=>hb h.symm
    simp only[List.mem_cons,hne,hm,or_self,if_false,List.countP_cons]
    by_cases h3:b<x
    ·simp[h3,show b<=x by omega];omega
    ·simp[h3,show ¬ b<=x by omega];omega
def C_part:Ctr:={ C_bins with val:=λ(a:IX)=>.int (KB a.l a.x) }
def BWY:Ann:=ann 17 [(104,C_bins.spec dIX)]
def CDV(a:IX):Prop:=AS ZP BWY Tryz.f64 (AE Tryz.f64) (xIX a) (AB []) (C_part.val a) [] [] []
abbrev vI:=@List.Pairwise Int
abbrev fO a b:=KB a (Ho b)
attribute [go_sem] vI fO
theorem CJF(a:IX):(CDV a)=(TC (AR (EA (OH a)) (CM (OH a)) (yP a) (lF (OH a)) (vI OB (FI (OH a)))) (BZI (FI (OH a)) (Ho a)) (AJ (fO (OH a) a) (ltC (FI (OH a)) (Ho a))) (AI (fO (OH a) a) (ltC (FI (OH a)) (Ho a)))):=by kernel_rfl
theorem ADJ:AH ZP 64 (C_part.spec dIX):=Ctr.spec_ok (C:=C_part) (λ(a:IX) h=>WP (A:=BWY) (L:=[]) (keep:=[]) (ren:=[]) (fz:=[]) Tryz.func64 (by kernel_rfl) (AA CHF AD) (by
 show CDV a;rw[CJF]<;> dsimp only[go_sem];simp only[CC,CU]
 have h:a.l.length<4611686018427387904/\asc a.l:=h
 refine⟨h,λhm=>?_,λhm=>?_⟩
 ·rw[CAD h.2,if_pos hm,HL (by omega) (by have:ltC a.l a.x<=a.l.length:=List.countP_le_length;omega)]
 ·rw[CAD h.2,if_neg hm])) _
def Rw:=pD dI3 λx=>.bool (!JD x.a x.b x.c)
def CEM(x:I3):Prop:=AS ZP (ann 15 []) Tryz.f56 (AE Tryz.f56) (xI3 x) (AB []) (.bool (!JD x.a x.b x.c)) [] [] []
theorem CLR(x:I3):(CEM x)=(Va (Lx (I3.a x) (I3.b x) (I3.c x)) (JR (Tx (I3.a x) (I3.b x)) (Oa (I3.a x) (I3.c x)))):=by kernel_rfl
def C_rCheck:Ctr:={ α:=List Gau,xs:=λl=>[.d (AT l)],val:=λl=>.int (AL l),pre:=λl=>[l.length<1073741824/\True] }
def rc4(l:List Gau):Shape:={ α:=Nat,dflt:=0,T:=λi=>⟨[(0,.d (AT l)),(3,.int i)],[]⟩,inv:=λi=>(1<=l.length/\l.length<=24)/\i<=l.length/\∀j,j<i->riG (gD l j)=true,meas:=λi=>l.length-i }
def BCX(l:List Gau):Ann:={ ann 57 [(56,Rw)] with loops:=λid=>if id=4 then some [rc4 l] else none }
def BDD(l:List Gau):Prop:=AS ZP (BCX l) Tryz.f14 (AE Tryz.f14) (C_rCheck.xs l) (AB []) (C_rCheck.val l) [] [] []
abbrev Hd a b c d:=HZ (JR a b) c d
abbrev BLY a b c d e f g h:=EO a (EE b c d e) f g h
abbrev Am a b c d e f:=BLY a b c d e d c f
abbrev Nw a b c:=HJ a b (IN c)
abbrev AZK a:=FF a 24
abbrev kW a:=AZK (CH a)
abbrev O2 a b c:=AO (BQ a) b c
abbrev Af a b:=O2 a (AP a) b
abbrev oM a b c:=JR (JR a b) c
abbrev XP a:=qQ a 2000
abbrev Pa a b:=FA (not a) b
abbrev PH a b:=CR a (CH b)
abbrev XU a b:=FF a (CH b)
attribute [go_sem] Hd BLY Am Nw AZK kW O2 Af oM XP Pa PH XU
theorem BVR(l:List Gau):(BDD l)=(Hd (UO (CH l) 1) (NO (CH l) 24) (BM (sE l) 3) (HU (λi=>BD (Af l (BX i)) (GP 1 (CH l) (kW l)) (XU i l) (AG (λj=>Nw j i (AQU l j)))) (λi=>An (EE (GP 1 (CH l) (kW l)) i (CH l) (AG (λj=>Nw j i (AQU l j)))) i (CH l) (cH (PH i l) (Pa (XP (BL l i)) (PH i l)) (Pa (JR (XP (BL l i)) (cV (DF l i))) (PH i l)) (Pa (oM (XP (BL l i)) (cV (DF l i)) (Oa (DG l i) 200000)) (PH i l))) (JR (oM (XP (BL l i)) (cV (DF l i)) (Oa (DG l i) 200000)) (Oa (DF l i) (DG l i))) (BM (sE l) 50) (λj=>Am (Af l (AJ j i)) (GP 1 (CH l) (kW l)) j (CH l) (AG (λk=>Nw k j (AQU l k))) i) (Gg l)))):=by kernel_rfl
def C_rBrok:Ctr:={ α:=List Int,xs:=λl=>[.d (AZ l)],val:=λl=>.int (OC l),pre:=λl=>[l.length<1073741824/\True] }
def Lb(l:List Int)(i:Nat):Int:=if i=0 then 0 else gD l (i-1)
def rb4(l:List Int):Shape:={ α:=Nat,dflt:=0,T:=λi=>⟨[(0,.d (AZ l)),(3,.int i)],[]⟩,inv:=λi=>l.length<=24/\i<=l.length/\(0<=Lb l i/\Lb l i<=2000)/\brk 0 l=brk (Lb l i) (l.drop i),meas:=λi=>l.length-i }
def BQP(l:List Int):Ann:={ ann 34 [(56,Rw)] with loops:=λid=>if id=4 then some [rb4 l] else none }
def BTO(l:List Int):Prop:=AS ZP (BQP l) Tryz.f57 (AE Tryz.f57) (C_rBrok.xs l) (AB []) (C_rBrok.val l) [] [] []
abbrev ANE:=Lb
abbrev N1 a:=AZK (GZ a)
abbrev Ru a:=NO a 0
abbrev Iv a b:=EP (Ru a) b
abbrev Uh a:=NV (Dv a)
abbrev fQ a b c:=BKX (not a) b c
abbrev TV a b:=TG (Dv a) b
attribute [go_sem] ANE N1 Ru Iv Uh fQ TV
theorem CDD(l:List Int):(BTO l)=(HZ (NO (GZ l) 24) (BM (La l) 3) (HU (λi=>AR (AO (IW l) (EZ l) (BX i)) (N1 l) (Tt i l) (UW (ANE l i)) (BM (brk 0 l) (brk (ANE l i) (ANX i l)))) (λi=>An (Sz (N1 l) i l (UW (ANE l i)) (BM (brk 0 l) (brk (ANE l i) (ANX i l)))) i (GZ l) (AO (JL i l) (fQ (Lx (KL l i) 1 2000) (Ru i) (JL i l)) (fQ (Lx (KL l i) 1 2000) (Ru i) (TV i (GZ l)))) (JR (Lx (KL l i) 1 2000) (Iv i (hd7 (KL l i) (KL l (Uh i))))) (aS (La l)) (λj=>EO (AO (IW l) (EZ l) (AJ j i)) (Sz (N1 l) j l (UW (ANE l j)) (BM (brk 0 l) (brk (ANE l j) (ANX j l)))) (GZ l) j i) (CL (La l))))):=by kernel_rfl
def zR:=pD dL1 λx=>.bool (!Kv x)
def BGT(x:Ln):Prop:=AS ZP (ann 43 [(56,Rw)]) Tryz.f58 (AE Tryz.f58) (xL1 x) (AB []) (.bool (!Kv x)) [] [] []
theorem BUN(x:Ln):(BGT x)=(Va (kK x) (JR (oM (oM (XP (MG x)) (XP (RU x)) (qQ (QT x) 200000)) (qQ (SJ x) 200000) (hd6 (MG x) (RU x))) (Oa (QT x) (SJ x)))):=by kernel_rfl
def C_rChkR:Ctr:={ α:=Rtg,xs:=λr=>[.d (eRtg r)],val:=λr=>.int (HB r),pre:=λr=>[r.b.length<1073741824/\r.l.length<1073741824] }
def rtgB(r:Rtg):HCell:=.live (.box [.d (AZ r.b),.d (Qr r.l)])
def rr7(r:Rtg):Shape:={ α:=Nat,dflt:=0,T:=λi=>⟨[(1,.bptr 1000 0),(4,.int i)],[(1000,rtgB r)]⟩,inv:=λi=>OC r.b=0/\r.l.length=r.b.length+1/\i<=r.l.length/\∀j,j<i->Kv (gD r.l j)=true,meas:=λi=>r.l.length-i }
def BOS(r:Rtg):Ann:={ ann 32 [(57,C_rBrok.spec dIs1),(58,zR)] with loops:=λid=>if id=7 then some [rr7 r] else none }
def BNY(r:Rtg):Prop:=AS ZP (BOS r) Tryz.f16 (AE Tryz.f16) (C_rChkR.xs r) (AB []) (C_rChkR.val r) [] [] []
abbrev sG:=@HAdd.hAdd Nat Nat Nat (@instHAdd Nat instAddNat)
abbrev CN a:=sG a 1
abbrev ZT a:=CN (GZ a)
abbrev BKD a b c d e:=Lk a b (MG c) (AXB d c e)
abbrev uL a b c:=BKD a b c (QT c) (SJ c)
abbrev fU a:=EZ (Cm a)
abbrev fW a:=IW (Cm a)
abbrev FE a b c d e f:=AR a b c (FF d e) f
abbrev Br a:=FC a 1073741824
abbrev MB a:=Br (GZ a)
attribute [go_sem] sG CN ZT BKD uL fU fW FE Br MB
theorem BXD(r:Rtg):(BNY r)=(Sa (Dd (Dq (Ce r) r) (Cq (Ce r) r) (MB (Ce r))) (La (Ce r)) (BM (Hj r) (La (Ce r))) (HZ (hd23 (S0 r) (XM (NP (Cm r)))) (aS (Hj r)) (HU (λi=>FE (BBM (BX i) (fW r) (fU r) (DR (IS r)) (λj=>uL j (IS r) (KX r j))) (CL (La (Cm r))) (DU (IS r) (ZT (Cm r))) i (IS r) (AG (λj=>Nw j i (Kv (KX r j))))) (λi=>An (JO (CL (La (Cm r))) (DU (IS r) (ZT (Cm r))) i (IS r) (AG (λj=>Nw j i (Kv (KX r j))))) i (IS r) (CR i (IS r)) (kK (KX r i)) (BM (Hj r) 50) (λj=>EO (BBM (AJ j i) (fW r) (fU r) (DR (IS r)) (λk=>uL k (IS r) (KX r k))) (JO (CL (La (Cm r))) (DU (IS r) (ZT (Cm r))) j (IS r) (AG (λk=>Nw k j (Kv (KX r k))))) (IS r) j i) (CL (Hj r)))))):=by kernel_rfl
theorem Vj:AH ZP 56 Rw:=OG xI3 hI3 λx _=>WP (A:=ann 15 []) (ren:=[]) (fz:=[]) Tryz.func56 (by kernel_rfl) AD (by
 show CEM x;rw[CLR]<;> dsimp only[go_sem];unfold JD
 by_cases h1:x.a<x.b
 ·rw[decide_eq_true h1,decide_eq_false (show ¬x.b<=x.a by omega)];rfl
 ·rw[decide_eq_false h1,decide_eq_true (show x.b<=x.a by omega)]
  by_cases h2:x.a>x.c
  ·rw[decide_eq_true h2,decide_eq_false (show ¬x.a<=x.c by omega)];rfl
  ·rw[decide_eq_false h2,decide_eq_true (show x.a<=x.c by omega)];rfl)
theorem CKF(g:Gau):(bif bif bif !JD g.st 0 2000 then true else decide (g.lo<0) then true else decide (g.hi>200000) then true else decide (g.lo>g.hi))=!riG g:=by
 unfold riG
 cases JD g.st 0 2000 with
 |false=>rfl
 |true=>
  unfold JD
  by_cases h1:g.lo<0
  ·rw[decide_eq_true h1,decide_eq_false (show ¬0<=g.lo by omega)];rfl
  ·rw[decide_eq_false h1,decide_eq_true (show 0<=g.lo by omega)]
   by_cases h2:g.hi>200000
   ·rw[decide_eq_true h2,decide_eq_false (show ¬g.hi<=200000 by omega)];simp
   ·rw[decide_eq_false h2,decide_eq_true (show g.hi<=200000 by omega)]
    by_cases h3:g.lo>g.hi
    ·rw[decide_eq_true h3,decide_eq_false (show ¬g.lo<=g.hi by omega)];simp
    ·rw[decide_eq_false h3,decide_eq_true (show g.lo<=g.hi by omega),decide_eq_true (show 0<=g.hi by omega)];rfl
theorem BBX{α:Type}[Inhabited α]{p:α->Bool}{l:List α}:l.all p=true↔∀i,i<l.length->p (gD l i)=true:=by
 rw[List.all_eq_true]
 constructor
 ·exact λh i hi=>h _ (BU hi)
 ·intro h x hx
  obtain⟨i,hi,rfl⟩:=JP hx
  exact h i hi
theorem AZG{α:Type}[Inhabited α]{p:α->Bool}{l:List α}{i:Nat}(hi:i<l.length)(h:p (gD l i)=false):l.all p=false:=by
 cases hq:l.all p with
 |false=>rfl
 |true=>rw[BBX.1 hq i hi] at h;cases h
theorem CAY(l:List Gau)(h:l.length<1073741824):BDD l:=by
 rw[BVR]<;> dsimp only[go_sem];simp only[CC,CU,CKF]
 have hin:1<=l.length/\l.length<=24->JD l.length 1 24=true:=λh=>by unfold JD;simp;omega
 refine⟨λhb=>?_,λhb=>⟨⟨0,rfl,?_,Nat.zero_le _,λj hj=>absurd hj (Nat.not_lt_zero _)⟩,λi ⟨i1,i2,i3⟩=>⟨λhlt=>⟨⟨⟨by omega,by omega⟩,λ_=>⟨by omega,by omega⟩,λ_=>⟨by omega,by omega⟩,λ_=>⟨by omega,by omega⟩⟩,λhr=>?_,λhr=>⟨i+1,(BF (by omega)).symm,⟨i1,by omega,λj hj=>?_⟩,by omega⟩⟩,λhge=>?_⟩⟩⟩
 ·unfold AL
  have:JD l.length 1 24=false:=by
   unfold JD
   by_cases h1:(l.length:Int)<1
   ·rw[decide_eq_false (show ¬(1:Int)<=l.length by omega)];rfl
   ·rw[decide_eq_false h1] at hb
    have:=of_decide_eq_true hb
    rw[decide_eq_false (show ¬(l.length:Int)<=24 by omega)];simp
  rw[this];rfl
 ·by_cases h1:(l.length:Int)<1
  ·rw[decide_eq_true h1] at hb;cases hb
  ·rw[decide_eq_false h1] at hb
   have:=of_decide_eq_false hb
   omega
 ·unfold AL
  rw[hin i1,AZG (i:=i) (by omega) (by simpa using hr)];rfl
 ·by_cases e:j=i
  ·rw[e];simpa using hr
  ·exact i3 j (by omega)
 ·unfold AL
  rw[hin i1,BBX.2 λj hj=>i3 j (by omega)];rfl
theorem Vt:AH ZP 14 (C_rCheck.spec NU):=PW C_rCheck BCX [] [] Tryz.func14 (λ_=>by kernel_rfl) (λ_=>AA Vj AD) (λ(l:List Gau) h=>CAY l (show l.length<1073741824/\True from h).1) (λ_=>RA rfl rfl) _
theorem DBY(a b:Int)(r:List Int):brk a (b :: r)=bif JD b (wr (a+1)) 2000 then brk b r else 2:=rfl
theorem CIJ(l:List Int)(h:l.length<1073741824):BTO l:=by
 rw[CDD]<;> dsimp only[go_sem];simp only[CC,CU,Bool.not_not]
 refine⟨λh1=>?_,λh1=>⟨⟨0,rfl,by omega,Nat.zero_le _,⟨Int.le_refl _,by show (0:Int)<=2000;omega⟩,rfl⟩,λi ⟨i1,i2,i3,i4⟩=>⟨λhlt=>?_,λhge=>?_⟩⟩⟩
 ·unfold OC;rw[if_pos h1]
 ·have hi:i<l.length:=by omega
  have pos:∀{x:Bool},(x&&decide ((i:Int)>0))=true->0<i:=λ{x} h=>by
   have:=(Bool.and_eq_true _ _ ▸ h).2
   have:=of_decide_eq_true this;omega
  have e1:0<i->IntKind.i64.wrap ((i:Int)-1)=((i-1:Nat):Int):=λh=>by rw[HL (by omega) (by omega)];omega
  have key:(bif !JD (gD l i) 1 2000 then true else bif decide ((i:Int)>0) then decide (gD l i<=gD l (IntKind.i64.wrap ((i:Int)-1)).toNat) else false)=!JD (gD l i) (wr (Lb l i+1)) 2000:=by
   have w:wr (Lb l i+1)=Lb l i+1:=HL (by omega) (by omega)
   rw[w]
   unfold Lb at i3 ⊢
   by_cases h0:i=0
   ·rw[if_pos h0,decide_eq_false (show ¬(i:Int)>0 by omega)]
    show (bif !JD (gD l i) 1 2000 then true else false)=!JD (gD l i) 1 2000
    cases JD (gD l i) 1 2000<;>rfl
   ·rw[if_neg h0] at i3 ⊢
    rw[decide_eq_true (show (i:Int)>0 by omega),e1 (by omega),Int.toNat_natCast]
    unfold JD
    by_cases h2:gD l i<=2000
    ·rw[decide_eq_true h2]
     by_cases h3:gD l i<=gD l (i-1)
     ·rw[decide_eq_true h3,decide_eq_false (show ¬gD l (i-1)+1<=gD l i by omega)]
      cases decide (1<=gD l i)<;>rfl
     ·rw[decide_eq_false h3,decide_eq_true (show gD l (i-1)+1<=gD l i by omega),decide_eq_true (show 1<=gD l i by omega)];rfl
    ·rw[decide_eq_false h2];simp
  rw[key]
  rw[BSJ hi] at i4
  rw[DBY] at i4
  refine⟨⟨⟨by omega,by omega⟩,λ_=>⟨by omega,by omega⟩,λh=>?_⟩,λhb=>?_,λhb=>⟨i+1,(BF (by omega)).symm,⟨i1,by omega,?_,?_⟩,by omega⟩⟩
  ·have:=pos h;rw[e1 this];omega
  ·have hb:JD (gD l i) (wr (Lb l i+1)) 2000=false:=by simpa using hb
   rw[hb] at i4
   unfold OC;rw[if_neg h1]
   exact i4
  ·have hb:JD (gD l i) (wr (Lb l i+1)) 2000=true:=by simpa using hb
   unfold JD at hb
   simp only[Bool.and_eq_true,decide_eq_true_eq] at hb
   rw[show wr (Lb l i+1)=Lb l i+1 from HL (by omega) (by omega)] at hb
   show 0<=Lb l (i+1)/\Lb l (i+1)<=2000
   unfold Lb
   rw[if_neg (by omega),show i+1-1=i by omega];omega
  ·have hb:JD (gD l i) (wr (Lb l i+1)) 2000=true:=by simpa using hb
   rw[hb] at i4
   rw[i4]
   show brk (gD l i) _=brk (Lb l (i+1)) _
   unfold Lb
   rw[if_neg (by omega),show i+1-1=i by omega]
 ·unfold OC
  rw[if_neg h1,i4,List.drop_of_length_le (by omega)];rfl
theorem BDA:AH ZP 57 (C_rBrok.spec dIs1):=PW C_rBrok BQP [] [] Tryz.func57 (λ_=>by kernel_rfl) (λ_=>AA Vj AD) (λ(l:List Int) h=>CIJ l (show l.length<1073741824/\True from h).1) (λ_=>RA rfl rfl) _
theorem AGF:AH ZP 58 zR:=OG xL1 hL1 λx _=>WP (A:=ann 43 [(56,Rw)]) (ren:=[]) (fz:=[]) Tryz.func58 (by kernel_rfl) (AA Vj AD) (by
 show BGT x;rw[BUN]<;> dsimp only[go_sem];unfold Kv riP
 have e1:decide (x.a0>=x.b0)=!decide (x.a0<x.b0):=by
  by_cases h:x.a0<x.b0
  ·rw[decide_eq_true h,decide_eq_false (by omega)];rfl
  ·rw[decide_eq_false h,decide_eq_true (by omega)];rfl
 have e2:decide (x.a1>x.b1)=!decide (x.a1<=x.b1):=by
  by_cases h:x.a1<=x.b1
  ·rw[decide_eq_true h,decide_eq_false (by omega)];rfl
  ·rw[decide_eq_false h,decide_eq_true (by omega)];rfl
 rw[e1,e2]
 show (!((JD x.a0 0 2000&&JD x.a1 0 200000)&&(JD x.b0 0 2000&&JD x.b1 0 200000)&&decide (x.a0<x.b0)&&decide (x.a1<=x.b1)))=_
 cases JD x.a0 0 2000<;>cases JD x.b0 0 2000<;>cases JD x.a1 0 200000<;>cases JD x.b1 0 200000<;>cases decide (x.a0<x.b0)<;>cases decide (x.a1<=x.b1)<;>rfl)
theorem CHW(r:Rtg)(h1:r.b.length<1073741824)(h2:r.l.length<1073741824):BNY r:=by
 rw[BXD]<;> dsimp only[go_sem];simp only[CC,CU]
 have w:IntKind.i64.wrap ((r.b.length:Int)+1)=(r.b.length:Int)+1:=HL (by omega) (by omega)
 rw[w]
 refine⟨h1,λhb=>?_,λhb=>⟨λhl=>?_,λhl=>⟨⟨0,rfl,?_,?_,Nat.zero_le _,λj hj=>absurd hj (Nat.not_lt_zero _)⟩,λi ⟨i1,i2,i3,i4⟩=>⟨λhlt=>⟨⟨by omega,by omega⟩,λhr=>?_,λhr=>⟨i+1,(BF (by omega)).symm,⟨i1,i2,by omega,λj hj=>?_⟩,by omega⟩⟩,λhge=>?_⟩⟩⟩⟩
 ·unfold HB;rw[hb];rfl
 ·unfold HB;rw[hb,hl];rfl
 ·simpa using hb
 ·have:(r.l.length:Int)=(r.b.length:Int)+1:=by simpa using hl
  omega
 ·unfold HB
  rw[i1,i2,AZG (by omega) hr];simp
 ·by_cases e:j=i
  ·rw[e];exact hr
  ·exact i4 j (by omega)
 ·unfold HB
  rw[i1,i2,BBX.2 λj hj=>i4 j (by omega)];simp
theorem AKY:AH ZP 16 (C_rChkR.spec dRt1):=PW C_rChkR BOS [] [] Tryz.func16 (λ_=>by kernel_rfl) (λ_=>AA BDA (AA AGF AD)) (λ(r:Rtg) h=>CHW r h.1 h.2) (λ_=>RA rfl rfl) _
end Go.Bal
