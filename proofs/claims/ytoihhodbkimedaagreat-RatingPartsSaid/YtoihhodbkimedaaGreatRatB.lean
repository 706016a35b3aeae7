/- Package rating: what is allowed; parts; ends. -/
import Derived.Test.YtoihhodbkimedaaGreatRatE
set_option linter.unusedVariables false
set_option linter.unusedSimpArgs false
namespace Go.Bal
open Go Go.Sym Go.Proofs
def AV(l:List Gau):Int:=bif !QY l.length 1 24 then 3 else bif !l.all riG then 50 else 0
def WJ:List AVal->Heap->Option (List Gau×List (Nat×Nat)×List Nat)
 |[y],H=>match aE y H with
  |some (l,f)=>some (l,[],f)
  |none=>none
 |_,_=>none
def C_Check:Ctr:={ α:=List Gau,xs:=λl=>[.d (BX l)],L:=λ_=>[],val:=λl=>.int (AV l),keep:=λ_=>[],pre:=λl=>[l.length<4611686018427387904/\True] }
def BOO:Ann:=ann 12 [(n_in,s_in),(n_eG,C4Gr.spec d4Gr)]
def BOP(l:List Gau):Prop:=BQ Try.prog BOO AZF (AI AZF) (C_Check.xs l) (AD []) (C_Check.val l) [] [] []
abbrev Ep:=AV
abbrev YC a:=CP (Ep a)
attribute [go_sem] Ep YC
theorem CAX(l:List Gau):(BOP l)=(YR (OE (EY l) 1 24) (Ep l) 3 (VE l (ZK l) (YR (not (AJY (BH l) riG)) (Ep l) 50 (YC l)))):=by kernel_rfl
theorem jM:AJ Try.prog nS (C_Check.spec WJ):=VD C_Check (λ_=>BOO) [] [] BYJ (λ_=>by kernel_rfl) (λ_=>AC uN (AC CRY AE)) (λ(l:List Gau) h=>by
 show BOP l;rw[CAX]<;> delta EE EC DP CS AO AR AK BV BZ AQ CI EZ LZ FP AJY Ep AG GT GV AT AH CA CF BH AP BR AS AW DX CR AN EP HU HY CP EM FE EW FM FK CE JS BB EY DY OE YC QP ZK YR VE;simp only[CC,eq_self,implies_true,forall_const]
 have h':l.length<4611686018427387904/\True:=h
 unfold AV
 cases QY l.length 1 24<;>cases hr:l.all riG<;>simp[h'.1,hr]) (λ_=>WK rfl rfl) _
def brk:Int->List Int->Int
 |_,[]=>0
 |a,b :: r=>bif QY b (wr (a+1)) 2000 then brk b r else 2
def RM(l:List Int):Int:=if (l.length:Int)>24 then 3 else brk 0 l
def dIs1:List AVal->Heap->Option (List Int×List (Nat×Nat)×List Nat)
 |[y],H=>match tT y H with
  |some (l,f)=>some (l,[],f)
  |none=>none
 |_,_=>none
def C_checkB:Ctr:={ α:=List Int,xs:=λl=>[.d (CZ l)],L:=λ_=>[],val:=λl=>.int (RM l),keep:=λ_=>[],pre:=λl=>[l.length<4611686018427387904/\True] }
def BEV(l:List Int):Ann:={ ann 22 [(n_in,s_in)] with loops:=λid=>if id=5 then some [{ α:=NI,dflt:=default,T:=λs=>⟨[(3,.int s.m),(9,.d (CZ l)),(10,.int l.length),(11,.int s.k)],[]⟩,inv:=λs=>s.k<=l.length/\brk s.m (l.drop s.k)=brk 0 l,meas:=λs=>l.length-s.k }] else none }
def BEI(l:List Int):Prop:=BQ Try.prog (BEV l) AOU (AI AOU) (C_checkB.xs l) (AD []) (C_checkB.val l) [] [] []
abbrev Es:=RM
abbrev ABM:=@List.drop Int
attribute [go_sem] Es ABM
theorem BSA(l:List Int):(BEI l)=(YR (KO (EK l) 24) (Es l) 3 (And (hd33 (λi=>AG (AF (CP (yI i)) (CX l) (FC l) (QV l) (BD (Gt i))) (JF (Gt i) l) (AO (brk (yI i) (ABM (Gt i) l)) (brk 0 l)))) (hd49 (λi=>FH (And (JF (Gt i) l) (AO (brk (yI i) (ABM (Gt i) l)) (brk 0 l))) (Gt i) (EK l) (IN (Gt i) l) (YR (OE (CM l (Gt i)) (DU (yI i)) 2000) (Es l) 2 (hd33 (λj=>EV (AF (AO (yI j) (CM l (Gt i))) (CX l) (FC l) (QV l) (BS (Gt j) (Gt i))) (And (JF (Gt j) l) (AO (brk (yI j) (ABM (Gt j) l)) (brk 0 l))) (CG l) (Gt j) (Gt i)))) (CP (Es l)))))):=by kernel_rfl
theorem ATY:AJ Try.prog ASD (C_checkB.spec dIs1):=VD C_checkB BEV [] [] BQO (λ_=>by kernel_rfl) (λ_=>AC uN AE) (λ(l:List Int) h=>by
 show BEI l;rw[BSA]<;> delta GD CS AO KO hd33 yI AR CG AK BV BZ CM AQ Gt BU hd49 DD ES LX EF Es ABM AG DG AF AT FF AM BL DF DU BC CQ BE ED BW HI CX JD CL EK EA CP DV PG FC FD LN LL KJ FL EV BS JF BD FH OE QV IN YR;simp only[CC,eq_self,implies_true,forall_const]
 have h':l.length<4611686018427387904/\True:=h
 unfold RM
 refine⟨λh1=>by rw[if_pos h1],λh1=>⟨⟨⟨0,0⟩,⟨rfl,rfl⟩,Nat.zero_le _,rfl⟩,λs hs=>⟨λhlt=>?_,λhge=>?_⟩⟩⟩
 ·have hlt:s.k<l.length:=by omega
  have hd:=BNT hlt
  refine⟨⟨by omega,by omega⟩,λhb=>?_,λhb=>⟨⟨s.k+1,gD l s.k⟩,⟨rfl,(CN (by omega)).symm⟩,⟨hlt,?_⟩,?_⟩⟩
  ·rw[if_neg h1,<-hs.2,hd];simp[brk,wr,hb]
  ·show brk (gD l s.k) _=_
   rw[<-hs.2,hd];simp[brk,wr,hb]
  ·show l.length-(s.k+1)<l.length-s.k;omega
 ·rw[if_neg h1,<-hs.2,List.drop_of_length_le (by omega)];rfl) (λ_=>WK rfl rfl) _
def Eg(r:Rtg):Int:=bif RM r.b != 0 then RM r.b else bif (r.l.length:Int) != (r.b.length:Int)+1 then 2 else bif !r.l.all Va then 50 else 0
def dRt1:List AVal->Heap->Option (Rtg×List (Nat×Nat)×List Nat)
 |[y],H=>match dRtg y H with
  |some (l,f)=>some (l,[],f)
  |none=>none
 |_,_=>none
structure IX where
 l:List Int
 x:Int
structure IJ where
 i:Nat
 j:Nat
 deriving Inhabited
def ltC(l:List Int)(x:Int):Nat:=l.countP λb=>decide (b<x)
def Et(l:List Int)(x:Int):Nat:=l.countP λb=>decide (b<=x)
def asc(l:List Int):Prop:=l.Pairwise (· < ·)
def dIX:List AVal->Heap->Option (IX×List (Nat×Nat)×List Nat)
 |[y,.d x],H=>match tT y H with
  |some (l,f)=>some (⟨l,KT x⟩,[],f)
  |none=>none
 |_,_=>none
def xIX(a:IX):List AVal:=[.d (CZ a.l),.int a.x]
def C_bins:Ctr:={ α:=IX,xs:=xIX,L:=λ_=>[],val:=λa=>.tup [.int (ltC a.l a.x),.bool (decide (a.x∈a.l))],keep:=λ_=>[],pre:=λa=>[a.l.length<4611686018427387904/\asc a.l] }
def BUD(a:IX):Ann:={ ann 54 [(AZU,BOF),(BHQ,W5)] with loops:=λid=>if id=3 then some [{ α:=IJ,dflt:=default,T:=λs=>⟨[(0,.d (CZ a.l)),(1,.int a.x),(6,.int a.l.length),(7,.int s.i),(8,.int s.j)],[]⟩,inv:=λs=>s.i<=s.j/\s.j<=a.l.length/\(∀k,k<s.i->gD a.l k<a.x)/\(∀k,s.j<=k->k<a.l.length->a.x<=gD a.l k),meas:=λs=>s.j-s.i }] else none }
def CAW(a:IX):Prop:=BQ Try.prog (BUD a) BGO (AI BGO) (xIX a) (AD []) (C_bins.val a) [] [] []
abbrev BDT:=@Exists IJ
abbrev IU:=IX.l
abbrev Cn:=IX.x
abbrev TI:=IJ.i
abbrev XP:=IJ.j
abbrev AKA:=IntKind.u64
abbrev AQO:=@HPow.hPow Int Nat Int (@instHPow Int Nat (@instPowNat Int Int.instNatPow))
abbrev EU:=Int.toNat
abbrev BBS:=λ(x0:List Int) (x1:Int)=>decide (x1∈x0)
abbrev HP a b c d:=BV a (CS b c d)
abbrev NJ a b c d e f:=HP a b (AG c d e) f
abbrev Im a b:=CM (IU a) b
abbrev Yi a b:=FD a (EK b)
abbrev CB a b:=CQ a (AQ b)
abbrev EL a:=JT a JG
abbrev EX a b:=BV (EL a) b
abbrev VV a b c(d:Nat->Prop):=AN a b c (AK d)
abbrev PX a b c:=BV (BU a b) c
abbrev Kf a b c d:=AT a b (ES c d)
abbrev AJW a b:=DG ((@HDiv.hDiv Int Int Int (@instHDiv Int Int.instDiv)) a (AQO 2 b))
abbrev AJM a b c:=IntKind.wrap a (FF b c)
abbrev nD a b:=AJW (AJM AKA (AQ a) (AQ b)) (EU 1)
abbrev Za a:=AM (Cn a)
abbrev nP a:=FC (IU a)
abbrev mJ a:=CX (IU a)
abbrev Qe:=ED 1 (DD 1 (AQ 64))
abbrev UI a b:=FD a (AQ b)
attribute [go_sem] BDT IU Cn TI XP AKA AQO EU BBS HP NJ Im Yi CB EL EX VV PX Kf AJW AJM nD Za nP mJ Qe UI
theorem CDP(a:IX):(CAW a)=(And (BDT (λi=>CU (BJ (mJ a) (nP a) (Za a) (QV (IU a)) (BD (TI i)) (CQ (XP i) (EK (IU a)))) (BU (TI i) (XP i)) (JF (XP i) (IU a)) (AK (λj=>Kf j (TI i) (Im a j) (Cn a))) (λj=>PX (XP i) j (DF j (IU a) (DD (Cn a) (Im a j)))))) ((λ(f:IJ->Prop)=>∀(x:IJ),f x) (λi=>NJ (VV (BU (TI i) (XP i)) (JF (XP i) (IU a)) (AK (λj=>Kf j (TI i) (Im a j) (Cn a))) (λj=>PX (XP i) j (DF j (IU a) (DD (Cn a) (Im a j))))) (UI (TI i) (XP i)) Qe (KJ (AJW (AJM AKA (AQ (TI i)) (AQ (XP i))) 1) (IU a)) (CS (GD (Im a (EU (nD (TI i) (XP i)))) (Cn a)) (BDT (λj=>LL (BJ (mJ a) (nP a) (Za a) (QV (IU a)) (EA (TI j) (nD (TI i) (XP i))) (CB (XP j) (XP i))) (VV (BU (TI j) (XP j)) (JF (XP j) (IU a)) (AK (λk=>Kf k (TI j) (Im a k) (Cn a))) (λk=>PX (XP j) k (DF k (IU a) (DD (Cn a) (Im a k))))) (XP j) (TI j) (XP i) (TI i))) (BDT (λj=>LL (BJ (mJ a) (nP a) (Za a) (QV (IU a)) (CB (TI j) (TI i)) (CQ (XP j) (nD (TI i) (XP i)))) (VV (BU (TI j) (XP j)) (JF (XP j) (IU a)) (AK (λk=>Kf k (TI j) (Im a k) (Cn a))) (λk=>PX (XP j) k (DF k (IU a) (DD (Cn a) (Im a k))))) (XP j) (TI j) (XP i) (TI i)))) (DE (EX (Yi (TI i) (IU a)) (IN (TI i) (IU a))) (EX (and (Yi (TI i) (IU a)) (not (OL (Im a (TI i)) (Cn a)))) (IN (TI i) (IU a))) (CB (ltC (IU a) (Cn a)) (TI i)) (WZ (BBS (IU a) (Cn a)) (Yi (TI i) (IU a)) (MS (OL (Im a (TI i)) (Cn a)) (ARD XL XL))))))):=by kernel_rfl
theorem u64w{n:Int}(h0:0<=n)(h1:n<18446744073709551616):IntKind.u64.wrap n=n:=by
 simp only[IntKind.wrap,IntKind.bits,IntKind.signed]
 have:n % (2 ^ 64:Int)=n:=Int.emod_eq_of_lt h0 (by omega)
 simp only[this]
 simp
theorem half{i j:Nat}(h:i+j<9223372036854775807):IntKind.i64.wrap (IntKind.u64.wrap (IntKind.i64.wrap ((i:Int)+j)) / 2 ^ Int.toNat 1)=(((i+j) / 2:Nat):Int):=by
 rw[JH (n:=(i:Int)+j) (by omega) (by omega),u64w (by omega) (by omega)]
 show IntKind.i64.wrap (((i:Int)+j) / 2)=_
 rw[JH (by omega) (by omega)];omega
theorem iK{p:Int->Bool}{l:List Int}{i:Nat}(hi:i<=l.length)(h1:∀k,k<i->p (gD l k)=true)(h2:∀k,i<=k->k<l.length->p (gD l k)=false):l.countP p=i:=by
 conv=>lhs;rw[<-List.take_append_drop i l]
 rw[List.countP_append]
 have e1:(l.take i).countP p=i:=by
  rw[List.countP_eq_length.2]
  ·simp;omega
  ·intro x hx
   obtain⟨k,hk,rfl⟩:=List.getElem_of_mem hx
   have hk':k<i:=by simp at hk;omega
   have:=h1 k hk'
   simpa[gD,List.getD_eq_getElem?_getD,show k<l.length by omega] using this
 have e2:(l.drop i).countP p=0:=by
  rw[List.countP_eq_zero]
  intro x hx
  obtain⟨k,hk,rfl⟩:=List.getElem_of_mem hx
  have hk':i+k<l.length:=by simp at hk;omega
  have:=h2 (i+k) (by omega) hk'
  simp[gD,List.getD_eq_getElem?_getD,hk'] at this
  simp[this]
 omega
theorem Qf{l:List Int}(h:asc l){i j:Nat}(hij:i<j)(hj:j<l.length):gD l i<gD l j:=by
 have:=List.pairwise_iff_getElem.1 h i j (by omega) hj hij
 simpa[gD,List.getD_eq_getElem?_getD,hj,show i<l.length by omega] using this
theorem CPH{l:List Int}{x:Int}{i:Nat}(h:asc l)(hi:i<=l.length)(h1:∀k,k<i->gD l k<x)(h2:∀k,i<=k->k<l.length->x<=gD l k):decide (x∈l)=(decide ((i:Int)<l.length)&&gD l i==x):=by
 rw[Bool.eq_iff_iff]
 simp only[decide_eq_true_eq,Bool.and_eq_true,beq_iff_eq]
 constructor
 ·intro hx
  obtain⟨k,hk,rfl⟩:=NL hx
  have hik:i<=k:=by
   rcases Nat.lt_or_ge k i with h3 | h3
   ·have:=h1 k h3;omega
   ·exact h3
  refine⟨by omega,?_⟩
  rcases Nat.lt_or_ge i k with h3 | h3
  ·have:=Qf h h3 hk
   have:=h2 i (Nat.le_refl _) (by omega)
   omega
  ·rw[show i=k by omega]
 ·rintro⟨h3,rfl⟩
  exact CV (by omega)
theorem CHQ:AJ Try.prog BJP (C_bins.spec dIX):=VD C_bins BUD [] [] CEO (λ_=>by kernel_rfl) (λ_=>AC BVV (AC CFE AE)) (λ(a:IX) h=>by
 show CAW a;rw[CDP]<;> delta JT qD XL GD JG CS AO AR CG AK BV BZ CM AQ BU DD ES LX EF OL BDT IU Cn TI XP AKA AQO EU BBS AG DG AF AT FF AM BL ARD DF DU BC CQ AN BE ED BW AJM EL HI CX JD AJW EK CU EA EX FU DV PG CB BJ FC FD LN PX LL KJ MS JF BD HP DE QV VV IN Yi nD NJ Im UI WZ Qe Kf Za nP mJ;simp only[CC,eq_self,implies_true,forall_const]
 obtain⟨hl,ha⟩:a.l.length<4611686018427387904/\asc a.l:=h
 refine⟨⟨⟨0,a.l.length⟩,⟨rfl,rfl⟩,Nat.zero_le _,Nat.le_refl _,λk hk=>absurd hk (Nat.not_lt_zero k),λk h1 h2=>absurd h2 (by have h1:a.l.length<=k:=h1;omega)⟩,λs ⟨h1,h2,h3,h4⟩=>⟨λhlt=>?_,λhge=>?_⟩⟩
 ·have hlt:s.i<s.j:=by omega
  have hh:=half (i:=s.i) (j:=s.j) (by omega)
  obtain⟨m,hm⟩:∃m,m=(s.i+s.j) / 2:=⟨_,rfl⟩
  have hh':IntKind.i64.wrap (IntKind.u64.wrap (IntKind.i64.wrap ((s.i:Int)+s.j)) / 2 ^ 1)=(m:Int):=by rw[hm];exact hh
  rw[<-hm] at hh
  rw[hh,hh']
  have hm1:s.i<=m:=by omega
  have hm2:m<s.j:=by omega
  refine⟨by omega,⟨by omega,by omega⟩,λhx=>⟨⟨m+1,s.j⟩,⟨(CN (by omega)).symm,rfl⟩,⟨by show m+1<=s.j;omega,h2,λk hk=>?_,h4⟩,by show s.j-(m+1)<s.j-s.i;omega⟩,λhx=>⟨⟨s.i,m⟩,⟨rfl,rfl⟩,⟨hm1,by show m<=_;omega,h3,λk h5 h6=>?_⟩,by show m-s.i<s.j-s.i;omega⟩⟩
  ·have hk:k<m+1:=hk
   simp only[Int.toNat_natCast] at hx
   rcases Nat.lt_or_ge k m with h7 | h7
   ·have:=Qf ha h7 (by omega);omega
   ·rw[show k=m by omega];exact hx
  ·have h5:m<=k:=h5
   simp only[Int.toNat_natCast] at hx
   rcases Nat.lt_or_ge m k with h7 | h7
   ·have:=Qf ha h7 h6;omega
   ·rw[show k=m by omega];omega
 ·have he:s.i=s.j:=by omega
  have h4:∀k,s.i<=k->k<a.l.length->a.x<=gD a.l k:=by rw[he];exact h4
  refine⟨⟨λh5=>by omega,λh5=>by simp at h5;omega⟩,?_,?_⟩
  ·have:=iK (p:=λb=>decide (b<a.x)) (l:=a.l) (i:=s.i) (by omega) (λk hk=>by simpa using h3 k hk) (λk h5 h6=>by have:=h4 k h5 h6;simp;omega)
   unfold ltC;omega
  ·rw[CPH ha (by omega) h3 h4]
   cases decide ((s.i:Int)<a.l.length)<;>cases (gD a.l s.i==a.x)<;>rfl) (λ_=>WK rfl rfl) _
theorem CCS{l:List Int}{x:Int}(h:asc l):(Et l x:Int)=if x∈l then (ltC l x:Int)+1 else ltC l x:=by
 unfold Et ltC
 induction l with
 |nil=>simp
 |cons b r ih=>
  obtain⟨h1,h2⟩:=List.pairwise_cons.1 h
  have ih:=ih h2
  by_cases hb:b=x
  ·subst hb
   have:b∉r:=λhm=>absurd (h1 b hm) (by omega)
   simp only[this,if_false] at ih
   simp;omega
  ·by_cases hm:x∈r
   ·have h3:=h1 x hm
    simp only[hm,if_true] at ih
    simp[hm,h3,show b<=x by omega]
    omega
   ·simp only[hm,if_false] at ih
    have hne:x≠b:=λh=>hb h.symm
    simp only[List.mem_cons,hne,hm,or_self,if_false,List.countP_cons]
    by_cases h3:b<x
    ·simp[h3,show b<=x by omega];omega
    ·simp[h3,show ¬ b<=x by omega];omega
def C_part:Ctr:={ C_bins with val:=λ(a:IX)=>.int (Et a.l a.x) }
def BVH:Ann:=ann 17 [(BJP,C_bins.spec dIX)]
def BZS(a:IX):Prop:=BQ Try.prog BVH BHE (AI BHE) (xIX a) (AD []) (C_part.val a) [] [] []
abbrev Lj:=@List.Pairwise Int
abbrev UN a b c d:=And a (CS b c d)
abbrev Ul a b:=Et a (Cn b)
attribute [go_sem] Lj UN Ul
theorem CIP(a:IX):(BZS a)=(UN (NY (IA (IU a)) (FA (IU a)) (Za a) (CT (IU a)) (Lj ES (CT (IU a)))) (BBS (CT (IU a)) (Cn a)) (BS (Ul (IU a) a) (ltC (CT (IU a)) (Cn a))) (CB (Ul (IU a) a) (ltC (CT (IU a)) (Cn a)))):=by kernel_rfl
theorem AZJ:AJ Try.prog AVK (C_part.spec dIX):=Ctr.spec_ok (C:=C_part) (λ(a:IX) h=>Mn (A:=BVH) (L:=[]) (keep:=[]) (ren:=[]) (fz:=[]) CFY (by kernel_rfl) (AC CHQ AE) (by
 show BZS a;rw[CIP]<;> delta CS AO AR CG AK BV BZ CM AQ ES LX NK IU Cn BBS Lj AG JO IE DG AF AT FF AM CT DF DU CQ IC GI AY GC HG EA GH IH CB BM Ac IA BS JS ZX FA LP NY UN Ul Za;simp only[CC,eq_self,implies_true,forall_const]
 have h:a.l.length<4611686018427387904/\asc a.l:=h
 refine⟨h,λhm=>?_,λhm=>?_⟩
 ·rw[CCS h.2,if_pos hm,JH (by omega) (by have:ltC a.l a.x<=a.l.length:=List.countP_le_length;omega)]
 ·rw[CCS h.2,if_neg hm])) _
end Go.Bal
