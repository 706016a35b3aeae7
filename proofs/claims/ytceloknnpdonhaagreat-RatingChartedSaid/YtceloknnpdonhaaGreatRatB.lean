/- Package rating: what is allowed; parts; ends. -/
import Derived.Test.YtceloknnpdonhaaGreatRatE
set_option linter.unusedVariables false
set_option linter.unusedSimpArgs false
namespace Go.Bal
open Go Go.Sym Go.Proofs
def GN(l:List Gau):Int:=bif !Sx l.length 1 24 then 3 else bif !l.all riG then 50 else 0
def xY:List AVal->Heap->Option (List Gau×List (Nat×Nat)×List Nat)
 |[y],H=>match BLF y H with
  |some (l,f)=>some (l,[],f)
  |none=>none
 |_,_=>none
def C_Check:Ctr:={ α:=List Gau,xs:=λl=>[.d (KZ l)],L:=λ_=>[],val:=λl=>.int (GN l),keep:=λ_=>[],pre:=λl=>[l.length<4611686018427387904/\True] }
def CPH:Ann:=ann 12 [(n_in,s_in),(n_eG,C4Gr.spec d4Gr)]
def CQE(l:List Gau):Prop:=BG Try.prog CPH BXY (AL BXY) (C_Check.xs l) (AF []) (C_Check.val l) [] [] []
abbrev Mi:=GN
abbrev uH a:=BE (Mi a)
attribute [go_sem] Mi uH
theorem CZN(l:List Gau):(CQE l)=(DV (not (Sx (HV l) 1 24)) (AO (Mi l) 3) (KM (ON (CY l) (DD l) (OE l)) (BMF (BU l) riG) (AO (Mi l) 50) (uH l))):=by kernel_rfl
theorem AGW:AM Try.prog ALW (C_Check.spec xY):=WY C_Check (λ_=>CPH) [] [] DAS (λ_=>by kernel_rfl) (λ_=>AB X3 (AB DTG AG)) (λ(l:List Gau) h=>by
 show CQE l;rw[CZN]<;> delta AR AK BO CI AO AU DV FI EY GW CW FX BMF Mi AH NX NY AZ BU DI DY DZ DN GQ ID HC HY AY CG HV BD GH BF GM BE CR AT DD CY OE KM VS ON uH;simp only[CC,eq_self,implies_true,forall_const]
 have h':l.length<4611686018427387904/\True:=h
 unfold GN
 cases Sx l.length 1 24<;>cases hr:l.all riG<;>simp[h'.1,hr]) (λ_=>YE rfl rfl) _
def brk:Int->List Int->Int
 |_,[]=>0
 |a,b :: r=>bif Sx b (wr (a+1)) 2000 then brk b r else 2
def Cb(l:List Int):Int:=if (l.length:Int)>24 then 3 else brk 0 l
def dIs1:List AVal->Heap->Option (List Int×List (Nat×Nat)×List Nat)
 |[y],H=>match W2 y H with
  |some (l,f)=>some (l,[],f)
  |none=>none
 |_,_=>none
def C_checkB:Ctr:={ α:=List Int,xs:=λl=>[.d (FE l)],L:=λ_=>[],val:=λl=>.int (Cb l),keep:=λ_=>[],pre:=λl=>[l.length<4611686018427387904/\True] }
def CDI(l:List Int):Ann:={ ann 22 [(n_in,s_in)] with loops:=λid=>if id=5 then some [{ α:=NI,dflt:=default,T:=λs=>⟨[(3,.int s.m),(9,.d (FE l)),(10,.int l.length),(11,.int s.k)],[]⟩,inv:=λs=>s.k<=l.length/\brk s.m (l.drop s.k)=brk 0 l,meas:=λs=>l.length-s.k }] else none }
def CHP(l:List Int):Prop:=BG Try.prog (CDI l) BQC (AL BQC) (C_checkB.xs l) (AF []) (C_checkB.val l) [] [] []
abbrev xQ:=Cb
attribute [go_sem] xQ
theorem CSX(l:List Int):(CHP l)=(DV (Pp (ER l) 24) (AO (xQ l) 3) (And (BPJ (λi=>AH (AJ (BE (jK i)) (GU l) (GI l) (RL l) (BS (Bw i))) (JU (Bw i) l) (AO (brk (jK i) (W0 (Bw i) l)) (brk 0 l)))) (CEW (λi=>NA (Bw i) (BN l) (AO (brk (jK i) (W0 (Bw i) l)) (brk 0 l)) (ER l) (KM (Nj (Bw i) l) (Sx (BJ l (Bw i)) (ED (jK i)) 2000) (AO (xQ l) 2) (BPJ (λj=>RN (AJ (AO (jK j) (BJ l (Bw i))) (GU l) (GI l) (RL l) (AV (Bw j) (Bw i))) (Bw j) (BN l) (AO (brk (jK j) (W0 (Bw j) l)) (brk 0 l)) (Bw i)))) (BE (xQ l)))))):=by kernel_rfl
theorem BGJ:AM Try.prog BCR (C_checkB.spec dIs1):=WY C_checkB CDI [] [] CTK (λ_=>by kernel_rfl) (λ_=>AB X3 AG) (λ(l:List Int) h=>by
 show CHP l;rw[CSX]<;> delta NE AR AK BO CI AO AU EA DV JD DJ DX OP IS Pp BN BJ W0 BPJ jK Bw CEW xQ AH AJ AZ EV AI BI DK ED BC EZ ER EU GY GU GV Gk CK CE Mm MW EC AV BF ES FF MC BE JO GI CX NT BS HR JU RL KM Bc NA Fe RN Nj;simp only[CC,eq_self,implies_true,forall_const]
 have h':l.length<4611686018427387904/\True:=h
 unfold Cb
 refine⟨λh1=>by rw[if_pos h1],λh1=>⟨⟨⟨0,0⟩,⟨rfl,rfl⟩,Nat.zero_le _,rfl⟩,λs hs=>⟨λhlt=>?_,λhge=>?_⟩⟩⟩
 ·have hlt:s.k<l.length:=by omega
  have hd:=CCR hlt
  refine⟨⟨by omega,by omega⟩,λhb=>?_,λhb=>⟨⟨s.k+1,gD l s.k⟩,⟨rfl,(FN (by omega)).symm⟩,⟨hlt,?_⟩,?_⟩⟩
  ·rw[if_neg h1,<-hs.2,hd];simp[brk,wr,hb]
  ·show brk (gD l s.k) _=_
   rw[<-hs.2,hd];simp[brk,wr,hb]
  ·show l.length-(s.k+1)<l.length-s.k;omega
 ·rw[if_neg h1,<-hs.2,List.drop_of_length_le (by omega)];rfl) (λ_=>YE rfl rfl) _
def RG(r:Rtg):Int:=bif Cb r.b != 0 then Cb r.b else bif (r.l.length:Int) != (r.b.length:Int)+1 then 2 else bif !r.l.all eM then 50 else 0
def dRt1:List AVal->Heap->Option (Rtg×List (Nat×Nat)×List Nat)
 |[y],H=>match dRtg y H with
  |some (l,f)=>some (l,[],f)
  |none=>none
 |_,_=>none
def C_CheckR:Ctr:={ α:=Rtg,xs:=λr=>[.d (eRtg r)],L:=λ_=>[],val:=λr=>.int (RG r),keep:=λ_=>[],pre:=λr=>[r.b.length<4611686018427387904/\r.l.length<4611686018427387904] }
def CFC:Ann:=ann 25 [(BCR,C_checkB.spec dIs1),(n_eL,C4Lr.spec d4Lr)]
def CFD(r:Rtg):Prop:=BG Try.prog CFC BUK (AL BUK) (C_CheckR.xs r) (AF []) (C_CheckR.val r) [] [] []
abbrev Ly:=Rtg.b
abbrev ACP:=RG
abbrev Ph a:=JY (Rtg.l a)
abbrev iE a(b:Nat->Ln):=(@KA Ln) (Ph a) b
abbrev Cd a b:=NK (Rtg.l a) b
abbrev Xq a(b:Nat->Ln):=JY (iE a b)
abbrev Xh a(b:Nat->Ln) c:=NK (iE a b) c
abbrev oQ a:=DG (Ly a)
attribute [go_sem] Ly ACP Ph iE Cd Xq Xh oQ
theorem CSY(r:Rtg):(CFD r)=(RA (VS (AW (oQ r) (Ly r)) (AS (oQ r) (Ly r)) (HP (oQ r))) (xQ (oQ r)) (AO (ACP r) (xQ (oQ r))) (DV (Gi (AU (Ph r)) (ED (ER (Ly r)))) (AO (ACP r) 2) (KM (ON (AR (Xq r (λi=>Cd r i)) (Ph r)) (AK (λi=>JG i (Xq r (λj=>Cd r j)) (Xh r (λj=>Cd r j) i) (Cd r i))) (Xq r (λi=>Cd r i))) ((@List.all Ln) (iE r (λi=>Cd r i)) eM) (AO (ACP r) 50) (BE (ACP r))))):=by kernel_rfl
theorem BXE:AM Try.prog BDV (C_CheckR.spec dRt1):=WY C_CheckR (λ_=>CFC) [] [] CSI (λ_=>by kernel_rfl) (λ_=>AB BGJ (AB DTQ AG)) (λ(r:Rtg) h=>by
 show CFD r;rw[CSY]<;> delta NE AR AK BO CI AO AU DV OP FI Gi BN BJ JN FC GF GD HB JY NK xQ Ly ACP AH LY LX AZ EV DG DK BZ ED EZ DN Cd JA ER ID HC AW HL AY Ph oQ IA JZ KC BD iE FG EN AS BF BE Xh HP Ha Xq PK Aq KM JG VS ON RA;simp only[CC,eq_self,implies_true,forall_const]
 have h':r.b.length<4611686018427387904/\r.l.length<4611686018427387904:=h
 have e:IntKind.i64.wrap ((r.b.length:Int)+1)=(r.b.length:Int)+1:=JC (by omega) (by omega)
 rw[e]
 unfold RG
 cases h1:(Cb r.b != 0)<;>cases h2:((r.l.length:Int) != (r.b.length:Int)+1)<;>cases hr:r.l.all eM<;>simp[h',h1,h2,hr]) (λ_=>YE rfl rfl) _
structure IX where
 l:List Int
 x:Int
structure IJ where
 i:Nat
 j:Nat
 deriving Inhabited
def ltC(l:List Int)(x:Int):Nat:=l.countP λb=>decide (b<x)
def Uo(l:List Int)(x:Int):Nat:=l.countP λb=>decide (b<=x)
def asc(l:List Int):Prop:=l.Pairwise (· < ·)
def dIX:List AVal->Heap->Option (IX×List (Nat×Nat)×List Nat)
 |[y,.d x],H=>match W2 y H with
  |some (l,f)=>some (⟨l,EO x⟩,[],f)
  |none=>none
 |_,_=>none
def xIX(a:IX):List AVal:=[.d (FE a.l),.int a.x]
def C_bins:Ctr:={ α:=IX,xs:=xIX,L:=λ_=>[],val:=λa=>.tup [.int (ltC a.l a.x),.bool (decide (a.x∈a.l))],keep:=λ_=>[],pre:=λa=>[a.l.length<4611686018427387904/\asc a.l] }
def CYQ(a:IX):Ann:={ ann 54 [(CBR,CNY),(CJW,ASW)] with loops:=λid=>if id=3 then some [{ α:=IJ,dflt:=default,T:=λs=>⟨[(0,.d (FE a.l)),(1,.int a.x),(6,.int a.l.length),(7,.int s.i),(8,.int s.j)],[]⟩,inv:=λs=>s.i<=s.j/\s.j<=a.l.length/\(∀k,k<s.i->gD a.l k<a.x)/\(∀k,s.j<=k->k<a.l.length->a.x<=gD a.l k),meas:=λs=>s.j-s.i }] else none }
def DEG(a:IX):Prop:=BG Try.prog (CYQ a) CMK (AL CMK) (xIX a) (AF []) (C_bins.val a) [] [] []
abbrev CFA:=@Exists IJ
abbrev PN:=IX.l
abbrev Gn:=IX.x
abbrev Gg:=IJ.i
abbrev Dg:=IJ.j
abbrev CFB:=λ(x0:List Int) (x1:Int)=>decide (x1∈x0)
abbrev iQ a b:=BJ (PN a) b
abbrev M3 a:=AU (Gg a)
abbrev ABR a b c:=GC (JD a b) c
abbrev Kn a b c:=BO (EA a b) c
abbrev Tb a b:=CE a (ER b)
abbrev RY a b c d(e:Nat->Prop):=AJ a b c d (AK e)
attribute [go_sem] CFA PN Gn Gg Dg CFB iQ M3 ABR Kn Tb RY
theorem DGG(a:IX):(DEG a)=(And (CFA (λi=>RY (BB (GU (PN a)) (GI (PN a)) (AI (Gn a)) (RL (PN a)) (BS (Gg i)) (GV (Dg i) (ER (PN a)))) (EA (Gg i) (Dg i)) (JU (Dg i) (PN a)) (AK (λj=>AZ j (Gg i) (DX (iQ a j) (Gn a)))) (λj=>Kn (Dg i) j (EZ j (PN a) (DJ (Gn a) (iQ a j)))))) ((λ(f:IJ->Prop)=>∀(x:IJ),f x) (λi=>CX (Vp (EA (Gg i) (Dg i)) (JU (Dg i) (PN a)) (AK (λj=>AZ j (Gg i) (DX (iQ a j) (Gn a)))) (λj=>Kn (Dg i) j (EZ j (PN a) (DJ (Gn a) (iQ a j))))) (Gg i) (AU (Dg i)) (PC (Sf 1 (AU 64)) (Tb (EV (BRF (bX (DK (M3 i) (AU (Dg i)))) 1)) (PN a)) (JD (Wb (PN a) (EV (AYN (bX (DK (M3 i) (AU (Dg i)))) 1))) (Gn a)) (CFA (λj=>NT (BB (GU (PN a)) (GI (PN a)) (AI (Gn a)) (RL (PN a)) (GV (Gg j) (ED (EV (AYN (bX (DK (M3 i) (AU (Dg i)))) 1)))) (CN (Dg j) (Dg i))) (Vp (EA (Gg j) (Dg j)) (JU (Dg j) (PN a)) (AK (λk=>AZ k (Gg j) (DX (iQ a k) (Gn a)))) (λk=>Kn (Dg j) k (EZ k (PN a) (DJ (Gn a) (iQ a k))))) (Dg j) (Gg j) (Dg i) (Gg i))) (CFA (λj=>NT (BB (GU (PN a)) (GI (PN a)) (AI (Gn a)) (RL (PN a)) (CN (Gg j) (Gg i)) (GV (Dg j) (EV (AYN (bX (DK (M3 i) (AU (Dg i)))) 1)))) (Vp (EA (Gg j) (Dg j)) (JU (Dg j) (PN a)) (AK (λk=>AZ k (Gg j) (DX (iQ a k) (Gn a)))) (λk=>Kn (Dg j) k (EZ k (PN a) (DJ (Gn a) (iQ a k))))) (Dg j) (Gg j) (Dg i) (Gg i)))) (AH (And (ABR (M3 i) (ER (PN a)) (Nj (Gg i) (PN a))) (GC (and (JD (M3 i) (ER (PN a))) (not (Cu (iQ a (Gg i)) (Gn a)))) (Nj (Gg i) (PN a)))) (CN (ltC (PN a) (Gn a)) (Gg i)) (TU (CFB (PN a) (Gn a)) (JD (M3 i) (ER (PN a))) (OK (Cu (iQ a (Gg i)) (Gn a)) (HJ Oz Oz))))))):=by kernel_rfl
theorem u64w{n:Int}(h0:0<=n)(h1:n<18446744073709551616):IntKind.u64.wrap n=n:=by
 simp only[IntKind.wrap,IntKind.bits,IntKind.signed]
 have:n % (2 ^ 64:Int)=n:=Int.emod_eq_of_lt h0 (by omega)
 simp only[this]
 simp
theorem half{i j:Nat}(h:i+j<9223372036854775807):IntKind.i64.wrap (IntKind.u64.wrap (IntKind.i64.wrap ((i:Int)+j)) / 2 ^ Int.toNat 1)=(((i+j) / 2:Nat):Int):=by
 rw[JC (n:=(i:Int)+j) (by omega) (by omega),u64w (by omega) (by omega)]
 show IntKind.i64.wrap (((i:Int)+j) / 2)=_
 rw[JC (by omega) (by omega)];omega
theorem BOW{p:Int->Bool}{l:List Int}{i:Nat}(hi:i<=l.length)(h1:∀k,k<i->p (gD l k)=true)(h2:∀k,i<=k->k<l.length->p (gD l k)=false):l.countP p=i:=by
 conv=>lhs;rw[<-List.take_append_drop i l]
 rw[List.countP_append]
 have e1:(l.take i).countP p=i:=by
  rw[List.countP_eq_length.2]
  ·simp;omega
  ·intro x hx
   obtain⟨k,hk,rfl⟩:=List.getElem_of_mem hx
   have hk':k<i:=by simp at hk;omega
   have:=h1 k hk'
   simpa[gD,List.getD_eq_getElem?_getD,show k<l.length by omega] using this
 have e2:(l.drop i).countP p=0:=by
  rw[List.countP_eq_zero]
  intro x hx
  obtain⟨k,hk,rfl⟩:=List.getElem_of_mem hx
  have hk':i+k<l.length:=by simp at hk;omega
  have:=h2 (i+k) (by omega) hk'
  simp[gD,List.getD_eq_getElem?_getD,hk'] at this
  simp[this]
 omega
theorem Q0{l:List Int}(h:asc l){i j:Nat}(hij:i<j)(hj:j<l.length):gD l i<gD l j:=by
 have:=List.pairwise_iff_getElem.1 h i j (by omega) hj hij
 simpa[gD,List.getD_eq_getElem?_getD,hj,show i<l.length by omega] using this
theorem DTA{l:List Int}{x:Int}{i:Nat}(h:asc l)(hi:i<=l.length)(h1:∀k,k<i->gD l k<x)(h2:∀k,i<=k->k<l.length->x<=gD l k):decide (x∈l)=(decide ((i:Int)<l.length)&&gD l i==x):=by
 rw[Bool.eq_iff_iff]
 simp only[decide_eq_true_eq,Bool.and_eq_true,beq_iff_eq]
 constructor
 ·intro hx
  obtain⟨k,hk,rfl⟩:=aQ hx
  have hik:i<=k:=by
   rcases Nat.lt_or_ge k i with h3 | h3
   ·have:=h1 k h3;omega
   ·exact h3
  refine⟨by omega,?_⟩
  rcases Nat.lt_or_ge i k with h3 | h3
  ·have:=Q0 h h3 hk
   have:=h2 i (Nat.le_refl _) (by omega)
   omega
  ·rw[show i=k by omega]
 ·rintro⟨h3,rfl⟩
  exact HI (by omega)
theorem DJP:AM Try.prog CKJ (C_bins.spec dIX):=WY C_bins CYQ [] [] DKH (λ_=>by kernel_rfl) (λ_=>AB DDR (AB DHP AG)) (λ(a:IX) h=>by
 show DEG a;rw[DGG]<;> delta JB hd5 Oz NE AR AK BO CI AO AU EA DV JD DJ DX OP IS Cu QJ FZ BN BJ BVK CFA PN Gn Gg Dg CFB AH AJ AZ EV AI BI DK ED BC EZ ER EU GU AY GV Gk BB CK DR CE Mm EC ES GC FF Sf MC JO CN GI CX HJ NT Kn Wb BS RY JU RL OK Vp bX BRF PC AYN TU ABR iQ Tb Nj M3;simp only[CC,eq_self,implies_true,forall_const]
 obtain⟨hl,ha⟩:a.l.length<4611686018427387904/\asc a.l:=h
 refine⟨⟨⟨0,a.l.length⟩,⟨rfl,rfl⟩,Nat.zero_le _,Nat.le_refl _,λk hk=>absurd hk (Nat.not_lt_zero k),λk h1 h2=>absurd h2 (by have h1:a.l.length<=k:=h1;omega)⟩,λs ⟨h1,h2,h3,h4⟩=>⟨λhlt=>?_,λhge=>?_⟩⟩
 ·have hlt:s.i<s.j:=by omega
  have hh:=half (i:=s.i) (j:=s.j) (by omega)
  obtain⟨m,hm⟩:∃m,m=(s.i+s.j) / 2:=⟨_,rfl⟩
  have hh':IntKind.i64.wrap (IntKind.u64.wrap (IntKind.i64.wrap ((s.i:Int)+s.j)) / 2 ^ 1)=(m:Int):=by rw[hm];exact hh
  rw[<-hm] at hh
  rw[hh,hh']
  have hm1:s.i<=m:=by omega
  have hm2:m<s.j:=by omega
  refine⟨by omega,⟨by omega,by omega⟩,λhx=>⟨⟨m+1,s.j⟩,⟨(FN (by omega)).symm,rfl⟩,⟨by show m+1<=s.j;omega,h2,λk hk=>?_,h4⟩,by show s.j-(m+1)<s.j-s.i;omega⟩,λhx=>⟨⟨s.i,m⟩,⟨rfl,rfl⟩,⟨hm1,by show m<=_;omega,h3,λk h5 h6=>?_⟩,by show m-s.i<s.j-s.i;omega⟩⟩
  ·have hk:k<m+1:=hk
   simp only[Int.toNat_natCast] at hx
   rcases Nat.lt_or_ge k m with h7 | h7
   ·have:=Q0 ha h7 (by omega);omega
   ·rw[show k=m by omega];exact hx
  ·have h5:m<=k:=h5
   simp only[Int.toNat_natCast] at hx
   rcases Nat.lt_or_ge m k with h7 | h7
   ·have:=Q0 ha h7 h6;omega
   ·rw[show k=m by omega];omega
 ·have he:s.i=s.j:=by omega
  have h4:∀k,s.i<=k->k<a.l.length->a.x<=gD a.l k:=by rw[he];exact h4
  refine⟨⟨λh5=>by omega,λh5=>by simp at h5;omega⟩,?_,?_⟩
  ·have:=BOW (p:=λb=>decide (b<a.x)) (l:=a.l) (i:=s.i) (by omega) (λk hk=>by simpa using h3 k hk) (λk h5 h6=>by have:=h4 k h5 h6;simp;omega)
   unfold ltC;omega
  ·rw[DTA ha (by omega) h3 h4]
   cases decide ((s.i:Int)<a.l.length)<;>cases (gD a.l s.i==a.x)<;>rfl) (λ_=>YE rfl rfl) _
theorem DCW{l:List Int}{x:Int}(h:asc l):(Uo l x:Int)=if x∈l then (ltC l x:Int)+1 else ltC l x:=by
 unfold Uo ltC
 induction l with
 |nil=>simp
 |cons b r ih=>
  obtain⟨h1,h2⟩:=List.pairwise_cons.1 h
  have ih:=ih h2
  by_cases hb:b=x
  ·subst hb
   have:b∉r:=λhm=>absurd (h1 b hm) (by omega)
   simp only[this,if_false] at ih
   simp;omega
  ·by_cases hm:x∈r
   ·have h3:=h1 x hm
    simp only[hm,if_true] at ih
    simp[hm,h3,show b<=x by omega]
    omega
   ·simp only[hm,if_false] at ih
    have hne:x≠b:=λh=>hb h.symm
    simp only[List.mem_cons,hne,hm,or_self,if_false,List.countP_cons]
    by_cases h3:b<x
    ·simp[h3,show b<=x by omega];omega
    ·simp[h3,show ¬ b<=x by omega];omega
def C_part:Ctr:={ C_bins with val:=λ(a:IX)=>.int (Uo a.l a.x) }
def DFA:Ann:=ann 17 [(CKJ,C_bins.spec dIX)]
def CUW(a:IX):Prop:=BG Try.prog DFA CKL (AL CKL) (xIX a) (AF []) (C_part.val a) [] [] []
abbrev Dc:=@List.Pairwise Int
attribute [go_sem] Dc
theorem DGZ(a:IX):(CUW a)=(BF (AJ (OD (PN a)) (QC (PN a)) (AI (Gn a)) (Aw (PN a)) (Dc DX (DG (PN a)))) (CFB (DG (PN a)) (Gn a)) (AV (Uo (PN a) (Gn a)) (ltC (DG (PN a)) (Gn a))) (CN (Uo (PN a) (Gn a)) (ltC (DG (PN a)) (Gn a)))):=by kernel_rfl
theorem BBY:AM Try.prog BJD (C_part.spec dIX):=Ctr.spec_ok (C:=C_part) (λ(a:IX) h=>Mj (A:=DFA) (L:=[]) (keep:=[]) (ren:=[]) (fz:=[]) DGO (by kernel_rfl) (AB DJP AG) (by
 show CUW a;rw[DGZ]<;> delta NE AR AK BO CI AO AU DV DX OP BN BJ JN PN Gn CFB Dc AH LY LX AJ AZ EV AI DG DK ED EZ JA AW GY HL GV IA KC BD FG EN AV AS BF CN HP OD QC Aw;simp only[CC,eq_self,implies_true,forall_const]
 have h:a.l.length<4611686018427387904/\asc a.l:=h
 refine⟨h,λhm=>?_,λhm=>?_⟩
 ·rw[DCW h.2,if_pos hm,JC (by omega) (by have:ltC a.l a.x<=a.l.length:=List.countP_le_length;omega)]
 ·rw[DCW h.2,if_neg hm])) _
end Go.Bal
