/- Package rating: what is allowed; parts; ends. -/
import Derived.Test.YtbmlgdlbffmjjaaGreatRatE
import Derived.Test.YtbmlgdlbffmjjaaGreatGaV
set_option linter.unusedVariables false
set_option linter.unusedSimpArgs false
namespace Go.Bal
open Go Go.Sym Go.Proofs
def IH(l:List Gau):Int:=bif !MN l.length 1 24 then 3 else bif !l.all riG then 50 else 0
def A5:List AVal->Heap->Option (List Gau×List (Nat×Nat)×List Nat)
 |[y],H=>match AHL y H with
  |some (l,f)=>some (l,[],f)
  |none=>none
 |_,_=>none
def C_Check:Ctr:={ α:=List Gau,xs:=λl=>[.d (KB l)],L:=λ_=>[],val:=λl=>.int (IH l),keep:=λ_=>[],pre:=λl=>[l.length<4611686018427387904/\True] }
def BJH:Ann:=ann 12 [(n_in,Fh),(n_eG,C4Gr.spec d4Gr)]
def BJW(l:List Gau):Prop:=AX Try.prog BJH AOY (AF AOY) (C_Check.xs l) (AC []) (C_Check.val l) [] [] []
abbrev tA:=IH
abbrev lR a:=CP (tA a)
attribute [go_sem] tA lR
theorem BRH(l:List Gau):(BJW l)=(FA (not (MN (QA l) 1 24)) (AK (tA l) 3) (GV (SE l (UQ l)) (not (L9 (BB l) riG)) (AK (tA l) 50) (lR l))):=by kernel_rfl
theorem H8:AH Try.prog J9 (C_Check.spec A5):=PU C_Check (λ_=>BJH) [] [] BQN (λ_=>by kernel_rfl) (λ_=>AA J6 (AA CRT AD)) (λ(l:List Gau) h=>by
 show BJW l;rw[BRH]<;> delta KA LX JZ FA AK AN AE BA BM BH FW BP GU L9 tA AG AO QG BB DW HB DF JG DK AQ JH JK KD CI OT DZ KH EH BU OC CN CV OP QA CP GV PZ UQ SE lR;simp only[CC,CU]
 have h':l.length<4611686018427387904/\True:=h
 unfold IH
 cases MN l.length 1 24<;>cases hr:l.all riG<;>simp[h'.1,hr]) (λ_=>RR rfl rfl) _
def brk:Int->List Int->Int
 |_,[]=>0
 |a,b :: r=>bif MN b (wr (a+1)) 2000 then brk b r else 2
def Aw(l:List Int):Int:=if (l.length:Int)>24 then 3 else brk 0 l
def dIs1:List AVal->Heap->Option (List Int×List (Nat×Nat)×List Nat)
 |[y],H=>match F6 y H with
  |some (l,f)=>some (l,[],f)
  |none=>none
 |_,_=>none
def C_checkB:Ctr:={ α:=List Int,xs:=λl=>[.d (II l)],L:=λ_=>[],val:=λl=>.int (Aw l),keep:=λ_=>[],pre:=λl=>[l.length<4611686018427387904/\True] }
def AWB(l:List Int):Ann:={ ann 22 [(n_in,Fh)] with loops:=λid=>if id=5 then some [{ α:=NI,dflt:=default,T:=λs=>⟨[(3,.int s.m),(9,.d (II l)),(10,.int l.length),(11,.int s.k)],[]⟩,inv:=λs=>s.k<=l.length/\brk s.m (l.drop s.k)=brk 0 l,meas:=λs=>l.length-s.k }] else none }
def AXO(l:List Int):Prop:=AX Try.prog (AWB l) AEL (AF AEL) (C_checkB.xs l) (AC []) (C_checkB.val l) [] [] []
abbrev lU:=Aw
abbrev AZO:=@List.drop Int
abbrev YP a:=BH (FI a)
attribute [go_sem] lU AZO YP
theorem BMJ(l:List Int):(AXO l)=(FA (Xi (YP l) 24) (AK (lU l) 3) (And (hd33 (λi=>FD (AI (CP (yA i)) (HT l) (EF l) (PH l) (BD (Ki i))) (Ki i) (FI l) (AK (brk (yA i) (AZO (Ki i) l)) (brk 0 l)))) (hd49 (λi=>UT (CJ (Ki i) (FI l) (AK (brk (yA i) (AZO (Ki i) l)) (brk 0 l))) (Ki i) (FI l) (BE (Ki i) (FI l)) (not (MN (IR l (Ki i)) (FP (yA i)) 2000)) (AK (lU l) 2) (hd33 (λj=>EY (AI (AK (yA j) (IR l (Ki i))) (HT l) (EF l) (PH l) (AU (Ki j) (Ki i))) (CJ (Ki j) (FI l) (AK (brk (yA j) (AZO (Ki j) l)) (brk 0 l))) (FI l) (Ki j) (Ki i))) (CP (lU l)))))):=by kernel_rfl
theorem Z0:AH Try.prog F1 (C_checkB.spec dIs1):=PU C_checkB AWB [] [] BKD (λ_=>by kernel_rfl) (λ_=>AA J6 AD) (λ(l:List Int) h=>by
 show AXO l;rw[BMJ]<;> delta NL FA AK Xi hd33 yA AN FI AE BA BM IR BH Ki CW hd49 DC ER NE TD KJ lU AZO CS AG AI AO AJ AR BF DN GH HA EI EA DG HT FP EV DT Mw JA AU EW OV BE EF IA CJ LB HK BD HE FD SG CP TF EY UT PH YP;simp only[CC,CU]
 have h':l.length<4611686018427387904/\True:=h
 unfold Aw
 refine⟨λh1=>by rw[if_pos h1],λh1=>⟨⟨⟨0,0⟩,⟨rfl,rfl⟩,Nat.zero_le _,rfl⟩,λs hs=>⟨λhlt=>?_,λhge=>?_⟩⟩⟩
 ·have hlt:s.k<l.length:=by omega
  have hd:=CBH hlt
  refine⟨⟨by omega,by omega⟩,λhb=>?_,λhb=>⟨⟨s.k+1,gD l s.k⟩,⟨rfl,(GJ (by omega)).symm⟩,⟨hlt,?_⟩,?_⟩⟩
  ·rw[if_neg h1,<-hs.2,hd];simp[brk,wr,hb]
  ·show brk (gD l s.k) _=_
   rw[<-hs.2,hd];simp[brk,wr,hb]
  ·show l.length-(s.k+1)<l.length-s.k;omega
 ·rw[if_neg h1,<-hs.2,List.drop_of_length_le (by omega)];rfl) (λ_=>RR rfl rfl) _
def Hq(r:Rtg):Int:=bif Aw r.b != 0 then Aw r.b else bif (r.l.length:Int) != (r.b.length:Int)+1 then 2 else bif !r.l.all Zc then 50 else 0
def dRt1:List AVal->Heap->Option (Rtg×List (Nat×Nat)×List Nat)
 |[y],H=>match dRtg y H with
  |some (l,f)=>some (l,[],f)
  |none=>none
 |_,_=>none
def C_CheckR:Ctr:={ α:=Rtg,xs:=λr=>[.d (eRtg r)],L:=λ_=>[],val:=λr=>.int (Hq r),keep:=λ_=>[],pre:=λr=>[r.b.length<4611686018427387904/\r.l.length<4611686018427387904] }
def AVX:Ann:=ann 25 [(F1,C_checkB.spec dIs1),(n_eL,C4Lr.spec d4Lr)]
def AWN(r:Rtg):Prop:=AX Try.prog AVX AJM (AF AJM) (C_CheckR.xs r) (AC []) (C_CheckR.val r) [] [] []
abbrev mE:=Rtg.b
abbrev AAB:=Hq
abbrev cS:=Rtg.l
abbrev kO a:=iX (cS a)
attribute [go_sem] mE AAB cS kO
theorem BLE(r:Rtg):(AWN r)=(GV (PZ (HI (mE r)) (GQ (mE r)) (Gd (mE r))) (RJ (lU (EL (mE r)))) (AK (AAB r) (lU (EL (mE r)))) (FA (cN (BH (HR (cS r))) (FP (YP (mE r)))) (AK (AAB r) 2) (GV (PZ (AN (HR (kO r)) (HR (cS r))) (AE (λi=>FH i (HR (kO r)) (NR (kO r) i (cS r)) (EU (kO r) i) (EU (cS r) i) (EQ (kO r) i) (EQ (cS r) i) (ES (kO r) i) (ES (cS r) i))) (HP (HR (kO r)))) (not ((@List.all Ln) (kO r) Zc)) (AK (AAB r) 50) (CP (AAB r))))):=by kernel_rfl
theorem BMN:AH Try.prog AGA (C_CheckR.spec dRt1):=PU C_CheckR (λ_=>AVX) [] [] BMM (λ_=>by kernel_rfl) (λ_=>AA Z0 (AA CRV AD)) (λ(r:Rtg) h=>by
 show AWN r;rw[BLE]<;> delta LQ HV GZ JJ cN FA AK AN FI AE BA BM IR BH NE TD Ff FW HR LF lU mE AAB cS CS AG AO VY EL IF HB DN HA AQ ES JK KD ML EQ FP NQ EU UH GM FH RO HQ BK IY HZ oJ BR iX Em JO WI HI NR CP GV GQ HP RJ PZ YP Gd kO;simp only[CC,CU]
 have h':r.b.length<4611686018427387904/\r.l.length<4611686018427387904:=h
 have e:IntKind.i64.wrap ((r.b.length:Int)+1)=(r.b.length:Int)+1:=ZW (by omega) (by omega)
 rw[e]
 unfold Hq
 cases h1:(Aw r.b != 0)<;>cases h2:((r.l.length:Int) != (r.b.length:Int)+1)<;>cases hr:r.l.all Zc<;>simp[h',h1,h2,hr]) (λ_=>RR rfl rfl) _
structure IX where
 l:List Int
 x:Int
structure IJ where
 i:Nat
 j:Nat
 deriving Inhabited
def ltC(l:List Int)(x:Int):Nat:=l.countP λb=>decide (b<x)
def Vs(l:List Int)(x:Int):Nat:=l.countP λb=>decide (b<=x)
def asc(l:List Int):Prop:=l.Pairwise (· < ·)
def dIX:List AVal->Heap->Option (IX×List (Nat×Nat)×List Nat)
 |[y,.d x],H=>match F6 y H with
  |some (l,f)=>some (⟨l,LO x⟩,[],f)
  |none=>none
 |_,_=>none
def xIX(a:IX):List AVal:=[.d (II a.l),.int a.x]
def C_bins:Ctr:={ α:=IX,xs:=xIX,L:=λ_=>[],val:=λa=>.tup [.int (ltC a.l a.x),.bool (decide (a.x∈a.l))],keep:=λ_=>[],pre:=λa=>[a.l.length<4611686018427387904/\asc a.l] }
def BSM(a:IX):Ann:={ ann 54 [(AUK,BHX),(BAM,zB)] with loops:=λid=>if id=3 then some [{ α:=IJ,dflt:=default,T:=λs=>⟨[(0,.d (II a.l)),(1,.int a.x),(6,.int a.l.length),(7,.int s.i),(8,.int s.j)],[]⟩,inv:=λs=>s.i<=s.j/\s.j<=a.l.length/\(∀k,k<s.i->gD a.l k<a.x)/\(∀k,s.j<=k->k<a.l.length->a.x<=gD a.l k),meas:=λs=>s.j-s.i }] else none }
def BZN(a:IX):Prop:=AX Try.prog (BSM a) AZZ (AF AZZ) (xIX a) (AC []) (C_bins.val a) [] [] []
abbrev WB:=@Exists IJ
abbrev UG:=IX.l
abbrev Cy:=IX.x
abbrev DO:=IJ.i
abbrev BN:=IJ.j
abbrev fE:=λ(f:IJ->Prop)=>∀(x:IJ),f x
abbrev AOM:=@HDiv.hDiv Int Int Int (@instHDiv Int Int.instDiv)
abbrev AOI:=IntKind.u64
abbrev AVV:=λ(x0:List Int) (x1:Int)=>decide (x1∈x0)
abbrev MQ a b c d e:=MI a (LB b c) d e
abbrev Zb a b:=IR (UG a) b
abbrev Ua a:=FI (UG a)
abbrev fS a b:=CW (BN a) b
abbrev rC a b:=BC (DO a) b
abbrev SJ a b:=rC a (DO b)
abbrev Zj a b:=IR a (MW b)
attribute [go_sem] WB UG Cy DO BN fE AOM AOI AVV MQ Zb Ua fS rC SJ Zj
theorem CEH(a:IX):(BZN a)=(And (WB (λi=>LR (AV (HT (UG a)) (EF (UG a)) (AJ (Cy a)) (PH (UG a)) (BD (DO i)) (BC (BN i) (Ua a))) (CW (DO i) (BN i)) (fS i (Ua a)) (AE (λj=>AO j (DO i) (ER (Zb a j) (Cy a)))) (λj=>TP (BN i) j (HA j (UG a) (DC (Cy a) (Zb a j)))))) (fE (λi=>MQ (RY (CW (DO i) (BN i)) (fS i (Ua a)) (λj=>AO j (DO i) (ER (Zb a j) (Cy a))) (AE (λj=>TP (BN i) j (HA j (UG a) (DC (Cy a) (Zb a j)))))) (DO i) (BN i) (AG (EA 1 (Dt (BH 64))) (DT (CS (AOM (NE AOI (DN (BH (DO i)) (BH (BN i)))) (tX 2 1))) (Ua a)) (FA (NL (Zj (UG a) (CS (AOM (NE AOI (DN (BH (DO i)) (BH (BN i)))) (tX 2 (MW 1))))) (Cy a)) (WB (λj=>TF (AV (HT (UG a)) (EF (UG a)) (AJ (Cy a)) (PH (UG a)) (JA (DO j) (CS (AOM (NE AOI (DN (BH (DO i)) (BH (BN i)))) (tX 2 (MW 1))))) (BC (BN j) (BN i))) (RY (CW (DO j) (BN j)) (fS j (Ua a)) (λk=>AO k (DO j) (ER (Zb a k) (Cy a))) (AE (λk=>TP (BN j) k (HA k (UG a) (DC (Cy a) (Zb a k)))))) (BN j) (DO j) (BN i) (DO i))) (WB (λj=>TF (AV (HT (UG a)) (EF (UG a)) (AJ (Cy a)) (PH (UG a)) (SJ j i) (GH (BN j) (CS (AOM (NE AOI (DN (BH (DO i)) (BH (BN i)))) (tX 2 (MW 1)))))) (RY (CW (DO j) (BN j)) (fS j (Ua a)) (λk=>AO k (DO j) (ER (Zb a k) (Cy a))) (AE (λk=>TP (BN j) k (HA k (UG a) (DC (Cy a) (Zb a k)))))) (BN j) (DO j) (BN i) (DO i))))) (AG (And (FV (LB (DO i) (Ua a)) (BE (DO i) (Ua a))) (FV (and (LB (DO i) (Ua a)) (not (ZJ (Zb a (DO i)) (Cy a)))) (BE (DO i) (Ua a)))) (BC (ltC (UG a) (Cy a)) (DO i)) (HX (AVV (UG a) (Cy a)) (LB (DO i) (Ua a)) (PD (ZJ (Zb a (DO i)) (Cy a)) (yJ UD UD))))))):=by kernel_rfl
theorem u64w{n:Int}(h0:0<=n)(h1:n<18446744073709551616):IntKind.u64.wrap n=n:=by
 simp only[IntKind.wrap,IntKind.bits,IntKind.signed]
 have:n % (2 ^ 64:Int)=n:=Int.emod_eq_of_lt h0 (by omega)
 simp only[this]
 simp
theorem half{i j:Nat}(h:i+j<9223372036854775807):IntKind.i64.wrap (IntKind.u64.wrap (IntKind.i64.wrap ((i:Int)+j)) / 2 ^ Int.toNat 1)=(((i+j) / 2:Nat):Int):=by
 rw[ZW (n:=(i:Int)+j) (by omega) (by omega),u64w (by omega) (by omega)]
 show IntKind.i64.wrap (((i:Int)+j) / 2)=_
 rw[ZW (by omega) (by omega)];omega
theorem M8{p:Int->Bool}{l:List Int}{i:Nat}(hi:i<=l.length)(h1:∀k,k<i->p (gD l k)=true)(h2:∀k,i<=k->k<l.length->p (gD l k)=false):l.countP p=i:=by
 conv=>lhs;rw[<-List.take_append_drop i l]
 rw[List.countP_append]
 have e1:(l.take i).countP p=i:=by
  rw[List.countP_eq_length.2]
  ·simp;omega
  ·intro x hx
   obtain⟨k,hk,rfl⟩:=List.getElem_of_mem hx
   have hk':k<i:=by simp at hk;omega
   have:=h1 k hk'
   simpa[gD,List.getD_eq_getElem?_getD,show k<l.length by omega] using this
 have e2:(l.drop i).countP p=0:=by
  rw[List.countP_eq_zero]
  intro x hx
  obtain⟨k,hk,rfl⟩:=List.getElem_of_mem hx
  have hk':i+k<l.length:=by simp at hk;omega
  have:=h2 (i+k) (by omega) hk'
  simp[gD,List.getD_eq_getElem?_getD,hk'] at this
  simp[this]
 omega
theorem qC{l:List Int}(h:asc l){i j:Nat}(hij:i<j)(hj:j<l.length):gD l i<gD l j:=by
 have:=List.pairwise_iff_getElem.1 h i j (by omega) hj hij
 simpa[gD,List.getD_eq_getElem?_getD,hj,show i<l.length by omega] using this
theorem COR{l:List Int}{x:Int}{i:Nat}(h:asc l)(hi:i<=l.length)(h1:∀k,k<i->gD l k<x)(h2:∀k,i<=k->k<l.length->x<=gD l k):decide (x∈l)=(decide ((i:Int)<l.length)&&gD l i==x):=by
 rw[Bool.eq_iff_iff]
 simp only[decide_eq_true_eq,Bool.and_eq_true,beq_iff_eq]
 constructor
 ·intro hx
  obtain⟨k,hk,rfl⟩:=pK hx
  have hik:i<=k:=by
   rcases Nat.lt_or_ge k i with h3 | h3
   ·have:=h1 k h3;omega
   ·exact h3
  refine⟨by omega,?_⟩
  rcases Nat.lt_or_ge i k with h3 | h3
  ·have:=qC h h3 hk
   have:=h2 i (Nat.le_refl _) (by omega)
   omega
  ·rw[show i=k by omega]
 ·rintro⟨h3,rfl⟩
  exact MH (by omega)
theorem CDI:AH Try.prog BDJ (C_bins.spec dIX):=PU C_bins BSM [] [] CCW (λ_=>by kernel_rfl) (λ_=>AA BRB (AA CEW AD)) (λ(a:IX) h=>by
 show BZN a;rw[CEH]<;> delta LI Wo UD NL HU FA AK AN FI AE BA BM IR BH CW DC ER NE TD KJ ZJ MW tX WB UG Cy DO BN fE AOM AOI AVV CS AG AI AO AJ AR yJ BF DN GH HA AQ EI EA DG HT FP EV GI BC AV DT Mw JA FV TP OV BE EF IA BZ LB PD BD MI SG LR TF HX rC SJ PH MQ Zj RY Ua Zb Dt fS;simp only[CC,CU]
 obtain⟨hl,ha⟩:a.l.length<4611686018427387904/\asc a.l:=h
 refine⟨⟨⟨0,a.l.length⟩,⟨rfl,rfl⟩,Nat.zero_le _,Nat.le_refl _,λk hk=>absurd hk (Nat.not_lt_zero k),λk h1 h2=>absurd h2 (by have h1:a.l.length<=k:=h1;omega)⟩,λs ⟨h1,h2,h3,h4⟩=>⟨λhlt=>?_,λhge=>?_⟩⟩
 ·have hlt:s.i<s.j:=by omega
  have hh:=half (i:=s.i) (j:=s.j) (by omega)
  obtain⟨m,hm⟩:∃m,m=(s.i+s.j) / 2:=⟨_,rfl⟩
  have hh':IntKind.i64.wrap (IntKind.u64.wrap (IntKind.i64.wrap ((s.i:Int)+s.j)) / 2 ^ 1)=(m:Int):=by rw[hm];exact hh
  rw[<-hm] at hh
  rw[hh,hh']
  have hm1:s.i<=m:=by omega
  have hm2:m<s.j:=by omega
  refine⟨by omega,⟨by omega,by omega⟩,λhx=>⟨⟨m+1,s.j⟩,⟨(GJ (by omega)).symm,rfl⟩,⟨by show m+1<=s.j;omega,h2,λk hk=>?_,h4⟩,by show s.j-(m+1)<s.j-s.i;omega⟩,λhx=>⟨⟨s.i,m⟩,⟨rfl,rfl⟩,⟨hm1,by show m<=_;omega,h3,λk h5 h6=>?_⟩,by show m-s.i<s.j-s.i;omega⟩⟩
  ·have hk:k<m+1:=hk
   simp only[Int.toNat_natCast] at hx
   rcases Nat.lt_or_ge k m with h7 | h7
   ·have:=qC ha h7 (by omega);omega
   ·rw[show k=m by omega];exact hx
  ·have h5:m<=k:=h5
   simp only[Int.toNat_natCast] at hx
   rcases Nat.lt_or_ge m k with h7 | h7
   ·have:=qC ha h7 h6;omega
   ·rw[show k=m by omega];omega
 ·have he:s.i=s.j:=by omega
  have h4:∀k,s.i<=k->k<a.l.length->a.x<=gD a.l k:=by rw[he];exact h4
  refine⟨⟨λh5=>by omega,λh5=>by simp at h5;omega⟩,?_,?_⟩
  ·have:=M8 (p:=λb=>decide (b<a.x)) (l:=a.l) (i:=s.i) (by omega) (λk hk=>by simpa using h3 k hk) (λk h5 h6=>by have:=h4 k h5 h6;simp;omega)
   unfold ltC;omega
  ·rw[COR ha (by omega) h3 h4]
   cases decide ((s.i:Int)<a.l.length)<;>cases (gD a.l s.i==a.x)<;>rfl) (λ_=>RR rfl rfl) _
theorem BUP{l:List Int}{x:Int}(h:asc l):(Vs l x:Int)=if x∈l then (ltC l x:Int)+1 else ltC l x:=by
 unfold Vs ltC
 induction l with
 |nil=>simp
 |cons b r ih=>
  obtain⟨h1,h2⟩:=List.pairwise_cons.1 h
  have ih:=ih h2
  by_cases hb:b=x
  ·subst hb
   have:b∉r:=λhm=>absurd (h1 b hm) (by omega)
   simp only[this,if_false] at ih
   simp;omega
  ·by_cases hm:x∈r
   ·have h3:=h1 x hm
    simp only[hm,if_true] at ih
    simp[hm,h3,show b<=x by omega]
    omega
   ·simp only[hm,if_false] at ih
    have hne:x≠b:=λh=>hb h.symm
    simp only[List.mem_cons,hne,hm,or_self,if_false,List.countP_cons]
    by_cases h3:b<x
    ·simp[h3,show b<=x by omega];omega
    ·simp[h3,show ¬ b<=x by omega];omega
def C_part:Ctr:={ C_bins with val:=λ(a:IX)=>.int (Vs a.l a.x) }
def BYP:Ann:=ann 17 [(BDJ,C_bins.spec dIX)]
def BTQ(a:IX):Prop:=AX Try.prog BYP BBV (AF BBV) (xIX a) (AC []) (C_part.val a) [] [] []
abbrev Gm:=@List.Pairwise Int
attribute [go_sem] Gm
theorem CEJ(a:IX):(BTQ a)=(GV (AI (HI (UG a)) (GQ (UG a)) (AJ (Cy a)) (Gd (UG a)) (Gm ER (EL (UG a)))) (AVV (EL (UG a)) (Cy a)) (AU (Vs (UG a) (Cy a)) (ltC (EL (UG a)) (Cy a))) (BC (Vs (UG a) (Cy a)) (ltC (EL (UG a)) (Cy a)))):=by kernel_rfl
theorem ADF:AH Try.prog AHU (C_part.spec dIX):=Ctr.spec_ok (C:=C_part) (λ(a:IX) h=>Ee (A:=BYP) (L:=[]) (keep:=[]) (ren:=[]) (fz:=[]) CEA (by kernel_rfl) (AA CDI AD) (by
 show BTQ a;rw[CEJ]<;> delta FA AK AN FI AE BA BM IR BH ER NE TD Ff UG Cy AVV Gm CS AG AI AO AJ VY EL DN GH HA ML FP NQ BC GM RO JA BK AU IY HZ BR JO HI GV GQ HP Gd;simp only[CC,CU]
 have h:a.l.length<4611686018427387904/\asc a.l:=h
 refine⟨h,λhm=>?_,λhm=>?_⟩
 ·rw[BUP h.2,if_pos hm,ZW (by omega) (by have:ltC a.l a.x<=a.l.length:=List.countP_le_length;omega)]
 ·rw[BUP h.2,if_neg hm])) _
end Go.Bal
