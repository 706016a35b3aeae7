/- Package rating: what is allowed; parts; ends. -/
import Derived.Test.YtbmlgdlbffmjjaaGreatRatE
import Derived.Test.YtbmlgdlbffmjjaaGreatGaV
set_option linter.unusedVariables false
set_option linter.unusedSimpArgs false
namespace Go.Bal
open Go Go.Sym Go.Proofs
def IH(l:List Gau):Int:=bif !MN l.length 1 24 then 3 else bif !l.all riG then 50 else 0
def A2:List AVal->Heap->Option (List Gau×List (Nat×Nat)×List Nat)
 |[y],H=>match AKV y H with
  |some (l,f)=>some (l,[],f)
  |none=>none
 |_,_=>none
def C_Check:Ctr:={ α:=List Gau,xs:=λl=>[.d (KD l)],L:=λ_=>[],val:=λl=>.int (IH l),keep:=λ_=>[],pre:=λl=>[l.length<4611686018427387904/\True] }
def BFZ:Ann:=ann 12 [(n_in,Fg),(n_eG,C4Gr.spec d4Gr)]
def BFT(l:List Gau):Prop:=AX Try.prog BFZ ARJ (AF ARJ) (C_Check.xs l) (AC []) (C_Check.val l) [] [] []
abbrev wI:=IH
abbrev kR a:=CQ (wI a)
attribute [go_sem] wI kR
theorem BYF(l:List Gau):(BFT l)=(EZ (not (MN (QB l) 1 24)) (AK (wI l) 3) (GO (SS l (VM l)) (not (G5 (BB l) riG)) (AK (wI l) 50) (kR l))):=by kernel_rfl
theorem N0:AH Try.prog F2 (C_Check.spec A2):=PU C_Check (λ_=>BFZ) [] [] BTS (λ_=>by kernel_rfl) (λ_=>AA H3 (AA CRX AD)) (λ(l:List Gau) h=>by
 show BFT l;rw[BYF]<;> delta KA LV JY EZ AK AN AE BA BN BH FT BP GU G5 wI AG AO QM BB DY HC DI JH DO AQ JI JO KC CI OS DV KL EF BU ON CN CW OE QB CQ GO QL VM SS kR;simp only[CC,CU]
 have h':l.length<4611686018427387904/\True:=h
 unfold IH
 cases MN l.length 1 24<;>cases hr:l.all riG<;>simp[h'.1,hr]) (λ_=>RU rfl rfl) _
def brk:Int->List Int->Int
 |_,[]=>0
 |a,b :: r=>bif MN b (wr (a+1)) 2000 then brk b r else 2
def Ak(l:List Int):Int:=if (l.length:Int)>24 then 3 else brk 0 l
def dIs1:List AVal->Heap->Option (List Int×List (Nat×Nat)×List Nat)
 |[y],H=>match I7 y H with
  |some (l,f)=>some (l,[],f)
  |none=>none
 |_,_=>none
def C_checkB:Ctr:={ α:=List Int,xs:=λl=>[.d (IM l)],L:=λ_=>[],val:=λl=>.int (Ak l),keep:=λ_=>[],pre:=λl=>[l.length<4611686018427387904/\True] }
def AXP(l:List Int):Ann:={ ann 22 [(n_in,Fg)] with loops:=λid=>if id=5 then some [{ α:=NI,dflt:=default,T:=λs=>⟨[(3,.int s.m),(9,.d (IM l)),(10,.int l.length),(11,.int s.k)],[]⟩,inv:=λs=>s.k<=l.length/\brk s.m (l.drop s.k)=brk 0 l,meas:=λs=>l.length-s.k }] else none }
def AVP(l:List Int):Prop:=AX Try.prog (AXP l) AJE (AF AJE) (C_checkB.xs l) (AC []) (C_checkB.val l) [] [] []
abbrev mR:=Ak
abbrev AZF:=@List.drop Int
abbrev YS a:=BH (FI a)
attribute [go_sem] mR AZF YS
theorem BKX(l:List Int):(AVP l)=(EZ (aD (YS l) 24) (AK (mR l) 3) (And (hd33 (λi=>FG (AI (CQ (xV i)) (HS l) (EG l) (PC l) (BD (Kc i))) (Kc i) (FI l) (AK (brk (xV i) (AZF (Kc i) l)) (brk 0 l)))) (hd49 (λi=>UO (CJ (Kc i) (FI l) (AK (brk (xV i) (AZF (Kc i) l)) (brk 0 l))) (Kc i) (FI l) (BE (Kc i) (FI l)) (not (MN (IQ l (Kc i)) (FP (xV i)) 2000)) (AK (mR l) 2) (hd33 (λj=>FB (AI (AK (xV j) (IQ l (Kc i))) (HS l) (EG l) (PC l) (AU (Kc j) (Kc i))) (CJ (Kc j) (FI l) (AK (brk (xV j) (AZF (Kc j) l)) (brk 0 l))) (FI l) (Kc j) (Kc i))) (CQ (mR l)))))):=by kernel_rfl
theorem O6:AH Try.prog J7 (C_checkB.spec dIs1):=PU C_checkB AXP [] [] BND (λ_=>by kernel_rfl) (λ_=>AA H3 AD) (λ(l:List Int) h=>by
 show AVP l;rw[BKX]<;> delta NX EZ AK aD hd33 xV AN FI AE BA BN IQ BH Kc CV hd49 DC ER NC TD KE mR AZF CS AG AI AO AJ AR BG DK GJ HD EJ EB DR HS FP EV DT Mz JD AU EY PI BE EG HX CJ LA HH BD HF FG SA CQ TM FB UO PC YS;simp only[CC,CU]
 have h':l.length<4611686018427387904/\True:=h
 unfold Ak
 refine⟨λh1=>by rw[if_pos h1],λh1=>⟨⟨⟨0,0⟩,⟨rfl,rfl⟩,Nat.zero_le _,rfl⟩,λs hs=>⟨λhlt=>?_,λhge=>?_⟩⟩⟩
 ·have hlt:s.k<l.length:=by omega
  have hd:=CCQ hlt
  refine⟨⟨by omega,by omega⟩,λhb=>?_,λhb=>⟨⟨s.k+1,gD l s.k⟩,⟨rfl,(GH (by omega)).symm⟩,⟨hlt,?_⟩,?_⟩⟩
  ·rw[if_neg h1,<-hs.2,hd];simp[brk,wr,hb]
  ·show brk (gD l s.k) _=_
   rw[<-hs.2,hd];simp[brk,wr,hb]
  ·show l.length-(s.k+1)<l.length-s.k;omega
 ·rw[if_neg h1,<-hs.2,List.drop_of_length_le (by omega)];rfl) (λ_=>RU rfl rfl) _
def Hr(r:Rtg):Int:=bif Ak r.b != 0 then Ak r.b else bif (r.l.length:Int) != (r.b.length:Int)+1 then 2 else bif !r.l.all Ww then 50 else 0
def dRt1:List AVal->Heap->Option (Rtg×List (Nat×Nat)×List Nat)
 |[y],H=>match dRtg y H with
  |some (l,f)=>some (l,[],f)
  |none=>none
 |_,_=>none
def C_CheckR:Ctr:={ α:=Rtg,xs:=λr=>[.d (eRtg r)],L:=λ_=>[],val:=λr=>.int (Hr r),keep:=λ_=>[],pre:=λr=>[r.b.length<4611686018427387904/\r.l.length<4611686018427387904] }
def AVA:Ann:=ann 25 [(J7,C_checkB.spec dIs1),(n_eL,C4Lr.spec d4Lr)]
def AUY(r:Rtg):Prop:=AX Try.prog AVA AKI (AF AKI) (C_CheckR.xs r) (AC []) (C_CheckR.val r) [] [] []
abbrev mV:=Rtg.b
abbrev ABG:=Hr
abbrev eO:=Rtg.l
abbrev iR a:=jA (eO a)
attribute [go_sem] mV ABG eO iR
theorem BLO(r:Rtg):(AUY r)=(GO (QL (HJ (mV r)) (GX (mV r)) (He (mV r))) (QW (mR (EL (mV r)))) (AK (ABG r) (mR (EL (mV r)))) (EZ (cI (BH (HT (eO r))) (FP (YS (mV r)))) (AK (ABG r) 2) (GO (QL (AN (HT (iR r)) (HT (eO r))) (AE (λi=>FH i (HT (iR r)) (NS (iR r) i (eO r)) (EU (iR r) i) (EU (eO r) i) (EQ (iR r) i) (EQ (eO r) i) (EP (iR r) i) (EP (eO r) i))) (HP (HT (iR r)))) (not ((@List.all Ln) (iR r) Ww)) (AK (ABG r) 50) (CQ (ABG r))))):=by kernel_rfl
theorem BKL:AH Try.prog AGA (C_CheckR.spec dRt1):=PU C_CheckR (λ_=>AVA) [] [] BKU (λ_=>by kernel_rfl) (λ_=>AA O6 (AA CQC AD)) (λ(r:Rtg) h=>by
 show AUY r;rw[BLO]<;> delta LL HV GZ JJ cI EZ AK AN FI AE BA BN IQ BH NC TD Ff FT HT LH mR mV ABG eO CS AG AO VW EL IG HC DK HD AQ EP JO KC MM EQ FP NK EU UG GM FH RR HQ BK IY IA pW BQ jA Dr JR XE HJ NS CQ GO GX HP QW QL YS He iR;simp only[CC,CU]
 have h':r.b.length<4611686018427387904/\r.l.length<4611686018427387904:=h
 have e:IntKind.i64.wrap ((r.b.length:Int)+1)=(r.b.length:Int)+1:=Ab (by omega) (by omega)
 rw[e]
 unfold Hr
 cases h1:(Ak r.b != 0)<;>cases h2:((r.l.length:Int) != (r.b.length:Int)+1)<;>cases hr:r.l.all Ww<;>simp[h',h1,h2,hr]) (λ_=>RU rfl rfl) _
structure IX where
 l:List Int
 x:Int
structure IJ where
 i:Nat
 j:Nat
 deriving Inhabited
def ltC(l:List Int)(x:Int):Nat:=l.countP λb=>decide (b<x)
def Vx(l:List Int)(x:Int):Nat:=l.countP λb=>decide (b<=x)
def asc(l:List Int):Prop:=l.Pairwise (· < ·)
def dIX:List AVal->Heap->Option (IX×List (Nat×Nat)×List Nat)
 |[y,.d x],H=>match I7 y H with
  |some (l,f)=>some (⟨l,LR x⟩,[],f)
  |none=>none
 |_,_=>none
def xIX(a:IX):List AVal:=[.d (IM a.l),.int a.x]
def C_bins:Ctr:={ α:=IX,xs:=xIX,L:=λ_=>[],val:=λa=>.tup [.int (ltC a.l a.x),.bool (decide (a.x∈a.l))],keep:=λ_=>[],pre:=λa=>[a.l.length<4611686018427387904/\asc a.l] }
def BPN(a:IX):Ann:={ ann 54 [(ARE,BHR),(BEX,C7)] with loops:=λid=>if id=3 then some [{ α:=IJ,dflt:=default,T:=λs=>⟨[(0,.d (IM a.l)),(1,.int a.x),(6,.int a.l.length),(7,.int s.i),(8,.int s.j)],[]⟩,inv:=λs=>s.i<=s.j/\s.j<=a.l.length/\(∀k,k<s.i->gD a.l k<a.x)/\(∀k,s.j<=k->k<a.l.length->a.x<=gD a.l k),meas:=λs=>s.j-s.i }] else none }
def BNZ(a:IX):Prop:=AX Try.prog (BPN a) BCS (AF BCS) (xIX a) (AC []) (C_bins.val a) [] [] []
abbrev VZ:=@Exists IJ
abbrev UH:=IX.l
abbrev Da:=IX.x
abbrev DN:=IJ.i
abbrev BM:=IJ.j
abbrev cP:=λ(f:IJ->Prop)=>∀(x:IJ),f x
abbrev AMB:=@HDiv.hDiv Int Int Int (@instHDiv Int Int.instDiv)
abbrev AOF:=IntKind.u64
abbrev AYH:=λ(x0:List Int) (x1:Int)=>decide (x1∈x0)
abbrev MU a b c d e:=MD a (LA b c) d e
abbrev aF a b:=IQ (UH a) b
abbrev Uk a:=FI (UH a)
abbrev eK a b:=CV (BM a) b
abbrev oM a b:=BC (DN a) b
abbrev SB a b:=oM a (DN b)
abbrev Zu a b:=IQ a (MW b)
attribute [go_sem] VZ UH Da DN BM cP AMB AOF AYH MU aF Uk eK oM SB Zu
theorem CAN(a:IX):(BNZ a)=(And (VZ (λi=>LQ (AV (HS (UH a)) (EG (UH a)) (AJ (Da a)) (PC (UH a)) (BD (DN i)) (BC (BM i) (Uk a))) (CV (DN i) (BM i)) (eK i (Uk a)) (AE (λj=>AO j (DN i) (ER (aF a j) (Da a)))) (λj=>TG (BM i) j (HD j (UH a) (DC (Da a) (aF a j)))))) (cP (λi=>MU (SI (CV (DN i) (BM i)) (eK i (Uk a)) (λj=>AO j (DN i) (ER (aF a j) (Da a))) (AE (λj=>TG (BM i) j (HD j (UH a) (DC (Da a) (aF a j)))))) (DN i) (BM i) (AG (EB 1 (Ej (BH 64))) (DT (CS (AMB (NC AOF (DK (BH (DN i)) (BH (BM i)))) (uT 2 1))) (Uk a)) (EZ (NX (Zu (UH a) (CS (AMB (NC AOF (DK (BH (DN i)) (BH (BM i)))) (uT 2 (MW 1))))) (Da a)) (VZ (λj=>TM (AV (HS (UH a)) (EG (UH a)) (AJ (Da a)) (PC (UH a)) (JD (DN j) (CS (AMB (NC AOF (DK (BH (DN i)) (BH (BM i)))) (uT 2 (MW 1))))) (BC (BM j) (BM i))) (SI (CV (DN j) (BM j)) (eK j (Uk a)) (λk=>AO k (DN j) (ER (aF a k) (Da a))) (AE (λk=>TG (BM j) k (HD k (UH a) (DC (Da a) (aF a k)))))) (BM j) (DN j) (BM i) (DN i))) (VZ (λj=>TM (AV (HS (UH a)) (EG (UH a)) (AJ (Da a)) (PC (UH a)) (SB j i) (GJ (BM j) (CS (AMB (NC AOF (DK (BH (DN i)) (BH (BM i)))) (uT 2 (MW 1)))))) (SI (CV (DN j) (BM j)) (eK j (Uk a)) (λk=>AO k (DN j) (ER (aF a k) (Da a))) (AE (λk=>TG (BM j) k (HD k (UH a) (DC (Da a) (aF a k)))))) (BM j) (DN j) (BM i) (DN i))))) (AG (And (FW (LA (DN i) (Uk a)) (BE (DN i) (Uk a))) (FW (and (LA (DN i) (Uk a)) (not (ZN (aF a (DN i)) (Da a)))) (BE (DN i) (Uk a)))) (BC (ltC (UH a) (Da a)) (DN i)) (HY (AYH (UH a) (Da a)) (LA (DN i) (Uk a)) (OZ (ZN (aF a (DN i)) (Da a)) (yQ UD UD))))))):=by kernel_rfl
theorem u64w{n:Int}(h0:0<=n)(h1:n<18446744073709551616):IntKind.u64.wrap n=n:=by
 simp only[IntKind.wrap,IntKind.bits,IntKind.signed]
 have:n % (2 ^ 64:Int)=n:=Int.emod_eq_of_lt h0 (by omega)
 simp only[this]
 simp
theorem half{i j:Nat}(h:i+j<9223372036854775807):IntKind.i64.wrap (IntKind.u64.wrap (IntKind.i64.wrap ((i:Int)+j)) / 2 ^ Int.toNat 1)=(((i+j) / 2:Nat):Int):=by
 rw[Ab (n:=(i:Int)+j) (by omega) (by omega),u64w (by omega) (by omega)]
 show IntKind.i64.wrap (((i:Int)+j) / 2)=_
 rw[Ab (by omega) (by omega)];omega
theorem I5{p:Int->Bool}{l:List Int}{i:Nat}(hi:i<=l.length)(h1:∀k,k<i->p (gD l k)=true)(h2:∀k,i<=k->k<l.length->p (gD l k)=false):l.countP p=i:=by
 conv=>lhs;rw[<-List.take_append_drop i l]
 rw[List.countP_append]
 have e1:(l.take i).countP p=i:=by
  rw[List.countP_eq_length.2]
  ·simp;omega
  ·intro x hx
   obtain⟨k,hk,rfl⟩:=List.getElem_of_mem hx
   have hk':k<i:=by simp at hk;omega
   have:=h1 k hk'
   simpa[gD,List.getD_eq_getElem?_getD,show k<l.length by omega] using this
 have e2:(l.drop i).countP p=0:=by
  rw[List.countP_eq_zero]
  intro x hx
  obtain⟨k,hk,rfl⟩:=List.getElem_of_mem hx
  have hk':i+k<l.length:=by simp at hk;omega
  have:=h2 (i+k) (by omega) hk'
  simp[gD,List.getD_eq_getElem?_getD,hk'] at this
  simp[this]
 omega
theorem nL{l:List Int}(h:asc l){i j:Nat}(hij:i<j)(hj:j<l.length):gD l i<gD l j:=by
 have:=List.pairwise_iff_getElem.1 h i j (by omega) hj hij
 simpa[gD,List.getD_eq_getElem?_getD,hj,show i<l.length by omega] using this
theorem CNP{l:List Int}{x:Int}{i:Nat}(h:asc l)(hi:i<=l.length)(h1:∀k,k<i->gD l k<x)(h2:∀k,i<=k->k<l.length->x<=gD l k):decide (x∈l)=(decide ((i:Int)<l.length)&&gD l i==x):=by
 rw[Bool.eq_iff_iff]
 simp only[decide_eq_true_eq,Bool.and_eq_true,beq_iff_eq]
 constructor
 ·intro hx
  obtain⟨k,hk,rfl⟩:=oX hx
  have hik:i<=k:=by
   rcases Nat.lt_or_ge k i with h3 | h3
   ·have:=h1 k h3;omega
   ·exact h3
  refine⟨by omega,?_⟩
  rcases Nat.lt_or_ge i k with h3 | h3
  ·have:=nL h h3 hk
   have:=h2 i (Nat.le_refl _) (by omega)
   omega
  ·rw[show i=k by omega]
 ·rintro⟨h3,rfl⟩
  exact MF (by omega)
theorem CFD:AH Try.prog BEP (C_bins.spec dIX):=PU C_bins BPN [] [] CAJ (λ_=>by kernel_rfl) (λ_=>AA BVC (AA CDV AD)) (λ(a:IX) h=>by
 show BNZ a;rw[CAN]<;> delta LI Wo UD NX HU EZ AK AN FI AE BA BN IQ BH CV DC ER NC TD KE ZN MW uT VZ UH Da DN BM cP AMB AOF AYH CS AG AI AO AJ AR yQ BG DK GJ HD AQ EJ EB DR HS FP EV GI BC AV DT Mz JD FW TG PI BE EG HX BY LA OZ BD MD SA LQ TM HY oM SB PC MU Zu SI Uk aF Ej eK;simp only[CC,CU]
 obtain⟨hl,ha⟩:a.l.length<4611686018427387904/\asc a.l:=h
 refine⟨⟨⟨0,a.l.length⟩,⟨rfl,rfl⟩,Nat.zero_le _,Nat.le_refl _,λk hk=>absurd hk (Nat.not_lt_zero k),λk h1 h2=>absurd h2 (by have h1:a.l.length<=k:=h1;omega)⟩,λs ⟨h1,h2,h3,h4⟩=>⟨λhlt=>?_,λhge=>?_⟩⟩
 ·have hlt:s.i<s.j:=by omega
  have hh:=half (i:=s.i) (j:=s.j) (by omega)
  obtain⟨m,hm⟩:∃m,m=(s.i+s.j) / 2:=⟨_,rfl⟩
  have hh':IntKind.i64.wrap (IntKind.u64.wrap (IntKind.i64.wrap ((s.i:Int)+s.j)) / 2 ^ 1)=(m:Int):=by rw[hm];exact hh
  rw[<-hm] at hh
  rw[hh,hh']
  have hm1:s.i<=m:=by omega
  have hm2:m<s.j:=by omega
  refine⟨by omega,⟨by omega,by omega⟩,λhx=>⟨⟨m+1,s.j⟩,⟨(GH (by omega)).symm,rfl⟩,⟨by show m+1<=s.j;omega,h2,λk hk=>?_,h4⟩,by show s.j-(m+1)<s.j-s.i;omega⟩,λhx=>⟨⟨s.i,m⟩,⟨rfl,rfl⟩,⟨hm1,by show m<=_;omega,h3,λk h5 h6=>?_⟩,by show m-s.i<s.j-s.i;omega⟩⟩
  ·have hk:k<m+1:=hk
   simp only[Int.toNat_natCast] at hx
   rcases Nat.lt_or_ge k m with h7 | h7
   ·have:=nL ha h7 (by omega);omega
   ·rw[show k=m by omega];exact hx
  ·have h5:m<=k:=h5
   simp only[Int.toNat_natCast] at hx
   rcases Nat.lt_or_ge m k with h7 | h7
   ·have:=nL ha h7 h6;omega
   ·rw[show k=m by omega];omega
 ·have he:s.i=s.j:=by omega
  have h4:∀k,s.i<=k->k<a.l.length->a.x<=gD a.l k:=by rw[he];exact h4
  refine⟨⟨λh5=>by omega,λh5=>by simp at h5;omega⟩,?_,?_⟩
  ·have:=I5 (p:=λb=>decide (b<a.x)) (l:=a.l) (i:=s.i) (by omega) (λk hk=>by simpa using h3 k hk) (λk h5 h6=>by have:=h4 k h5 h6;simp;omega)
   unfold ltC;omega
  ·rw[CNP ha (by omega) h3 h4]
   cases decide ((s.i:Int)<a.l.length)<;>cases (gD a.l s.i==a.x)<;>rfl) (λ_=>RU rfl rfl) _
theorem BQO{l:List Int}{x:Int}(h:asc l):(Vx l x:Int)=if x∈l then (ltC l x:Int)+1 else ltC l x:=by
 unfold Vx ltC
 induction l with
 |nil=>simp
 |cons b r ih=>
  obtain⟨h1,h2⟩:=List.pairwise_cons.1 h
  have ih:=ih h2
  by_cases hb:b=x
  ·subst hb
   have:b∉r:=λhm=>absurd (h1 b hm) (by omega)
   simp only[this,if_false] at ih
   simp;omega
  ·by_cases hm:x∈r
   ·have h3:=h1 x hm
    simp only[hm,if_true] at ih
    simp[hm,h3,show b<=x by omega]
    omega
   ·simp only[hm,if_false] at ih
    have hne:x≠b:=λh=>hb h.symm
    simp only[List.mem_cons,hne,hm,or_self,if_false,List.countP_cons]
    by_cases h3:b<x
    ·simp[h3,show b<=x by omega];omega
    ·simp[h3,show ¬ b<=x by omega];omega
def C_part:Ctr:={ C_bins with val:=λ(a:IX)=>.int (Vx a.l a.x) }
def BYI:Ann:=ann 17 [(BEP,C_bins.spec dIX)]
def BPG(a:IX):Prop:=AX Try.prog BYI BBC (AF BBC) (xIX a) (AC []) (C_part.val a) [] [] []
abbrev Ft:=@List.Pairwise Int
attribute [go_sem] Ft
theorem CDE(a:IX):(BPG a)=(GO (AI (HJ (UH a)) (GX (UH a)) (AJ (Da a)) (He (UH a)) (Ft ER (EL (UH a)))) (AYH (EL (UH a)) (Da a)) (AU (Vx (UH a) (Da a)) (ltC (EL (UH a)) (Da a))) (BC (Vx (UH a) (Da a)) (ltC (EL (UH a)) (Da a)))):=by kernel_rfl
theorem ACP:AH Try.prog AJI (C_part.spec dIX):=Ctr.spec_ok (C:=C_part) (λ(a:IX) h=>Dy (A:=BYI) (L:=[]) (keep:=[]) (ren:=[]) (fz:=[]) CEH (by kernel_rfl) (AA CFD AD) (by
 show BPG a;rw[CDE]<;> delta EZ AK AN FI AE BA BN IQ BH ER NC TD Ff UH Da AYH Ft CS AG AI AO AJ VW EL DK GJ HD MM FP NK BC GM RR JD BK AU IY IA BQ JR HJ GO GX HP He;simp only[CC,CU]
 have h:a.l.length<4611686018427387904/\asc a.l:=h
 refine⟨h,λhm=>?_,λhm=>?_⟩
 ·rw[BQO h.2,if_pos hm,Ab (by omega) (by have:ltC a.l a.x<=a.l.length:=List.countP_le_length;omega)]
 ·rw[BQO h.2,if_neg hm])) _
end Go.Bal
