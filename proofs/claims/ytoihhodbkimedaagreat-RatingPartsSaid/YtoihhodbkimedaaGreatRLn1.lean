/- Package rating: the reference: which gaugings, breaks, lines and ratings are right. -/
import Derived.Test.YtoihhodbkimedaaGreatRatB
set_option linter.unusedVariables false
set_option linter.unusedSimpArgs false
namespace Go.Bal
open Go Go.Sym Go.Proofs
def AHU:=pD dI3 λx=>.bool (!QY x.a x.b x.c)
def CBM(x:I3):Prop:=BQ Try.prog (ann 15 []) BJT (AI BJT) (xI3 x) (AD []) (.bool (!QY x.a x.b x.c)) [] [] []
theorem CHX(x:I3):(CBM x)=(JT (OE (I3.a x) (I3.b x) (I3.c x)) (MS (GD (I3.a x) (I3.b x)) (KO (I3.a x) (I3.c x)))):=by kernel_rfl
def C_rCheck:Ctr:={ α:=List Gau,xs:=λl=>[.d (BX l)],val:=λl=>.int (AV l),pre:=λl=>[l.length<1073741824/\True] }
def rc4(l:List Gau):Shape:={ α:=Nat,dflt:=0,T:=λi=>⟨[(0,.d (BX l)),(3,.int i)],[]⟩,inv:=λi=>(1<=l.length/\l.length<=24)/\i<=l.length/\∀j,j<i->riG (gD l j)=true,meas:=λi=>l.length-i }
def BEH(l:List Gau):Ann:={ ann 57 [(W3,AHU)] with loops:=λid=>if id=4 then some [rc4 l] else none }
def BFD(l:List Gau):Prop:=BQ Try.prog (BEH l) AOP (AI AOP) (C_rCheck.xs l) (AD []) (C_rCheck.val l) [] [] []
abbrev Pe a b c:=AT a b (EL c)
abbrev Gw a:=BU a 24
abbrev Bz a:=Gw (CI a)
abbrev MY a b:=AG (AZ a) (BN a) b
abbrev TZ a b c:=MS (MS a b) c
abbrev Ig a:=WR a 2000
attribute [go_sem] Pe Gw Bz MY TZ Ig
theorem BSD(l:List Gau):(BFD l)=(YR (MS (FD (CI l) 1) (KO (EY l) 24)) (Ep l) 3 (DJ (λi=>VV (MY l (BD i)) (OU 1 l (Bz l)) (FX i l) (λj=>Pe j i (sC l j))) (λi=>OW (DE (FX 1 l) (Bz l) (FX i l) (AK (λj=>Pe j i (sC l j)))) i l (cP (IB i l) (EX (not (Ig (AH l i))) (IB i l)) (EX (not (MS (Ig (AH l i)) (XG (AP l i)))) (IB i l)) (EX (not (TZ (Ig (AH l i)) (XG (AP l i)) (KO (AS l i) 200000))) (IB i l))) (NO (MS (TZ (Ig (AH l i)) (XG (AP l i)) (KO (AS l i) 200000)) (KO (AP l i) (AS l i))) (AO (Ep l) 50) (λj=>HR (MY l (BS j i)) (DE (FX 1 l) (Bz l) (FX j l) (AK (λk=>Pe k j (sC l k)))) l j i)) (YC l)))):=by kernel_rfl
def C_rBrok:Ctr:={ α:=List Int,xs:=λl=>[.d (CZ l)],val:=λl=>.int (RM l),pre:=λl=>[l.length<1073741824/\True] }
def Ni(l:List Int)(i:Nat):Int:=if i=0 then 0 else gD l (i-1)
def rb4(l:List Int):Shape:={ α:=Nat,dflt:=0,T:=λi=>⟨[(0,.d (CZ l)),(3,.int i)],[]⟩,inv:=λi=>l.length<=24/\i<=l.length/\(0<=Ni l i/\Ni l i<=2000)/\brk 0 l=brk (Ni l i) (l.drop i),meas:=λi=>l.length-i }
def BPK(l:List Int):Ann:={ ann 34 [(W3,AHU)] with loops:=λid=>if id=4 then some [rb4 l] else none }
def BMA(l:List Int):Prop:=BQ Try.prog (BPK l) AXH (AI AXH) (C_rBrok.xs l) (AD []) (C_rBrok.val l) [] [] []
abbrev rA:=Ni
abbrev Dv a:=Gw (CG a)
abbrev UO a:=EU (JZ a)
abbrev aM a b:=CM a (UO b)
abbrev Az a:=KO a 0
abbrev vC a:=Az (AQ a)
abbrev US a:=JZ (AQ a)
abbrev gJ a b:=and (not a) (vC b)
attribute [go_sem] rA Dv UO aM Az vC US gJ
theorem BUW(l:List Int):(BMA l)=(YR (KO (EK l) 24) (Es l) 3 (DJ (λi=>AF (AG (CX l) (FC l) (BD i)) (Dv l) (JF i l) (ED (rA l i) (GU (rA l i))) (AO (brk 0 l) (brk (rA l i) (ABM i l)))) (λi=>FH (AN (Dv l) (JF i l) (ED (rA l i) (GU (rA l i))) (AO (brk 0 l) (brk (rA l i) (ABM i l)))) i (EK l) (AG (IN i l) (EX (gJ (OE (CM l i) 1 2000) i) (IN i l)) (EX (gJ (OE (CM l i) 1 2000) i) (KJ (US i) l))) (NO (MS (OE (CM l i) 1 2000) (FU (vC i) (F3 (CM l i) (aM l (AQ i))))) (AO (Es l) 2) (λj=>EV (AG (CX l) (FC l) (BS j i)) (AN (Dv l) (JF j l) (ED (rA l j) (GU (rA l j))) (AO (brk 0 l) (brk (rA l j) (ABM j l)))) (CG l) j i)) (CP (Es l))))):=by kernel_rfl
def BDM:=pD dL1 λx=>.bool (!Va x)
def BEL(x:Ln):Prop:=BQ Try.prog (ann 43 [(W3,AHU)]) ASF (AI ASF) (xL1 x) (AD []) (.bool (!Va x)) [] [] []
theorem BRV(x:Ln):(BEL x)=(JT (not (Va x)) (MS (TZ (TZ (Ig (OV x)) (Ig (LW x)) (WR (LY x) 200000)) (WR (MN x) 200000) (hd6 (OV x) (LW x))) (KO (LY x) (MN x)))):=by kernel_rfl
def C_rChkR:Ctr:={ α:=Rtg,xs:=λr=>[.d (eRtg r)],val:=λr=>.int (Eg r),pre:=λr=>[r.b.length<1073741824/\r.l.length<1073741824] }
def rtgB(r:Rtg):HCell:=.live (.box [.d (CZ r.b),.d (eLns r.l)])
def rr7(r:Rtg):Shape:={ α:=Nat,dflt:=0,T:=λi=>⟨[(1,.bptr 1000 0),(4,.int i)],[(1000,rtgB r)]⟩,inv:=λi=>RM r.b=0/\r.l.length=r.b.length+1/\i<=r.l.length/\∀j,j<i->Va (gD r.l j)=true,meas:=λi=>r.l.length-i }
def BOB(r:Rtg):Ann:={ ann 32 [(ABZ,C_rBrok.spec dIs1),(ANO,BDM)] with loops:=λid=>if id=7 then some [rr7 r] else none }
def BLK(r:Rtg):Prop:=BQ Try.prog (BOB r) AWB (AI AWB) (C_rChkR.xs r) (AD []) (C_rChkR.val r) [] [] []
abbrev TO:=Rtg.b
abbrev ABL:=Eg
abbrev ID:=@List.length Ln
abbrev RG:=@gD Ln instInhabitedLn
abbrev LM:=@HAdd.hAdd Nat Nat Nat (@instHAdd Nat instAddNat)
abbrev PI a b c d e f:=FH a b (AQ c) d e f
abbrev JV a:=ID (Rtg.l a)
abbrev RF a b:=RG (Rtg.l a) b
abbrev EO a:=LM a 1
abbrev HC a b:=AR a (EO b)
abbrev GA a b c d:=AT a b (And c d)
abbrev Fp a b c:=GA a b (Aa c) (HL (LY c) (LW c) (MN c))
abbrev Uu a:=FC (TO a)
abbrev Tm a:=CX (TO a)
abbrev IR a b:=DV (AQ a) b
abbrev Qq a:=CT (TO a)
abbrev II a:=BZ a 1073741824
abbrev SL a:=II (CG a)
abbrev HS a:=SL (CT a)
attribute [go_sem] TO ABL ID RG LM PI JV RF EO HC GA Fp Uu Tm IR Qq II SL HS
theorem CCP(r:Rtg):(BLK r)=(QP (IA (TO r)) (FA (TO r)) (HS (TO r)) (YR (FI (Es (Qq r))) (ABL r) (Es (Qq r)) (YR (WI (AQ (JV r)) (DU (EK (TO r)))) (ABL r) 2 (DJ (λi=>CU (CU (BD i) (Tm r) (Uu r) (BL (JV r)) (λj=>Fp j (JV r) (RF r j))) (CP (Es (TO r))) (HC (JV r) (CG (TO r))) (BU i (JV r)) (λj=>Pe j i (Va (RF r j)))) (λi=>PI (VV (CP (Es (TO r))) (HC (JV r) (CG (TO r))) (BU i (JV r)) (λj=>Pe j i (Va (RF r j)))) i (JV r) (IR i (JV r)) (NO (not (Va (RF r i))) (AO (ABL r) 50) (λj=>EV (CU (BS j i) (Tm r) (Uu r) (BL (JV r)) (λk=>Fp k (JV r) (RF r k))) (VV (CP (Es (TO r))) (HC (JV r) (CG (TO r))) (BU j (JV r)) (λk=>Pe k j (Va (RF r k)))) (JV r) j i)) (CP (ABL r))))))):=by kernel_rfl
theorem ALO:AJ Try.prog W3 AHU:=UX xI3 hI3 λx _=>Mn (A:=ann 15 []) (ren:=[]) (fz:=[]) CDV (by kernel_rfl) AE (by
 show CBM x;rw[CHX]<;> delta JT qD GD JG KO MS OE;unfold QY
 by_cases h1:x.a<x.b
 ·rw[decide_eq_true h1,decide_eq_false (show ¬x.b<=x.a by omega)];rfl
 ·rw[decide_eq_false h1,decide_eq_true (show x.b<=x.a by omega)]
  by_cases h2:x.a>x.c
  ·rw[decide_eq_true h2,decide_eq_false (show ¬x.a<=x.c by omega)];rfl
  ·rw[decide_eq_false h2,decide_eq_true (show x.a<=x.c by omega)];rfl)
theorem CHV(g:Gau):(bif bif bif !QY g.st 0 2000 then true else decide (g.lo<0) then true else decide (g.hi>200000) then true else decide (g.lo>g.hi))=!riG g:=by
 unfold riG
 cases QY g.st 0 2000 with
 |false=>rfl
 |true=>
  unfold QY
  by_cases h1:g.lo<0
  ·rw[decide_eq_true h1,decide_eq_false (show ¬0<=g.lo by omega)];rfl
  ·rw[decide_eq_false h1,decide_eq_true (show 0<=g.lo by omega)]
   by_cases h2:g.hi>200000
   ·rw[decide_eq_true h2,decide_eq_false (show ¬g.hi<=200000 by omega)];simp
   ·rw[decide_eq_false h2,decide_eq_true (show g.hi<=200000 by omega)]
    by_cases h3:g.lo>g.hi
    ·rw[decide_eq_true h3,decide_eq_false (show ¬g.lo<=g.hi by omega)];simp
    ·rw[decide_eq_false h3,decide_eq_true (show g.lo<=g.hi by omega),decide_eq_true (show 0<=g.hi by omega)];rfl
theorem AYW{α:Type}[Inhabited α]{p:α->Bool}{l:List α}:l.all p=true↔∀i,i<l.length->p (gD l i)=true:=by
 rw[List.all_eq_true]
 constructor
 ·exact λh i hi=>h _ (CV hi)
 ·intro h x hx
  obtain⟨i,hi,rfl⟩:=NL hx
  exact h i hi
theorem AYC{α:Type}[Inhabited α]{p:α->Bool}{l:List α}{i:Nat}(hi:i<l.length)(h:p (gD l i)=false):l.all p=false:=by
 cases hq:l.all p with
 |false=>rfl
 |true=>rw[AYW.1 hq i hi] at h;cases h
theorem BXP(l:List Gau)(h:l.length<1073741824):BFD l:=by
 rw[BSD]<;> delta JT qD EE EC DP GD JG CS AO KO AR AK BV BZ AQ BU DD ES LX EF CI EZ FB Ep AG DG AF AT AH FF CA CF AM GQ cP AP BR AS AW DU BC HH CQ HL AN OK AZ ED BW EL FX HI FZ JA CL EA EX CP DV GF BN FD ON FL Gw MS BS BD FH EY OE DE DJ Ar TZ IB Bz WR VV YC HR OU MY XG sC NO OW YR Ig Pe;simp only[CC,eq_self,implies_true,forall_const,CHV]
 have hin:1<=l.length/\l.length<=24->QY l.length 1 24=true:=λh=>by unfold QY;simp;omega
 refine⟨λhb=>?_,λhb=>⟨⟨0,rfl,?_,Nat.zero_le _,λj hj=>absurd hj (Nat.not_lt_zero _)⟩,λi ⟨i1,i2,i3⟩=>⟨λhlt=>⟨⟨⟨by omega,by omega⟩,λ_=>⟨by omega,by omega⟩,λ_=>⟨by omega,by omega⟩,λ_=>⟨by omega,by omega⟩⟩,λhr=>?_,λhr=>⟨i+1,(CN (by omega)).symm,⟨i1,by omega,λj hj=>?_⟩,by omega⟩⟩,λhge=>?_⟩⟩⟩
 ·unfold AV
  have:QY l.length 1 24=false:=by
   unfold QY
   by_cases h1:(l.length:Int)<1
   ·rw[decide_eq_false (show ¬(1:Int)<=l.length by omega)];rfl
   ·rw[decide_eq_false h1] at hb
    have:=of_decide_eq_true hb
    rw[decide_eq_false (show ¬(l.length:Int)<=24 by omega)];simp
  rw[this];rfl
 ·by_cases h1:(l.length:Int)<1
  ·rw[decide_eq_true h1] at hb;cases hb
  ·rw[decide_eq_false h1] at hb
   have:=of_decide_eq_false hb
   omega
 ·unfold AV
  rw[hin i1,AYC (i:=i) (by omega) (by simpa using hr)];rfl
 ·by_cases e:j=i
  ·rw[e];simpa using hr
  ·exact i3 j (by omega)
 ·unfold AV
  rw[hin i1,AYW.2 λj hj=>i3 j (by omega)];rfl
theorem kM:AJ Try.prog Tc (C_rCheck.spec WJ):=VD C_rCheck BEH [] [] BQL (λ_=>by kernel_rfl) (λ_=>AC ALO AE) (λ(l:List Gau) h=>BXP l (show l.length<1073741824/\True from h).1) (λ_=>WK rfl rfl) _
theorem CUF(a b:Int)(r:List Int):brk a (b :: r)=bif QY b (wr (a+1)) 2000 then brk b r else 2:=rfl
theorem CGA(l:List Int)(h:l.length<1073741824):BMA l:=by
 rw[BUW]<;> delta JT qD F3 XL GD JG CS AO KO AR CG AK BV BZ CM AQ BU DD ES LX EF Ba FB Es ABM EU rA AG DG AF AT FF AM BL HA DF DU BC CQ AN JZ ED BW EL HI CX JD FZ CL EK GU EA EX CP FU DV PG FC FD LN LL KJ FL Gw MS EV BS JF BD FH OE DJ UO Dv IN Az US NO vC YR aM gJ;simp only[CC,eq_self,implies_true,forall_const,Bool.not_not]
 refine⟨λh1=>?_,λh1=>⟨⟨0,rfl,by omega,Nat.zero_le _,⟨Int.le_refl _,by show (0:Int)<=2000;omega⟩,rfl⟩,λi ⟨i1,i2,i3,i4⟩=>⟨λhlt=>?_,λhge=>?_⟩⟩⟩
 ·unfold RM;rw[if_pos h1]
 ·have hi:i<l.length:=by omega
  have pos:∀{x:Bool},(x&&decide ((i:Int)>0))=true->0<i:=λ{x} h=>by
   have:=(Bool.and_eq_true _ _ ▸ h).2
   have:=of_decide_eq_true this;omega
  have e1:0<i->IntKind.i64.wrap ((i:Int)-1)=((i-1:Nat):Int):=λh=>by rw[JH (by omega) (by omega)];omega
  have key:(bif !QY (gD l i) 1 2000 then true else bif decide ((i:Int)>0) then decide (gD l i<=gD l (IntKind.i64.wrap ((i:Int)-1)).toNat) else false)=!QY (gD l i) (wr (Ni l i+1)) 2000:=by
   have w:wr (Ni l i+1)=Ni l i+1:=JH (by omega) (by omega)
   rw[w]
   unfold Ni at i3 ⊢
   by_cases h0:i=0
   ·rw[if_pos h0,decide_eq_false (show ¬(i:Int)>0 by omega)]
    show (bif !QY (gD l i) 1 2000 then true else false)=!QY (gD l i) 1 2000
    cases QY (gD l i) 1 2000<;>rfl
   ·rw[if_neg h0] at i3 ⊢
    rw[decide_eq_true (show (i:Int)>0 by omega),e1 (by omega),Int.toNat_natCast]
    unfold QY
    by_cases h2:gD l i<=2000
    ·rw[decide_eq_true h2]
     by_cases h3:gD l i<=gD l (i-1)
     ·rw[decide_eq_true h3,decide_eq_false (show ¬gD l (i-1)+1<=gD l i by omega)]
      cases decide (1<=gD l i)<;>rfl
     ·rw[decide_eq_false h3,decide_eq_true (show gD l (i-1)+1<=gD l i by omega),decide_eq_true (show 1<=gD l i by omega)];rfl
    ·rw[decide_eq_false h2];simp
  rw[key]
  rw[BNT hi] at i4
  rw[CUF] at i4
  refine⟨⟨⟨by omega,by omega⟩,λ_=>⟨by omega,by omega⟩,λh=>?_⟩,λhb=>?_,λhb=>⟨i+1,(CN (by omega)).symm,⟨i1,by omega,?_,?_⟩,by omega⟩⟩
  ·have:=pos h;rw[e1 this];omega
  ·have hb:QY (gD l i) (wr (Ni l i+1)) 2000=false:=by simpa using hb
   rw[hb] at i4
   unfold RM;rw[if_neg h1]
   exact i4
  ·have hb:QY (gD l i) (wr (Ni l i+1)) 2000=true:=by simpa using hb
   unfold QY at hb
   simp only[Bool.and_eq_true,decide_eq_true_eq] at hb
   rw[show wr (Ni l i+1)=Ni l i+1 from JH (by omega) (by omega)] at hb
   show 0<=Ni l (i+1)/\Ni l (i+1)<=2000
   unfold Ni
   rw[if_neg (by omega),show i+1-1=i by omega];omega
  ·have hb:QY (gD l i) (wr (Ni l i+1)) 2000=true:=by simpa using hb
   rw[hb] at i4
   rw[i4]
   show brk (gD l i) _=brk (Ni l (i+1)) _
   unfold Ni
   rw[if_neg (by omega),show i+1-1=i by omega]
 ·unfold RM
  rw[if_neg h1,i4,List.drop_of_length_le (by omega)];rfl
theorem BCR:AJ Try.prog ABZ (C_rBrok.spec dIs1):=VD C_rBrok BPK [] [] BYH (λ_=>by kernel_rfl) (λ_=>AC ALO AE) (λ(l:List Int) h=>CGA l (show l.length<1073741824/\True from h).1) (λ_=>WK rfl rfl) _
theorem BRN:AJ Try.prog ANO BDM:=UX xL1 hL1 λx _=>Mn (A:=ann 43 [(W3,AHU)]) (ren:=[]) (fz:=[]) BQQ (by kernel_rfl) (AC ALO AE) (by
 show BEL x;rw[BRV]<;> delta JT qD hd6 OV LY LW MN JG KO MS OE TZ WR Ig;unfold Va riP
 have e1:decide (x.a0>=x.b0)=!decide (x.a0<x.b0):=by
  by_cases h:x.a0<x.b0
  ·rw[decide_eq_true h,decide_eq_false (by omega)];rfl
  ·rw[decide_eq_false h,decide_eq_true (by omega)];rfl
 have e2:decide (x.a1>x.b1)=!decide (x.a1<=x.b1):=by
  by_cases h:x.a1<=x.b1
  ·rw[decide_eq_true h,decide_eq_false (by omega)];rfl
  ·rw[decide_eq_false h,decide_eq_true (by omega)];rfl
 rw[e1,e2]
 show (!((QY x.a0 0 2000&&QY x.a1 0 200000)&&(QY x.b0 0 2000&&QY x.b1 0 200000)&&decide (x.a0<x.b0)&&decide (x.a1<=x.b1)))=_
 cases QY x.a0 0 2000<;>cases QY x.b0 0 2000<;>cases QY x.a1 0 200000<;>cases QY x.b1 0 200000<;>cases decide (x.a0<x.b0)<;>cases decide (x.a1<=x.b1)<;>rfl)
theorem CIR(r:Rtg)(h1:r.b.length<1073741824)(h2:r.l.length<1073741824):BLK r:=by
 rw[CCP]<;> delta JT OV LY LW MN GD WI JG CS AO AR CG AK BV BZ CM AQ BU DD ES LX EF NK FB FP Es TO ABL ID RG LM AG JO IE DG AF AT FF CA AM CT BL GQ DF EO DU BC HH GA CQ HL IC AN RF GI ED AY BW JV EL GC HI CX JD FZ II HG CL EK CU EA CP DV GH PG IH BM FC FD LN Aa HC SL LL FL Ac EV IA BS ZX BD FH FA DY HS DJ FI VV IR Fp NO QP Qq YR Uu PI Tm Pe;simp only[CC,eq_self,implies_true,forall_const]
 have w:IntKind.i64.wrap ((r.b.length:Int)+1)=(r.b.length:Int)+1:=JH (by omega) (by omega)
 rw[w]
 refine⟨h1,λhb=>?_,λhb=>⟨λhl=>?_,λhl=>⟨⟨0,rfl,?_,?_,Nat.zero_le _,λj hj=>absurd hj (Nat.not_lt_zero _)⟩,λi ⟨i1,i2,i3,i4⟩=>⟨λhlt=>⟨⟨by omega,by omega⟩,λhr=>?_,λhr=>⟨i+1,(CN (by omega)).symm,⟨i1,i2,by omega,λj hj=>?_⟩,by omega⟩⟩,λhge=>?_⟩⟩⟩⟩
 ·unfold Eg;rw[hb];rfl
 ·unfold Eg;rw[hb,hl];rfl
 ·simpa using hb
 ·have:(r.l.length:Int)=(r.b.length:Int)+1:=by simpa using hl
  omega
 ·unfold Eg
  rw[i1,i2,AYC (by omega) hr];simp
 ·by_cases e:j=i
  ·rw[e];exact hr
  ·exact i4 j (by omega)
 ·unfold Eg
  rw[i1,i2,AYW.2 λj hj=>i4 j (by omega)];simp
theorem CAS:AJ Try.prog AWP (C_rChkR.spec dRt1):=VD C_rChkR BOB [] [] BTT (λ_=>by kernel_rfl) (λ_=>AC BCR (AC BRN AE)) (λ(r:Rtg) h=>CIR r h.1 h.2) (λ_=>WK rfl rfl) _
end Go.Bal
