/- Package chart, with the reference: settled. -/
import Derived.Test.YtdbjalgfomknhaaGreatChZc
import Derived.Test.YtdbjalgfomknhaaGreatChM
set_option linter.unusedVariables false
set_option linter.unusedSimpArgs false
namespace Go.Bal
open Go Go.Sym Go.Proofs
def dZL:List AVal->Heap->Option (ZL×List (Nat×Nat)×List Nat)
 |[x,y,z],H=>match tN x H,tL y H,rJ z H with
  |some (c,f),some (l,e),some (s,g)=>some (⟨⟨c,l⟩,s⟩,[],f ++ e ++ g)
  |_,_,_=>none
 |_,_=>none
structure FB where
 f:Nat->Span
 b:Bool
 k:Nat
 deriving Inhabited
def seR(x:ZL)(f:Nat->Span):HCell:=.live (.row 2 x.l.length λi=>MV (f i))
def seH(x:ZL)(f:Nat->Span):List (Nat×HCell):=[(201,.live (xO x.a.c)),(202,seR x f)]
def seS(x:ZL)(b:Bool):List (Nat×AVal):=[(1,.d (GB x.a.z)),(3,.bptr 201 0),(8,.own 202 2 0 x.l.length),(9,.bool b)]
def seM(x:ZL)(s:FB):Nat:=F0 s.f x.l.length+(bif s.b then 1 else 0)
def se3(x:ZL):Shape:={ α:=FB,dflt:=default,T:=λs=>⟨seS x s.b,seH x s.f⟩,inv:=λs=>SetI x s.f/\(s.b=false->neF s.f x.l.length/\fixF x s.f (x.l.length-1)),meas:=λs=>seM x s,first:=[(201,1000),(202,2032)] }
def se6(x:ZL)(m:Nat):Shape:={ α:=FB,dflt:=default,T:=λs=>⟨seS x false ++ [(10,.int s.k)],seH x s.f⟩,inv:=λs=>(s.k<=x.l.length/\F0 s.f x.l.length+1=m)/\SetI x s.f/\neF s.f s.k,meas:=λs=>x.l.length-s.k }
def se11(x:ZL)(m:Nat):Shape:={ α:=FB,dflt:=default,T:=λs=>⟨seS x s.b ++ [(11,.int s.k)],seH x s.f⟩,inv:=λs=>(s.k<=x.l.length-1/\SetI x s.f/\neF s.f x.l.length)/\seM x s<m/\(s.b=false->fixF x s.f s.k),meas:=λs=>x.l.length-s.k }
def se16(x:ZL)(m q:Nat):Shape:={ α:=FB,dflt:=default,T:=λs=>⟨seS x s.b ++ [(11,.int s.k),(12,.bptr 203 0),(13,.bptr 204 0)],seH x s.f ++ [(203,.live (.box [.int (Uz x s.k (s.f s.k) (s.f (s.k+1))).lo,.int (Uz x s.k (s.f s.k) (s.f (s.k+1))).hi])),(204,.live (.box [.int (zV x s.k (s.f s.k) (s.f (s.k+1))).lo,.int (zV x s.k (s.f s.k) (s.f (s.k+1))).hi]))]⟩,inv:=λs=>(s.k+1<x.l.length/\x.l.length-s.k=q/\SetI x s.f/\neF s.f x.l.length)/\seM x s<m/\(s.b=false->fixF x s.f s.k),meas:=λs=>0,first:=[(203,14144),(204,14160)] }
def C_zSet:Ctr:={ α:=ZL,xs:=λx=>[.d (Nj x.a.c),.d (GB x.a.z),.d (HA x.l)],val:=λx=>.tup [.d (HA (sY x).1),.bool (sY x).2],keep:=λ_=>[],pre:=λx=>[PreS x] }
def CID(x:ZL):Ann:={ ann 130 [(AJT,C_zLea.spec dCtI),(AKJ,C_zMos.spec dCZG)] with mt:=λid=>id==1,loops:=λid=>if id=3 then some [se3 x] else none,inner:=λgs id=>if id=6 then some [se6 x (gs.getD 0 0)] else if id=11 then some [se11 x (gs.getD 0 0)] else none,cutIn:=λgs id=>if id=16 then some [se16 x (gs.getD 1 0) (gs.getD 0 0)] else none }
def CDS(x:ZL):Prop:=ES Try.prog (CID x) AGA (AJ AGA) (C_zSet.xs x) (AD []) (.tup [.d (HA (sY x).1),.bool (sY x).2]) [] [] [202]
abbrev qZ:=ZL.l
abbrev ADR:=@Exists FB
abbrev ZY:=ZL.a
abbrev N3:=FB.b
abbrev TX:=FB.f
abbrev M0:=Uz
abbrev M2:=zV
abbrev BFP:=λ(f:FB->Prop)=>∀(x:FB),f x
abbrev MU:=FB.k
abbrev kD a:=qQ (sY a)
abbrev wG a:=Y3 (sY a)
abbrev KF a:=IH (qZ a)
abbrev Hl a b:=TX a (KJ b)
abbrev pQ a b c:=hd40 a (Hl b c)
abbrev rM a b c:=hd40 a (TX b c)
abbrev C4 a:=WX (KF a)
abbrev bQ a b:=BK (TX a b)
abbrev Zz a b:=BH (TX a b)
abbrev aD a b c d e f:=AV a b (HD (Zz c d) (bQ e f))
abbrev kC a:=DZ (N3 a)
abbrev Zg a b:=SetI a (TX b)
abbrev Um a:=SK (qZ a)
abbrev LO a:=FN (ZY a)
abbrev Zv a:=NZ (ZY a)
abbrev aL a:=NX (ZY a)
abbrev wD a:=wW (ZY a)
abbrev uZ a:=vG (ZY a)
abbrev OW a(b:Nat->Prop):=CJ a (AB b)
abbrev F4 a b:=CW (MU a) b
abbrev oY a b c d:=M2 a (MU b) (TX c (MU c)) (Hl d (MU d))
abbrev dJ a b c d:=M0 a (MU b) (TX c (MU c)) (Hl d (MU d))
abbrev Jr a:=BG (MU a)
abbrev lD a:=FE (MU a)
abbrev kQ a b c:=lI (BH a) b (BK a) c
abbrev xJ a:=ZX (lD a)
abbrev D4 a:=CG (MU a)
attribute [go_sem] qZ ADR ZY N3 TX M0 M2 BFP MU kD wG KF Hl pQ rM C4 bQ Zz aD kC Zg Um LO Zv aL wD uZ OW F4 oY dJ Jr lD kQ xJ D4
theorem CJS(x:ZL):(CDS x)=(AH (Fx (YM AG YF) IP (KF x) (Jk (KF x)) (Mn (KF x)) (Nv (KF x) 16)) (ADR (λi=>DT (uZ x) (CS (wD x) AG (KX (qZ x) (BG (KF x))) (EA (N3 i)) (aL x) (Zv x) (Co (LO x) (KX (qZ x) (BG (KF x))) (λj=>TO j (qZ x) (TX i j) (qZ x) (QI j)))) (Zg x i) (CJ (kC i) (JK (AB (λj=>aD j (KF x) i j i j)) (λj=>BF j (C4 x) (rM (M0 x j (TX i j) (Hl i j)) i j) (pQ (M2 x j (TX i j) (Hl i j)) i j)))))) (BFP (λi=>ON (And (Zg x i) (CJ (kC i) (JK (AB (λj=>aD j (KF x) i j i j)) (λj=>BF j (C4 x) (rM (M0 x j (TX i j) (Hl i j)) i j) (pQ (M2 x j (TX i j) (Hl i j)) i j))))) (N3 i) (ADR (λj=>And (BB (uZ x) (wD x) AG (Um x) Hy (CQ (MU j)) (aL x) (Zv x) (Co (LO x) (Um x) (λk=>LS k (qZ x) (TX j k) (TX i k)))) (DT (F4 j (KF x)) (CH (KJ (F0 (TX j) (KF x))) (seM x i)) (Zg x j) (AB (λk=>aD k (MU j) j k j k))))) (BFP (λj=>OO (DT (F4 j (KF x)) (CH (KJ (F0 (TX j) (KF x))) (seM x i)) (Zg x j) (AB (λk=>aD k (MU j) j k j k))) (MU j) (KF x) (CL (MU j) (KF x) (GT (Jr j) (KF x) (NJ (MU j) (KF x)) (HU (Jr j) (KF x)))) (Ht (WB (Zz j (Jr j)) (bQ j (Jr j))) (Ed (wG x)) (DZ (kD x)) (ADR (λk=>IF (BB (uZ x) (wD x) AG (Um x) Hy (BA (MU k) (MU j)) (aL x) (Zv x) (Co (LO x) (Um x) (λl=>LS l (qZ x) (TX k l) (TX j l)))) (DT (F4 k (KF x)) (CH (KJ (F0 (TX k) (KF x))) (seM x i)) (Zg x k) (AB (λl=>aD l (MU k) k l k l))) (KF x) (MU k) (MU j)))) (And (ADR (λk=>FY (BB (uZ x) (wD x) AG (Um x) (kC k) (CQ (MU k)) (aL x) (Zv x) (Co (LO x) (Um x) (λl=>LS l (qZ x) (TX k l) (TX j l)))) (LF (F4 k (C4 x)) (Zg x k) (λl=>aD l (KF x) k l k l)) (CE (seM x k) (seM x i)) (OW (kC k) (λl=>BF l (MU k) (rM (M0 x l (TX k l) (Hl k l)) k l) (pQ (M2 x l (TX k l) (Hl k l)) k l))))) (BFP (λk=>ON (AH (LF (F4 k (C4 x)) (Zg x k) (λl=>aD l (KF x) k l k l)) (CE (seM x k) (seM x i)) (OW (kC k) (λl=>BF l (MU k) (rM (M0 x l (TX k l) (Hl k l)) k l) (pQ (M2 x l (TX k l) (Hl k l)) k l)))) (NL (lD k) (CG (KF x))) (CL (MU k) (KF x) (GT (Jr k) (KF x) (HZ (lD k) (KF x)) (XZ (lD k) (KF x)))) (AH (vK (aL x) (Zv x) (LO x) (Al (ZY x) (LO x)) (λl=>YC l (ZY x) (LO x)) (BO (LO x)) (CR (AB (λl=>AT l (LO x) (AM (LO x) l) (AN (LO x) l) (AS (LO x) l) (AC (LO x) l) (AL (LO x) l) (AR (LO x) l) (AE (LO x) l))) (WA (ZY x)) (λl=>WL l (ZY x)) (EF (MU k)) (Cl (MU k) (oI (D4 k)) (Cy (ZY x)) (Ad (ZY x)) (Yi (ZY x))) (aL x) (Zv x) (BM (LO x)) (Ar (LO x) (Al (ZY x) (LO x)) (Dj (ZY x) (LO x)) (λl=>AT l (LO x) (AM (LO x) l) (AN (LO x) l) (AS (LO x) l) (AC (LO x) l) (AL (LO x) l) (AR (LO x) l) (AE (LO x) l)) (EF (MU k)) (Dt (MU k) (oI (D4 k)) (Cy (ZY x))) (Yi (ZY x))))) (BL (aL x) (DI (Zv x) (BM (LO x)) (BV (LO x)) (BQ (LO x)) (Al (ZY x) (LO x)) (Dj (ZY x) (LO x)) (BO (LO x)) (λl=>AT l (LO x) (AM (LO x) l) (AN (LO x) l) (AS (LO x) l) (AC (LO x) l) (AL (LO x) l) (AR (LO x) l) (AE (LO x) l)) (lJ (EF (MU k)) (HW (MU k) (oI (D4 k)) (Cy (ZY x)) (Yi (ZY x))) (aL x) (Zv x) (LO x) (Al (ZY x) (LO x)) (IY (Dj (ZY x) (LO x)) (BO (LO x)) (λl=>AT l (LO x) (AM (LO x) l) (AN (LO x) l) (AS (LO x) l) (AC (LO x) l) (AL (LO x) l) (AR (LO x) l) (AE (LO x) l)) (WA (ZY x)) (λl=>WL l (ZY x)) (EF (MU k)) (Dt (MU k) (oI (D4 k)) (Cy (ZY x))) (Ad (ZY x)) (Yi (ZY x))))) (ADR (λl=>And (AI (uZ x) (wD x) AG (Um x) (lJ (MD (N3 l) (N3 k)) (CV (MU l) (MU k)) (aL x) (Zv x) (LO x) (GD (LO x)) (CF (JC (LO x)) (HG (LO x)) (HI (LO x)) (Um x) (λm=>LS m (qZ x) (TX l m) (TX k m)) (BD (dJ x l l l) (Md (Zz k (Jr k)) (LH (Zz k (xJ k)) (M1 (VC (ZY x)) (D4 k))))) (BC (dJ x l l l) (iC (bQ k (Jr k)) (LH (bQ k (xJ k)) (jX (Ei (ZY x)) (Gf (ZY x)) (MU k))))) (BD (oY x l l l) (Md (Zz k (xJ k)) (EQ (Md (Zz k (Jr k)) (LH (Zz k (xJ k)) (M1 (VC (ZY x)) (D4 k)))) (jX (Ei (ZY x)) (Gf (ZY x)) (MU k))))) (BC (oY x l l l) (iC (bQ k (xJ k)) (EQ (iC (bQ k (Jr k)) (LH (bQ k (xJ k)) (jX (Ei (ZY x)) (Gf (ZY x)) (MU k)))) (M1 (VC (ZY x)) (D4 k)))))))) (DT (CE (KJ (MU l)) (KF x)) (LF (FI (KF x) (MU l) (MU k)) (Zg x l) (λm=>aD m (KF x) l m l m)) (CE (seM x l) (seM x i)) (OW (kC l) (λm=>BF m (MU l) (rM (M0 x m (TX l m) (Hl l m)) l m) (pQ (M2 x m (TX l m) (Hl l m)) l m))))))) (BFP (λl=>CJ (DT (CE (KJ (MU l)) (KF x)) (LF (FI (KF x) (MU l) (MU k)) (Zg x l) (λm=>aD m (KF x) l m l m)) (CE (seM x l) (seM x i)) (OW (kC l) (λm=>BF m (MU l) (rM (M0 x m (TX l m) (Hl l m)) l m) (pQ (M2 x m (TX l m) (Hl l m)) l m)))) (Ic (CL (MU l) (KF x) (GT (Jr l) (KF x) (UV (not (not (kQ (dJ x l l l) (Zz l (Jr l)) (bQ l (Jr l))))) (lD l) (KF x)) (Uw (not (kQ (dJ x l l l) (Zz l (Jr l)) (bQ l (Jr l)))) (XZ (lD l) (KF x))))) (KE (not (kQ (dJ x l l l) (Zz l (Jr l)) (bQ l (Jr l)))) (not (kQ (oY x l l l) (Zz l (xJ l)) (bQ l (xJ l))))) (CL (MU l) (KF x) (GT (Jr l) (KF x) (HZ (lD l) (KF x)) (XZ (lD l) (KF x)))) (Cg (jK (BH (dJ x l l l)) (dJ x l l l)) (jK (BH (oY x l l l)) (oY x l l l)) (YX (Ed (wG x)) (DZ (kD x))) (ADR (λm=>IF (BB (uZ x) (wD x) AG (Um x) (EA (N3 m)) (BA (MU m) (MU l)) (aL x) (Zv x) (Co (LO x) (Um x) (λn=>QQ n (qZ x) (BD (TX m n) (YD n (lD l) (BH (oY x l l l)) (NU n (Jr l) (BH (dJ x l l l)) (Zz l n)))) (BC (TX m n) (YD n (lD l) (BK (oY x l l l)) (NU n (Jr l) (BK (dJ x l l l)) (bQ l n))))))) (AH (LF (F4 m (C4 x)) (Zg x m) (λn=>aD n (KF x) m n m n)) (CE (seM x m) (seM x i)) (OW (kC m) (λn=>BF n (MU m) (rM (M0 x n (TX m n) (Hl m n)) m n) (pQ (M2 x n (TX m n) (Hl m n)) m n)))) (KF x) (MU m) (MU k)))) (Cg (jK (BH (dJ x l l l)) (dJ x l l l)) (jK (BH (oY x l l l)) (oY x l l l)) (YX (Ed (wG x)) (DZ (kD x))) (ADR (λm=>IF (BB (uZ x) (wD x) AG (Um x) (MD (N3 m) (N3 l)) (BA (MU m) (MU l)) (aL x) (Zv x) (Co (LO x) (Um x) (λn=>LS n (qZ x) (TX m n) (TX l n)))) (AH (LF (F4 m (C4 x)) (Zg x m) (λn=>aD n (KF x) m n m n)) (CE (seM x m) (seM x i)) (OW (kC m) (λn=>BF n (MU m) (rM (M0 x n (TX m n) (Hl m n)) m n) (pQ (M2 x n (TX m n) (Hl m n)) m n)))) (KF x) (MU m) (MU k)))))))) (ADR (λl=>DT (uZ x) (CS (wD x) AG (Um x) (MD (N3 l) (N3 k)) (aL x) (Zv x) (Co (LO x) (Um x) (λm=>LS m (qZ x) (TX l m) (TX k m)))) (And (Zg x l) (CJ (kC l) (JK (AB (λm=>aD m (KF x) l m l m)) (λm=>BF m (C4 x) (rM (M0 x m (TX l m) (Hl l m)) l m) (pQ (M2 x m (TX l m) (Hl l m)) l m))))) (CE (seM x l) (seM x i))))))))) (FY (KX (wG x) (KF x)) (KC (KF x)) (AB (λj=>UG j (wG x) (TX i (BG j)))) (EA (kD x)))))):=by kernel_rfl
theorem AKX{a b:Span}:(a.lo==b.lo&&(a.hi==b.hi&&true))=true↔a=b:=by
 obtain⟨a1,a2⟩:=a;obtain⟨b1,b2⟩:=b
 simp
theorem BRH{a b c d:Span}{v:Bool}(h:(bif !(a.lo==b.lo&&(a.hi==b.hi&&true)) then true else !(c.lo==d.lo&&(c.hi==d.hi&&true)))=v):(v=true->a≠b∨c≠d)/\(v=false->a=b/\c=d):=by
 rw[<-h]
 cases q1:(a.lo==b.lo&&(a.hi==b.hi&&true)) with
 |false=>exact⟨λ_=>.inl λe=>(by rw[AKX.2 e] at q1;cases q1),λh=>(by cases h)⟩
 |true=>
  cases q2:(c.lo==d.lo&&(c.hi==d.hi&&true)) with
  |false=>exact⟨λ_=>.inr λe=>(by rw[AKX.2 e] at q2;cases q2),λh=>(by cases h)⟩
  |true=>exact⟨λh=>(by cases h),λ_=>⟨AKX.1 q1,AKX.1 q2⟩⟩
theorem BFX{a b:Span}{v:Bool}(h:(bif decide (a.lo>a.hi) then true else decide (b.lo>b.hi))=v):(v=true->a.lo>a.hi∨b.lo>b.hi)/\(v=false->a.lo<=a.hi/\b.lo<=b.hi):=by
 rw[<-h]
 by_cases q1:a.lo>a.hi
 ·rw[decide_eq_true q1];exact⟨λ_=>.inl q1,λh=>(by cases h)⟩
 ·rw[decide_eq_false q1]
  by_cases q2:b.lo>b.hi
  ·rw[decide_eq_true q2];exact⟨λ_=>.inr q2,λh=>(by cases h)⟩
  ·rw[decide_eq_false q2];exact⟨λh=>(by cases h),λ_=>⟨by omega,by omega⟩⟩
theorem BSM{x:ZL}(h:PreS x){f:Nat->Span}(hf:SetI x f)(hn:neF f x.l.length){g:Nat}(hg:g+1<x.l.length)(he:(Uz x g (f g) (f (g+1))).lo>(Uz x g (f g) (f (g+1))).hi∨(zV x g (f g) (f (g+1))).lo>(zV x g (f g) (f (g+1))).hi):sY x=([],false):=
 CHK h λt ht=>by
  have:=CFI h hf hg (hn g (by omega)) (hn (g+1) hg) ht
  unfold Span.has at this;omega
theorem CVE(x:ZL)(h:PreS x):CDS x:=by
 have hl:=h.len1
 have hz:=h.zl
 have h0:=h.c0
 have hlen:=h.len
 rw[CJS]<;> delta MD N6 Iv BH BK DY RD RU Mr EM EO CH IH AB CJ CE AY OV CG CW hd40 FV NL HD KA UI Md iC IG EB FX EC GY GX GR GG DV FO FU IP FP FS El Og LW WB US HM IV ED NR WW FN TW Qu Lg Y3 qQ XT M1 qZ ADR ZY N3 TX M0 M2 BFP MU AH CK IW AX JE AI WE BC AV AF IK IN BI GJ YX AQ WV JB BB AC Kv BZ CN BF MC AE Ei AO BD DD LZ AZ DC BG BR BE BS BJ JQ AR BQ Au IS LY BV HF CI EQ GQ BL Qh AS BM tY FL EV CF AG IE HR BX KL NU CU GW KJ Cy HO DN MW GD CX OT OR LH DU Gf HY IC DR OU HG PC LO QQ EA DT KQ HH FE FG FW AT IZ SK ZX Qp VV MJ JA ZS IT DX OS Ge CR EZ GT EX JJ BA CV HT DI CS WX NZ GZ DZ HU HW BO JH FI AL AN AM LJ KO GP NP FK KX JC NX KE vK LS Py FT EF KF VW XI NV VD HI Hl TQ TO SN CQ HZ CL MR Ak JY FY VU Al Bb Dt JK KC VC VB IF ON PF IY OW LF XE NJ YC XR O6 Dj QP wW Fx Ev vG Cg YM Cl bQ UV Zz Ad WA WL QI Jr Ht XZ Co YF OO lD YD Dp UG Um Ed Hy aL Zv Zg dJ lI Jk kC Ar lJ Yi Uw Nv uZ xJ wD Mn aD Ic pQ rM C4 oY kD wG D4 jX jK F4 kQ oI;simp only[CC,eq_self,implies_true,forall_const,FR,Ee]
 refine⟨⟨(λh=>by cases h),by omega,by omega⟩,⟨⟨gD x.l,true,0⟩,⟨rfl,λi _=>⟨rfl,rfl⟩⟩,⟨λi hi=>⟨Int.le_refl _,Int.le_refl _⟩,λt ht i hi=>ht.at_ i (by omega)⟩,(λh=>by cases h)⟩,λs ⟨s1,s2⟩=>⟨λhb=>?_,λhb=>?_⟩⟩
 ·have hm:seM x s=F0 s.f x.l.length+1:=by unfold seM;rw[hb];rfl
  refine⟨⟨⟨s.f,false,0⟩,⟨rfl,λi _=>⟨rfl,rfl⟩⟩,⟨Nat.zero_le _,hm.symm⟩,s1,λi hi=>absurd hi (Nat.not_lt_zero _)⟩,λq ⟨⟨q1,q2⟩,q3,q4⟩=>⟨λhlt=>⟨⟨by omega,by omega,by omega,by omega⟩,λhe=>?_,λhe=>⟨⟨q.f,false,q.k+1⟩,⟨(II (by omega)).symm,λi _=>⟨rfl,rfl⟩⟩,⟨⟨by show q.k+1<=_;omega,q2⟩,q3,λi hi=>?_⟩,by show x.l.length-(q.k+1)<_;omega⟩⟩,λhge=>?_⟩⟩
  ·rw[CHK h λt ht=>?_]
   ·exact⟨rfl,rfl,rfl⟩
   ·have:=q3.tr t ht q.k (by omega)
    unfold Span.has at this;omega
  ·by_cases e:i=q.k
   ·subst e;show (q.f q.k).lo<=(q.f q.k).hi;omega
   ·exact q4 i (by have:i<q.k+1:=hi;omega)
  ·have qn:neF q.f x.l.length:=λi hi=>q4 i (by omega)
   refine⟨⟨⟨q.f,false,0⟩,⟨rfl,rfl,λi _=>⟨rfl,rfl⟩⟩,⟨Nat.zero_le _,q3,qn⟩,?_,λ_ g hg=>absurd hg (Nat.not_lt_zero _)⟩,λr ⟨⟨r1,r2,r3⟩,r4,r5⟩=>?_⟩
   ·show F0 q.f _+0<seM x s;omega
   have ew:IntKind.i64.wrap ((r.k:Int)+1)=((r.k+1:Nat):Int):=II (by omega)
   simp only[ew,Int.toNat_natCast]
   refine⟨λhlt=>?_,λhge=>?_⟩
   ·refine⟨⟨by omega,by omega,by omega,by omega⟩,⟨⟨by omega,hz,h0⟩,by omega,h0⟩,⟨⟨⟨by omega,h0⟩,by omega,hz,h0⟩,⟨r.f,r.b,r.k⟩,⟨rfl,rfl,λi _=>⟨rfl,rfl⟩,rfl,rfl,rfl,rfl⟩,⟨by show r.k+1<_;omega,rfl,r2,r3⟩,r4,r5⟩,λv ⟨⟨v1,v2,v3,v4⟩,v5,v6⟩=>?_⟩
    have ev:IntKind.i64.wrap ((v.k:Int)+1)=((v.k+1:Nat):Int):=II (by omega)
    simp only[ev,Int.toNat_natCast]
    refine⟨⟨by omega,by omega,λ_=>by omega,λ_=>by omega⟩,λhd=>⟨⟨by omega,by omega,by omega,by omega⟩,λhe=>?_,λhe=>?_⟩,λhd=>⟨λhe=>?_,λhe=>?_⟩⟩
    ·rw[BSM h v3 v4 v1 ((BFX he).1 rfl)];exact⟨rfl,rfl,rfl⟩
    ·obtain⟨e1,e2⟩:=(BFX he).2 rfl
     obtain⟨u1,u2,u3⟩:=CVO h v3 v4 v1 e1 e2 ((BRH hd).1 rfl)
     refine⟨⟨upF v.f v.k (Uz x v.k (v.f v.k) (v.f (v.k+1))) (zV x v.k (v.f v.k) (v.f (v.k+1))),true,v.k+1⟩,⟨rfl,rfl,λi hi=>?_⟩,⟨⟨by show v.k+1<=_;omega,u1,u2⟩,?_,(λh=>by cases h)⟩,by show x.l.length-(v.k+1)<_;omega⟩
     ·show (upF _ _ _ _ i).lo=_/\(upF _ _ _ _ i).hi=_
      unfold upF
      by_cases c1:i=v.k+1
      ·rw[if_pos c1,decide_eq_true c1];exact⟨rfl,rfl⟩
      ·rw[if_neg c1,decide_eq_false c1]
       by_cases c2:i=v.k
       ·rw[if_pos c2,decide_eq_true c2];exact⟨rfl,rfl⟩
       ·rw[if_neg c2,decide_eq_false c2];exact⟨rfl,rfl⟩
     ·have:F0 v.f x.l.length<=seM x v:=Nat.le_add_right _ _
      exact Nat.lt_of_le_of_lt (Nat.le_trans u3 this) v5
    ·rw[BSM h v3 v4 v1 ((BFX he).1 rfl)];exact⟨rfl,rfl,rfl⟩
    ·obtain⟨d1,d2⟩:=(BRH hd).2 rfl
     refine⟨⟨v.f,v.b,v.k+1⟩,⟨rfl,rfl,λi _=>⟨rfl,rfl⟩⟩,⟨⟨by show v.k+1<=_;omega,v3,v4⟩,v5,λhb g hg=>?_⟩,by show x.l.length-(v.k+1)<_;omega⟩
     by_cases e:g=v.k
     ·subst e;exact⟨d1,d2⟩
     ·exact v6 hb g (by have:g<v.k+1:=hg;omega)
   ·refine⟨⟨r.f,r.b,0⟩,⟨rfl,λi _=>⟨rfl,rfl⟩⟩,⟨r2,λhb=>⟨r3,λg hg=>r5 hb g (by omega)⟩⟩,r4⟩
 ·obtain⟨n1,n2⟩:=s2 hb
  obtain⟨o1,o2,o3⟩:=CJR h s1 n1 n2
  refine⟨o2,Nat.le_refl _,λj hj=>?_,o1⟩
  rw[o3 j (by omega)];exact⟨rfl,rfl⟩
theorem BHS:AW Try.prog oO (C_zSet.spec dZL):=Je C_zSet CID [] [202] BLC (λ_=>by kernel_rfl) (λ_=>AA BTO (AA BJV AK)) (λx h=>CVE x h) (λ_=>Kp rfl rfl) _
end Go.Bal

namespace Go.Bal
open Go Go.Sym Go.Proofs
def C_narO:Ctr:={ ro:=[100,101],α:=DkS,xs:=λa=>[.bptr 100 0,.d (HA a.l)],L:=λa=>dkL a.w,val:=λa=>.tup [.own 0 2 0 (XS a.w a.l).length,.bool ((XS a.w a.l).all Od)],keep:=λa=>dkK a.w ++ [(0,.live (rowS (XS a.w a.l)))],pre:=λa=>[a.l.length=a.w.c.ms.length/\1<=a.w.c.ms.length/\a.w.c.ms.length<=40] }
def CEN(a:DkS):Prop:=ES Try.prog (BTI a) qK (AJ qK) (C_narO.xs a) (AD (C_narO.L a)) (C_narO.val a) (C_narO.keep a) [(0,2016)] []
theorem CJY(a:DkS):(CEN a)=(HV (RJ (Bv a)) (Fa (Bv a)) (SN (sA a)) (MI (sA a)) (M7 (HV (VE a) (lP a) (UX a) (ZE (XN a) (VR a) (BW (EW a)) (DK (EW a)) (BO (EW a)) (AB (λi=>AT i (EW a) (AM (EW a) i) (AN (EW a) i) (AS (EW a) i) (AC (EW a) i) (AL (EW a) i) (AR (EW a) i) (AE (EW a) i))) (λi=>En i a) (Va (TE (EW a)) (YQ a) (MF (EW a)) (VE a) (EW a) (UX a) (XN a) (VR a) (TF (HS (EW a)) (Gc (EW a)) (KS (EW a)) (λi=>AU i (EW a) (EI (EW a) i) (EJ (EW a) i) (AC (EW a) i) (AS (EW a) i) (EH (EW a) i) (AE (EW a) i) (AR (EW a) i)) (λi=>En i a) (WJ (EW a)) (lT a) (VZ (EW a))))) (AB (λi=>Lf (Dg (AH (Fy i) (Ld (uR a) (MZ (EW a))) (QG BP (VE a) (EW a) (UX a) (XN a) (VR a) (Ae a) (λj=>GP j (EW a)) (VQ (Ah a) (Qb a) (λj=>En j a) (Aa a) (YQ a) (Ab a) (KX (Bv a) (sA a)) (Kc (AB (λj=>UG j (Bv a) (WO (Bv a) j))) (KX (Bv a) (sA a)) EY))))) (ON IP (FK 0 (uR a)) (Gv (FE 0) (EW a) (DX 0) (cN 0 (EW a))) (QN 0 40 (Xu 0) (FV (WT (lT a) 0) (nZ i Hq (λj=>AH (AI (Fy i) (sK a) (BA j 0) (VE a) (RR (EW a) (UX a) (XN a) (VR a) (Ae a) (Ec a) (Ah a) (λk=>fY k a) (Ih (fN a) (Aa a) (YQ a) (Ab a) (YB a) (λk=>qT k a) AG (oC a (LP j) (λk=>It k j (Kf a k) (rS a (Wz a 0) (Ud a 0)) 200000000))))) (gF j a) (Oz j))) (nZ i Hq (λj=>AH (AI (Fy i) (sK a) (BA j 0) (VE a) (RR (EW a) (UX a) (XN a) (VR a) (Ae a) (Ec a) (Ah a) (λk=>fY k a) (Ih (fN a) (Aa a) (YQ a) (Ab a) (YB a) (λk=>qT k a) AG (oC a (LP j) (λk=>It k j (Kf a k) (rS a (Wz a 0) (Ud a 0)) (Vn (BK (Vx a)) (Wz a 0) (Ud a 0))))))) (gF j a) (Oz j))))) (Pj (VE a) (CS (lP a) (UX a) (XN a) (VR a) (Ae a) (Ec a) (VQ (Ah a) (Qb a) (λj=>En j a) (Aa a) (YQ a) (Ab a) (YB a) (lW (J8 a) AG (YB a) (Ed (tD a))))))) (λj=>ON (gF j a) (FK j (uR a)) (Gv (FE j) (EW a) (DX j) (cN j (EW a))) (QN j 40 (Xu j) (FV (WT (lT a) j) (nZ i (Hi j) (λk=>Fv (AI (Fy i) (sK a) (BA k j) (VE a) (RR (EW a) (UX a) (XN a) (VR a) (Ae a) (Ec a) (Ah a) (λl=>fY l a) (Ih (fN a) (Aa a) (YQ a) (Ab a) (YB a) (λl=>qT l a) AG (oC a (PI k j) (λl=>It l k (Kf a l) (Sf l j (Kf a l) (rS a (Wz a j) (Ud a j))) (Rq l j (Kf a l) 200000000)))))) (gF k a) k j)) (nZ i (Hi j) (λk=>Fv (AI (Fy i) (sK a) (BA k j) (VE a) (RR (EW a) (UX a) (XN a) (VR a) (Ae a) (Ec a) (Ah a) (λl=>fY l a) (Ih (fN a) (Aa a) (YQ a) (Ab a) (YB a) (λl=>qT l a) AG (oC a (PI k j) (λl=>It l k (Kf a l) (Sf l j (Kf a l) (rS a (Wz a j) (Ud a j))) (Rq l j (Kf a l) (Vn (BK (Vx a)) (Wz a j) (Ud a j)))))))) (gF k a) k j)))) (Dg (UC (VE a) (lP a) (UX a) (EW a) (CF (VR a) (Ae a) (Ec a) (Ah a) (λk=>fY k a) (fN a) LR (Aa a) (BB (YQ a) (Ab a) (YB a) (J8 a) AG (YB a) (KX (tD a) j) (KC j) (AB (λk=>UG k (tD a) (Kf a (BG k)))))))))))) (Dw (Yc (Mv (VE a) (lP a) (UX a) (ZE (XN a) (VR a) (Ae a) (Ec a) (Ah a) (Qb a) (λi=>En i a) (UT (Aa a) (YQ a) (Ab a) (YB a) (J8 a) AG (Sr a) (Rt a))) IP) (HX (λi=>HV (Sr a) (Rt a) (EF (Ri a)) (Mb (CQ i) (VE a) (Vx a) (UX a) (ZE (XN a) (VR a) (Ae a) (Ec a) (Ah a) (Qb a) (λj=>En j a) (UT (Aa a) (YQ a) (Ab a) (YB a) (AB (λj=>XP j (Bv a) (nrF a i j) (Bv a))) AG (Sr a) (Rt a)))) (ED i (Uj a))) (λi=>FA i (Uj a) (Fb (JY i (Ri a)) (QN i (Ri a) (QN i (Ot a) (CE (BG i) (Ot a)) (AI (NJ i (Ot a)) (CE (BG i) (Ot a)) (AF (FE i)) (AF (EQ (BH (rV a i i)) (rI a i))) (pP (AF (EQ (BK (rV a i i)) (pB a i))) (jR (Xr a a i) a) (AI (AB (λj=>UG j (Xr a a i) (nrF a i j))) AG (eW a (Xr a a i)) (BX (FE i)) (DN (FE i) (IH (Xr a a i))))))) (KI (λj=>FH (Sr a) (AH (Rt a) (EF (Ri a)) (Mb (BA j i) (VE a) (Vx a) (UX a) (ZE (XN a) (VR a) (Ae a) (Ec a) (Ah a) (Qb a) (λk=>En k a) (CF (Aa a) (YQ a) (Ab a) (eW a (Xr a a i)) (λk=>LS k (Bv a) (nrF a j k) (upd1 (Xr a a i) (FE i) (Rc (EQ (BH (rV a i i)) (rI a i)) (EQ (BK (rV a i i)) (pB a i))) k)) AG (YB a) (Sr a) (Rt a))))) (ED j (Uj a)) 50 j i))) (λj=>Kk (Mb (AY (Dm a j) (VJ (Ri a))) (VE a) (Vx a) (UX a) (ZE (XN a) (VR a) (Ae a) (Ec a) (Ah a) (Qb a) (λk=>En k a) (UT (Aa a) (YQ a) (Ab a) (YB a) (AB (λk=>LS k (Bv a) (nrB a j k) (nrF a i k))) AG (Sr a) (Rt a)))) j (Uj a)) (λj=>Fe j (Uj a) (Lj (Dm a j)) (Qq (HZ (APL a j) (Ot a)) (CE (Ym a j) (Ot a)) (HZ (Dm a j) (Ri a)) (NH (Ym a j) (Ot a) (HZ (Dm a j) (Ri a)) (AF (Dm a j)) (AF (LH (BH (nrB a j (Ym a j))) (pB a (rE a j)))) (pP (AF (LH (BK (nrB a j (Ym a j))) (rI a (rE a j)))) (jR (Bs a j) a) (AI (AB (λk=>UG k (Bs a j) (nrB a j k))) AG (eW a (Bs a j)) (BX (Dm a j)) (DN (Dm a j) (IH (Bs a j))))))) (KI (λk=>Fv (Mb (Ld (Dm a k) (Dm a j)) (VE a) (Vx a) (UX a) (ZE (XN a) (VR a) (Ae a) (Ec a) (Ah a) (Qb a) (λl=>En l a) (CF (Aa a) (YQ a) (Ab a) (eW a (Bs a j)) (λl=>LS l (Bv a) (nrB a k l) (upd1 (Bs a j) (Dm a j) (Rc (LH (BH (nrB a j (Ym a j))) (pB a (rE a j))) (LH (BK (nrB a j (Ym a j))) (rI a (rE a j)))) l)) AG (YB a) (Sr a) (Rt a)))) (ED k (Uj a)) k j)) (BL AG (YX (jR (Bs a j) a) (Nq (AB (λk=>UG k (Bs a j) (nrB a j k))) (eW a (Bs a j)) (λk=>XP k (Bv a) (nrB a j k) (Bs a j)) (GW (IH (Bs a j))) IP)) (Ow (jR (xB a a) a) (QG (Ya (Ia (xB a a)) (Bs a j)) (VE a) (EW a) (UX a) (XN a) (VR a) (Ae a) (λk=>GP k (EW a)) (VQ (Ah a) (Qb a) (λk=>En k a) (Aa a) (YQ a) (Ab a) (jR (xB a a) a) (AB (λk=>UG k (xB a a) (nrB a j k))))))))))))))):=by kernel_rfl
theorem CYY(a:DkS)(h:a.l.length=a.w.c.ms.length/\1<=a.w.c.ms.length/\a.w.c.ms.length<=40):CEN a:=by
 obtain⟨hl,h1,h2⟩:=h
 have e1:wr ((a.w.c.ms.length:Int)-1)=((a.w.c.ms.length-1:Nat):Int):=by unfold wr;rw[Ap (by omega) (by omega)];omega
 have e2:IntKind.i64.wrap ((a.w.c.ms.length:Int)-1)=((a.w.c.ms.length-1:Nat):Int):=e1
 have gl:(gapL a.w).length=a.w.c.ms.length-1:=rng_length _ _
 have gg:∀{j:Nat},j<a.w.c.ms.length-1->gD (gapL a.w) j=OG a.w j:=λhj=>FF _ _ _ hj
 have lo:∀k,(OG a.w k).lo=IntKind.i64.wrap (a.w.c.p.lo*IntKind.i64.wrap ((gD a.w.c.ms (k+1)).pl-(gD a.w.c.ms k).pl)):=λ_=>rfl
 have hi1:∀k,a.w.sp k=true->(OG a.w k).hi=200000000:=λk h=>by unfold OG;rw[h];rfl
 have hi0:∀k,a.w.sp k=false->(OG a.w k).hi=IntKind.i64.wrap (a.w.c.p.hi*IntKind.i64.wrap ((gD a.w.c.ms (k+1)).pl-(gD a.w.c.ms k).pl)):=λk h=>by unfold OG;rw[h];rfl
 have ws:∀{k:Nat},k<40->IntKind.i64.wrap ((k:Int)+1)=((k+1:Nat):Int):=λh=>II (by omega)
 rw[CJY]<;> delta MD tJ Iv BH BK DY RD RU Mr EM EO CH IH AB CJ CE AY OV CG MY CW FV NL HD KA UI IG EB FX EC GY GX GR GG DV FO FU KI IP Me hd84 LW HM IV YU KM WU ED NR BN YV WT Qu Rc Qr Qj Lg bX Bv lT AH CK IW AX JE AI BC AV AF IK M7 IN BI GJ MK YX Sz Qq Mi lW AQ JB BB AC BZ CN Eh EW BF AE AO BD HK DD AZ DC BG BR BE BS BJ JQ Ch AR BQ IS UT Mb LY BV HF ZK CI OC EQ Yv BL AS BM CY Oc BY ER FL CF AG IE HR BX TV KL CU GW YS KJ DN GD CX OT OR Cx OE LH Av DF DU HY MZ DR OU HG OD QQ EA Ql DT LR Gi KQ FE FW Qe AT ADY SK HN ZX MJ tD ZN ZS IT DX HE OF CR EZ JJ BA ZR BP WK OM NF RG Fs AU DO DI CS WX HU WO BO BW JH JG AL AN AM GP ID HQ XK VX Ct ZP FK MQ KX JC ARO MN DK VI IU LS SC Bt FT EF Gb VW XI Eb VD HI FA TF TQ TO SN CQ VJ HZ KS HS XP EH EJ EI RE EY RL JY PO FH ML Ib OZ BAT Fo Eo VU Bb Dt JK KC Do JL IF ON Ha HX Hd NH YB PF TE HV Dm LF VE UC En MI NJ Fh Ff MF WJ Gw UX YQ VG VR LP kZ VZ XN Fx Kf PI YP Bs Ab XB YM Va Cl Aa Kd Ah Ik Pd Es Ae RJ YG Ud Cd Uj Ec RR Fy VQ Hh He Vn QN Vx Qv Ep Sy Ll Lj Jz Xn Qb eO Ot Ia uR Rt UG Kt Sr Ln Dw QG APL Ri Ed Fa Dg jD Wz Gc Ym Ld pP rB pY ZE Fv Gv Fb gF eW fY Xr lP Kc Lf Kk jR It Hi sA sK Fe fN Nq jV pB qT Oz Pj Rq rI rE Hq Sf Ih Xu Ow Mv oC rS rV cN nZ Yc Ya xB J8;simp only[CC,eq_self,implies_true,forall_const];simp only[e1,e2,gl,hl]
 refine⟨by omega,⟨⟨default,trivial⟩,⟨λh0=>?_,λh0=>⟨default,by omega⟩⟩,λk hk=>⟨λhlt=>?_,λhge=>⟨default,by omega,Nat.le_refl _,λj hj=>by rw[gg hj];exact⟨rfl,rfl⟩⟩⟩⟩,⟨default,trivial⟩,⟨0,⟨rfl,λi hi=>?_⟩,Nat.zero_le _⟩,λk hk=>⟨λhlt=>?_,λhge=>⟨⟨0,⟨?_,λi hi=>?_⟩,Nat.zero_le _⟩,λj hj=>⟨λhlt=>?_,λhlt=>?_⟩⟩⟩⟩
 ·simp only[ws (show (0:Nat)<40 by omega),Int.toNat_natCast]
  refine⟨by omega,by omega,by omega,λh=>⟨by simp,1,⟨rfl,rfl,rfl,λi hi=>?_⟩,by omega,by omega⟩,λh=>⟨by simp,1,⟨rfl,rfl,rfl,λi hi=>?_⟩,by omega,by omega⟩⟩
  ·obtain rfl:i=0:=by omega
   exact⟨lo 0,hi1 0 h⟩
  ·obtain rfl:i=0:=by omega
   exact⟨lo 0,hi0 0 h⟩
 ·simp only[ws (show k<40 by omega),Int.toNat_natCast]
  refine⟨by omega,by omega,by omega,λh=>⟨⟨by omega,(λh=>by cases h),by omega,by omega⟩,k+1,⟨rfl,rfl,rfl,λi hi=>?_⟩,by omega,by omega⟩,λh=>⟨⟨by omega,(λh=>by cases h),by omega,by omega⟩,k+1,⟨rfl,rfl,rfl,λi hi=>?_⟩,by omega,by omega⟩⟩
  ·by_cases q:i<k
   ·simp only[q,decide_true,cond_true,and_self]
   ·obtain rfl:i=k:=by omega
    simp only[q,decide_false,cond_false]
    exact⟨lo i,hi1 i h⟩
  ·by_cases q:i<k
   ·simp only[q,decide_true,cond_true,and_self]
   ·obtain rfl:i=k:=by omega
    simp only[q,decide_false,cond_false]
    exact⟨lo i,hi0 i h⟩
 ·by_cases q:i=0
  ·subst q;exact⟨rfl,rfl⟩
  ·have:¬ i<=0:=by omega
   simp only[nrF,this,decide_false,cond_false,and_self]
 ·simp only[ws (show k<40 by omega)]
  refine⟨by omega,⟨by omega,by omega,by omega,by omega,λi hi=>by rw[FF _ _ _ hi];exact⟨rfl,rfl⟩,by omega,by omega⟩,k+1,⟨rfl,λi hi=>?_⟩,by omega,by omega⟩
  have e:=BKD a (k:=k) (i:=i) (by omega) (by omega)
  rw[gg (by omega),e,hl];exact⟨rfl,rfl⟩
 ·rw[Ap (by omega) (by omega)];omega
 ·obtain rfl:k=a.w.c.ms.length-1:=by omega
  have q1:decide (i<=a.w.c.ms.length-1)=true:=by rw[decide_eq_true_eq];omega
  unfold nrB nrF;rw[q1]
  by_cases q:a.w.c.ms.length-1-0<=i
  ·have q2:a.w.c.ms.length-1-i=0:=by omega
   have q3:i=a.w.c.ms.length-1:=by omega
   simp only[q,decide_true,cond_true,q2,bkM];rw[<-q3];exact⟨rfl,rfl⟩
  ·simp only[q,decide_false,cond_false,cond_true,and_self]
 ·have g0:(a.w.c.ms.length:Int)-2-j=((a.w.c.ms.length-2-j:Nat):Int):=by omega
  have g1:IntKind.i64.wrap (((a.w.c.ms.length-2-j:Nat):Int)+1)=((a.w.c.ms.length-2-j+1:Nat):Int):=ws (by omega)
  simp only[g0,g1,Int.toNat_natCast]
  refine⟨⟨by omega,by omega,by omega,by omega,by omega,by omega,λi hi=>by rw[FF _ _ _ hi];exact⟨rfl,rfl⟩,by omega,by omega⟩,j+1,⟨?_,λi hi=>?_⟩,by omega,by omega⟩
  ·rw[Ap (by omega) (by omega)];omega
  ·have e:=BMX a (j:=j) (i:=i) hl (by omega) (by omega)
   rw[gg (by omega),e,hl];exact⟨rfl,rfl⟩
 ·have q:j=a.w.c.ms.length-1:=by omega
  have eq1:∀i,i<a.w.c.ms.length->gD (XS a.w a.l) i=nrB a j i:=λi hi=>by
   unfold XS;rw[FF _ _ _ (by omega),hl]
   have q2:decide (a.w.c.ms.length-1-j<=i)=true:=by rw[decide_eq_true_eq];omega
   unfold nrB;rw[q2];rfl
  have nl:(XS a.w a.l).length=a.w.c.ms.length:=by unfold XS;rw[rng_length,hl]
  refine⟨⟨λi hi=>by rw[FF _ _ _ hi];exact⟨rfl,rfl⟩,λi hi=>by rw[FF _ _ _ hi];exact⟨rfl,rfl⟩,by omega⟩,nl,?_,?_⟩
  ·congr 1
   exact BGD (by rw[nl,rng_length]) λi hi=>by rw[eq1 i (by omega),FF _ _ _ (by omega)]
  ·exact⟨nl,λi hi=>by rw[eq1 i (by omega)];exact⟨rfl,rfl⟩⟩
theorem CLR:AW Try.prog No (C_narO.spec dDkS):=Je C_narO BTI [(0,2016)] [] AVF (λ_=>by kernel_rfl) (λ_=>AA BOO (AA AKC (AA BUE (AA CHN AK)))) (λa h=>CYY a h) (λa=>BMJ bO (CFY a) rfl rfl AK X9 (by kernel_rfl) (by kernel_rfl)) _
def C_timO:Ctr:={ ro:=[100,101],α:=Dk,xs:=λ_=>[.bptr 100 0],L:=λw=>dkL w,val:=λw=>.tup [.own 0 2 0 (XS w (Ov w.c)).length,.bool ((XS w (Ov w.c)).all Od)],keep:=λw=>dkK w ++ [(0,.live (rowS (XS w (Ov w.c))))],pre:=λw=>[(1<=w.c.ms.length/\w.c.ms.length<=40/\nsIn w.c)/\Mg w.c=true] }
def CDX:Ann:={ ann 19 [(BFU,C_all.spec sX),(AIF,C_not.spec sX),(No,C_narO.spec dDkS)] with E:=[100,101] }
def CHI(w:Dk):Prop:=ES Try.prog CDX AIC (AJ AIC) (C_timO.xs w) (AD (C_timO.L w)) (C_timO.val w) (C_timO.keep w) [(0,5048)] []
theorem CKC(w:Dk):(CHI w)=(LQ (WC w) (WR w) (YO w) (YI w) (YE w) (UZ (BN w) (λi=>AT i (BN w) (jC w i) (lM w i) (Lw w i) (Kq w i) (lA w i) (Ls w i) (Lv w i)) (λi=>JG i w) w (DI (kS w) (WC w) (WR w) (YO w) (YI w) (YE w) (uT w) (λi=>JL i (BN w)) (VP (BN w) (λi=>AU i (BN w) (jJ w i) (lO w i) (Kq w i) (Lw w i) (kX w i) (Lv w i) (Ls w i)) (λi=>JG i w) (HQ w) (K1 w) (F5 w)))) (FV (not (Ze (Pk w))) VS (LQ (WC w) (WR w) (YO w) (YI w) (YE w) (UZ (BN w) (λi=>AT i (BN w) (jC w i) (lM w i) (Lw w i) (Kq w i) (lA w i) (Ls w i) (Lv w i)) (λi=>JG i w) w (DI (kS w) (WC w) (WR w) (YO w) (YI w) (YE w) (uT w) (λi=>JL i (BN w)) (VP (BN w) (λi=>AU i (BN w) (jJ w i) (lO w i) (Kq w i) (Lw w i) (kX w i) (Lv w i) (Ls w i)) (λi=>JG i w) (HQ w) (AH (K1 w) (F5 w) (KM (λi=>Ro (WK (BN w) i) i (BN w)))) (IA (RJ (Uy w)) (λi=>Kt i (Uy w)) (WC w) (WR w) (YO w) (YI w) (YE w) (BW (BN w)) (Vw (BN w) (λi=>AT i (BN w) (jC w i) (lM w i) (Lw w i) (Kq w i) (lA w i) (Ls w i) (Lv w i)) (Ui w) (HQ w) (kS w) (Bh (λi=>AU i (BN w) (jJ w i) (lO w i) (Kq w i) (Lw w i) (kX w i) (Lv w i) (Ls w i)) (λi=>JG i w) (BN w) (HQ w) (Te (OM (Uy w)) (BN w)) (K1 w) (F5 w))))))) (Ow (ML (XS w (H4 w)) (Lt (Pk w) w (Uy w))) (DI (Ya (Ia (XS w (H4 w))) (Lt (Pk w) w (Uy w))) (WC w) (WR w) (YO w) (YI w) (YE w) (oM w) (λi=>GP i (BN w)) (VQ (HG (BN w)) (HI (BN w)) (λi=>JG i w) (nY w) (HQ w) (RL (BN w)) (ML (XS w (H4 w)) (Lt (Pk w) w (Uy w))) (XQ (XS w (H4 w)) (Lt (Pk w) w (Uy w))))))))):=by kernel_rfl
theorem BTV:AW Try.prog mQ (C_timO.spec sX):=Je C_timO (λ_=>CDX) [(0,5048)] [] BMI (λ_=>by kernel_rfl) (λ_=>AA BAV (AA BPE (AA CLR AK))) (λ(w:Dk) h=>by
 obtain⟨⟨h1,h2,h3⟩,h4⟩:(1<=w.c.ms.length/\w.c.ms.length<=40/\nsIn w.c)/\Mg w.c=true:=h
 show CHI w;rw[CKC]<;> delta MD BH BK DY EM EO CH IH AB CJ CE AY OV CG CW FV HD KA EB FX EC GY GX GR GG DV FO FU Me hd84 LW VS YU KM WU BN YV WT Ze cD AH CK IW AX JE AI BC AV AF IK IN BI GJ AQ JB BB AC BZ CN Eh BF MC AE AO BD HK DD LZ AZ DC BR BE BS BJ Ch AR BQ LY SZ BV HF ZK CI OC Yv BL AS BM CY Oc BY CF AG IE BX TV KL CU YS DN GD CX OT OR Cx OE Av FQ DF DU HY DR OU HG OD QQ EA Ql LR Gi KQ FW Qe AT yV ZS IT HE OF CR WK OM NF RG Fs AU DO DI WO BO BW Zq JG AL AN AM GP ID HQ XK VX Ct NP MQ KX MN DK VI LS SC FT QD VW Eb HI TF TO HZ KS HS Gr XP EH EJ EI RL ML Fo Eo Do JL IA Ha TE Pk Fh Ff MF WJ Gw Te WR VZ WC YO YI Pe Kd YE LQ UV RJ Ci VQ aP Uy ZB Sy Ls Lw Ia Io Kt Gd Lv Lx XQ Kq Lt Jt Pq VP UZ kS Xd jJ lO Ui Xb kX Ow jC Vw lM lA nY Ro oM Ya F5 K1 uT H4 Bh;simp only[CC,eq_self,implies_true,forall_const,FR,fK,h4]
 exact⟨⟨h1,h2⟩,(λh=>by cases h),⟨h1,h2,h3⟩,QM _,h1,h2⟩) (λ_=>Kp rfl rfl) _
def dIs1:List AVal->Heap->Option (List Int×List (Nat×Nat)×List Nat)
 |[y],H=>match tL y H with
  |some (l,f)=>some (l,[],f)
  |none=>none
 |_,_=>none
def C_cloI:Ctr:={ α:=List Int,xs:=λl=>[.d (GB l)],val:=λl=>.d (GB l),keep:=λ_=>[],pre:=λl=>[l.length<4611686018427387904] }
def BZH:Ann:=ann 8 []
def BZY(l:List Int):Prop:=ES Try.prog BZH T1 (AJ T1) (C_cloI.xs l) (AD []) (C_cloI.val l) (C_cloI.keep l) [] []
theorem CJU(l:List Int):(BZY l)=(FY (HU 0 (FP l)) (PF (YM AG Af) (And IP (GQ 0 l Af)) (Jk (FP l)) (Mn (FP l)) (Nv (FP l) 8)) (EV l (BG (FP l))) (AB (λi=>LJ i l l (QI i)))):=by kernel_rfl
end Go.Bal

namespace Go.Bal
open Go Go.Sym Go.Proofs
def nilN:DVal:=.list 0 0 (λ_=>default) false
def BRR:Ann:={ ann 8 [] with md:=λid=>if id=3 then some (λk=>if k=0 then 4 else 0) else none }
def BTD(_x:One):Prop:=ES Try.prog BRR T1 (AJ T1) [.d nilN] (AD []) (.d (GB ([]:List Int))) [] [] []
abbrev QT:=@List.nil Int
abbrev BTJ:=@default Bool instInhabitedBool
abbrev kB:=Ik (LP 0)
abbrev oW a:=And a a
attribute [go_sem] QT BTJ kB oW
theorem CAE(_x:One):(BTD _x)=(FY (oW AG) (PF (Ik Af) kB (Jk 0) (CW 0 9223372036854775807) 0) AG (AB (λi=>AV i 0 (YU (Xg (FS QT i)) (Value.bool (N6 (bX i 0) BTJ BTJ)))))):=by kernel_rfl
def C_clI:Ctr:={ α:=List Int,xs:=λl=>[.d (GB l)],val:=λl=>.d (GB l),keep:=λ_=>[],pre:=λl=>[l.length<1000000] }
theorem CYS:AW Try.prog AIV (C_clI.spec dIs1):=okT C_clI (λ(l:List Int) (h:l.length<1000000)=>by
 rcases Nat.eq_zero_or_pos l.length with h0 | h0
 ·obtain rfl:l=[]:=List.length_eq_zero_iff.1 h0
  have q:FnT Try.prog AIV [.d nilN] (AD []) (.d (GB ([]:List Int))) []:=by
   refine Wk (A:=BRR) (ren:=[]) (fz:=[]) BFC (by kernel_rfl) AK ?_
   show BTD default;rw[CAE]<;> delta MD N6 Iv RU CH AB CJ CE CW IP FS LW YU bX QT BTJ AH AI AV oW BI AG EA IT Xg VD SN FY PF LP YM Ik Af Jk kB;simp only[CC,eq_self,implies_true,forall_const]
   exact⟨⟨λh=>absurd h (Nat.lt_irrefl 0),(λh=>by cases h),by decide,by decide⟩,λi hi=>absurd hi (Nat.not_lt_zero _)⟩
  refine q.weak (CVG ?_)
  simp only[nilN,GB,lst,SG]
  refine⟨.inr trivial,rfl,?_,λi hi=>absurd hi (Nat.not_lt_zero _)⟩
  intro h;cases h
 ·refine Wk (A:=BZH) (ren:=[]) (fz:=[]) BFC (by kernel_rfl) AK ?_
  show BZY l;rw[CJU]<;> delta MD Iv CH AB CJ CE AY CW IG IP FP FS LW IV ED Lg AH AI AV BI BG GQ EV AG HO IC EA HH IT HU LJ VD SN FY VU PF YM QI Af Jk Nv Mn;simp only[CC,eq_self,implies_true,forall_const]
  exact⟨h0,⟨(λh=>by cases h),by omega,by omega⟩,λi hi=>by rw[Nat.sub_zero]⟩) _
end Go.Bal
