/- Package rating: Proves, any knots. -/
import Derived.Test.YtoihhodbkimedaaGreatRatPv
import Derived.Test.YtoihhodbkimedaaGreatSym10
set_option linter.unusedVariables false
set_option linter.unusedSimpArgs false
namespace Go.Bal
open Go Go.Sym Go.Proofs
structure PV where
 g:List Gau
 m:Int
 k:List (List Int)
 o:Bool
def bS(a:PV):List (List Gau):=a.k.map λz=>By ⟨a.g,z⟩
def Hp(a:PV):List (List Gau):=(mL (bS a)).map λx=>gD (bS a) x.toNat
def pvN(a:PV):Bool:=a.k.all λz=>(Gr ⟨a.g,z⟩).2
def bV(a:PV):Int:=bif AV a.g==0 then (bif decide (a.k.length>24) then 3 else bif pvN a then 0 else 2) else AV a.g
def badP(T:List (List Gau))(i:Nat):Bool:=bif (DC (gD T i)).2 then true else bif decide ((i:Int)>0) then decide ((gD (gD T (i-1)) ((gD T (i-1)).length-1)).st>(gD (gD T i) 0).st) else false
def qN(T:List (List Gau)):Nat->Nat->Bool
 |0,_=>true
 |n+1,i=>bif badP T i then false else qN T n (i+1)
def pQ(a:PV):Bool:=bif bV a==0 then (bif qN (Hp a) (Hp a).length 0 then decide (a.m<=wr (a.k.length+1)) else false) else false
def eLLd(a:PV):AVal:=.d (eLL a.k)
def pvV(a:PV):AVal:=.tup [.bool (pQ a),.int (bV a)]
def pv8n(a:PV):Shape:={ α:=One,dflt:=default,T:=λ_=>⟨[(0,.d (BX a.g)),(1,.int a.m),(2,eLLd a),(9,.d ZU),(24,eLLd a),(25,.int a.k.length),(26,.int 0)],[]⟩,inv:=λ_=>AV a.g=0/\a.k.length<=24/\0<a.k.length,meas:=λ_=>a.k.length+1 }
def pv8o(a:PV):Shape:={ α:=Nat,dflt:=0,T:=λi=>⟨[(0,.d (BX a.g)),(1,.int a.m),(2,eLLd a),(9,.own 201 1 0 i),(24,eLLd a),(25,.int a.k.length),(26,.int i)],[(201,.live (.row 1 i λj=>BX (By ⟨a.g,gD a.k j⟩)))]⟩,inv:=λi=>AV a.g=0/\a.k.length<=24/\1<=i/\i<=a.k.length/\∀j,j<i->(Gr ⟨a.g,gD a.k j⟩).2=true,meas:=λi=>a.k.length-i,again:=[(201,14048)] }
def CSM(a:PV):Shape:={ α:=One,dflt:=default,T:=λ_=>⟨[(1,.int a.m),(2,eLLd a),(9,.own 201 1 0 (bS a).length)],[(201,.live (rowS (bS a)))]⟩,inv:=λ_=>AV a.g=0/\a.k.length<=24/\pvN a=true,meas:=λ_=>0 }
def CUR(a:PV):Shape:={ α:=One,dflt:=default,T:=λ_=>⟨[(1,.int a.m),(2,eLLd a),(9,.own 201 1 0 (Hp a).length)],[(201,.live (rowS (Hp a)))]⟩,inv:=λ_=>AV a.g=0/\a.k.length<=24/\pvN a=true,meas:=λ_=>0 }
def CUL(a:PV):Shape:={ α:=Nat,dflt:=0,T:=λi=>⟨[(1,.int a.m),(2,eLLd a),(9,.own 201 1 0 (Hp a).length),(45,.own 201 1 0 (Hp a).length),(46,.int (Hp a).length),(47,.int i)],[(201,.live (rowS (Hp a)))]⟩,inv:=λi=>AV a.g=0/\a.k.length<=24/\pvN a=true/\i<=(Hp a).length/\qN (Hp a) (Hp a).length 0=qN (Hp a) ((Hp a).length-i) i,meas:=λi=>(Hp a).length-i }
def CKI(a:PV):Ann:={ ann 87 [(nS,C_Check.spec WJ),(xO,C_named.spec dGK),(AVF,C_ssS.spec dSSt),(Wx,C_isKnot.spec dGsK)] with mt:=λid=>id==13,loops:=λid=>if id=8 then some [pv8n a,pv8o a] else if id=17 then some [CUL a] else none,cut:=λid=>if id=15 then some [CSM a] else if id=16 then some [CUR a] else none }
def CKD(a:PV):Prop:=BQ Try.prog (CKI a) rI (AI rI) [.d (BX a.g),.int a.m,eLLd a] (AD []) (pvV a) [] [] []
abbrev JN:=PV.g
abbrev Ex:=pQ
abbrev Sx:=bV
abbrev eF a:=CP (Sx a)
abbrev LQ a:=HF (PV.k a)
abbrev MO a:=LI (Hp a)
abbrev nC a:=EL (pvN a)
abbrev Mh a:=Gw (LQ a)
abbrev tN a:=YC (JN a)
abbrev Tt a b:=SI (Hp a) b
abbrev Bd a b c:=XY a b (CX c) (λi=>PG i c)
abbrev TM a b:=IF (PV.k a) b
abbrev Fx a b c d:=Bd a (LQ b) (TM c d)
abbrev Am a:=BL (LQ a)
abbrev Ml a b:=Tt a (BP b)
abbrev sD a:=not (Kt a)
abbrev Ph a b:=SI (bS a) b
abbrev AFB a b c:=GK.mk (JN a) (TM b c)
abbrev Uh a b c:=By (AFB a b c)
abbrev Ug a b c:=tV (JN a) (TM b c)
abbrev Tk a:=AM (PV.m a)
attribute [go_sem] JN Ex Sx eF LQ MO nC Mh tN Tt Bd TM Fx Am Ml sD Ph AFB Uh Ug Tk
theorem COZ(a:PV):(CKD a)=(VE (JN a) (ZK (JN a)) (UK (Cq (JN a)) (Ex a) (Sx a) (Ao (JN a)) (UK (KO (AQ (LQ a)) 24) (Ex a) (Sx a) 3 (And (KC (QA (MY (JN a) (iB (Tk a) (Am a) (AK (λi=>Fx i a a i)) AL DH (BE (LQ a)) BY)) (Ob (JN a) (Mh a) (MW (LQ a)))) (XB (λi=>HP (Ob (JN a) (Mh a) (MW (LQ a))) (Jf (AQ (LQ a))) (DE ML (TQ (LQ a)) (sX (CE (JN a)) (BB (JN a)) (TM a HB) (RV (CT (TM a 0)) (CT (TM a HB)) (TM a HB)) (FN (JN a)) (HS (TM a 0))) (UK (not (Mv (Ug a a HB))) (Ex a) (Sx a) 2 (And (SR Qj 1 MP MU ZC) (FB (λj=>LN (YT (JN a) (Tk a) (Am a) (AKK (AK (λk=>Fx k a a k)) AL (GE j) (Am a) (BE (LQ a)) (EA j 0) (GE j) (AK (λk=>TU k j (Uh a a k) (cS (Ug a a HB)))))) (CU (tN a) (Mh a) (NB j) (BU j (LQ a)) (λk=>Pe k j (Rb (AFB a a k)))) (LQ a) j (EO (LQ a))))))) Sv)) (λi=>NJ (CU (tN a) (Mh a) (NB i) (BU i (LQ a)) (λj=>Pe j i (Rb (AFB a a j)))) (UI i (LQ a)) (IR i (LQ a)) (Do (CE (JN a)) (BB (JN a)) (TM a i) (FN (JN a)) (HS (TM a i))) (UK (not (Mv (Ug a a i))) (Ex a) (Sx a) 2 (And (SR (YV i 1) 1 MD (OC i) (ZL i 24)) (FB (λj=>EV (YT (JN a) (Tk a) (Am a) (AKK (AK (λk=>Fx k a a k)) AL (HC j i) (Am a) (BE (LQ a)) (BS j i) (HC j i) (AK (λk=>XY k j (CF (Uh a a k) (Kr (Mz k i) (Uh a a k) (CI (cS (Ug a a i))))) (λl=>BR l (Uh a a k) (ZZ (AH (Uh a a k) l) (JQ k i (AH (Uh a a k) l) (AH (cS (Ug a a i)) l)) (Uh a a k) l (JQ k i (AP (Uh a a k) l) (AP (cS (Ug a a i)) l)) l (JQ k i (AS (Uh a a k) l) (AS (cS (Ug a a i)) l)))))))) (CU (tN a) (Mh a) (NB j) (BU j (LQ a)) (λk=>Pe k j (Rb (AFB a a k)))) (LQ a) j i)))) (QA (GQ (PV.m a) (Am a) (Yz (AK (λj=>Fx j a a j)) AL (AR (LI (bS a)) i) (AK (λj=>Lq j (bS a) (Ph a j) (Uh a a j))))) (Ob (JN a) (Mh a) (nC a))))) (XB (λi=>ME (Ob (JN a) (Mh a) (nC a)) (Gj (Xb (Ny (bS a) (λj=>Ph a j) (bS a)) (AK (λj=>Be j (bS a) (λk=>Ph a k) (λk=>Ph a k) j (Ph a j))) (Gw (Hg (bS a) (λj=>Ph a j))) (AK (λj=>AT j (Hg (bS a) (λk=>Ph a k)) (MW (CI (mI (bS a) (λk=>Ph a k) j)))))) (QA (GQ (PV.m a) (Am a) (CU (AK (λj=>Fx j a a j)) AL (AR (MO a) (LI (bS a))) (YO (MO a) (bS a) (λj=>Ph a j)) (λj=>TU j (MO a) (Tt a j) (XV (SG (bS a) (λk=>Ph a k)) (mL (SG (bS a) (λk=>Ph a k))) j)))) (Ob (JN a) (Mh a) (nC a)))) (Lt (Ob (JN a) (Mh a) (nC a)) (DJ (λj=>BJ (GQ (PV.m a) (Am a) (dH (AK (λk=>Fx k a a k)) (BL (MO a)) (YM (BL (MO a)) (BE (MO a)) (BD j) (λk=>Uo k (MO a) (Tt a k) (λl=>GF l (Tt a k)))))) (tN a) (Mh a) (nC a) (BU j (MO a)) (JT (qN (Hp a) (MO a) 0) (qN (Hp a) (EF (MO a) j) j))) (λj=>HP (AF (tN a) (Mh a) (nC a) (BU j (MO a)) (JT (qN (Hp a) (MO a) 0) (qN (Hp a) (EF (MO a) j) j))) (UI j (MO a)) (DE (IR j (MO a)) (HN (BP j) (MO a)) (AF (CE (Ml a j)) (BB (Ml a j)) (And (FN (Ml a j)) (RZ (Ml a j))) (EX (gJ (sD (Ml a j)) j) (DV (US j) (MO a))) (SC (EX (gJ (sD (Ml a j)) j) (HN (RI (US j)) (MO a))) (EX (gJ (sD (Ml a j)) j) (DV (US j) (MO a))) (EX (gJ (sD (Ml a j)) j) (ON (JZ (EY (Tt a (RI (US j))))) (Tt a (RI (US j))))) (EX (gJ (sD (Ml a j)) j) (TL (CI (Ml a j)))))) (Is (MS (sD (Ml a j)) (FU (vC j) (KO (AH (Tt a (RI (US j))) (UO (EY (Tt a (RI (US j)))))) (AH (Ml a j) HB)))) (Ex a) (eF a) (FB (λk=>EV (GQ (PV.m a) (Am a) (dH (AK (λl=>Fx l a a l)) (BL (MO a)) (YM (BL (MO a)) (BE (MO a)) (BS k j) (λl=>Uo l (MO a) (Tt a l) (λm=>GF m (Tt a l)))))) (AF (tN a) (Mh a) (nC a) (BU k (MO a)) (JT (qN (Hp a) (MO a) 0) (qN (Hp a) (EF (MO a) k) k))) (MO a) k j)))) (And (Mj (Ex a) (PV.m a) (Kz (LQ a))) (eF a))))))))))):=by kernel_rfl
def pvZ(g:List Gau)(m:Int):PV:=⟨g,m,[],false⟩
def nilK:List (List Int):=[]
def kE:AVal:=.d (eLL nilK)
def pv8e(g:List Gau)(m:Int):Shape:={ α:=One,dflt:=default,T:=λ_=>⟨[(0,.d (BX g)),(1,.int m),(2,kE),(9,.d ZU),(24,kE),(25,.int 0),(26,.int 0)],[]⟩,inv:=λ_=>AV g=0,meas:=λ_=>0 }
def CTF(g:List Gau)(m:Int):Shape:={ α:=One,dflt:=default,T:=λ_=>⟨[(1,.int m),(2,kE),(9,.d ZU),(45,.d ZU),(46,.int 0),(47,.int 0)],[]⟩,inv:=λ_=>AV g=0,meas:=λ_=>0 }
structure GM where
 g:List Gau
 m:Int
def CLB(a:GM):Ann:={ ann 87 [(nS,C_Check.spec WJ),(xO,C_named.spec dGK),(AVF,C_ssS.spec dSSt),(Wx,C_isKnot.spec dGsK)] with mt:=λid=>id==13,loops:=λid=>if id=8 then some [pv8e a.g a.m] else if id=17 then some [CTF a.g a.m] else none }
def CKC(a:GM):Prop:=BQ Try.prog (CLB a) rI (AI rI) [.d (BX a.g),.int a.m,kE] (AD []) (pvV (pvZ a.g a.m)) [] [] []
abbrev aA:=GM.g
attribute [go_sem] aA
theorem CRC(a:GM):(CKC a)=(VE (aA a) (ZK (aA a)) (UK (Cq (aA a)) (Ex (pvZ (aA a) (GM.m a))) (Sx (pvZ (aA a) (GM.m a))) (Ao (aA a)) (And (QA (MY (aA a) (dH (AM (GM.m a)) (AK (λi=>Bd i 0 (IF nilK i))) (RS DH AL (λi=>Bd i 0 (IF nilK i)) (AO VF (UM (HF nilK))) BY))) (YC (aA a))) (Lt (YC (aA a)) (AG (IW DH FP) (QA (dH (AM (GM.m a)) (AK (λi=>Bd i 0 (IF nilK i))) (SC DH AL BY BY)) (YC (aA a))) (XB (λi=>ME (YC (aA a)) (Mj (Ex (pvZ (aA a) (GM.m a))) (GM.m a) (Kz (HF nilK))) (eF (pvZ (aA a) (GM.m a)))))))))):=by kernel_rfl
def dLLr(n:Nat)(r:Nat->DVal):List (List Int):=MK n λi=>match r i with
 | .list _ m h _=>MK m λj=>KT (h j)
 |_=>default
def dPV:List AVal->Heap->Option (PV×List (Nat×Nat)×List Nat)
 |[x,.d (.v (.int .i64 m)),.own id _ _ n],H=>match aE x H,H id with
  |some (l,f),.live (.row _ _ r)=>some (⟨l,m,dLLr n r,true⟩,[(100,id)],f)
  |_,_=>none
 |[x,.d (.v (.int .i64 m)),.d (.list _ n r _)],H=>match aE x H with
  |some (l,f)=>some (⟨l,m,dLLr n r,false⟩,[],f)
  |none=>none
 |_,_=>none
def C_Proves:Ctr:={ ro:=[100],α:=PV,xs:=λa=>[.d (BX a.g),.int a.m,bif a.o then .own 100 1 0 a.k.length else eLLd a],L:=λa=>bif a.o then [(100,BNQ a.k)] else [],val:=pvV,keep:=λa=>bif a.o then [(100,.live (BNQ a.k))] else [],pre:=λa=>[(a.g.length<1073741824/\a.k.length<1073741824)/\∀i,i<a.k.length->(gD a.k i).length<1073741824] }
theorem AXU{b:GK}(h:(Gr b).2=true):Sp b=true/\(Gr b).1=By b:=by
 unfold Gr at h ⊢
 cases hc:Sp b with
 |false=>rw[hc] at h;cases h
 |true=>exact⟨rfl,rfl⟩
theorem Dz(a:PV):(bS a).length=a.k.length:=by unfold bS;rw[List.length_map]
theorem AYZ{a:PV}{i:Nat}(h:i<a.k.length):gD (bS a) i=By ⟨a.g,gD a.k i⟩:=BBG _ h
theorem APF(S:List (List Gau)):(mL S).length=S.length:=by unfold mL;rw[(UY _ _).length_eq,RW]
theorem CHO{S:List (List Gau)}{i:Nat}(h:i<S.length):0<=gD (mL S) i/\gD (mL S) i<S.length:=by
 have h1:gD (mL S) i∈WH S.length:=(UY (DM S) (WH S.length)).mem_iff.1 (CV (by show i<(mL S).length;rw[APF];exact h))
 unfold WH at h1
 obtain⟨j,hj,e⟩:=List.mem_map.1 h1
 have:=List.mem_range.1 hj
 rw[<-e];exact⟨Int.natCast_nonneg _,Int.ofNat_lt.2 this⟩
theorem BAT(a:PV):(Hp a).length=a.k.length:=by unfold Hp;rw[List.length_map,APF,Dz]
theorem BBE{a:PV}{i:Nat}(h:i<a.k.length):gD (Hp a) i=gD (bS a) (gD (mL (bS a)) i).toNat:=BBG _ (by rw[APF,Dz];exact h)
theorem BXZ{a:PV}{i:Nat}(h:i<a.k.length):∃j,j<a.k.length/\gD (Hp a) i=By ⟨a.g,gD a.k j⟩:=by
 have:=CHO (S:=bS a) (i:=i) (by rw[Dz];exact h)
 rw[Dz] at this
 exact⟨(gD (mL (bS a)) i).toNat,by omega,by rw[BBE h,AYZ (by omega)]⟩
theorem ACO{a:PV}:pvN a=true↔∀i,i<a.k.length->(Gr ⟨a.g,gD a.k i⟩).2=true:=by
 unfold pvN
 rw[List.all_eq_true]
 constructor
 ·exact λh i hi=>h _ (CV hi)
 ·intro h z hz
  obtain⟨i,hi,rfl⟩:=NL hz
  exact h i hi
theorem BFO{a:PV}(hc:AV a.g=0)(hk:a.k.length<=24){i:Nat}(hi:i<a.k.length)(h:(Gr ⟨a.g,gD a.k i⟩).2=false):pQ a=false/\bV a=2:=by
 have hn:pvN a=false:=by
  cases hq:pvN a with
  |false=>rfl
  |true=>rw[ACO.1 hq i hi] at h;cases h
 have e:bV a=2:=by
  unfold bV;rw[hc,hn,decide_eq_false (by omega)];rfl
 exact⟨by unfold pQ;rw[e];rfl,e⟩
theorem CCZ{a:PV}(hc:AV a.g=0)(hk:a.k.length<=24)(hn:pvN a=true):bV a=0/\pQ a=bif qN (Hp a) (Hp a).length 0 then decide (a.m<=wr (a.k.length+1)) else false:=by
 have e:bV a=0:=by
  unfold bV;rw[hc,hn,decide_eq_false (by omega)];rfl
 exact⟨e,by unfold pQ;rw[e];rfl⟩
theorem BNZ{a:PV}(hc:AV a.g=0)(hk:24<a.k.length):pQ a=false/\bV a=3:=by
 have e:bV a=3:=by unfold bV;rw[hc,decide_eq_true (show a.k.length>24 by omega)];rfl
 exact⟨by unfold pQ;rw[e];rfl,e⟩
theorem COQ{a:PV}(h1:a.g.length<1073741824)(h3:a.k.length<=24)(hn:pvN a=true):okSs (bS a):=by
 refine⟨by rw[Dz];exact h3,λi hi=>?_⟩
 rw[Dz] at hi
 rw[AYZ hi]
 have:=cZ h1 (AXU (ACO.1 hn i hi)).1
 unfold By;rw[List.length_map]
 have:2<=(gD a.k i).length:=this.1
 omega
theorem CRU(a:PV)(h1:a.g.length<1073741824)(h2:0<a.k.length)(h3:a.k.length<1073741824)(h4:∀i,i<a.k.length->(gD a.k i).length<1073741824):CKD a:=by
 rw[COZ]<;> delta JT qD F3 XL EE EC DP GD WI JG CS AO KO AR CG AK BV BZ CM AQ BU DD ES LX EF NK Ba UM Sv CI EZ FB LZ FP VY Ep EU LM IY Vu XB Jv Mz AAK cS Mv HF IF yN LI SI JN Ex Sx AG GT JO GV IE DG AF AT AH FF Jn CA CF BH AM CT BL GQ JM Cm Ky SC Vr Xb Yz AP XV HA BR AS AW DF DX EO DU CR AX BP BC HH GA CQ HL IC AN AL RI JZ AZ Bl iB AKK EP SG GI BE ED AY BW TM HU EL XY GC HI CX JD FZ II JA HG CL CU GU EA LQ Hb EX HY CP FU RH DV ZZ EM GH PG IH sO GF FE BJ BN BM EW FM FK FD LN MW ON HC Hg HB SL MI Ks LL Gw Ac MS cG CE EV IA NT DH BS JS ZX SD JQ BY NQ BD LC HN BB EY FA TU HZ NB DY Cz HP HS GE Db FN RN DE DJ UO MO Ey pL FI OA ME VO Ob tV JJ MC RV Tt ML OR YC Bd UP Is RO IR QA KC Ao TQ MY YS Am MD Az Ku RZ gL MU dH SR OC US MP mI Mh Kt NJ AFB YO Ml UI QP UK Fx YM ZL Ph TL ZK vC Rb ZC YV Tk Uh Cq Gj sX Lq Ug Kr Ny Pe YT VE nC Kz Qj Uo Mj Lt tN gJ eF Do Be sD Jf;simp only[CC,eq_self,implies_true,forall_const,CKV,Bool.not_not,Int.toNat_zero]
 have hT:=BAT a
 refine⟨by omega,λhc=>?_,λhc=>?_⟩
 ·have e0:(AV a.g==0)=false:=by simpa using hc
  have e:bV a=AV a.g:=by unfold bV;rw[e0];rfl
  exact⟨by unfold pQ;rw[e,e0];rfl,e⟩
 have c0:AV a.g=0:=by simpa using hc
 have one:∀{i:Nat},i<a.k.length->(Gr ⟨a.g,gD a.k i⟩).2=true->(Gr ⟨a.g,gD a.k i⟩).1=By ⟨a.g,gD a.k i⟩:=λ_ h=>(AXU h).2
 refine⟨λh=>BNZ c0 (by omega),λ_=>⟨⟨⟨default,c0,by omega,h2⟩,λ_=>⟨λ_=>⟨⟨by omega,by omega⟩,⟨h1,h4 0 h2⟩,λhn=>BFO c0 (by omega) h2 hn,λhn=>⟨⟨by omega,by omega,by omega,by omega,by omega⟩,1,⟨rfl,(CN (a:=0) (by omega)).symm,rfl,λi hi=>?_⟩,⟨c0,by omega,by omega,by omega,λj hj=>?_⟩,by omega⟩⟩,λhge=>by omega⟩,λi ⟨_,_,i1,i2,i3⟩=>⟨λhlt=>⟨⟨by omega,by omega⟩,⟨h1,h4 i (by omega)⟩,λhn=>BFO c0 (by omega) (by omega) hn,λhn=>⟨⟨by omega,λh=>(by cases h),by omega,by omega⟩,i+1,⟨rfl,(CN (by omega)).symm,rfl,λj hj=>?_⟩,⟨c0,by omega,by omega,by omega,λj hj=>?_⟩,by omega⟩⟩,λhge=>⟨default,⟨?_,?_,λj hj=>?_⟩,c0,by omega,?_⟩⟩⟩,λ⟨_,_,hn⟩=>?_⟩⟩
 ·rw[show i=0 by omega,one h2 hn];exact⟨rfl,λ_ _=>⟨rfl,rfl,rfl⟩⟩
 ·rw[show j=0 by omega];exact hn
 ·by_cases hji:j<i
  ·rw[decide_eq_true hji];exact⟨rfl,λ_ _=>⟨rfl,rfl,rfl⟩⟩
  ·rw[decide_eq_false hji,show j=i by omega,one (by omega) hn];exact⟨rfl,λ_ _=>⟨rfl,rfl,rfl⟩⟩
 ·by_cases hji:j<i
  ·exact i3 j hji
  ·rw[show j=i by omega];exact hn
 ·rw[Dz];omega
 ·rw[Dz];omega
 ·rw[Dz] at hj;rw[AYZ hj];exact⟨rfl,λ_ _=>⟨rfl,rfl,rfl⟩⟩
 ·exact ACO.2 λj hj=>i3 j (by omega)
 ·have hS:=COQ h1 (by omega) hn
  obtain⟨eE,eM⟩:=CCZ c0 (by omega) hn
  have tin:∀{i:Nat},i<a.k.length->(gD (Hp a) i).length<1073741824/\(∀g∈gD (Hp a) i,RK g)/\2<=(gD (Hp a) i).length:=λ{i} hi=>by
   obtain⟨j,hj,e⟩:=BXZ hi
   have hb:=ACO.1 hn j hj
   have:=BID (a:=⟨a.g,gD a.k j⟩) (NV c0).2 h1
   rw[(AXU hb).2] at this
   have h5:=cZ h1 (AXU hb).1
   rw[e]
   refine⟨this.1,this.2,?_⟩
   unfold By;rw[List.length_map];exact h5.1
  refine⟨⟨hS,default,⟨by rw[Dz];exact hT,by rw[Dz];exact hT,λi hi=>?_⟩,c0,by omega,hn⟩,λ_=>⟨⟨0,rfl,c0,by omega,hn,Nat.zero_le _,rfl⟩,λi ⟨_,_,_,i2,i3⟩=>⟨λhlt=>?_,λhge=>?_⟩⟩⟩
  ·rw[BBE (by omega)];exact⟨rfl,λ_ _=>⟨rfl,rfl,rfl⟩⟩
  ·have hi:i<a.k.length:=by omega
   obtain⟨t1,t2,t3⟩:=tin hi
   have pos:∀{x:Bool},(x&&decide ((i:Int)>0))=true->0<i:=λ{x} h=>by
    have:=(Bool.and_eq_true _ _ ▸ h).2
    have:=of_decide_eq_true this;omega
   have e1:0<i->IntKind.i64.wrap ((i:Int)-1)=((i-1:Nat):Int):=λh=>by rw[JH (by omega) (by omega)];omega
   have e2:0<i->IntKind.i64.wrap (((gD (Hp a) (i-1)).length:Int)-1)=(((gD (Hp a) (i-1)).length-1:Nat):Int):=λh=>by
    obtain⟨u1,u2,u3⟩:=tin (i:=i-1) (by omega)
    rw[JH (by omega) (by omega)];omega
   have eb:badP (Hp a) i=(bif (DC (gD (Hp a) i)).snd then true else bif decide ((i:Int)>0) then decide ((gD (gD (Hp a) (IntKind.i64.wrap ((i:Int)-1)).toNat) (IntKind.i64.wrap (((gD (Hp a) (IntKind.i64.wrap ((i:Int)-1)).toNat).length:Int)-1)).toNat).st>(gD (gD (Hp a) i) 0).st) else false):=by
    unfold badP
    by_cases h0:0<i
    ·rw[e1 h0,Int.toNat_natCast,e2 h0,Int.toNat_natCast]
    ·rw[decide_eq_false (show ¬(i:Int)>0 by omega)];rfl
   refine⟨⟨⟨by omega,by omega⟩,by omega⟩,⟨⟨t1,t2⟩,λh=>?_,λh=>?_,λh=>?_,λh=>?_,λh=>?_,λh=>⟨by omega,by omega⟩⟩,λhb=>?_,λhb=>?_⟩
   ·have:=pos h;rw[e1 this];omega
   ·have:=pos h;rw[e1 this];omega
   ·have:=pos h;rw[e1 this];omega
   ·have:=pos h;rw[e1 this];omega
   ·have h0:=pos h
    obtain⟨u1,u2,u3⟩:=tin (i:=i-1) (by omega)
    rw[e1 h0,Int.toNat_natCast,e2 h0];omega
   ·rw[<-eb] at hb
    refine⟨?_,eE⟩
    rw[eM,i3,show (Hp a).length-i=((Hp a).length-(i+1))+1 by omega]
    unfold qN;rw[hb];rfl
   ·rw[<-eb] at hb
    refine⟨i+1,(CN (by omega)).symm,⟨c0,by omega,hn,by omega,?_⟩,by omega⟩
    rw[i3,show (Hp a).length-i=((Hp a).length-(i+1))+1 by omega]
    conv=>lhs;unfold qN
    rw[hb];rfl
  ·refine⟨?_,eE⟩
   rw[eM,i3,show (Hp a).length-i=0 by omega];rfl
theorem CSE(a:GM)(h1:a.g.length<1073741824):CKC a:=by
 rw[CRC]<;> delta JT F3 XL EE EC DP WI CS AO AR CG AK BV BZ CM AQ LX UM CI EZ LZ FP Ep Vu XB HF IF Ex Sx aA AG GT GV DG AF AT AH FF CA CF BH AM BL GQ JM Cm SC AP BR AS AW DF DX DU CR HH GA HL AN AL AZ EP HU XY CX JD JA CL Hb HY CP RH EM PG GF FE BN EW FM FK Ks CE DH JS BY LC BB DY FI ME IW YC Bd Is QA Ao MY VF dH RS QP UK ZK Cq VE Kz Mj Lt eF;simp only[CC,eq_self,implies_true,forall_const]
 refine⟨by omega,λhc=>?_,λhc=>?_⟩
 ·have e0:(AV a.g==0)=false:=by simpa using hc
  have e:bV (pvZ a.g a.m)=AV a.g:=by unfold bV pvZ;rw[e0];rfl
  exact⟨by unfold pQ;rw[e,e0];rfl,e⟩
 ·have c0:AV a.g=0:=by simpa using hc
  obtain⟨eE,eM⟩:=CCZ (a:=pvZ a.g a.m) c0 (by show 0<=24;omega) rfl
  exact⟨⟨default,rfl,c0⟩,λ_=>⟨⟨default,c0⟩,λ_=>⟨by rw[eM];rfl,eE⟩⟩⟩
theorem CRD(k:List (List Int)):dLLr k.length (λi=>CZ (gD k i))=k:=by
 unfold dLLr
 show (MK k.length λi=>MK (gD k i).length λj=>KT (QH (gD (gD k i) j)))=k
 simp only[dInt_eInt,RB]
theorem CRF(a:PV)(h1:a.g.length<1073741824)(h2:a.k.length<1073741824)(h3:∀i,i<a.k.length->(gD a.k i).length<1073741824):FnT Try.prog ACJ [.d (BX a.g),.int a.m,eLLd a] (AD []) (pvV a) []:=by
 cases hk:a.k with
 |nil=>
  have e:a=⟨a.g,a.m,[],a.o⟩:=by rw[<-hk]
  rw[e]
  exact Mn (A:=CLB ⟨a.g,a.m⟩) (L:=[]) (keep:=[]) (ren:=[]) (fz:=[]) ATS (by kernel_rfl) (AC jM (AC ABB (AC CAT (AC iS AE)))) (CSE ⟨a.g,a.m⟩ h1)
 |cons z t=>
  exact Mn (A:=CKI a) (L:=[]) (keep:=[]) (ren:=[]) (fz:=[]) ATS (by kernel_rfl) (AC jM (AC ABB (AC CAT (AC iS AE)))) (CRU a h1 (by rw[hk];exact Nat.succ_pos _) h2 h3)
theorem BQM:AJ Try.prog ACJ (C_Proves.spec dPV):=okT C_Proves (λ(a:PV) h=>by
 obtain⟨⟨h1,h2⟩,h3⟩:(a.g.length<1073741824/\a.k.length<1073741824)/\∀i,i<a.k.length->(gD a.k i).length<1073741824:=h
 obtain⟨g,m,k,o⟩:=a
 have hf:=CRF ⟨g,m,k,o⟩ h1 h2 h3
 cases o with
 |false=>exact hf
 |true=>
  refine FnT.lend (fz:=[100]) (xs:=[.d (BX g),.int m,.own 100 1 0 k.length]) (L:=[(100,BNQ k)]) hf rfl ?_ rfl ?_ _ ?_
  ·show [_,_,AVal.d (.list 1 k.length (λj=>CZ (gD k (0+j))) false)]=_
   simp only[Nat.zero_add];rfl
  ·show 0+k.length<=k.length;omega
  ·exact⟨rfl,trivial⟩) _
end Go.Bal
