/- Package rating: Proves, any knots. -/
import Derived.Test.YtpidmmilfdcepaaGreatRT13
set_option linter.unusedVariables false
set_option linter.unusedSimpArgs false
namespace Go.Bal
open Go Go.Sym Go.Proofs
structure PV where
 g:List Gau
 m:Int
 k:List (List Int)
 o:Bool
def Yh(a:PV):List (List Gau):=a.k.map λz=>Ax ⟨a.g,z⟩
def Fg(a:PV):List (List Gau):=(Ic (Yh a)).map λx=>gD (Yh a) x.toNat
def pvN(a:PV):Bool:=a.k.all λz=>(Cn ⟨a.g,z⟩).2
def bF(a:PV):Int:=bif AL a.g==0 then (bif decide (a.k.length>24) then 3 else bif pvN a then 0 else 2) else AL a.g
def badP(T:List (List Gau))(i:Nat):Bool:=bif (EV (gD T i)).2 then true else bif decide ((i:Int)>0) then decide ((gD (gD T (i-1)) ((gD T (i-1)).length-1)).st>(gD (gD T i) 0).st) else false
def sR(T:List (List Gau)):Nat->Nat->Bool
 |0,_=>true
 |n+1,i=>bif badP T i then false else sR T n (i+1)
def Rs(a:PV):Bool:=bif bF a==0 then (bif sR (Fg a) (Fg a).length 0 then decide (a.m<=wr (a.k.length+1)) else false) else false
def eLLd(a:PV):AVal:=.d (eLL a.k)
def pvV(a:PV):AVal:=.tup [.bool (Rs a),.int (bF a)]
def pv8n(a:PV):Shape:={ α:=One,dflt:=default,T:=λ_=>⟨[(0,.d (AT a.g)),(1,.int a.m),(2,eLLd a),(9,.d NC),(24,eLLd a),(25,.int a.k.length),(26,.int 0)],[]⟩,inv:=λ_=>AL a.g=0/\a.k.length<=24/\0<a.k.length,meas:=λ_=>a.k.length+1 }
def pv8o(a:PV):Shape:={ α:=Nat,dflt:=0,T:=λi=>⟨[(0,.d (AT a.g)),(1,.int a.m),(2,eLLd a),(9,.own 201 1 0 i),(24,eLLd a),(25,.int a.k.length),(26,.int i)],[(201,.live (.row 1 i λj=>AT (Ax ⟨a.g,gD a.k j⟩)))]⟩,inv:=λi=>AL a.g=0/\a.k.length<=24/\1<=i/\i<=a.k.length/\∀j,j<i->(Cn ⟨a.g,gD a.k j⟩).2=true,meas:=λi=>a.k.length-i,again:=[(201,14048)] }
def CZC(a:PV):Shape:={ α:=One,dflt:=default,T:=λ_=>⟨[(1,.int a.m),(2,eLLd a),(9,.own 201 1 0 (Yh a).length)],[(201,.live (rowS (Yh a)))]⟩,inv:=λ_=>AL a.g=0/\a.k.length<=24/\pvN a=true,meas:=λ_=>0 }
def CZH(a:PV):Shape:={ α:=One,dflt:=default,T:=λ_=>⟨[(1,.int a.m),(2,eLLd a),(9,.own 201 1 0 (Fg a).length)],[(201,.live (rowS (Fg a)))]⟩,inv:=λ_=>AL a.g=0/\a.k.length<=24/\pvN a=true,meas:=λ_=>0 }
def CZE(a:PV):Shape:={ α:=Nat,dflt:=0,T:=λi=>⟨[(1,.int a.m),(2,eLLd a),(9,.own 201 1 0 (Fg a).length),(45,.own 201 1 0 (Fg a).length),(46,.int (Fg a).length),(47,.int i)],[(201,.live (rowS (Fg a)))]⟩,inv:=λi=>AL a.g=0/\a.k.length<=24/\pvN a=true/\i<=(Fg a).length/\sR (Fg a) (Fg a).length 0=sR (Fg a) ((Fg a).length-i) i,meas:=λi=>(Fg a).length-i }
def CMP(a:PV):Ann:={ ann 87 [(9,C_Check.spec NU),(77,C_named.spec dGK),(79,C_ssS.spec dSSt),(78,C_isKnot.spec dGsK)] with mt:=λid=>id==13,loops:=λid=>if id=8 then some [pv8n a,pv8o a] else if id=17 then some [CZE a] else none,cut:=λid=>if id=15 then some [CZC a] else if id=16 then some [CZH a] else none }
def COU(a:PV):Prop:=AS ZP (CMP a) Tryz.f37 (AE Tryz.f37) [.d (AT a.g),.int a.m,eLLd a] (AB []) (pvV a) [] [] []
abbrev GX:=PV.g
abbrev jM:=bF
abbrev N2 a:=CL (jM a)
abbrev HI a:=FH (PV.k a)
abbrev NR a:=CJ (Fg a)
abbrev zT a:=IN (pvN a)
abbrev Yz a:=AZK (HI a)
abbrev Xb a:=Gg (GX a)
abbrev Wh a b:=bM (Fg a) b
abbrev BKT a b c:=Ku a b (IW c) (EZ c)
abbrev FZ a b:=KJ (PV.k a) b
abbrev Iu a b c d:=BKT a (HI b) (FZ c d)
abbrev Dn a:=DR (HI a)
abbrev Io a:=AK (PV.m a)
abbrev Tq a:=KU (Rs a)
abbrev Sv a b:=Wh a (AQ b)
abbrev AMO a b c:=GK.mk (GX a) (FZ b c)
abbrev qN a b c:=Ax (AMO a b c)
abbrev BCZ a b c d e f g h:=BK a b c d a e f g h
abbrev uG a b:=CR a (HI b)
attribute [go_sem] GX jM N2 HI NR zT Yz Xb Wh BKT FZ Iu Dn Io Tq Sv AMO qN BCZ uG
theorem CVK(a:PV):(COU a)=(SK (zF (GX a)) (J8 (GX a)) (Tq a) (eR (jM a) (GX a)) (FD (NO (HI a) 24) (Tq a) (BM (jM a) 3) (Ir (WX (Ur (λi=>BD (Af (GX a) (I9 (Io a) (Dn a) (AG (λj=>Iu j a a j)) AF AN (BP (HI a)) BB)) (Xb a) (Yz a) (SA (HI a)))) (Ep (λi=>So (IB (Xb a) (Yz a) 0 (HI a)) 0 (BO (HI a)) (UG (VL (HI a)) (Sd (AY (GX a)) (BJ (GX a)) (FZ a DW) (AG (λj=>Wt j (FI (FZ a 0)) (FI (FZ a DW)) j (FZ a DW) j)) (HV (GX a)) (LV (FZ a 0))) (not (dM (GX a) (FZ a DW))) (Tq a) (aS (jM a)) (And (Sx 1 YM 24) (EI (λj=>Je (XC (GX a) (Io a) (Dn a) (BCZ (AG (λk=>Iu k a a k)) AF (PI j) (Dn a) (BP (HI a)) (oW j) (PI j) (AG (λk=>Gt k j (qN a a k) (V4 (GX a) (FZ a DW)))))) (FE (Xb a) (Yz a) (Nq j) j (HI a) (AG (λk=>Nw k j (cW (AMO a a k))))) (HI a) j (CN (HI a)))))) zA)) (λi=>Ee (FE (Xb a) (Yz a) (Nq i) i (HI a) (AG (λj=>Nw j i (cW (AMO a a j))))) i (HI a) (UG (uG i a) (Sd (AY (GX a)) (BJ (GX a)) (FZ a i) (CM (FZ a i)) (HV (GX a)) (LV (FZ a i))) (not (dM (GX a) (FZ a i))) (Tq a) (aS (jM a)) (And (U5 (wA i) YM i 24) (EI (λj=>EO (XC (GX a) (Io a) (Dn a) (BCZ (AG (λk=>Iu k a a k)) AF (QM j i) (Dn a) (BP (HI a)) (AJ j i) (QM j i) (AG (λk=>Ku k j (Uy (qN a a k) (H4 (ANN k i) (CH (qN a a k)) (CH (V4 (GX a) (FZ a i))))) (AG (λl=>Pg l (qN a a k) (EF k i (BL (qN a a k) l) (BL (V4 (GX a) (FZ a i)) l)) (EF k i (DF (qN a a k) l) (DF (V4 (GX a) (FZ a i)) l)) (EF k i (DG (qN a a k) l) (DG (V4 (GX a) (FZ a i)) l)))))))) (FE (Xb a) (Yz a) (Nq j) j (HI a) (AG (λk=>Nw k j (cW (AMO a a k))))) (HI a) j i)))) (Ur (λj=>BD (AO (Io a) (Dn a) (AQD (AG (λk=>Iu k a a k)) AF (DU (CJ (Yh a)) i) (AG (λk=>Gt k (CJ (Yh a)) (bM (Yh a) k) (qN a a k))))) (Xb a) (Yz a) (zT a))))) (LZ (Nu (GX a) (HI a) 24 (zT a)) (And (EN (ATD (DU (RV (Yh a)) (CJ (Yh a))) (AG (λi=>Gt i (RV (Yh a)) (kP (Yh a) i) (bM (Yh a) i))) (qT (RV (Yh a))) (AG (λi=>HJ i (RV (Yh a)) (jZ (kP (Yh a) i)))))) (Ur (λi=>BD (CY (Io a) (Dn a) (AG (λj=>Iu j a a j)) AF (DU (NR a) (CJ (Yh a))) (DU (NR a) (RV (Yh a))) (AG (λj=>Gt j (NR a) (Wh a j) (dQ (gJ (Yh a)) j)))) (Xb a) (Yz a) (zT a)))) (lN (Nu (GX a) (HI a) 24 (zT a)) (HU (λi=>HF (AO (Io a) (Dn a) (rX (AG (λj=>Iu j a a j)) AF (DR (NR a)) AF (BP (NR a)) (BX i) (DR (NR a)) (AG (λj=>Ku j (NR a) (BQ (Wh a j)) (AP (Wh a j)))))) (Xb a) (Yz a) (zT a) i (NR a) (Va (sR (Fg a) (NR a) 0) (sR (Fg a) (TJ (NR a) i) i))) (λi=>Ee (FE (Xb a) (Yz a) (zT a) i (NR a) (Va (sR (Fg a) (NR a) 0) (sR (Fg a) (TJ (NR a) i) i))) i (NR a) (UG (dR i (NR a) i) (AIJ (AY (Sv a i)) (BJ (Sv a i)) (And (HV (Sv a i)) (Sn (Sv a i))) (fQ (not (To (Sv a i))) (Ru i) (TV i (NR a))) (fQ (not (To (Sv a i))) (Ru i) (IU (TD i) (NR a))) (fQ (not (To (Sv a i))) (Ru i) (Gf (Dv (CH (Wh a (TD i)))) (Wh a (TD i)))) (fQ (not (To (Sv a i))) (Ru i) (Wg (Rm 0 (Sv a i))))) (JR (not (To (Sv a i))) (Iv i (Oa (BL (Wh a (TD i)) (Uh (CH (Wh a (TD i))))) (BL (Sv a i) DW)))) (Tq a) (N2 a) (EI (λj=>EO (AO (Io a) (Dn a) (rX (AG (λk=>Iu k a a k)) AF (DR (NR a)) AF (BP (NR a)) (AJ j i) (DR (NR a)) (AG (λk=>Ku k (NR a) (BQ (Wh a k)) (AP (Wh a k)))))) (FE (Xb a) (Yz a) (zT a) j (NR a) (Va (sR (Fg a) (NR a) 0) (sR (Fg a) (TJ (NR a) j) j))) (NR a) j i))) (And (nO (Rs a) (PV.m a) (P7 (HI a))) (N2 a))))))))):=by kernel_rfl
def pvZ(g:List Gau)(m:Int):PV:=⟨g,m,[],false⟩
def nilK:List (List Int):=[]
def kE:AVal:=.d (eLL nilK)
def pv8e(g:List Gau)(m:Int):Shape:={ α:=One,dflt:=default,T:=λ_=>⟨[(0,.d (AT g)),(1,.int m),(2,kE),(9,.d NC),(24,kE),(25,.int 0),(26,.int 0)],[]⟩,inv:=λ_=>AL g=0,meas:=λ_=>0 }
def DBH(g:List Gau)(m:Int):Shape:={ α:=One,dflt:=default,T:=λ_=>⟨[(1,.int m),(2,kE),(9,.d NC),(45,.d NC),(46,.int 0),(47,.int 0)],[]⟩,inv:=λ_=>AL g=0,meas:=λ_=>0 }
structure GM where
 g:List Gau
 m:Int
def CPM(a:GM):Ann:={ ann 87 [(9,C_Check.spec NU),(77,C_named.spec dGK),(79,C_ssS.spec dSSt),(78,C_isKnot.spec dGsK)] with mt:=λid=>id==13,loops:=λid=>if id=8 then some [pv8e a.g a.m] else if id=17 then some [DBH a.g a.m] else none }
def COM(a:GM):Prop:=AS ZP (CPM a) Tryz.f37 (AE Tryz.f37) [.d (AT a.g),.int a.m,kE] (AB []) (pvV (pvZ a.g a.m)) [] [] []
abbrev iI:=GM.g
abbrev gT a b c d:=BKT a b (KJ c d)
attribute [go_sem] iI gT
theorem CUL(a:GM):(COM a)=(SK (zF (iI a)) (J8 (iI a)) (Tq (pvZ (iI a) (GM.m a))) (eR (jM (pvZ (iI a) (GM.m a))) (iI a)) (Ir (xS (Af (iI a) (I9 (AK (GM.m a)) AF (AG (λi=>gT i 0 nilK i)) AF AN (Yd 0 (FH nilK)) BB)) (Gg (iI a))) (PY (Gg (iI a)) (AO (dH AN HO) (xS (ARZ (AK (GM.m a)) AF (AG (λi=>gT i 0 nilK i)) AF AN AF BB BB) (Gg (iI a))) (Ep (λi=>LZ (Gg (iI a)) (nO (Rs (pvZ (iI a) (GM.m a))) (GM.m a) (P7 (FH nilK))) (N2 (pvZ (iI a) (GM.m a))))))))):=by kernel_rfl
def sW(n:Nat)(r:Nat->DVal):List (List Int):=HA n λi=>match r i with
 | .list _ m h _=>HA m λj=>EG (h j)
 |_=>default
def dPV:List AVal->Heap->Option (PV×List (Nat×Nat)×List Nat)
 |[x,.d (.v (.int .i64 m)),.own id _ _ n],H=>match Ht x H,H id with
  |some (l,f),.live (.row _ _ r)=>some (⟨l,m,sW n r,true⟩,[(100,id)],f)
  |_,_=>none
 |[x,.d (.v (.int .i64 m)),.d (.list _ n r _)],H=>match Ht x H with
  |some (l,f)=>some (⟨l,m,sW n r,false⟩,[],f)
  |none=>none
 |_,_=>none
def C_Proves:Ctr:={ ro:=[100],α:=PV,xs:=λa=>[.d (AT a.g),.int a.m,bif a.o then .own 100 1 0 a.k.length else eLLd a],L:=λa=>bif a.o then [(100,ACX a.k)] else [],val:=pvV,keep:=λa=>bif a.o then [(100,.live (ACX a.k))] else [],pre:=λa=>[((a.g.length<1073741824/\a.k.length<1073741824)/\(pvN a=true->a.k.length<20))/\∀i,i<a.k.length->(gD a.k i).length<1073741824] }
theorem AVD{b:GK}(h:(Cn b).2=true):Fx b=true/\(Cn b).1=Ax b:=by
 unfold Cn at h ⊢
 cases hc:Fx b with
 |false=>rw[hc] at h;cases h
 |true=>exact⟨rfl,rfl⟩
theorem Bt(a:PV):(Yh a).length=a.k.length:=by unfold Yh;rw[List.length_map]
theorem AZF{a:PV}{i:Nat}(h:i<a.k.length):gD (Yh a) i=Ax ⟨a.g,gD a.k i⟩:=BCC _ h
theorem AKX(S:List (List Gau)):(Ic S).length=S.length:=by unfold Ic;rw[(AAC _ _).length_eq,UK]
theorem CKB{S:List (List Gau)}{i:Nat}(h:i<S.length):0<=gD (Ic S) i/\gD (Ic S) i<S.length:=by
 have h1:gD (Ic S) i∈Il S.length:=(AAC (keyS S) (Il S.length)).mem_iff.1 (BU (by show i<(Ic S).length;rw[AKX];exact h))
 unfold Il at h1
 obtain⟨j,hj,e⟩:=List.mem_map.1 h1
 have:=List.mem_range.1 hj
 rw[<-e];exact⟨Int.natCast_nonneg _,Int.ofNat_lt.2 this⟩
theorem AWD(a:PV):(Fg a).length=a.k.length:=by unfold Fg;rw[List.length_map,AKX,Bt]
theorem BAA{a:PV}{i:Nat}(h:i<a.k.length):gD (Fg a) i=gD (Yh a) (gD (Ic (Yh a)) i).toNat:=BCC _ (by rw[AKX,Bt];exact h)
theorem CCP{a:PV}{i:Nat}(h:i<a.k.length):∃j,j<a.k.length/\gD (Fg a) i=Ax ⟨a.g,gD a.k j⟩:=by
 have:=CKB (S:=Yh a) (i:=i) (by rw[Bt];exact h)
 rw[Bt] at this
 exact⟨(gD (Ic (Yh a)) i).toNat,by omega,by rw[BAA h,AZF (by omega)]⟩
theorem ACC{a:PV}:pvN a=true↔∀i,i<a.k.length->(Cn ⟨a.g,gD a.k i⟩).2=true:=by
 unfold pvN
 rw[List.all_eq_true]
 constructor
 ·exact λh i hi=>h _ (BU hi)
 ·intro h z hz
  obtain⟨i,hi,rfl⟩:=JP hz
  exact h i hi
theorem BKL{a:PV}(hc:AL a.g=0)(hk:a.k.length<=24){i:Nat}(hi:i<a.k.length)(h:(Cn ⟨a.g,gD a.k i⟩).2=false):Rs a=false/\bF a=2:=by
 have hn:pvN a=false:=by
  cases hq:pvN a with
  |false=>rfl
  |true=>rw[ACC.1 hq i hi] at h;cases h
 have e:bF a=2:=by
  unfold bF;rw[hc,hn,decide_eq_false (by omega)];rfl
 exact⟨by unfold Rs;rw[e];rfl,e⟩
theorem BXB{a:PV}(hc:AL a.g=0)(hk:a.k.length<=24)(hn:pvN a=true):bF a=0/\Rs a=bif sR (Fg a) (Fg a).length 0 then decide (a.m<=wr (a.k.length+1)) else false:=by
 have e:bF a=0:=by
  unfold bF;rw[hc,hn,decide_eq_false (by omega)];rfl
 exact⟨e,by unfold Rs;rw[e];rfl⟩
theorem BTD{a:PV}(hc:AL a.g=0)(hk:24<a.k.length):Rs a=false/\bF a=3:=by
 have e:bF a=3:=by unfold bF;rw[hc,decide_eq_true (show a.k.length>24 by omega)];rfl
 exact⟨by unfold Rs;rw[e];rfl,e⟩
theorem CSZ{a:PV}(h1:a.g.length<1073741824)(h3:a.k.length<20)(hn:pvN a=true):okSs (Yh a):=by
 refine⟨by rw[Bt];exact h3,λi hi=>?_⟩
 rw[Bt] at hi
 rw[AZF hi]
 have:=cK h1 (AVD (ACC.1 hn i hi)).1
 unfold Ax;rw[List.length_map]
 have:2<=(gD a.k i).length:=this.1
 omega
theorem CYV(a:PV)(h1:a.g.length<1073741824)(h2:0<a.k.length)(h3:a.k.length<1073741824)(h9:pvN a=true->a.k.length<20)(h4:∀i,i<a.k.length->(gD a.k i).length<1073741824):COU a:=by
 rw[CVK]<;> dsimp only[go_sem];simp only[CC,CU,CEA,Bool.not_not,Int.toNat_zero]
 have hT:=AWD a
 refine⟨by omega,λhc=>?_,λhc=>?_⟩
 ·have e0:(AL a.g==0)=false:=by simpa using hc
  have e:bF a=AL a.g:=by unfold bF;rw[e0];rfl
  exact⟨by unfold Rs;rw[e,e0];rfl,e⟩
 have c0:AL a.g=0:=by simpa using hc
 have one:∀{i:Nat},i<a.k.length->(Cn ⟨a.g,gD a.k i⟩).2=true->(Cn ⟨a.g,gD a.k i⟩).1=Ax ⟨a.g,gD a.k i⟩:=λ_ h=>(AVD h).2
 refine⟨λh=>BTD c0 (by omega),λ_=>⟨⟨⟨default,c0,by omega,h2⟩,λ_=>⟨λ_=>⟨⟨by omega,by omega⟩,⟨h1,h4 0 h2⟩,λhn=>BKL c0 (by omega) h2 hn,λhn=>⟨⟨by omega,by omega,by omega,by omega,by omega⟩,1,⟨rfl,(BF (a:=0) (by omega)).symm,rfl,λi hi=>?_⟩,⟨c0,by omega,by omega,by omega,λj hj=>?_⟩,by omega⟩⟩,λhge=>by omega⟩,λi ⟨_,_,i1,i2,i3⟩=>⟨λhlt=>⟨⟨by omega,by omega⟩,⟨h1,h4 i (by omega)⟩,λhn=>BKL c0 (by omega) (by omega) hn,λhn=>⟨⟨by omega,λh=>(by cases h),by omega,by omega⟩,i+1,⟨rfl,(BF (by omega)).symm,rfl,λj hj=>?_⟩,⟨c0,by omega,by omega,by omega,λj hj=>?_⟩,by omega⟩⟩,λhge=>⟨default,⟨?_,?_,λj hj=>?_⟩,c0,by omega,?_⟩⟩⟩,λ⟨_,_,hn⟩=>?_⟩⟩
 ·rw[show i=0 by omega,one h2 hn];exact⟨rfl,λ_ _=>⟨rfl,rfl,rfl⟩⟩
 ·rw[show j=0 by omega];exact hn
 ·by_cases hji:j<i
  ·rw[decide_eq_true hji];exact⟨rfl,λ_ _=>⟨rfl,rfl,rfl⟩⟩
  ·rw[decide_eq_false hji,show j=i by omega,one (by omega) hn];exact⟨rfl,λ_ _=>⟨rfl,rfl,rfl⟩⟩
 ·by_cases hji:j<i
  ·exact i3 j hji
  ·rw[show j=i by omega];exact hn
 ·rw[Bt];omega
 ·rw[Bt];omega
 ·rw[Bt] at hj;rw[AZF hj];exact⟨rfl,λ_ _=>⟨rfl,rfl,rfl⟩⟩
 ·exact ACC.2 λj hj=>i3 j (by omega)
 ·have hS:=CSZ h1 (h9 hn) hn
  obtain⟨eE,eM⟩:=BXB c0 (by omega) hn
  have tin:∀{i:Nat},i<a.k.length->(gD (Fg a) i).length<1073741824/\(∀g∈gD (Fg a) i,IT g)/\2<=(gD (Fg a) i).length:=λ{i} hi=>by
   obtain⟨j,hj,e⟩:=CCP hi
   have hb:=ACC.1 hn j hj
   have:=BNH (a:=⟨a.g,gD a.k j⟩) (JU c0).2 h1
   rw[(AVD hb).2] at this
   have h5:=cK h1 (AVD hb).1
   rw[e]
   refine⟨this.1,this.2,?_⟩
   unfold Ax;rw[List.length_map];exact h5.1
  refine⟨⟨hS,default,⟨by rw[Bt];exact hT,by rw[Bt];exact hT,λi hi=>?_⟩,c0,by omega,hn⟩,λ_=>⟨⟨0,rfl,c0,by omega,hn,Nat.zero_le _,rfl⟩,λi ⟨_,_,_,i2,i3⟩=>⟨λhlt=>?_,λhge=>?_⟩⟩⟩
  ·rw[BAA (by omega)];exact⟨rfl,λ_ _=>⟨rfl,rfl,rfl⟩⟩
  ·have hi:i<a.k.length:=by omega
   obtain⟨t1,t2,t3⟩:=tin hi
   have pos:∀{x:Bool},(x&&decide ((i:Int)>0))=true->0<i:=λ{x} h=>by
    have:=(Bool.and_eq_true _ _ ▸ h).2
    have:=of_decide_eq_true this;omega
   have e1:0<i->IntKind.i64.wrap ((i:Int)-1)=((i-1:Nat):Int):=λh=>by rw[HL (by omega) (by omega)];omega
   have e2:0<i->IntKind.i64.wrap (((gD (Fg a) (i-1)).length:Int)-1)=(((gD (Fg a) (i-1)).length-1:Nat):Int):=λh=>by
    obtain⟨u1,u2,u3⟩:=tin (i:=i-1) (by omega)
    rw[HL (by omega) (by omega)];omega
   have eb:badP (Fg a) i=(bif (EV (gD (Fg a) i)).snd then true else bif decide ((i:Int)>0) then decide ((gD (gD (Fg a) (IntKind.i64.wrap ((i:Int)-1)).toNat) (IntKind.i64.wrap (((gD (Fg a) (IntKind.i64.wrap ((i:Int)-1)).toNat).length:Int)-1)).toNat).st>(gD (gD (Fg a) i) 0).st) else false):=by
    unfold badP
    by_cases h0:0<i
    ·rw[e1 h0,Int.toNat_natCast,e2 h0,Int.toNat_natCast]
    ·rw[decide_eq_false (show ¬(i:Int)>0 by omega)];rfl
   refine⟨⟨⟨by omega,by omega⟩,by omega⟩,⟨⟨t1,t2⟩,λh=>?_,λh=>?_,λh=>?_,λh=>?_,λh=>?_,λh=>⟨by omega,by omega⟩⟩,λhb=>?_,λhb=>?_⟩
   ·have:=pos h;rw[e1 this];omega
   ·have:=pos h;rw[e1 this];omega
   ·have:=pos h;rw[e1 this];omega
   ·have:=pos h;rw[e1 this];omega
   ·have h0:=pos h
    obtain⟨u1,u2,u3⟩:=tin (i:=i-1) (by omega)
    rw[e1 h0,Int.toNat_natCast,e2 h0];omega
   ·rw[<-eb] at hb
    refine⟨?_,eE⟩
    rw[eM,i3,show (Fg a).length-i=((Fg a).length-(i+1))+1 by omega]
    unfold sR;rw[hb];rfl
   ·rw[<-eb] at hb
    refine⟨i+1,(BF (by omega)).symm,⟨c0,by omega,hn,by omega,?_⟩,by omega⟩
    rw[i3,show (Fg a).length-i=((Fg a).length-(i+1))+1 by omega]
    conv=>lhs;unfold sR
    rw[hb];rfl
  ·refine⟨?_,eE⟩
   rw[eM,i3,show (Fg a).length-i=0 by omega];rfl
theorem CYE(a:GM)(h1:a.g.length<1073741824):COM a:=by
 rw[CUL]<;> dsimp only[go_sem];simp only[CC,CU]
 refine⟨by omega,λhc=>?_,λhc=>?_⟩
 ·have e0:(AL a.g==0)=false:=by simpa using hc
  have e:bF (pvZ a.g a.m)=AL a.g:=by unfold bF pvZ;rw[e0];rfl
  exact⟨by unfold Rs;rw[e,e0];rfl,e⟩
 ·have c0:AL a.g=0:=by simpa using hc
  obtain⟨eE,eM⟩:=BXB (a:=pvZ a.g a.m) c0 (by show 0<=24;omega) rfl
  exact⟨⟨default,rfl,c0⟩,λ_=>⟨⟨default,c0⟩,λ_=>⟨by rw[eM];rfl,eE⟩⟩⟩
theorem CUR(k:List (List Int)):sW k.length (λi=>AZ (gD k i))=k:=by
 unfold sW
 show (HA k.length λi=>HA (gD k i).length λj=>EG (NY (gD (gD k i) j)))=k
 simp only[dInt_eInt,RB]
theorem CVZ(a:PV)(h1:a.g.length<1073741824)(h2:a.k.length<1073741824)(h9:pvN a=true->a.k.length<20)(h3:∀i,i<a.k.length->(gD a.k i).length<1073741824):FnT ZP 37 [.d (AT a.g),.int a.m,eLLd a] (AB []) (pvV a) []:=by
 cases hk:a.k with
 |nil=>
  have e:a=⟨a.g,a.m,[],a.o⟩:=by rw[<-hk]
  rw[e]
  exact WP (A:=CPM ⟨a.g,a.m⟩) (L:=[]) (keep:=[]) (ren:=[]) (fz:=[]) Tryz.func37 (by kernel_rfl) (AA Jx (AA ABG (AA BYB (AA iP AD)))) (CYE ⟨a.g,a.m⟩ h1)
 |cons z t=>
  exact WP (A:=CMP a) (L:=[]) (keep:=[]) (ren:=[]) (fz:=[]) Tryz.func37 (by kernel_rfl) (AA Jx (AA ABG (AA BYB (AA iP AD)))) (CYV a h1 (by rw[hk];exact Nat.succ_pos _) h2 h9 h3)
theorem BUS:AH ZP 37 (C_Proves.spec dPV):=okT C_Proves (λ(a:PV) h=>by
 obtain⟨⟨⟨h1,h2⟩,h9⟩,h3⟩:((a.g.length<1073741824/\a.k.length<1073741824)/\(pvN a=true->a.k.length<20))/\∀i,i<a.k.length->(gD a.k i).length<1073741824:=h
 obtain⟨g,m,k,o⟩:=a
 have hf:=CVZ ⟨g,m,k,o⟩ h1 h2 h9 h3
 cases o with
 |false=>exact hf
 |true=>
  refine FnT.lend (fz:=[100]) (xs:=[.d (AT g),.int m,.own 100 1 0 k.length]) (L:=[(100,ACX k)]) hf rfl ?_ rfl ?_ _ ?_
  ·show [_,_,AVal.d (.list 1 k.length (λj=>AZ (gD k (0+j))) false)]=_
   simp only[Nat.zero_add];rfl
  ·show 0+k.length<=k.length;omega
  ·exact⟨rfl,trivial⟩) _
theorem BCM{α β:Type}[Inhabited α](f:α->β)(l:List α):(List.range l.length).map (λi=>f (gD l i))=l.map f:=by
 apply List.ext_getElem (by simp)
 intro i h1 h2
 simp at h1
 simp[gD,List.getD_eq_getElem?_getD,h1]
theorem ABB(a:PV):(Fg a).Perm (Yh a):=by
 have h1:=(AAC (keyS (Yh a)) (Il (Yh a).length)).map λx:Int=>gD (Yh a) x.toNat
 have e:(Il (Yh a).length).map (λx:Int=>gD (Yh a) x.toNat)=Yh a:=by
  unfold Il
  rw[List.map_map]
  have:=BCM (λx:List Gau=>x) (Yh a)
  simpa[Function.comp_def] using this
 rw[e] at h1;exact h1
theorem AOA{a:PV}:∀i,i+1<(Fg a).length->fsS (gD (Fg a) i)<=fsS (gD (Fg a) (i+1)):=λi hi=>by
 rw[AWD] at hi
 have:=APN (keyS (Yh a)) (Il (Yh a).length) i (i+1) (by omega) (by rw[UK,Bt];omega)
 rw[BAA (by omega),BAA (by omega)]
 exact this
theorem AQS{T:List (List Gau)}{i:Nat}:badP T i=false↔(EV (gD T i)).2=false/\(0<i->laS (gD T (i-1))<=fsS (gD T i)):=by
 unfold badP
 cases (EV (gD T i)).2 with
 |true=>exact⟨λh=>(by cases h),λh=>(by cases h.1)⟩
 |false=>
  by_cases h0:0<i
  ·rw[decide_eq_true (show (i:Int)>0 by omega)]
   show decide (laS (gD T (i-1))>fsS (gD T i))=false↔_
   rw[decide_eq_false_iff_not]
   exact⟨λh=>⟨rfl,λ_=>by omega⟩,λh=>by have:=h.2 h0;omega⟩
  ·rw[decide_eq_false (show ¬(i:Int)>0 by omega)]
   exact⟨λ_=>⟨rfl,λh=>absurd h h0⟩,λ_=>rfl⟩
theorem BDO{T:List (List Gau)}:∀(n i:Nat),sR T n i=true↔∀j,i<=j->j<i+n->badP T j=false
 |0,i=>⟨λ_ j h1 h2=>by omega,λ_=>rfl⟩
 |n+1,i=>by
  unfold sR
  cases hb:badP T i with
  |true=>exact⟨λh=>(by cases h),λh=>by rw[h i (Nat.le_refl _) (by omega)] at hb;cases hb⟩
  |false=>
   show sR T n (i+1)=true↔_
   rw[BDO n (i+1)]
   exact⟨λh j h1 h2=>by
    by_cases e:j=i
    ·rw[e];exact hb
    ·exact h j (by omega) (by omega),λh j h1 h2=>h j (by omega) (by omega)⟩
theorem ALP{g:List Gau}{m:Int}{k:List (List Int)}{o:Bool}(hc:AL g=0)(hk:k.length<=24)(hn:∀i,i<k.length->(Cn ⟨g,gD k i⟩).2=true):bF ⟨g,m,k,o⟩=0/\(Rs ⟨g,m,k,o⟩=true↔m<=k.length+1/\(∀s∈Yh ⟨g,m,k,o⟩,¬Can s)/\∀i,i+1<(Fg ⟨g,m,k,o⟩).length->laS (gD (Fg ⟨g,m,k,o⟩) i)<=fsS (gD (Fg ⟨g,m,k,o⟩) (i+1))):=by
 generalize ha:(⟨g,m,k,o⟩:PV)=a
 have hc:AL a.g=0:=by rw[<-ha];exact hc
 have hk:a.k.length<=24:=by rw[<-ha];exact hk
 have hn:∀i,i<a.k.length->(Cn ⟨a.g,gD a.k i⟩).2=true:=by rw[<-ha];exact hn
 have em:m=a.m:=by rw[<-ha]
 have ek:k=a.k:=by rw[<-ha]
 rw[em,ek]
 obtain⟨⟨hl1,hl2⟩,ho⟩:=JU hc
 obtain⟨e1,e2⟩:=BXB hc hk (ACC.2 hn)
 refine⟨e1,?_⟩
 have w:wr ((a.k.length:Int)+1)=(a.k.length:Int)+1:=HL (by omega) (by omega)
 have cn:∀i,i<(Fg a).length->((EV (gD (Fg a) i)).2=false↔¬Can (gD (Fg a) i)):=λi hi=>by
  rw[AWD] at hi
  obtain⟨j,hj,e⟩:=CCP hi
  have:=(BJN (a:=⟨a.g,gD a.k j⟩) (show a.g.length<1073741824 by omega) (hn j hj)).2
  rw[e]
  have hL:=(bR (s:=Ax ⟨a.g,gD a.k j⟩) λx hx=>ho x (this.sub x hx)).1
  rw[<-hL];simp
 rw[e2,w]
 have key:sR (Fg a) (Fg a).length 0=true↔(∀s∈Yh a,¬Can s)/\∀i,i+1<(Fg a).length->laS (gD (Fg a) i)<=fsS (gD (Fg a) (i+1)):=by
  rw[BDO]
  constructor
  ·intro h
   refine⟨λs hs=>?_,λi hi=>?_⟩
   ·obtain⟨i,hi,rfl⟩:=JP ((ABB a).mem_iff.2 hs)
    exact (cn i hi).1 (AQS.1 (h i (Nat.zero_le _) (by omega))).1
   ·exact (AQS.1 (h (i+1) (Nat.zero_le _) (by omega))).2 (Nat.succ_pos _)
  ·rintro⟨h1,h2⟩ j _ hj
   have hj:j<(Fg a).length:=by omega
   refine AQS.2 ⟨(cn j hj).2 (h1 _ ((ABB a).mem_iff.1 (BU hj))),λh0=>?_⟩
   have:=h2 (j-1) (by omega)
   rwa [show j-1+1=j by omega] at this
 cases hq:sR (Fg a) (Fg a).length 0 with
 |true=>
  show decide (a.m<=(a.k.length:Int)+1)=true↔_
  rw[decide_eq_true_iff]
  exact⟨λh=>⟨h,key.1 hq⟩,λh=>h.1⟩
 |false=>exact⟨λh=>(by cases h),λh=>by rw[key.2 h.2] at hq;cases hq⟩
theorem Few.prv{g:List Gau}{b:List Int}{l:List Ln}{k:List (List Int)}(W:Few g b l k)(hc:AL g=0){k':List (List Int)}(hp:k'.Perm k)(m:Int)(o:Bool):bF ⟨g,m,k',o⟩=0/\Rs ⟨g,m,k',o⟩=decide (m<=k.length+1):=by
 have hl:=hp.length_eq
 have hk:k.length<=24:=by
  have:=W.lenk
  have:=W.few
  omega
 have kn:∀z∈k,PC ⟨g,z⟩=true/\(Cn ⟨g,z⟩).2=true/\SetOk g (Ax ⟨g,z⟩)/\¬Can (Ax ⟨g,z⟩):=λz hz=>by
  obtain⟨i,hi,rfl⟩:=JP hz
  have:=W.knot hc (i:=i) (by rw[<-W.lenk];exact hi)
  exact⟨this.tied,this.nm,this.set,this.no⟩
 obtain⟨e1,e2⟩:=ALP (g:=g) (m:=m) (k:=k') (o:=o) hc (by omega) λi hi=>(kn _ (hp.mem_iff.1 (BU hi))).2.1
 refine⟨e1,?_⟩
 have hS:∀s∈Yh ⟨g,m,k',o⟩,¬Can s/\fsS s<laS s:=λs hs=>by
  obtain⟨z,hz,rfl⟩:=List.mem_map.1 hs
  have:=kn z (hp.mem_iff.1 hz)
  exact⟨this.2.2.2,this.2.2.1.lt⟩
 have hq:(Yh ⟨g,m,k',o⟩).Perm (k.map λz=>Ax ⟨g,z⟩):=hp.map _
 have ch:=ACI ((ABB ⟨g,m,k',o⟩).trans hq) (W.apart hc) (λs hs=>(hS s (hq.mem_iff.2 hs)).2) AOA
 by_cases hm:m<=k.length+1
 ·rw[decide_eq_true hm]
  exact e2.2 ⟨by omega,λs hs=>(hS s hs).1,ch⟩
 ·rw[decide_eq_false hm]
  cases hq:Rs ⟨g,m,k',o⟩ with
  |false=>rfl
  |true=>have:=(e2.1 hq).1;omega
def bdG(s:List Gau)(i:Nat):Prop:=i=0∨i=s.length∨(gD s (i-1)).st≠(gD s i).st
def jF(s:List Gau)(i j:Nat):List Gau:=(s.take j).drop i
def chn(s:List Gau):Nat->Nat->Prop
 |0,i=>i=s.length
 |k+1,i=>i<s.length/\bdG s i/\∃j,i<j/\j<=s.length/\bdG s j/\Can (jF s i j)/\chn s k j
theorem CBG{s:List Gau}{i j p:Nat}(h1:i<=p)(h2:p<j)(h3:p<s.length):gD s p∈jF s i j:=by
 unfold jF
 have e:gD ((s.take j).drop i) (p-i)=gD s p:=by
  simp only[gD,List.getD_eq_getElem?_getD,List.getElem?_drop,List.getElem?_take]
  rw[show i+(p-i)=p by omega,if_pos h2]
 rw[<-e]
 exact BU (by rw[List.length_drop,List.length_take];omega)
theorem BBI{s:List Gau}{i:Nat}{g:Gau}(h:g∈s.drop i):∃p,i<=p/\p<s.length/\gD s p=g:=by
 obtain⟨q,hq,rfl⟩:=JP h
 rw[List.length_drop] at hq
 refine⟨i+q,by omega,by omega,?_⟩
 simp only[gD,List.getD_eq_getElem?_getD,List.getElem?_drop]
theorem CRB{s:List Gau}(ha:nM s){j p:Nat}(hj:j<s.length)(hb:bdG s j)(hp:p<j):(gD s p).st<(gD s j).st:=by
 have h1:=ha p (j-1) (by omega) (by omega)
 have h2:=ha (j-1) j (by omega) hj
 rcases hb with h | h | h
 ·omega
 ·omega
 ·omega
theorem BGY(x:Int)(c:List Int)(t:Int):KB (x :: c) t=(if x<=t then 1 else 0)+KB c t:=by
 unfold KB
 rw[List.countP_cons]
 by_cases h:x<=t
 ·simp[h];omega
 ·simp[h]
theorem CFP{c:List Int}{t:Int}(h:∀x∈c,t<x):KB c t=0:=by
 unfold KB
 rw[List.countP_eq_zero]
 intro x hx
 have:=h x hx
 simp;omega
theorem P9{s:List Gau}(ha:nM s):∀(k i:Nat),chn s (k+1) i->∃c:List Int,c.length=k/\asc c/\(∀x∈c,(gD s i).st<x)/\∀j,j<=k->Can ((s.drop i).filter λg=>KB c g.st==j)
 |0,i,⟨h1,h2,j,h3,h4,h5,h6,h7⟩=>by
  have h7:j=s.length:=h7
  subst h7
  refine⟨[],rfl,List.Pairwise.nil,λx hx=>(by cases hx),λj hj=>h6.mono λg hg=>?_⟩
  obtain⟨p,p1,p2,rfl⟩:=BBI (List.mem_filter.1 hg).1
  exact CBG p1 p2 p2
 |k+1,i,⟨h1,h2,j,h3,h4,h5,h6,h7⟩=>by
  have hj:j<s.length:=h7.1
  obtain⟨c,c1,c2,c3,c4⟩:=P9 ha k j h7
  have hij:=CRB ha hj h5 h3
  refine⟨(gD s j).st :: c,by simp[c1],List.pairwise_cons.2 ⟨c3,c2⟩,λx hx=>?_,λm hm=>?_⟩
  ·rcases List.mem_cons.1 hx with rfl | hx
   ·exact hij
   ·have:=c3 x hx;omega
  ·cases m with
   |zero=>
    refine h6.mono λg hg=>?_
    obtain⟨g1,g2⟩:=List.mem_filter.1 hg
    obtain⟨p,p1,p2,rfl⟩:=BBI g1
    have g2:=eq_of_beq g2
    rw[BGY] at g2
    refine CBG p1 ?_ p2
    refine Classical.byContradiction λhn=>?_
    have:=ha j p (by omega) p2
    rw[if_pos this] at g2;omega
   |succ m=>
    refine (c4 m (by omega)).mono λg hg=>?_
    obtain⟨g1,g2⟩:=List.mem_filter.1 hg
    obtain⟨p,p1,p2,rfl⟩:=BBI g1
    have g2:=eq_of_beq g2
    rw[BGY] at g2
    have hp:j<=p:=by
     refine Classical.byContradiction λhn=>?_
     have h8:=CRB ha hj h5 (show p<j by omega)
     rw[if_neg (by omega),CFP (λx hx=>by have:=c3 x hx;omega)] at g2
     omega
    have h9:=ha j p hp p2
    rw[if_pos h9] at g2
    refine List.mem_filter.2 ⟨?_,beq_iff_eq.2 (by omega)⟩
    have e:gD (s.drop j) (p-j)=gD s p:=by
     simp only[gD,List.getD_eq_getElem?_getD,List.getElem?_drop]
     rw[show j+(p-j)=p by omega]
    rw[<-e]
    exact BU (by rw[List.length_drop];omega)
theorem BUB{g:List Gau}{b:List Int}{l:List Ln}{k:List (List Int)}(W:Few g b l k){m:Nat}(h:chn (EJ g) m 0)(hg:0<g.length):b.length+1<=m:=by
 cases m with
 |zero=>
  have h:0=(EJ g).length:=h
  rw[(JW g).length_eq] at h;omega
 |succ m=>
  obtain⟨c,c1,c2,c3,c4⟩:=P9 (vD g) m 0 h
  have:=W.least (c:=c) λi hi=>(c4 i (by omega)).mono λx hx=>by
   obtain⟨x1,x2⟩:=Iw.1 hx
   exact List.mem_filter.2 ⟨(JW g).mem_iff.2 x1,beq_iff_eq.2 (by omega)⟩
  omega
theorem BZO{g:List Gau}{x:Gau}(hx:x∈g)(hn:¬Can (g.filter λy=>y.st==x.st))(m:Nat):¬chn (EJ g) m 0:=λh=>by
 cases m with
 |zero=>
  have h:0=(EJ g).length:=h
  rw[(JW g).length_eq] at h
  have:=List.length_pos_of_mem hx;omega
 |succ m=>
  obtain⟨c,c1,c2,c3,c4⟩:=P9 (vD g) m 0 h
  refine hn ((c4 (KB c x.st) (by rw[<-c1];exact L0 _ _)).mono λy hy=>?_)
  obtain⟨y1,y2⟩:=List.mem_filter.1 hy
  refine List.mem_filter.2 ⟨(JW g).mem_iff.2 y1,beq_iff_eq.2 ?_⟩
  rw[eq_of_beq y2]
def gW(t:Int):List Gau->Nat
 |[]=>0
 |g :: l=>if g.st<t then gW t l+1 else 0
theorem BNT(t:Int):∀s:List Gau,gW t s<=s.length
 |[]=>Nat.le_refl _
 |g :: l=>by
  unfold gW
  split
  ·have:=BNT t l;show _<=l.length+1;omega
  ·exact Nat.zero_le _
theorem AAG(t:Int):∀(s:List Gau) (i:Nat),i<gW t s->(gD s i).st<t
 |[],i,h=>by have h:i<0:=h;omega
 |g :: l,i,h=>by
  unfold gW at h
  by_cases c:g.st<t
  ·rw[if_pos c] at h
   cases i with
   |zero=>exact c
   |succ i=>exact AAG t l i (by omega)
  ·rw[if_neg c] at h;omega
theorem ACH(t:Int):∀s:List Gau,gW t s<s.length->t<=(gD s (gW t s)).st
 |[],h=>by have h:0<0:=h;omega
 |g :: l,h=>by
  unfold gW at h ⊢
  by_cases c:g.st<t
  ·rw[if_pos c] at h ⊢
   exact ACH t l (by have h:gW t l+1<l.length+1:=h;omega)
  ·rw[if_neg c];show t<=g.st;omega
theorem CLK{s:List Gau}{t:Int}{x:Gau}(ha:nM s)(hx:x∈s)(h:t<=x.st):gW t s<s.length:=by
 obtain⟨i,hi,rfl⟩:=JP hx
 refine Classical.byContradiction λhn=>?_
 have:=AAG t s i (by omega)
 omega
theorem CKH{s:List Gau}{t:Int}(h:gW t s<s.length):bdG s (gW t s):=by
 by_cases h0:gW t s=0
 ·exact .inl h0
 ·have h1:=AAG t s (gW t s-1) (by omega)
  have h2:=ACH t s h
  exact .inr (.inr (by omega))
theorem BUR{s:List Gau}{t u:Int}(ha:nM s){x:Gau}(hx:x∈s)(h1:t<=x.st)(h2:x.st<u):gW t s<gW u s:=by
 obtain⟨i,hi,rfl⟩:=JP hx
 refine Classical.byContradiction λhn=>?_
 have hu:=BNT t s
 by_cases hi2:i<gW t s
 ·have:=AAG t s i hi2;omega
 ·have h3:=ACH u s (by omega)
  have:=ha (gW u s) i (by omega) hi
  omega
theorem AND{s:List Gau}{i j:Nat}{x:Gau}(h:x∈jF s i j):∃p,i<=p/\p<j/\p<s.length/\gD s p=x:=by
 unfold jF at h
 obtain⟨q,hq,rfl⟩:=JP h
 rw[List.length_drop,List.length_take] at hq
 refine⟨i+q,by omega,by omega,by omega,?_⟩
 simp only[gD,List.getD_eq_getElem?_getD,List.getElem?_drop,List.getElem?_take]
 rw[if_pos (by omega)]
def idxG(s:List Gau)(b:List Int)(j:Nat):Nat:=if j=0 then 0 else gW (gD b (j-1)) s
theorem ASG{g:List Gau}{b:List Int}{l:List Ln}{k:List (List Int)}(W:Few g b l k){i:Nat}(hi:i<b.length):∃x∈g,x.st=gD b i:=by
 obtain⟨P,hp⟩:=W.parts
 obtain⟨a1,a2,a3,a4⟩:=hp.up i hi
 exact⟨_,Ei a2,a4.symm⟩
theorem BVO{g:List Gau}{b:List Int}{l:List Ln}{k:List (List Int)}(W:Few g b l k)(hb:0<b.length):∃x∈g,x.st<gD b 0:=by
 obtain⟨P,hp⟩:=W.parts
 obtain⟨a1,a2,a3,a4⟩:=hp.up 0 hb
 rw[hp.zero] at a1
 exact⟨_,Ei (i:=0) (by omega),by rw[a4];exact a3 0 (gD P (0+1)) a1 (Nat.le_refl _) a2⟩
theorem CJH{g:List Gau}{b:List Int}{l:List Ln}{k:List (List Int)}(W:Few g b l k)(hc:AL g=0):∀m j,j+m=b.length->chn (EJ g) (m+1) (idxG (EJ g) b j):=λm=>by
 have ha:=vD g
 have hl:=(JW g).length_eq
 have hg:=(JU hc).1
 have hT:=(W.thru hc).can
 have mem:∀{x},x∈g->x∈EJ g:=λh=>(JW g).mem_iff.2 h
 have start:∀j,j<=b.length->idxG (EJ g) b j<(EJ g).length/\bdG (EJ g) (idxG (EJ g) b j):=λj hj=>by
  unfold idxG
  by_cases h0:j=0
  ·rw[if_pos h0];exact⟨by omega,.inl rfl⟩
  ·rw[if_neg h0]
   obtain⟨x,x1,x2⟩:=ASG W (i:=j-1) (by omega)
   have:=CLK (t:=gD b (j-1)) ha (mem x1) (by omega)
   exact⟨this,CKH this⟩
 have below:∀{j p:Nat},j<=b.length->idxG (EJ g) b j<=p->p<(EJ g).length->∀q,q<j->gD b q<=(gD (EJ g) p).st:=λ{j p} hj h1 h2 q hq=>by
  unfold idxG at h1
  rw[if_neg (by omega)] at h1
  have h3:=ACH (gD b (j-1)) (EJ g) (by omega)
  have h4:=ha _ _ h1 h2
  by_cases e:q=j-1
  ·rw[e];omega
  ·have:=Lt W.asc (show q<j-1 by omega) (by omega);omega
 induction m with
 |zero=>
  intro j hj
  obtain⟨s1,s2⟩:=start j (by omega)
  refine⟨s1,s2,(EJ g).length,s1,Nat.le_refl _,.inr (.inl rfl),(hT j (by omega)).mono λx hx=>?_,rfl⟩
  obtain⟨p,p1,p2,p3,rfl⟩:=AND hx
  refine Iw.2 ⟨(JW g).mem_iff.1 (BU p3),?_⟩
  unfold KB
  refine congrArg (Nat.cast:Nat->Int) ?_
  exact iL (l:=b) (p:=λy=>decide (y<=(gD (EJ g) p).st)) (by omega) (λq hq=>decide_eq_true (below (by omega) p1 p3 q hq)) (λq h1 h2=>by omega)
 |succ m ih=>
  intro j hj
  obtain⟨s1,s2⟩:=start j (by omega)
  obtain⟨t1,t2⟩:=start (j+1) (by omega)
  have ej:idxG (EJ g) b (j+1)=gW (gD b j) (EJ g):=by unfold idxG;rw[if_neg (by omega)];rfl
  have hlt:idxG (EJ g) b j<idxG (EJ g) b (j+1):=by
   rw[ej]
   by_cases h0:j=0
   ·subst h0
    obtain⟨x,x1,x2⟩:=BVO W (by omega)
    obtain⟨i,hi,e⟩:=JP (mem x1)
    show 0<_
    refine Nat.pos_of_ne_zero λhz=>?_
    have h3:=ACH (gD b 0) (EJ g) (by omega)
    rw[hz] at h3
    have:=ha 0 i (Nat.zero_le _) hi
    rw[e] at this;omega
   ·have e2:idxG (EJ g) b j=gW (gD b (j-1)) (EJ g):=by unfold idxG;rw[if_neg h0]
    rw[e2]
    obtain⟨x,x1,x2⟩:=ASG W (i:=j-1) (by omega)
    have:=Lt W.asc (show j-1<j by omega) (by omega)
    exact BUR ha (mem x1) (by omega) (by omega)
  refine⟨s1,s2,idxG (EJ g) b (j+1),hlt,Nat.le_of_lt t1,t2,(hT j (by omega)).mono λx hx=>?_,ih (j+1) (by omega)⟩
  obtain⟨p,p1,p2,p3,rfl⟩:=AND hx
  refine Iw.2 ⟨(JW g).mem_iff.1 (BU p3),?_⟩
  rw[ej] at p2
  have h5:=AAG (gD b j) (EJ g) p p2
  unfold KB
  refine congrArg (Nat.cast:Nat->Int) ?_
  refine iL (l:=b) (p:=λy=>decide (y<=(gD (EJ g) p).st)) (by omega) (λq hq=>decide_eq_true (below (by omega) p1 p3 q hq)) (λq h1 h2=>decide_eq_false ?_)
  by_cases e:q=j
  ·rw[e];omega
  ·have:=Lt W.asc (show j<q by omega) h2;omega
end Go.Bal
