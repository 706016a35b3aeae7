/- Package chart: charts that are made of numbers, with stops. -/
import Derived.Test.YtceloknnpdonhaaGreatChWT
import Derived.Test.YtceloknnpdonhaaGreatChW
set_option linter.unusedVariables false
set_option linter.unusedSimpArgs false
namespace Go.Bal
open Go Go.Sym Go.Proofs
set_option maxHeartbeats 4000000 in
theorem DFN(a:MkIQ)(h:AJS a)(hb:a.b=true):CPL a:=by
 obtain⟨b1,b2,b3,b4,b5,b6⟩:=BZP h
 obtain⟨n1,n2,n3⟩:=DAO h
 have m2:=h.2.2
 rw[DCC];delta AMM BIX ALN BEF BFM BHW ALS BHG BFQ BGK K3 AWJ nV R2 AUG I6 ASZ AXZ AZK P7 AUP nG F6 aF AQS G4 APP APX AWP T9 AZP pP L8 BAF V2 AQA AE AC AD D3 K7 ARC AZA I0 AVB F1 AYV AZR J3 ARA S7 M0 AXI AXB L3 ASB Ry AXF K9 M4 H3 R4 oU APN M8 BAN ARQ ARW D7 Bf P0 V4 C9 H6 AXW AYI pJ AVP S6 AQK I7 pF J4 L7 bA AUM AVU P9 E3 lF lP G9 Sy G8 AZM kM ATE mX AYA I4 AJF AFZ AFK rO ABE ALK AAE fK ABT tF AAJ AGY sJ AAA rN Z3 rZ rX rD sQ AFJ AGO ALB AEX AAR AAH sR Dr rF rJ sL rC AHX ALI AHW ALE AHP TC ALF AHZ sO fV gF tX AEH ABU ABZ tY AGU gC rL AFM AKG AKU Z8 rE AJO AAU AGH ADL Z2 ZZ Ag Ah fQ fL fW qP AIK ALD AHS AIZ ADN tO AIH qU sF tQ ABA Tz gH ABB AIQ ACH sZ AFF ABC AKN AAF AHU AAO ADG sK ADV AAZ ACQ AJZ AEW rI Tl rU qL sD qY fJ eX gE ACC AGJ Z6 AHN sX AGG AHV qZ AJT ABY Un ABN Z0 AHK ADK ABL ACJ AIL Y8 sW AJJ ABQ AIC fG AEJ Io WQ WL WS WP WO WR WH WI Ja sP AKD AFY AKP qX AHI rG AAY AGI AIX AII fI AKL rA ABH AFC AKO AJW AIT Tn ADM AHL AIY AGV eS eZ rT AAN AJC AFN ACL AJE ACE AJM tB AFQ AGX AJA sY AJB Y4 AFD fR AGR rS ACO Y6 eR Y7 tL ADO AHO AEC tM AIM AJH AGK fH Z7 rQ AGD AHA AGA rW ADE AKK ACI qV ACR AEU ADF fZ AEF tH AFT ADU ALA ADA eQ ACY rK AFS AGB AKZ AKH ACD AHF AIR ADI AFO AAD sG AEY AJX fU AEG AGL AEA ADR AKX Uf AAX AID ADY AEI AKE AET fT AKF qJ ADT AJI AHB ACW ABV AHG AAB rR AIA Uh ABX AIJ AKS AJV tJ AKY AIB AEK Z9 AIE AFR AKT AHJ AAV AFA tS rB AGN gL AIO sN AJU tN AHY Tx tT Tv tA Z5 AJQ AGS AIN tG ACG AJG AGM;simp only[CCQ,eq_self,implies_true,forall_const,DAN]
 refine⟨⟨⟨rfl,rfl,h.1.used.1,rfl,rfl,b1.used.1,rfl,b2.used.1,rfl,b3.used.1⟩,default,⟨rfl,λ_ _=>rfl,rfl,rfl,rfl,rfl,rfl,rfl⟩,b4⟩,λ_=>⟨⟨⟨rfl,b4.used.1⟩,default,⟨rfl,λ_ _=>rfl,rfl,rfl,rfl⟩,b5⟩,λ_=>⟨⟨⟨rfl,b5.used.1⟩,default,⟨rfl,rfl,λ_ _=>rfl,rfl,rfl⟩,b6⟩,λ_=>⟨⟨⟨rfl,b6.used.1⟩,⟨⟨mN a,mS0 a⟩,⟨rfl,rfl,n1,rfl,λ_ _=>rfl,rfl,rfl⟩,⟨rfl,n3,?_,?_,rfl,rfl,.inl rfl⟩,n2,rfl,rfl⟩,?_,?_,?_⟩,?_⟩⟩⟩⟩
 ·exact (SA b6 (by omega) 1 a.m).mono (by show 6+1<=7+7*(a.m-(mN a:Int));omega)
 ·show (((0:Nat):Int))+(mN a:Int)<=a.m;omega
 ·rintro⟨k,s,pl,tm,ms,t,st,z⟩ ⟨⟨i1,i2,i3,i4,i5,i6,i7⟩,j1,j2,j3⟩
  dsimp only at i1 i2 i3 i4 i5 i6 i7 j1 j2 j3 ⊢
  subst j2 j3
  obtain rfl:t=[]:=List.length_eq_zero_iff.1 i5
  obtain rfl:st=[]:=List.length_eq_zero_iff.1 i6
  refine⟨λ_=>⟨⟨⟨k,s,pl,tm,[],[],[],[]⟩,⟨rfl,rfl,rfl,rfl,λ_ _=>rfl,rfl,rfl⟩,⟨?_,⟨j1,i2⟩,i3.mono (by show 7+7*(a.m-(k:Int))<=11+7*(a.m-(k:Int));omega),i4,rfl,rfl,Nat.le_refl _⟩,rfl,rfl⟩,?_⟩,λhk=>absurd (show (k:Int)>0 by omega) hk⟩
  ·rw[<-i1,CIL j1,go_0 rfl]
  ·rintro⟨k,s,pl,tm,ms,t,st,z⟩ ⟨⟨q1,q2,q3,q4,q5,q6,q7⟩,p1,p2⟩
   dsimp only at q1 q2 q3 q4 q5 q6 q7 p1 p2 ⊢
   subst p1 p2
   obtain rfl:t=[]:=List.length_eq_zero_iff.1 q5
   obtain rfl:st=[]:=List.length_eq_zero_iff.1 q6
   have s1:=q3.next (by omega) 60
   refine⟨⟨rfl,q3.used.1⟩,⟨by decide,by decide,s1.used.1,by decide⟩,⟨k-1,addM a ⟨s,pl,tm,[],[],[],[]⟩⟩,⟨rfl,rfl,?_,rfl,λ_ _=>rfl,rfl,rfl,rfl,rfl,rfl,rfl,λi hi=>?_,rfl,λi hi=>?_,rfl,λi hi=>?_⟩,⟨⟨q1,by show ((k-1:Nat):Int)<=_;omega,(SA s1 (by omega) _ _).mono ?_,?_,rfl,rfl,.inl rfl⟩,Nat.one_pos,rfl⟩,by show k-1+20<100;omega⟩
   ·rw[JC (by omega) (by omega)];show ((k-1:Nat):Int)=_;omega
   ·have hi:i<1:=hi
    obtain rfl:i=0:=by omega
    exact⟨rfl,rfl⟩
   ·have hi:i<1:=hi
    obtain rfl:i=0:=by omega
    rfl
   ·have hi:i<1:=hi
    obtain rfl:i=0:=by omega
    rfl
   ·show 11+7*(a.m-(k:Int))+1+1<=7+7*(a.m-((k-1:Nat):Int));omega
   ·show ((1:Nat):Int)+((k-1:Nat):Int)<=a.m;omega
 ·rintro⟨k,x⟩ ⟨⟨i1,i2,i3,i4,i5,i6,i7⟩,j1,j2⟩
  dsimp only at i1 i2 i3 i4 i5 i6 i7 j1 j2 ⊢
  have s1:=SA i3 (by omega) 1 30
  refine⟨λhk=>⟨⟨λhm=>⟨⟨rfl,rfl,i3.used.1⟩,⟨s1.used.1,⟨k,advA a x⟩,⟨rfl,rfl,rfl,rfl,λ_ _=>rfl,rfl,rfl,rfl,rfl,rfl,rfl,λ_ _=>⟨rfl,rfl⟩,rfl,λ_ _=>rfl,rfl,λ_ _=>rfl⟩,⟨?_,⟨by show 0<k;omega,i2⟩,(SA s1 (by omega) _ _).mono ?_,i4,i5,i6,?_⟩,by show k+19<k+20;omega,j1,j2⟩,?_⟩,λhm=>absurd (show (x.ms.length:Int)>0 by omega) hm⟩,?_,?_⟩,λhk=>?_⟩
  ·exact (show _=D6 a k x by rw[CIL (k:=k) (x:=x) (by omega),go_1 j1]).trans i1
  ·show 7+7*(a.m-(k:Int))+1+1<=9+7*(a.m-(k:Int));omega
  ·show x.z.length<x.ms.length;rw[j2];exact j1
  ·rintro⟨k2,x2⟩ ⟨⟨q1,q2,q3,q4,q5,q6,q7⟩,p0,p1,p2⟩
   dsimp only at q1 q2 q3 q4 q5 q6 q7 p0 p1 p2 ⊢
   have t1:=q3.next (by omega) 5
   have t2:=t1.next (by omega) 400
   refine⟨⟨rfl,q3.used.1⟩,λhc=>⟨⟨(λh=>by cases h),Nat.one_pos,Nat.one_pos,by decide,by decide⟩,⟨rfl,t1.used.1⟩,⟨k2,⟨BQ (BQ x2.s 5) 400,x2.pl,MQ (x2.tm+BA (BQ x2.s 5) 400),x2.ms,x2.t,x2.st,[MQ ((x2.ms.length:Int)-1)]⟩⟩,⟨rfl,rfl,rfl,rfl,λ_ _=>rfl,rfl,rfl,rfl,rfl,rfl,rfl,rfl,λ_ _=>⟨rfl,rfl⟩,rfl,λ_ _=>rfl,rfl,λ_ _=>rfl,rfl,λi hi=>?_⟩,⟨?_,q2,t2.mono ?_,q4,q5,q6,?_⟩,?_,p1,Nat.one_pos⟩,λhc=>⟨⟨k2,⟨BQ x2.s 5,x2.pl,x2.tm,x2.ms,x2.t,x2.st,x2.z⟩⟩,⟨rfl,rfl,rfl,rfl,λ_ _=>rfl,rfl,rfl,rfl,rfl,rfl,rfl,λ_ _=>⟨rfl,rfl⟩,rfl,λ_ _=>rfl,rfl,λ_ _=>rfl⟩,⟨?_,q2,t1.mono ?_,q4,q5,q6,Nat.le_of_lt q7⟩,p0,p1,p2⟩⟩
   ·have hi:i<1:=hi
    obtain rfl:i=0:=by omega
    rfl
   ·have hc:(BA x2.s 5==0)=true:=hc
    have ez:advZ a x2=⟨BQ (BQ x2.s 5) 400,x2.pl,MQ (x2.tm+BA (BQ x2.s 5) 400),x2.ms,x2.t,x2.st,[MQ ((x2.ms.length:Int)-1)]⟩:=by
     unfold advZ;rw[hb,hc,p2];rfl
    rw[ez] at q1;exact q1
   ·show 9+7*(a.m-(k2:Int))+1+1<=11+7*(a.m-(k2:Int));omega
   ·show 1<=x2.ms.length;exact p1
   ·show k2<=k+20;omega
   ·have hc:(BA x2.s 5==0)=false:=hc
    have ez:advZ a x2=⟨BQ x2.s 5,x2.pl,x2.tm,x2.ms,x2.t,x2.st,x2.z⟩:=by
     unfold advZ;rw[hb,hc];rfl
    rw[ez] at q1;exact q1
   ·show 9+7*(a.m-(k2:Int))+1<=11+7*(a.m-(k2:Int));omega
  ·rintro⟨k2,x2⟩ ⟨⟨q1,q2,q3,q4,q5,q6,q7⟩,p0,p1,p2⟩
   dsimp only at q1 q2 q3 q4 q5 q6 q7 p0 p1 p2 ⊢
   have s2:=q3.next (by omega) 60
   refine⟨⟨rfl,q3.used.1⟩,⟨⟨Nat.one_pos,(λh=>by cases h),by omega,by omega⟩,⟨Nat.one_pos,(λh=>by cases h),by omega,by omega⟩,s2.used.1,Nat.one_pos,(λh=>by cases h),by omega,by omega⟩,⟨k2-1,addM a x2⟩,⟨rfl,rfl,?_,rfl,λ_ _=>rfl,rfl,rfl,?_,?_,?_,?_,λi hi=>?_,?_,λi hi=>?_,?_,λi hi=>?_⟩,⟨⟨q1,by show ((k2-1:Nat):Int)<=_;omega,(SA s2 (by omega) _ _).mono ?_,?_,?_,?_,.inl p2⟩,?_,p2⟩,by show k2-1+20<k+20;omega⟩
   ·rw[JC (by omega) (by omega)];show ((k2-1:Nat):Int)=_;omega
   ·show (x2.ms ++ [_]).length=_;simp
   ·show (x2.t ++ [_]).length=_;simp
   ·show (x2.st ++ [_]).length=_;simp
   ·show (x2.ms ++ [_]).length=_;simp
   ·have hi:i<(x2.ms ++ [_]).length:=hi
    rw[List.length_append] at hi
    show (gD (x2.ms ++ [_]) i).pl=_/\(gD (x2.ms ++ [_]) i).ht=_
    rw[Wv _ _ _ (by simpa using hi)]
    cases decide (i<x2.ms.length)<;>exact⟨rfl,rfl⟩
   ·show (x2.t ++ [_]).length=_;simp
   ·have hi:i<(x2.t ++ [x2.tm]).length:=hi
    rw[List.length_append] at hi
    show gD (x2.t ++ [_]) i=_
    rw[Wv _ _ _ (by simpa using hi)]
   ·show (x2.st ++ [_]).length=_;simp
   ·have hi:i<(x2.st ++ [(0:Int)]).length:=by have:=hi;simpa[addM] using this
    rw[List.length_append] at hi
    show gD (x2.st ++ [_]) i=_
    rw[Wv _ _ _ (by simpa using hi)];rfl
   ·show 11+7*(a.m-(k2:Int))+1+1<=7+7*(a.m-((k2-1:Nat):Int));omega
   ·show (((x2.ms ++ [_]).length:Nat):Int)+((k2-1:Nat):Int)<=a.m
    rw[List.length_append];simp;omega
   ·show (x2.t ++ [_]).length=(x2.ms ++ [_]).length;simp[q5]
   ·show (x2.st ++ [_]).length=(x2.ms ++ [_]).length;simp[q6]
   ·show 0<(x2.ms ++ [_]).length;simp
  ·rintro⟨k2,x2⟩ ⟨⟨q1,q2,q3,q4,q5,q6,q7⟩,p0,p1,p2⟩
   dsimp only at q1 q2 q3 q4 q5 q6 q7 p0 p1 p2 ⊢
   have s2:=q3.next (by omega) 60
   refine⟨⟨rfl,q3.used.1⟩,⟨⟨Nat.one_pos,(λh=>by cases h),by omega,by omega⟩,⟨Nat.one_pos,(λh=>by cases h),by omega,by omega⟩,s2.used.1,Nat.one_pos,(λh=>by cases h),by omega,by omega⟩,⟨k2-1,addM a x2⟩,⟨rfl,rfl,?_,rfl,λ_ _=>rfl,rfl,rfl,?_,?_,?_,rfl,?_,λi hi=>?_,?_,λi hi=>?_,?_,λi hi=>?_,rfl,λ_ _=>rfl⟩,⟨⟨q1,by show ((k2-1:Nat):Int)<=_;omega,(SA s2 (by omega) _ _).mono ?_,?_,?_,?_,.inr ?_⟩,?_,p2⟩,by show k2-1<k+20;omega⟩
   ·rw[JC (by omega) (by omega)];show ((k2-1:Nat):Int)=_;omega
   ·show (x2.ms ++ [_]).length=_;simp
   ·show (x2.t ++ [_]).length=_;simp
   ·show (x2.st ++ [_]).length=_;simp
   ·show (x2.ms ++ [_]).length=_;simp
   ·have hi:i<(x2.ms ++ [_]).length:=hi
    rw[List.length_append] at hi
    show (gD (x2.ms ++ [_]) i).pl=_/\(gD (x2.ms ++ [_]) i).ht=_
    rw[Wv _ _ _ (by simpa using hi)]
    cases decide (i<x2.ms.length)<;>exact⟨rfl,rfl⟩
   ·show (x2.t ++ [_]).length=_;simp
   ·have hi:i<(x2.t ++ [x2.tm]).length:=hi
    rw[List.length_append] at hi
    show gD (x2.t ++ [_]) i=_
    rw[Wv _ _ _ (by simpa using hi)]
   ·show (x2.st ++ [_]).length=_;simp
   ·have hi:i<(x2.st ++ [(0:Int)]).length:=by have:=hi;simpa[addM] using this
    rw[List.length_append] at hi
    show gD (x2.st ++ [_]) i=_
    rw[Wv _ _ _ (by simpa using hi)];rfl
   ·show 11+7*(a.m-(k2:Int))+1+1<=7+7*(a.m-((k2-1:Nat):Int));omega
   ·show (((x2.ms ++ [_]).length:Nat):Int)+((k2-1:Nat):Int)<=a.m
    rw[List.length_append];simp;omega
   ·show (x2.t ++ [_]).length=(x2.ms ++ [_]).length;simp[q5]
   ·show (x2.st ++ [_]).length=(x2.ms ++ [_]).length;simp[q6]
   ·show x2.z.length<(x2.ms ++ [_]).length;simp;omega
   ·show 0<(x2.ms ++ [_]).length;simp
  ·obtain rfl:k=0:=by omega
   have e:x=mS a:=i1
   subst e
   exact⟨default,⟨rfl,λ_ _=>rfl,rfl,rfl,rfl,Nat.le_refl _,λ_ _=>⟨rfl,rfl⟩,rfl,Nat.le_refl _,λ_ _=>rfl,rfl,Nat.le_refl _,λ_ _=>rfl,by rw[j2];rfl⟩,i1,i2,i3,i4,i5,i6,i7⟩
 ·rintro⟨k,x⟩ ⟨⟨i1,i2,i3,i4,i5,i6,i7⟩,j1,j2⟩
  dsimp only at i1 i2 i3 i4 i5 i6 i7 j1 j2 ⊢
  have s1:=SA i3 (by omega) 1 30
  have i8:x.z.length<x.ms.length:=i7.elim (λe=>by rw[e] at j2;exact absurd j2 (Nat.lt_irrefl 0)) id
  refine⟨λhk=>⟨⟨λhm=>⟨⟨rfl,rfl,i3.used.1⟩,⟨s1.used.1,⟨k,advA a x⟩,⟨rfl,rfl,rfl,rfl,λ_ _=>rfl,rfl,rfl,rfl,rfl,rfl,rfl,rfl,λ_ _=>⟨rfl,rfl⟩,rfl,λ_ _=>rfl,rfl,λ_ _=>rfl,rfl,λ_ _=>rfl⟩,⟨?_,⟨by show 0<k;omega,i2⟩,(SA s1 (by omega) _ _).mono ?_,i4,i5,i6,i8⟩,Nat.le_refl k,j1,j2⟩,?_⟩,λhm=>absurd (show (x.ms.length:Int)>0 by omega) hm⟩,?_⟩,λhk=>?_⟩
  ·exact (show _=D6 a k x by rw[CIL (k:=k) (x:=x) (by omega),go_1 j1]).trans i1
  ·show 7+7*(a.m-(k:Int))+1+1<=9+7*(a.m-(k:Int));omega
  ·rintro⟨k2,x2⟩ ⟨⟨q1,q2,q3,q4,q5,q6,q7⟩,p0,p1,p2⟩
   dsimp only at q1 q2 q3 q4 q5 q6 q7 p0 p1 p2 ⊢
   have t1:=q3.next (by omega) 5
   have t2:=t1.next (by omega) 400
   refine⟨⟨rfl,q3.used.1⟩,λhc=>⟨⟨Nat.one_pos,(λh=>by cases h),by omega,by omega⟩,⟨rfl,t1.used.1⟩,⟨k2,⟨BQ (BQ x2.s 5) 400,x2.pl,MQ (x2.tm+BA (BQ x2.s 5) 400),x2.ms,x2.t,x2.st,x2.z ++ [MQ ((x2.ms.length:Int)-1)]⟩⟩,⟨rfl,rfl,rfl,rfl,λ_ _=>rfl,rfl,rfl,rfl,rfl,rfl,?_,rfl,λ_ _=>⟨rfl,rfl⟩,rfl,λ_ _=>rfl,rfl,λ_ _=>rfl,?_,λi hi=>?_⟩,⟨?_,q2,t2.mono ?_,q4,q5,q6,?_⟩,?_,p1,?_⟩,λhc=>⟨⟨k2,⟨BQ x2.s 5,x2.pl,x2.tm,x2.ms,x2.t,x2.st,x2.z⟩⟩,⟨rfl,rfl,rfl,rfl,λ_ _=>rfl,rfl,rfl,rfl,rfl,rfl,rfl,rfl,λ_ _=>⟨rfl,rfl⟩,rfl,λ_ _=>rfl,rfl,λ_ _=>rfl,rfl,λ_ _=>rfl⟩,⟨?_,q2,t1.mono ?_,q4,q5,q6,Nat.le_of_lt q7⟩,p0,p1,p2⟩⟩
   ·show (x2.z ++ [_]).length=_;simp
   ·show (x2.z ++ [_]).length=_;simp
   ·have hi:i<(x2.z ++ [(0:Int)]).length:=by have:=hi;simpa using this
    rw[List.length_append] at hi
    show gD (x2.z ++ [_]) i=_
    rw[Wv _ _ _ (by simpa using hi)];rfl
   ·have hc:(BA x2.s 5==0)=true:=hc
    have ez:advZ a x2=⟨BQ (BQ x2.s 5) 400,x2.pl,MQ (x2.tm+BA (BQ x2.s 5) 400),x2.ms,x2.t,x2.st,x2.z ++ [MQ ((x2.ms.length:Int)-1)]⟩:=by
     unfold advZ;rw[hb,hc];rfl
    rw[ez] at q1;exact q1
   ·show 9+7*(a.m-(k2:Int))+1+1<=11+7*(a.m-(k2:Int));omega
   ·show (x2.z ++ [_]).length<=x2.ms.length;simp;omega
   ·show k2<=k;omega
   ·show 0<(x2.z ++ [_]).length;simp
   ·have hc:(BA x2.s 5==0)=false:=hc
    have ez:advZ a x2=⟨BQ x2.s 5,x2.pl,x2.tm,x2.ms,x2.t,x2.st,x2.z⟩:=by
     unfold advZ;rw[hb,hc];rfl
    rw[ez] at q1;exact q1
   ·show 9+7*(a.m-(k2:Int))+1<=11+7*(a.m-(k2:Int));omega
  ·rintro⟨k2,x2⟩ ⟨⟨q1,q2,q3,q4,q5,q6,q7⟩,p0,p1,p2⟩
   dsimp only at q1 q2 q3 q4 q5 q6 q7 p0 p1 p2 ⊢
   have s2:=q3.next (by omega) 60
   refine⟨⟨rfl,q3.used.1⟩,⟨⟨Nat.one_pos,(λh=>by cases h),by omega,by omega⟩,⟨Nat.one_pos,(λh=>by cases h),by omega,by omega⟩,s2.used.1,Nat.one_pos,(λh=>by cases h),by omega,by omega⟩,⟨k2-1,addM a x2⟩,⟨rfl,rfl,?_,rfl,λ_ _=>rfl,rfl,rfl,?_,?_,?_,rfl,?_,λi hi=>?_,?_,λi hi=>?_,?_,λi hi=>?_,rfl,λ_ _=>rfl⟩,⟨⟨q1,by show ((k2-1:Nat):Int)<=_;omega,(SA s2 (by omega) _ _).mono ?_,?_,?_,?_,.inr ?_⟩,?_,p2⟩,by show k2-1<k;omega⟩
   ·rw[JC (by omega) (by omega)];show ((k2-1:Nat):Int)=_;omega
   ·show (x2.ms ++ [_]).length=_;simp
   ·show (x2.t ++ [_]).length=_;simp
   ·show (x2.st ++ [_]).length=_;simp
   ·show (x2.ms ++ [_]).length=_;simp
   ·have hi:i<(x2.ms ++ [_]).length:=hi
    rw[List.length_append] at hi
    show (gD (x2.ms ++ [_]) i).pl=_/\(gD (x2.ms ++ [_]) i).ht=_
    rw[Wv _ _ _ (by simpa using hi)]
    cases decide (i<x2.ms.length)<;>exact⟨rfl,rfl⟩
   ·show (x2.t ++ [_]).length=_;simp
   ·have hi:i<(x2.t ++ [x2.tm]).length:=hi
    rw[List.length_append] at hi
    show gD (x2.t ++ [_]) i=_
    rw[Wv _ _ _ (by simpa using hi)]
   ·show (x2.st ++ [_]).length=_;simp
   ·have hi:i<(x2.st ++ [(0:Int)]).length:=by have:=hi;simpa[addM] using this
    rw[List.length_append] at hi
    show gD (x2.st ++ [_]) i=_
    rw[Wv _ _ _ (by simpa using hi)];rfl
   ·show 11+7*(a.m-(k2:Int))+1+1<=7+7*(a.m-((k2-1:Nat):Int));omega
   ·show (((x2.ms ++ [_]).length:Nat):Int)+((k2-1:Nat):Int)<=a.m
    rw[List.length_append];simp;omega
   ·show (x2.t ++ [_]).length=(x2.ms ++ [_]).length;simp[q5]
   ·show (x2.st ++ [_]).length=(x2.ms ++ [_]).length;simp[q6]
   ·show x2.z.length<(x2.ms ++ [_]).length;simp;omega
   ·show 0<(x2.ms ++ [_]).length;simp
  ·obtain rfl:k=0:=by omega
   have e:x=mS a:=i1
   subst e
   exact⟨default,⟨rfl,λ_ _=>rfl,rfl,rfl,rfl,Nat.le_refl _,λ_ _=>⟨rfl,rfl⟩,rfl,Nat.le_refl _,λ_ _=>rfl,rfl,Nat.le_refl _,λ_ _=>rfl,rfl,Nat.le_refl _,λ_ _=>rfl⟩,i1,i2,i3,i4,i5,i6,i7⟩
 ·intro hF'
  obtain⟨f1,f2,f3,f4,f5,f6,f7⟩:=hF'
  have hF':fin6 a:=⟨f1,f2,f3,f4,f5,f6,f7⟩
  have fm:((mS a).ms.length:Int)<=a.m:=by omega
  refine⟨⟨⟨⟨0,⟨(mS a).s,[]⟩⟩,⟨rfl,rfl,λ_ _=>rfl,rfl,rfl⟩,⟨hF',Nat.zero_le _,f3.mono (by show 7+7*(a.m-((0:Nat):Int))<=7+7*a.m+5*((0:Nat):Int);omega),rfl,Nat.le_refl _⟩,rfl⟩,?_,?_⟩,?_,?_⟩
  ·rintro⟨i,x⟩ ⟨⟨_,g1,g2,g3,g4⟩,g5⟩
   dsimp only at g1 g2 g3 g4 g5 ⊢
   have s1:=g2.next (by omega) 2
   refine⟨λhc=>?_,λhc=>?_⟩
   ·have hi:=n_lt hc
    refine⟨⟨⟨⟨rfl,g2.used.1⟩,⟨i,⟨BQ x.s 2,x.ns⟩,BA x.s 2==0⟩,⟨rfl,rfl,rfl,λ_ _=>rfl,rfl,rfl⟩,⟨hF',⟨hi,rfl⟩,s1.mono (by show 7+7*a.m+5*(i:Int)+1<=8+7*a.m+5*(i:Int);omega),(DNZ hi).symm.trans g3,g4⟩,g5⟩,?_⟩,?_,?_⟩
    ·rintro⟨i2,x2,b2⟩ ⟨⟨_,⟨q1,q2⟩,q3,q4,q5⟩,q6⟩
     dsimp only at q1 q2 q3 q4 q5 q6 ⊢
     have t1:=q3.next (by omega) 40
     have t2:=t1.next (by omega) 40
     have t3:=t2.next (by omega) 9
     have t4:=t3.next (by omega) 9
     refine⟨λhb2=>?_,λhb2=>?_⟩
     ·subst hb2
      refine⟨⟨⟨by omega,by omega⟩,rfl,q3.used.1,⟨by omega,by omega⟩,rfl,t1.used.1,⟨by omega,by omega⟩,rfl,t2.used.1,⟨by omega,by omega⟩,rfl,t3.used.1,by decide⟩,⟨i2,⟨nS5 x2.s,x2.ns ++ [mkNt a x2.s i2]⟩⟩,⟨rfl,rfl,λ_ _=>rfl,rfl,rfl,by rw[q6];rfl,by rw[q6];rfl,λj hj=>?_⟩,⟨hF',⟨q1,q2⟩,t4.mono (by show 8+7*a.m+5*(i2:Int)+1+1+1+1<=12+7*a.m+5*(i2:Int);omega),q4,?_⟩,?_⟩
      ·rw[q6] at hj ⊢
       have hj:j<1:=hj
       obtain rfl:j=0:=by omega
       exact⟨rfl,rfl,rfl,rfl,rfl⟩
      ·show (x2.ns ++ [_]).length<=i2+1;rw[q6];simp
      ·show 0<(x2.ns ++ [_]).length;simp
     ·subst hb2
      exact⟨⟨i2,x2⟩,⟨rfl,rfl,λ_ _=>rfl,rfl,rfl⟩,⟨hF',⟨q1,q2⟩,q3.mono (by show 8+7*a.m+5*(i2:Int)<=12+7*a.m+5*(i2:Int);omega),q4,Nat.le_succ_of_le q5⟩,q6⟩
    ·rintro⟨i2,x2⟩ ⟨⟨_,⟨q1,q2⟩,q3,q4,q5⟩,q6⟩
     dsimp only at q1 q2 q3 q4 q5 q6 ⊢
     exact⟨⟨i2+1,x2⟩,⟨(FN (by omega)).symm,rfl,λ_ _=>rfl,rfl,rfl⟩,⟨⟨hF',by show i2+1<=_;omega,q3.mono (by show 12+7*a.m+5*(i2:Int)<=7+7*a.m+5*((i2+1:Nat):Int);omega),q4,q5⟩,q6⟩,by show 100-(i2+1)<100-i;omega⟩
    ·rintro⟨i2,x2⟩ ⟨⟨_,⟨q1,q2⟩,q3,q4,q5⟩,q6⟩
     dsimp only at q1 q2 q3 q4 q5 q6 ⊢
     exact⟨⟨i2+1,x2⟩,⟨(FN (by omega)).symm,rfl,λ_ _=>rfl,rfl,rfl,rfl,rfl,λ_ _=>⟨rfl,rfl,rfl,rfl,rfl⟩⟩,⟨⟨hF',by show i2+1<=_;omega,q3.mono (by show 12+7*a.m+5*(i2:Int)<=7+7*a.m+5*((i2+1:Nat):Int);omega),q4,q5⟩,q6⟩,by show 100-(i2+1)<100-i;omega⟩
   ·have hi:=n_ge (by decide) hc
    obtain rfl:i=(mS a).ms.length:=by omega
    rw[Nat.sub_self] at g3
    have e:x=Ua a:=g3
    subst e
    exact⟨default,⟨rfl,λ_ _=>rfl,rfl,rfl⟩,hF',g5⟩
  ·rintro⟨i,x⟩ ⟨⟨_,g1,g2,g3,g4⟩,g5⟩
   dsimp only at g1 g2 g3 g4 g5 ⊢
   have s1:=g2.next (by omega) 2
   refine⟨λhc=>?_,λhc=>?_⟩
   ·have hi:=n_lt hc
    refine⟨⟨⟨⟨rfl,g2.used.1⟩,⟨i,⟨BQ x.s 2,x.ns⟩,BA x.s 2==0⟩,⟨rfl,rfl,rfl,λ_ _=>rfl,rfl,rfl,rfl,rfl,λ_ _=>⟨rfl,rfl,rfl,rfl,rfl⟩⟩,⟨hF',⟨hi,rfl⟩,s1.mono (by show 7+7*a.m+5*(i:Int)+1<=8+7*a.m+5*(i:Int);omega),(DNZ hi).symm.trans g3,g4⟩,g5⟩,?_⟩,?_⟩
    ·rintro⟨i2,x2,b2⟩ ⟨⟨_,⟨q1,q2⟩,q3,q4,q5⟩,q6⟩
     dsimp only at q1 q2 q3 q4 q5 q6 ⊢
     have t1:=q3.next (by omega) 40
     have t2:=t1.next (by omega) 40
     have t3:=t2.next (by omega) 9
     have t4:=t3.next (by omega) 9
     refine⟨λhb2=>?_,λhb2=>?_⟩
     ·subst hb2
      refine⟨⟨⟨by omega,by omega⟩,rfl,q3.used.1,⟨by omega,by omega⟩,rfl,t1.used.1,⟨by omega,by omega⟩,rfl,t2.used.1,⟨by omega,by omega⟩,rfl,t3.used.1,Nat.one_pos,(λh=>by cases h),by omega,by omega⟩,⟨i2,⟨nS5 x2.s,x2.ns ++ [mkNt a x2.s i2]⟩⟩,⟨rfl,rfl,λ_ _=>rfl,rfl,rfl,by simp,by simp,λj hj=>?_⟩,⟨hF',⟨q1,q2⟩,t4.mono (by show 8+7*a.m+5*(i2:Int)+1+1+1+1<=12+7*a.m+5*(i2:Int);omega),q4,?_⟩,?_⟩
      ·have hj:j<(x2.ns ++ [mkNt a x2.s i2]).length:=hj
       rw[List.length_append] at hj
       show (gD (x2.ns ++ [_]) j).mi=_/\(gD (x2.ns ++ [_]) j).t.lo=_/\(gD (x2.ns ++ [_]) j).t.hi=_/\(gD (x2.ns ++ [_]) j).s.lo=_/\(gD (x2.ns ++ [_]) j).s.hi=_
       rw[Wv _ _ _ (by simpa using hj)]
       cases decide (j<x2.ns.length)<;>exact⟨rfl,rfl,rfl,rfl,rfl⟩
      ·show (x2.ns ++ [_]).length<=i2+1;simp;omega
      ·show 0<(x2.ns ++ [_]).length;simp
     ·subst hb2
      exact⟨⟨i2,x2⟩,⟨rfl,rfl,λ_ _=>rfl,rfl,rfl,rfl,rfl,λ_ _=>⟨rfl,rfl,rfl,rfl,rfl⟩⟩,⟨hF',⟨q1,q2⟩,q3.mono (by show 8+7*a.m+5*(i2:Int)<=12+7*a.m+5*(i2:Int);omega),q4,Nat.le_succ_of_le q5⟩,q6⟩
    ·rintro⟨i2,x2⟩ ⟨⟨_,⟨q1,q2⟩,q3,q4,q5⟩,q6⟩
     dsimp only at q1 q2 q3 q4 q5 q6 ⊢
     exact⟨⟨i2+1,x2⟩,⟨(FN (by omega)).symm,rfl,λ_ _=>rfl,rfl,rfl,rfl,rfl,λ_ _=>⟨rfl,rfl,rfl,rfl,rfl⟩⟩,⟨⟨hF',by show i2+1<=_;omega,q3.mono (by show 12+7*a.m+5*(i2:Int)<=7+7*a.m+5*((i2+1:Nat):Int);omega),q4,q5⟩,q6⟩,by show 100-(i2+1)<100-i;omega⟩
   ·have hi:=n_ge (by omega) hc
    obtain rfl:i=(mS a).ms.length:=by omega
    rw[Nat.sub_self] at g3
    have e:x=Ua a:=g3
    subst e
    exact⟨default,⟨rfl,λ_ _=>rfl,rfl,rfl,rfl,rfl,λ_ _=>⟨rfl,rfl,rfl,rfl,rfl⟩⟩,hF',g2.mono (by omega),g5,by omega⟩
  ·rintro⟨_,e0⟩
   have em:mE a=Ua a:=by unfold mE;rw[e0];rfl
   have en:(mE a).ns=[]:=by rw[em];exact e0
   have el:(ZP a).ns.length=0:=by show (mE a).ns.length=0;rw[en];rfl
   refine⟨⟨default,⟨by rw[em],λ_ _=>by rw[em],by rw[em],by rw[em]⟩,en⟩,λ_=>⟨rfl,rfl,rfl,rfl,rfl,rfl,λ_ _=>⟨rfl,rfl⟩,el,el,rfl,λ_ _=>rfl,rfl,λ_ _=>rfl,rfl,λ_ _=>rfl⟩⟩
  ·rintro⟨_,e1,e2,e3⟩
   refine⟨⟨⟨(Ua a).ns.length-1,Ua a⟩,⟨?_,rfl,λ_ _=>rfl,rfl,rfl,rfl,rfl,λ_ _=>⟨rfl,rfl,rfl,rfl,rfl⟩⟩,hF',by show (Ua a).ns.length-1<(Ua a).ns.length;omega,e1.mono ?_,rfl,e3⟩,?_⟩
   ·rw[JC (by omega) (by omega)];show (((Ua a).ns.length-1:Nat):Int)=_;omega
   ·show 7+7*a.m+5*a.m<=7+7*a.m+5*a.m+a.m-(((Ua a).ns.length-1:Nat):Int);omega
   ·rintro⟨i,x⟩ ⟨_,r1,r2,r3,r4⟩
    dsimp only at r1 r2 r3 r4 ⊢
    refine⟨λhi=>?_,λhi=>?_⟩
    ·obtain⟨j,rfl⟩:∃j,i=j+1:=⟨i-1,by omega⟩
     have ew:IntKind.i64.wrap (((j+1:Nat):Int)+1)=(j:Int)+2:=by rw[JC (by omega) (by omega)];omega
     have ew2:IntKind.i64.wrap (((j+1:Nat):Int)-1)=(j:Int):=by rw[JC (by omega) (by omega)];omega
     have hv:=WT r2 (by omega) ((j:Int)+2)
     have hv2:=hv.2 (by omega)
     rw[ew,ew2]
     have hk:(BA x.s ((j:Int)+2)).toNat<x.ns.length:=by omega
     refine⟨r2.used.1,⟨⟨hv.1,by omega⟩,hk,⟨by omega,by omega⟩,r1,⟨by omega,by omega⟩,r1,⟨hv.1,by omega⟩,hk⟩,⟨j,⟨BQ x.s ((j:Int)+2),swN x.ns (j+1) (BA x.s ((j:Int)+2)).toNat⟩⟩,⟨rfl,rfl,λ_ _=>rfl,rfl,rfl,sS _ _ _,sS _ _ _,λt ht=>?_⟩,⟨hF',?_,(r2.next (by omega) _).mono ?_,r3,?_⟩,Nat.lt_succ_self _⟩
     ·have e:=CUM (l:=x.ns) (i:=j+1) (k:=(BA x.s ((j:Int)+2)).toNat) r1 hk (t:=t)
      show (gD (swN x.ns (j+1) _) t).mi=_/\(gD (swN x.ns (j+1) _) t).t.lo=_/\(gD (swN x.ns (j+1) _) t).t.hi=_/\(gD (swN x.ns (j+1) _) t).s.lo=_/\(gD (swN x.ns (j+1) _) t).s.hi=_
      rw[e]
      cases decide (t=(BA x.s ((j:Int)+2)).toNat)<;>cases decide (t=j+1)<;>exact⟨rfl,rfl,rfl,rfl,rfl⟩
     ·show j<(swN x.ns _ _).length;rw[sS];omega
     ·show 7+7*a.m+5*a.m+a.m-((j+1:Nat):Int)+1<=7+7*a.m+5*a.m+a.m-(j:Int);omega
     ·show ((swN x.ns _ _).length:Int)<=_;rw[sS];exact r4
    ·obtain rfl:i=0:=by omega
     have e:x=mE a:=r3
     subst e
     exact⟨rfl,rfl,rfl,rfl,rfl,rfl,λ_ _=>⟨rfl,rfl⟩,rfl,Nat.le_refl _,λ_ _=>⟨rfl,rfl,rfl,rfl,rfl⟩,rfl,λ_ _=>rfl,rfl,λ_ _=>rfl,rfl,λ_ _=>rfl,rfl,λ_ _=>rfl,rfl,rfl⟩
theorem CUI:AM Try.prog CAS ((G5 true).spec (DLE true)):=WY (G5 true) (COH true) [] [305] CWC (λ_=>by kernel_rfl) (λ_=>AB CFE (AB CLG AG)) (λ(a:MkIQ) h=>DFN a (show AJS a/\a.b=true from h).1 (show AJS a/\a.b=true from h).2) (λ_=>YE rfl rfl) _
end Go.Bal
