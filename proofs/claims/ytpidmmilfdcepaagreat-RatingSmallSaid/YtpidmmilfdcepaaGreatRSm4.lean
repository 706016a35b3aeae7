/- RatingSmall: one number of an example is another one. -/
import Derived.Test.YtpidmmilfdcepaaGreatRSm
set_option linter.unusedVariables false
set_option linter.unusedSimpArgs false
namespace Go.Bal
open Go Go.Sym Go.Proofs
def E5(p:Bool)(k j:Nat)(v x:Int):Int:=bif p&&decide (j=k) then v else x
def Qb:List Ln:=[⟨100,10,200,30⟩,⟨0,61,2000,61⟩]
def bQ(n:Nat)(v:Int)(i:Nat):SnR:=⟨HA 3 λj=>⟨E5 (n==0) 0 j v (E5 (n==3) 2 j v (gD (FQ 60 62) j).st),E5 (n==1) 1 j v (gD (FQ 60 62) j).lo,E5 (n==2) 1 j v (E5 (n==21) 2 j v (gD (FQ 60 62) j).hi)⟩,
 ⟨HA 1 λj=>bif n==4 then v else 300,HA 2 λj=>⟨E5 (n==5) 0 j v (gD Qb j).a0,(gD Qb j).a1,E5 (n==7) 1 j v (gD Qb j).b0,E5 (n==6) 0 j v (gD Qb j).b1⟩⟩,
 ⟨bif n==10 then v else 100,bif n==8 then v else 12,bif n==9 then v else 300,50⟩,bif n==11 then v else 50,HA 1 λ_=>bif n==12 then v else 250,
 HA 3 λj=>E5 (n==13) 0 j v (E5 (n==14) 1 j v (E5 (n==15) 2 j v (gD [0,1,2] j))),bif n==16 then v else 2,HA 3 λj=>E5 (n==17) 2 j v (gD [0,1,2] j),
 bif n==18 then v else 40,bif n==19 then v else 90,bif n==20 then v else 110,i,n⟩
theorem MJ{p:Nat->Prop}:(∀j,j<1->p j)↔p 0:=⟨λh=>h 0 (by omega),λh j hj=>by match j,hj with | 0,_=>exact h⟩
theorem ML{p:Nat->Prop}:(∀j,j<2->p j)↔p 0/\p 1:=⟨λh=>⟨h 0 (by omega),h 1 (by omega)⟩,λh j hj=>by match j,hj with | 0,_=>exact h.1 | 1,_=>exact h.2⟩
theorem MK{p:Nat->Prop}:(∀j,j<3->p j)↔p 0/\p 1/\p 2:=⟨λh=>⟨h 0 (by omega),h 1 (by omega),h 2 (by omega)⟩,λh j hj=>by match j,hj with | 0,_=>exact h.1 | 1,_=>exact h.2.1 | 2,_=>exact h.2.2⟩
theorem Cj{α:Type}[Inhabited α](x:α)(l:List α):gD (x :: l) 0=x:=rfl
theorem Cg{α:Type}[Inhabited α](x y:α)(l:List α):gD (x :: y :: l) 1=y:=rfl
theorem Cc{α:Type}[Inhabited α](x y z:α)(l:List α):gD (x :: y :: z :: l) 2=z:=rfl
def V_n0(w:One):Prop:=GY ZP A_Sn Gk 10 (Vk 0) (AE Tryz.f3) [] Vl
abbrev AIP:=SnR.i
abbrev AAN:=SnR.n
abbrev Ew:=SnR.l
abbrev iW:=SnR.b
abbrev jO:=SnR.z
abbrev ADB:=SnR.r
abbrev ACM:=SnR.x
abbrev AAH:=SnR.m
abbrev bZ:=SnR.k
abbrev AGD a b c:=PY (Ko a b) c
abbrev PF a(b:SnI->Prop):=AGD a 30 (ARY b)
abbrev BJO a b c d e:=fL (RO a) b c d e
abbrev BLN a b c d e:=BJO a b (AGC c d) (AOK a) e
abbrev QP a b(c:Nat->Prop):=BLN a 30 a b (AG c)
abbrev QF a b c d e f g(h:SnR->Prop):=BKQ a (PY (AFE b c) (HJ d 22 (LZ (BRG e 22 (Eh f)) g ((@Exists SnR) h))))
abbrev BAK a:=Uy (Ew a) 3
abbrev BHI a b:=BIS 22 (AAN a) b
abbrev BIJ a b:=AFE (AIP a) b
abbrev QW a b c d e f g h:=AW a (FC (AIP b) 30) (BIJ c d) (FC (AAN e) 22) (BHI f g) (BAK h)
abbrev QE a b c d:=AW (ANZ sS (AIP a) b) (AI (AAN a) c) AF Lr zK d
abbrev AGM:=BGE 3
abbrev BLX a b c d e(f:Nat->Prop) g h:=DO (AI (AIP a) b) (BAK c) AGM d (mT (iW e)) Ea f (OD (jO g) 3) h
abbrev BIL a b c d:=yC a b (ACR c d) a
abbrev M4 a b c d e f g h:=BLX a b c d e (λi=>BIL i (iW f) 250 aX) g h
abbrev AFU a:=Cm (ADB a)
abbrev ANA a b c d e f g h:=yV a b c d e (mT (AFU f)) g h
abbrev BMF a b c:=AG (λi=>BIL i a b c)
abbrev AFN a b:=ANA AGM (BMF (jO a) 0 (wJ 1 2)) UX Lr fZ a Ea b
abbrev AYJ a:=IS (ADB a)
abbrev BNL a b c(d:Nat->Prop) e f g h p:=Tf a (DU (AYJ b) 2) c d e f g (zE (ACM h) 50) p
abbrev BIU a b:=xV (ACM a) b
abbrev BNM a b c(d:Nat->Prop) e f g h p:=BNL a b c d e f (BIU g 300) h p
abbrev AYA a b:=tZ (ACM a) b
abbrev BMJ a b c(d:Nat->Prop) e f g h p:=BNM a b c d e (AYA f 12) g h p
abbrev BJI a b:=dK (ACM a) b
abbrev AXR a:=BJI a 100
abbrev BMD a b c(d:Nat->Prop) e f g h p:=BMJ a b c d (AXR e) f g h p
abbrev AQT a:=BMF (AFU a) 300 aX
abbrev AOQ a b(c:Nat->Prop) d e f g h:=BMD (AQT a) b gR c d e f g h
abbrev Ed a b c(d:Nat->Prop) e f g h p:=AFN a (AOQ b c d e f g h p)
abbrev BKF a b:=BR (bZ a) b
abbrev BKU a b c d e f g:=BHV a b c d e (OD (bZ f) 3) (BKF g T7)
abbrev AZV a b:=BM (SnR.u a) b
abbrev BMO a b c d e f g:=BKU a b c d (AZV e 110) f g
abbrev BHW a b:=BM (SnR.t a) b
abbrev AUP a:=BHW a 90
abbrev BIZ a b c d e f g:=BMO a b c (AUP d) e f g
abbrev BJG a b:=BM (SnR.f a) b
abbrev APX a:=BJG a 40
abbrev BMQ a b c d e f g:=BIZ a b (APX c) d e f g
abbrev AES a:=aS (AAH a)
abbrev BJV a b c d e f g:=BMQ a (AES b) c d e f g
abbrev BJM a b:=BM (SnR.s a) b
abbrev K8 a:=BJM a 50
abbrev Ah a b c d e f g:=BJV (K8 a) b c d e f g
abbrev APB a b:=KX (ADB a) b
abbrev APO a b c d e f:=dB a (AYJ b) (APB c d) e f
abbrev APP a:=Qq Hh a
abbrev VD a b c d e f:=APO a b c d (APP e) f
abbrev BHP a b:=SJ (APB a b)
abbrev ANW a b c d e f g:=AEX (APB a b) c d (BHP e f) g
abbrev AML a:=BBV Hh a
abbrev ALE a:=wT Hh a
abbrev ANH a:=YO Hh a
abbrev VJ a b c d e f g:=ANW a b (ANH c) (ALE d) e f (AML g)
abbrev tV a:=DG kO a
abbrev hU a:=DF kO a
abbrev mI a:=BL kO a
abbrev QC a:=KL sS a
abbrev M2 a b c:=BNN a 22 b c
abbrev eI a b:=M2 a b 3
attribute [go_sem] AIP AAN Ew iW jO ADB ACM AAH bZ AGD PF BJO BLN QP QF BAK BHI BIJ QW QE AGM BLX BIL M4 AFU ANA BMF AFN AYJ BNL BIU BNM AYA BMJ BJI AXR BMD AQT AOQ Ed BKF BKU AZV BMO BHW AUP BIZ BJG APX BMQ AES BJV BJM K8 Ah APB APO APP VD BHP ANW AML ALE ANH VJ tV hU mI QC M2 eI
theorem DCE(w:One):(V_n0 w)=(AG (λi=>PF i (λj=>QP j i (λk=>QF k k i 0 22 j (eI 0 0) (λl=>QW (QE l k 0 (M4 l k l (AG (λm=>Pg m (Ew l) (Cw m (QC k) (mI (AQ m))) (Cw m (hU 0) (hU (AQ m))) (Cw m (mH kO) (tV (AQ m))))) l l l (Ed l l l (λm=>VD m l l m m (VJ l m m m l m m)) l l l l (Ah l l l l l l l)))) l l i l l j l))))):=by kernel_rfl
def V_n1(w:One):Prop:=GY ZP A_Sn Gk 10 (Vk 1) (AE Tryz.f3) [] Vl
abbrev pX a b c d:=SE (AQ a) b c d
abbrev Ud a b c:=pX a 1 b c
attribute [go_sem] pX Ud
theorem DBO(w:One):(V_n1 w)=(AG (λi=>PF i (λj=>QP j i (λk=>QF k k i 1 21 j (eI 1 1) (λl=>QW (QE l k 1 (M4 l k l (AG (λm=>Pg m (Ew l) (Ud m (mI 1) (mI (AQ m))) (Ud m (QC k) (hU (AQ m))) (Ud m (tV 1) (tV (AQ m))))) l l l (Ed l l l (λm=>VD m l l m m (VJ l m m m l m m)) l l l l (Ah l l l l l l l)))) l l i l l j l))))):=by kernel_rfl
def V_n2(w:One):Prop:=GY ZP A_Sn Gk 10 (Vk 2) (AE Tryz.f3) [] Vl
theorem CZG(w:One):(V_n2 w)=(AG (λi=>PF i (λj=>QP j i (λk=>QF k k i 2 20 j (eI 2 1) (λl=>QW (QE l k 2 (M4 l k l (AG (λm=>Pg m (Ew l) (Ud m (mI 1) (mI (AQ m))) (Ud m (hU 1) (hU (AQ m))) (Ud m (QC k) (tV (AQ m))))) l l l (Ed l l l (λm=>VD m l l m m (VJ l m m m l m m)) l l l l (Ah l l l l l l l)))) l l i l l j l))))):=by kernel_rfl
def V_n3(w:One):Prop:=GY ZP A_Sn Gk 10 (Vk 3) (AE Tryz.f3) [] Vl
theorem CXZ(w:One):(V_n3 w)=(AG (λi=>PF i (λj=>QP j i (λk=>QF k k i 3 19 j (eI 3 2) (λl=>QW (QE l k 3 (M4 l k l (AG (λm=>Pg m (Ew l) (pX m 2 (QC k) (mI (AQ m))) (pX m 2 (hU 2) (hU (AQ m))) (pX m 2 (tV 2) (tV (AQ m))))) l l l (Ed l l l (λm=>VD m l l m m (VJ l m m m l m m)) l l l l (Ah l l l l l l l)))) l l i l l j l))))):=by kernel_rfl
def V_n4(w:One):Prop:=GY ZP A_Sn Gk 10 (Vk 4) (AE Tryz.f3) [] Vl
abbrev ZJ a b c d e f g h:=M4 a b c (fS (Ew d) kO) e f g h
attribute [go_sem] ZJ
theorem DAD(w:One):(V_n4 w)=(AG (λi=>PF i (λj=>QP j i (λk=>QF k k i 4 18 j (M2 4 0 1) (λl=>QW (QE l k 4 (ZJ l k l l l l l (AFN l (BMD (AG (λm=>KC m (AFU l) (Cw m (QC k) (MS (ACR 300 aX) m)))) l gR (λm=>VD m l l m m (VJ l m m m l m m)) l l l l (Ah l l l l l l l))))) l l i l l j l))))):=by kernel_rfl
def V_n5(w:One):Prop:=GY ZP A_Sn Gk 10 (Vk 5) (AE Tryz.f3) [] Vl
theorem CYK(w:One):(V_n5 w)=(AG (λi=>PF i (λj=>QP j i (λk=>QF k k i 5 17 j (M2 5 0 2) (λl=>QW (QE l k 5 (ZJ l k l l l l l (Ed l l l (λm=>APO m l l m (Cw m (QC k) (APP m)) (ANW l m (Cw m (LO Hh 0) (ANH m)) (Cw m (IV Hh 0) (ALE m)) l m (Cw m (OE Hh 0) (AML m)))) l l l l (Ah l l l l l l l)))) l l i l l j l))))):=by kernel_rfl
def V_n6(w:One):Prop:=GY ZP A_Sn Gk 10 (Vk 6) (AE Tryz.f3) [] Vl
theorem CZP(w:One):(V_n6 w)=(AG (λi=>PF i (λj=>QP j i (λk=>QF k k i 6 16 j (M2 6 0 2) (λl=>QW (QE l k 6 (ZJ l k l l l l l (Ed l l l (λm=>APO m l l m (Cw m (GQ Hh 0) (APP m)) (ANW l m (Cw m (LO Hh 0) (ANH m)) (Cw m (IV Hh 0) (ALE m)) l m (Cw m (QC k) (AML m)))) l l l l (Ah l l l l l l l)))) l l i l l j l))))):=by kernel_rfl
def V_n7(w:One):Prop:=GY ZP A_Sn Gk 10 (Vk 7) (AE Tryz.f3) [] Vl
theorem CYH(w:One):(V_n7 w)=(AG (λi=>PF i (λj=>QP j i (λk=>QF k k i 7 15 j (M2 7 1 2) (λl=>QW (QE l k 7 (ZJ l k l l l l l (Ed l l l (λm=>APO m l l m (Ud m (GQ Hh 1) (APP m)) (ANW l m (Ud m (LO Hh 1) (ANH m)) (Ud m (QC k) (ALE m)) l m (Ud m (OE Hh 1) (AML m)))) l l l l (Ah l l l l l l l)))) l l i l l j l))))):=by kernel_rfl
def V_n8(w:One):Prop:=GY ZP A_Sn Gk 10 (Vk 8) (AE Tryz.f3) [] Vl
abbrev qA a:=CR a 22
attribute [go_sem] qA
theorem CYU(w:One):(V_n8 w)=(AG (λi=>PF i (λj=>QP j i (λk=>QF k k i 8 14 j (qA 8) (λl=>QW (QE l k 8 (ZJ l k l l l l l (AFN l (BNM (AQT l) l gR (λm=>VD m l l m m (VJ l m m m l m m)) (AXR l) (AYA l (QC k)) l l (Ah l l l l l l l))))) l l i l l j l))))):=by kernel_rfl
def V_n9(w:One):Prop:=GY ZP A_Sn Gk 10 (Vk 9) (AE Tryz.f3) [] Vl
theorem DBZ(w:One):(V_n9 w)=(AG (λi=>PF i (λj=>QP j i (λk=>QF k k i 9 13 j (qA 9) (λl=>QW (QE l k 9 (ZJ l k l l l l l (AFN l (BNL (AQT l) l gR (λm=>VD m l l m m (VJ l m m m l m m)) (AXR l) (AYA l 12) (BIU l (QC k)) l (Ah l l l l l l l))))) l l i l l j l))))):=by kernel_rfl
def CPQ(w:One):Prop:=GY ZP A_Sn Gk 10 (Vk 10) (AE Tryz.f3) [] Vl
theorem CRD(w:One):(CPQ w)=(AG (λi=>PF i (λj=>QP j i (λk=>QF k k i 10 12 j (qA 10) (λl=>QW (QE l k 10 (ZJ l k l l l l l (AFN l (BMJ (AQT l) l gR (λm=>VD m l l m m (VJ l m m m l m m)) (BJI l (QC k)) l l l (Ah l l l l l l l))))) l l i l l j l))))):=by kernel_rfl
def CQT(w:One):Prop:=GY ZP A_Sn Gk 10 (Vk 11) (AE Tryz.f3) [] Vl
theorem CRU(w:One):(CQT w)=(AG (λi=>PF i (λj=>QP j i (λk=>QF k k i 11 11 j (qA 11) (λl=>QW (QE l k 11 (ZJ l k l l l l l (Ed l l l (λm=>VD m l l m m (VJ l m m m l m m)) l l l l (BJV (BJM l (QC k)) l l l l l l)))) l l i l l j l))))):=by kernel_rfl
def CPF(w:One):Prop:=GY ZP A_Sn Gk 10 (Vk 12) (AE Tryz.f3) [] Vl
theorem CWN(w:One):(CPF w)=(AG (λi=>PF i (λj=>QP j i (λk=>QF k k i 12 10 j (M2 12 0 1) (λl=>QW (QE l k 12 (BLX l k l (fS (Ew l) kO) l (λm=>KC m (iW l) (Cw m (QC k) (MS (ACR 250 aX) m))) l (Ed l l l (λm=>VD m l l m m (VJ l m m m l m m)) l l l l (Ah l l l l l l l)))) l l i l l j l))))):=by kernel_rfl
def COE(w:One):Prop:=GY ZP A_Sn Gk 10 (Vk 13) (AE Tryz.f3) [] Vl
theorem CWP(w:One):(COE w)=(AG (λi=>PF i (λj=>QP j i (λk=>QF k k i 13 9 j (eI 13 0) (λl=>QW (QE l k 13 (ZJ l k l l l l l (ANA AGM (AG (λm=>KC m (jO l) (Cw m (QC k) (MS T7 m)))) UX Lr fZ l Ea (AOQ l l (λm=>VD m l l m m (VJ l m m m l m m)) l l l l (Ah l l l l l l l))))) l l i l l j l))))):=by kernel_rfl
def CNN(w:One):Prop:=GY ZP A_Sn Gk 10 (Vk 14) (AE Tryz.f3) [] Vl
theorem CSX(w:One):(CNN w)=(AG (λi=>PF i (λj=>QP j i (λk=>QF k k i 14 8 j (eI 14 1) (λl=>QW (QE l k 14 (ZJ l k l l l l l (ANA AGM (AG (λm=>KC m (jO l) (Ud m (QC k) (MS T7 m)))) UX Lr fZ l Ea (AOQ l l (λm=>VD m l l m m (VJ l m m m l m m)) l l l l (Ah l l l l l l l))))) l l i l l j l))))):=by kernel_rfl
def CMD(w:One):Prop:=GY ZP A_Sn Gk 10 (Vk 15) (AE Tryz.f3) [] Vl
theorem CWH(w:One):(CMD w)=(AG (λi=>PF i (λj=>QP j i (λk=>QF k k i 15 7 j (eI 15 2) (λl=>QW (QE l k 15 (ZJ l k l l l l l (ANA AGM (AG (λm=>KC m (jO l) (pX m 2 (QC k) (MS T7 m)))) UX Lr fZ l Ea (AOQ l l (λm=>VD m l l m m (VJ l m m m l m m)) l l l l (Ah l l l l l l l))))) l l i l l j l))))):=by kernel_rfl
def CPU(w:One):Prop:=GY ZP A_Sn Gk 10 (Vk 16) (AE Tryz.f3) [] Vl
theorem CVV(w:One):(CPU w)=(AG (λi=>PF i (λj=>QP j i (λk=>QF k k i 16 6 j (qA 16) (λl=>QW (QE l k 16 (ZJ l k l l l l l (Ed l l l (λm=>VD m l l m m (VJ l m m m l m m)) l l l l (BMQ (K8 l) (BM (AAH l) (QC k)) l l l l l)))) l l i l l j l))))):=by kernel_rfl
def COW(w:One):Prop:=GY ZP A_Sn Gk 10 (Vk 17) (AE Tryz.f3) [] Vl
theorem CVR(w:One):(COW w)=(AG (λi=>PF i (λj=>QP j i (λk=>QF k k i 17 5 j (eI 17 2) (λl=>QW (QE l k 17 (ZJ l k l l l l l (Ed l l l (λm=>VD m l l m m (VJ l m m m l m m)) l l l l (APF (K8 l) (AES l) (APX l) (AUP l) (AZV l 110) (OD (bZ l) 3) (λm=>KC m (bZ l) (SE m 2 (QC k) (KL T7 m))))))) l l i l l j l))))):=by kernel_rfl
def CPW(w:One):Prop:=GY ZP A_Sn Gk 10 (Vk 18) (AE Tryz.f3) [] Vl
theorem CWJ(w:One):(CPW w)=(AG (λi=>PF i (λj=>QP j i (λk=>QF k k i 18 4 j (qA 18) (λl=>QW (QE l k 18 (ZJ l k l l l l l (Ed l l l (λm=>VD m l l m m (VJ l m m m l m m)) l l l l (BIZ (K8 l) (AES l) (BJG l (QC k)) l l l l)))) l l i l l j l))))):=by kernel_rfl
def CMW(w:One):Prop:=GY ZP A_Sn Gk 10 (Vk 19) (AE Tryz.f3) [] Vl
theorem CTB(w:One):(CMW w)=(AG (λi=>PF i (λj=>QP j i (λk=>QF k k i 19 3 j (qA 19) (λl=>QW (QE l k 19 (ZJ l k l l l l l (Ed l l l (λm=>VD m l l m m (VJ l m m m l m m)) l l l l (BMO (K8 l) (AES l) (APX l) (BHW l (QC k)) l l l)))) l l i l l j l))))):=by kernel_rfl
def CQM(w:One):Prop:=GY ZP A_Sn Gk 10 (Vk 20) (AE Tryz.f3) [] Vl
theorem CUG(w:One):(CQM w)=(AG (λi=>PF i (λj=>QP j i (λk=>QF k k i 20 2 j (qA 20) (λl=>QW (QE l k 20 (ZJ l k l l l l l (Ed l l l (λm=>VD m l l m m (VJ l m m m l m m)) l l l l (BKU (K8 l) (AES l) (APX l) (AUP l) (AZV l (QC k)) l l)))) l l i l l j l))))):=by kernel_rfl
def CQS(w:One):Prop:=GY ZP A_Sn Gk 10 (Vk 21) (AE Tryz.f3) [] Vl
theorem CVE(w:One):(CQS w)=(AG (λi=>PF i (λj=>QP j i (λk=>QF k k i 21 1 j (eI 21 2) (λl=>QW (QE l k 21 (M4 l k l (AG (λm=>Pg m (Ew l) (pX m 2 (mI 2) (mI (AQ m))) (pX m 2 (hU 2) (hU (AQ m))) (pX m 2 (QC k) (tV (AQ m))))) l l l (Ed l l l (λm=>VD m l l m m (VJ l m m m l m m)) l l l l (Ah l l l l l l l)))) l l i l l j l))))):=by kernel_rfl
theorem p_n0(w:One):V_n0 w:=by
 rw[DCE]<;> dsimp only[go_sem];intro a h0 s h1 i h2 h3 h4 h5
 refine⟨by simp,bQ 0 (gD sS i) i,?_,h2,h3,h4,h5,rng_length _ _⟩
 simp[bQ,E5,MJ,ML,MK,rng_length,DC,FQ,Qb,Cj,Cg,Cc]
theorem p_n1(w:One):V_n1 w:=by
 rw[DBO]<;> dsimp only[go_sem];intro a h0 s h1 i h2 h3 h4 h5
 refine⟨by simp,bQ 1 (gD sS i) i,?_,h2,h3,h4,h5,rng_length _ _⟩
 simp[bQ,E5,MJ,ML,MK,rng_length,DC,FQ,Qb,Cj,Cg,Cc]
theorem p_n2(w:One):V_n2 w:=by
 rw[CZG]<;> dsimp only[go_sem];intro a h0 s h1 i h2 h3 h4 h5
 refine⟨by simp,bQ 2 (gD sS i) i,?_,h2,h3,h4,h5,rng_length _ _⟩
 simp[bQ,E5,MJ,ML,MK,rng_length,DC,FQ,Qb,Cj,Cg,Cc]
theorem p_n3(w:One):V_n3 w:=by
 rw[CXZ]<;> dsimp only[go_sem];intro a h0 s h1 i h2 h3 h4 h5
 refine⟨by simp,bQ 3 (gD sS i) i,?_,h2,h3,h4,h5,rng_length _ _⟩
 simp[bQ,E5,MJ,ML,MK,rng_length,DC,FQ,Qb,Cj,Cg,Cc]
theorem p_n4(w:One):V_n4 w:=by
 rw[DAD]<;> dsimp only[go_sem];intro a h0 s h1 i h2 h3 h4 h5
 refine⟨by simp,bQ 4 (gD sS i) i,?_,h2,h3,h4,h5,rng_length _ _⟩
 simp[bQ,E5,MJ,ML,MK,rng_length,DC,FQ,Qb,Cj,Cg,Cc]
theorem p_n5(w:One):V_n5 w:=by
 rw[CYK]<;> dsimp only[go_sem];intro a h0 s h1 i h2 h3 h4 h5
 refine⟨by simp,bQ 5 (gD sS i) i,?_,h2,h3,h4,h5,rng_length _ _⟩
 simp[bQ,E5,MJ,ML,MK,rng_length,DC,FQ,Qb,Cj,Cg,Cc]
theorem p_n6(w:One):V_n6 w:=by
 rw[CZP]<;> dsimp only[go_sem];intro a h0 s h1 i h2 h3 h4 h5
 refine⟨by simp,bQ 6 (gD sS i) i,?_,h2,h3,h4,h5,rng_length _ _⟩
 simp[bQ,E5,MJ,ML,MK,rng_length,DC,FQ,Qb,Cj,Cg,Cc]
theorem p_n7(w:One):V_n7 w:=by
 rw[CYH]<;> dsimp only[go_sem];intro a h0 s h1 i h2 h3 h4 h5
 refine⟨by simp,bQ 7 (gD sS i) i,?_,h2,h3,h4,h5,rng_length _ _⟩
 simp[bQ,E5,MJ,ML,MK,rng_length,DC,FQ,Qb,Cj,Cg,Cc]
theorem p_n8(w:One):V_n8 w:=by
 rw[CYU]<;> dsimp only[go_sem];intro a h0 s h1 i h2 h3 h4 h5
 refine⟨by simp,bQ 8 (gD sS i) i,?_,h2,h3,h4,h5,rng_length _ _⟩
 simp[bQ,E5,MJ,ML,MK,rng_length,DC,FQ,Qb,Cj,Cg,Cc]
theorem p_n9(w:One):V_n9 w:=by
 rw[DBZ]<;> dsimp only[go_sem];intro a h0 s h1 i h2 h3 h4 h5
 refine⟨by simp,bQ 9 (gD sS i) i,?_,h2,h3,h4,h5,rng_length _ _⟩
 simp[bQ,E5,MJ,ML,MK,rng_length,DC,FQ,Qb,Cj,Cg,Cc]
theorem DAO(w:One):CPQ w:=by
 rw[CRD]<;> dsimp only[go_sem];intro a h0 s h1 i h2 h3 h4 h5
 refine⟨by simp,bQ 10 (gD sS i) i,?_,h2,h3,h4,h5,rng_length _ _⟩
 simp[bQ,E5,MJ,ML,MK,rng_length,DC,FQ,Qb,Cj,Cg,Cc]
theorem DBP(w:One):CQT w:=by
 rw[CRU]<;> dsimp only[go_sem];intro a h0 s h1 i h2 h3 h4 h5
 refine⟨by simp,bQ 11 (gD sS i) i,?_,h2,h3,h4,h5,rng_length _ _⟩
 simp[bQ,E5,MJ,ML,MK,rng_length,DC,FQ,Qb,Cj,Cg,Cc]
theorem DCJ(w:One):CPF w:=by
 rw[CWN]<;> dsimp only[go_sem];intro a h0 s h1 i h2 h3 h4 h5
 refine⟨by simp,bQ 12 (gD sS i) i,?_,h2,h3,h4,h5,rng_length _ _⟩
 simp[bQ,E5,MJ,ML,MK,rng_length,DC,FQ,Qb,Cj,Cg,Cc]
theorem DCD(w:One):COE w:=by
 rw[CWP]<;> dsimp only[go_sem];intro a h0 s h1 i h2 h3 h4 h5
 refine⟨by simp,bQ 13 (gD sS i) i,?_,h2,h3,h4,h5,rng_length _ _⟩
 simp[bQ,E5,MJ,ML,MK,rng_length,DC,FQ,Qb,Cj,Cg,Cc]
theorem DBA(w:One):CNN w:=by
 rw[CSX]<;> dsimp only[go_sem];intro a h0 s h1 i h2 h3 h4 h5
 refine⟨by simp,bQ 14 (gD sS i) i,?_,h2,h3,h4,h5,rng_length _ _⟩
 simp[bQ,E5,MJ,ML,MK,rng_length,DC,FQ,Qb,Cj,Cg,Cc]
theorem CWZ(w:One):CMD w:=by
 rw[CWH]<;> dsimp only[go_sem];intro a h0 s h1 i h2 h3 h4 h5
 refine⟨by simp,bQ 15 (gD sS i) i,?_,h2,h3,h4,h5,rng_length _ _⟩
 simp[bQ,E5,MJ,ML,MK,rng_length,DC,FQ,Qb,Cj,Cg,Cc]
theorem DCA(w:One):CPU w:=by
 rw[CVV]<;> dsimp only[go_sem];intro a h0 s h1 i h2 h3 h4 h5
 refine⟨by simp,bQ 16 (gD sS i) i,?_,h2,h3,h4,h5,rng_length _ _⟩
 simp[bQ,E5,MJ,ML,MK,rng_length,DC,FQ,Qb,Cj,Cg,Cc]
theorem DCC(w:One):COW w:=by
 rw[CVR]<;> dsimp only[go_sem];intro a h0 s h1 i h2 h3 h4 h5
 refine⟨by simp,bQ 17 (gD sS i) i,?_,h2,h3,h4,h5,rng_length _ _⟩
 simp[bQ,E5,MJ,ML,MK,rng_length,DC,FQ,Qb,Cj,Cg,Cc]
theorem DAH(w:One):CPW w:=by
 rw[CWJ]<;> dsimp only[go_sem];intro a h0 s h1 i h2 h3 h4 h5
 refine⟨by simp,bQ 18 (gD sS i) i,?_,h2,h3,h4,h5,rng_length _ _⟩
 simp[bQ,E5,MJ,ML,MK,rng_length,DC,FQ,Qb,Cj,Cg,Cc]
theorem CZR(w:One):CMW w:=by
 rw[CTB]<;> dsimp only[go_sem];intro a h0 s h1 i h2 h3 h4 h5
 refine⟨by simp,bQ 19 (gD sS i) i,?_,h2,h3,h4,h5,rng_length _ _⟩
 simp[bQ,E5,MJ,ML,MK,rng_length,DC,FQ,Qb,Cj,Cg,Cc]
theorem DAF(w:One):CQM w:=by
 rw[CUG]<;> dsimp only[go_sem];intro a h0 s h1 i h2 h3 h4 h5
 refine⟨by simp,bQ 20 (gD sS i) i,?_,h2,h3,h4,h5,rng_length _ _⟩
 simp[bQ,E5,MJ,ML,MK,rng_length,DC,FQ,Qb,Cj,Cg,Cc]
theorem CYM(w:One):CQS w:=by
 rw[CVE]<;> dsimp only[go_sem];intro a h0 s h1 i h2 h3 h4 h5
 refine⟨by simp,bQ 21 (gD sS i) i,?_,h2,h3,h4,h5,rng_length _ _⟩
 simp[bQ,E5,MJ,ML,MK,rng_length,DC,FQ,Qb,Cj,Cg,Cc]
def CME(w:One):Prop:=L_Sn 11
abbrev ARH:=PaX.mk
abbrev ASA:=PaA.mk
abbrev ASX:=@List.cons (List Int)
abbrev ADU a b c:=JR (UO (AAN a) b) c
abbrev qS a b c:=EP (ADU a b c) (not aN)
abbrev yB a b:=NO (AAN a) b
abbrev R5 a:=BO (AAN a)
abbrev APS a:=hd68 a 2
attribute [go_sem] ARH ASA ASX ADU qS yB R5 APS
theorem CUD(w:One):(CME w)=(AG (λi=>PF i (λj=>BLN j 30 j i ((λ(f:SnR->Prop)=>∀(x:SnR),f x) (λk=>LZ (AR (FC (AIP k) 30) (BIJ k i) (FC (AAN k) 22) (BHI k j) (BAK k)) (BD (FA (ADU k 12 (VS (R5 k) 21)) (AO (AY (Ew k)) (BJ (Ew k)) (Tf (BC (Ce (ADB k)) (AFU k)) (BR (Ce (ADB k)) (AFU k)) (LB (rZ (ADB k)) (AYJ k)) (λl=>BMS l (CO (rZ (ADB k))) (rZ (ADB k)) (APB k l) (BHP k l)) (Q9 (ACM k)) (Su (ACM k)) (AFP (ACM k)) (Sj (ACM k)) (AK (SnR.s k))))) (fQ (qS k 12 (VS (R5 k) 21)) (ADU k 4 (yB k 11)) (AO (AY (Ew k)) (BJ (Ew k)) (jP (EA (iW k)) (CM (iW k)) (EA (jO k)) (CM (jO k)) (AK (AAH k)) AF UX (BQI (BC (lsZ (ARH (ASA (CG (Ew k)) (FI (iW k)) (FI (jO k)) (AAH k) (ASX (FI (bZ k)) sA)) 2)) (bZ k)) (BR (lsZ (ARH (ASA (CG (Ew k)) (FI (iW k)) (FI (jO k)) (AAH k) (ASX (FI (bZ k)) sA)) 2)) (bZ k)) AF (BC (bZ k) (lsZ (ARH (ASA (CG (Ew k)) (FI (iW k)) (FI (jO k)) (AAH k) (ASX (FI (bZ k)) sA)) 2))) (BC (bZ k) (lsZ (ARH (ASA (CG (Ew k)) (FI (iW k)) (FI (jO k)) (AAH k) (ASX (FI (bZ k)) sA)) 2))) (BKF k (lsZ (ARH (ASA (CG (Ew k)) (FI (iW k)) (FI (jO k)) (AAH k) (ASX (FI (bZ k)) sA)) 2))) (N4 (Ew k)) UN)))) (fQ (JR (qS k 12 (VS (R5 k) 21)) (qS k 4 (yB k 11))) (ADU k 4 (yB k 10)) Rk) (fQ (JR (qS k 12 (VS (R5 k) 21)) (qS k 4 (yB k 11))) (ADU k 4 (yB k 10)) (BK (AY (Ew k)) (BJ (Ew k)) (EA (iW k)) (CM (iW k)) (AK (SnR.s k)) (AK (SnR.f k)) (AK (SnR.t k)) (AK (SnR.u k)) (jL (OJ (APS (R5 k))))))) (Tp (JR (qS k 12 (VS (R5 k) 21)) (qS k 4 (yB k 11))) (qS k 4 (yB k 10)) (ASD (λl=>EO (gZ (ANZ sS (RO l) (AIP k)) (AJ (Eh l) (AAN k)) (Ut Lr zK (AI (RO l) (AIP k)) fZ)) (AFH (RO l) 30 (AGC l i) (AOK l)) 22 (Eh l) (Eh j))))))))):=by kernel_rfl
def CMZ(w:One):Prop:=L_Sn 13
theorem CTY(w:One):(CMZ w)=(AG (λi=>AGD i 30 (AG (λj=>uR (And (FC j 30) (AFE j i)) (λk=>Bm (EN (Ut Lr zK (AJ k j) fZ)) k 30 k i))))):=by kernel_rfl
def CPV(w:One):Prop:=L_Sn 14
abbrev AOW:=@Exists SnX
abbrev Kj:=SnX.v
abbrev Yy:=SnX.n
abbrev rY:=Ha
abbrev I7:=λ(f:SnX->Prop)=>∀(x:SnX),f x
abbrev nV a b:=IZ rY (Yy a) (Yy b)
abbrev AFK a b:=BM (Kj a) b
abbrev lA a:=BO (Yy a)
abbrev kN a b:=AFK a (lA b)
abbrev zC a:=FF (Yy a) rY
attribute [go_sem] AOW Kj Yy rY I7 nV AFK lA kN zC
theorem CSF(w:One):(CPV w)=(Ep (λi=>LZ HO (AOW (λj=>Hk (CL (Kj j)) (Kj j) (lA j) (zC j))) (I7 (λj=>So (TN (Kj j) (lA j) (zC j)) (Kj j) 4096 (AOW (λk=>BD (AFK k (Kj j)) (kN k k) (FC (Yy k) rY) (nV k j))) (Ur (λk=>HO)))))):=by kernel_rfl
def CPE(w:One):Prop:=L_Sn 17
abbrev cF:=SnX.l
abbrev yI a:=Uy (cF a) 4
abbrev WC a b c:=hd68 (J4 (Kj a) b) c
abbrev pG a b:=hd68 (Kj a) b
abbrev Dw a:=pG a 3
abbrev rF a:=Up 1 a
abbrev uE a:=pG a 2
attribute [go_sem] cF yI WC pG Dw rF uE
theorem CTQ(w:One):(CPE w)=(I7 (λi=>PY (TN (Kj i) (lA i) (zC i)) (I7 (λj=>LZ (AO (kN j j) (FC (Yy j) rY) (nV j i)) (And oR (Ld oR (II 4) (II 4) (II 3) (II 8) (II 5) (II 8) (BEC (II 5) (II 3) oR (II 40) (II 11) (II 7) (II 11) (jP (II 7) (II 5) (II 3) (II 7) (II 4) (II 77) (II 6) (XW 6))))) (AOW (λk=>AR (AQD (AFK k (Kj j)) AF (DR 4) (AG (λl=>TO l 4 (cF k) l (ET l (rF (uE j)) (Wn l 3 (Up 4 (WC j 40 3)) (Up 2 (WC j 7 4)))) l (ET l (WC j 2 4) (Wn l (WC j 8 5) (WC j 11 7) (WC j 77 6))) (ET l (Up (WC j 2 4) (Dw j)) (Wn l (Up (WC j 8 5) (WC j 3 2)) (Up (WC j 11 7) (WC j 5 3)) (XM (WC j 77 6))))))) (kN k k) (FC (Yy k) rY) (nV k i) (yI k))))))):=by kernel_rfl
def CPK(w:One):Prop:=L_Sn 18
abbrev yT:=SnX.b
attribute [go_sem] yT
theorem CVU(w:One):(CPK w)=(I7 (λi=>PY (TN (Kj i) (lA i) (zC i)) (I7 (λj=>PY (SG (kN j j) (Yy j) rY (nV j i) (yI j)) (AW (XW 5) (XW 3) Rk Rk (AO (FJ (AMP (Dw j))) (KO (AMP (Dw j)) (rF (uE j))) (KO (rF (uE j)) (BO 2))) (AOW (λk=>AR (AW (AFK k (Kj j)) (yI k) (BGE 4) (fS (cF k) (cF j)) (OD (yT k) (nU (rF (uE j)) (BBJ (Dw j)))) (AG (λl=>KC l (yT k) (ET (sG (BBJ (Dw j)) l) (rF (pG j 5)) 6)))) (kN k k) (FC (Yy k) rY) (nV k i) (yI k)))))))):=by kernel_rfl
def CQV(w:One):Prop:=L_Sn 19
abbrev bN:=SnX.k
abbrev N6 a:=FH (bN a)
attribute [go_sem] bN N6
theorem CUJ(w:One):(CQV w)=(I7 (λi=>PY (TN (Kj i) (lA i) (zC i)) (I7 (λj=>LZ (SG (kN j j) (Yy j) rY (nV j i) (yI j)) (XW 3) (Qa (XW 3) (XW 3) Rk (XW 4) (XW 9) (XW 5) (XW 4) (AOW (λk=>AW (CY (AFK k (Kj j)) (HQ (cF k) (cF j)) (EK (cF k) (cF j)) (BC (yT k) (yT j)) (BR (yT k) (yT j)) (DU (N6 k) 2) (AG (λl=>Ku l (N6 k) (OD (KJ (bN k) l) (H4 (AOF l 0) 2 3)) (AG (λm=>KC m (KJ (bN k) l) (ET l (ET m (Dw j) (rF (WC j 3 3))) (Ub m (WC j 2 4) m (WC j 9 4) (WC j 5 4)))))))) (kN k k) (FC (Yy k) rY) (nV k i) (DU (N6 k) 2) (yI k)))))))):=by kernel_rfl
def CQL(w:One):Prop:=L_Sn 20
abbrev fV a b:=OJ (pG a b)
abbrev BZH a b c d e f g:=Ld a b c d e a f g
abbrev aZ a:=sG DW a
attribute [go_sem] fV BZH aZ
theorem CTM(w:One):(CQL w)=(I7 (λi=>PY (TN (Kj i) (lA i) (zC i)) (I7 (λj=>PY (Fp (kN j j) (Yy j) rY (nV j i) (DU (N6 j) 2) (yI j)) (AO (DY oR (TG (uE j) (N6 j)) (II 5) (II 3) (YE zM (Dw j) (KO (Dw j) (BO (N6 j)))) (AY (cF j)) (BJ (cF j)) (DO (EA (yT j)) (CM (yT j)) (EA (KJ (bN j) (NV (uE j)))) (CM (KJ (bN j) (NV (uE j)))) (AK (pG j 5)) (BRG (FH (AHH (nU (Dw j) DW) (bN j) aZ)) (NV (Dw j)) DW) (λk=>BMW k (FH (AHH (VC (NV (Dw j))) (bN j) AQ)) (KJ (AHH (nU (Dw j) DW) (bN j) aZ) k) (KJ (bN j) (aZ k)) (AG (λl=>Wt l (KJ (AHH (VC (NV (Dw j))) (bN j) AQ) k) (KJ (AHH (nU (Dw j) DW) (bN j) aZ) k) l (KJ (bN j) (aZ k)) l))) (N4 (cF j)) (IN (kSm (AHH (nU (Dw j) DW) (bN j) aZ))))) (And (II 8) (BZH (FA (fV j 8) (XW 9)) (FA (fV j 8) (XW 4)) (FA (fV j 8) (XW 4)) (FA (fV j 8) (XW 4)) (FA (fV j 8) (XW 6)) (FA (fV j 8) (XW 16)) (FA (fV j 8) (BK (AY (cF j)) (BJ (cF j)) (EA (yT j)) (CM (yT j)) (AK (pG j 9)) (AK (WC j 4 9)) (AK (pG j 4)) (AK (Up (pG j 4) (WC j 6 9))) (jL (fV j 16)))))) (HZ (EP (fV j 8) (not aN)) Un (AOW (λk=>EO (Kk (Kj k) (Kj j)) (TN (Kj k) (lA k) (zC k)) rY (Yy k) (Yy i))))))))):=by kernel_rfl
theorem CYJ(w:One):CME w:=by
 rw[CUD]<;> dsimp only[go_sem];simp only[CC,CU]
 intro a ha s hs r hr
 have e:lsZ (PaX.mk (PaA.mk r.l r.b r.z r.m [r.k]) 2)=r.k:=rfl
 have w1:IntKind.i64.wrap ((r.n:Int)+1)=((r.n+1:Nat):Int):=BF (by omega)
 have k:∃x:SnI,(gD sS x.i=gD sS r.i/\(x.n:Int)=IntKind.i64.wrap ((r.n:Int)+1)/\(x.i:Int)=r.i)/\(x.i<30/\30-x.i=30-a/\x.n<=22)/\22-x.n<22-s.n:=⟨⟨r.i,r.n+1⟩,⟨rfl,w1.symm,rfl⟩,⟨hr.1,hr.2.1,by show r.n+1<=22;omega⟩,by show 22-(r.n+1)<22-s.n;omega⟩
 simp[k,e,CCO (show r.l.length<20 by omega)]
theorem DAK(w:One):CMZ w:=by
 rw[CTY]<;> dsimp only[go_sem];simp only[CC,CU]
 exact λa ha i hi=>⟨i+1,(BF (by omega)).symm,by omega,by omega⟩
theorem BOL{a b:Int}(ha:0<=a)(hb:0<b):0<=a.tmod b/\a.tmod b<b:=⟨Int.tmod_nonneg _ ha,Int.tmod_lt_of_pos _ hb⟩
theorem CUE{a:Nat}{x:SnX}(h1:x.v=x.n)(h2:x.n<Ha)(h3:Ha-x.n=Ha-a)(A B C:Nat->Int):∃y:SnX,(y.v=x.v/\∀i,i<4->(gD y.l i).st=A i/\(gD y.l i).lo=B i/\(gD y.l i).hi=C i)/\y.v=y.n/\y.n<Ha/\Ha-y.n=Ha-a/\y.l.length=4:=by
 obtain⟨l,l1,l2⟩:=BRM 4 A B C
 exact⟨⟨x.v,x.n,l,[],[]⟩,⟨rfl,λi hi=>l2 i (by omega)⟩,h1,h2,h3,l1⟩
theorem CZW(w:One):CPV w:=by
 rw[CSF]<;> dsimp only[go_sem];simp only[CC,CU]
 have e:Ha=4096:=rfl
 exact⟨⟨⟨0,0,[],[],[]⟩,rfl,rfl,by show 0<=Ha;omega⟩,λa ⟨a1,a2⟩=>⟨λh=>⟨⟨a.v,a.n,[],[],[]⟩,rfl,a1,by show a.n<Ha;omega,rfl⟩,λ_=>⟨default,trivial⟩⟩⟩
theorem DAZ(w:One):CPE w:=by
 rw[CTQ]<;> dsimp only[go_sem];simp only[CC,CU]
 intro a ha x ⟨h1,h2,h3⟩
 refine⟨by decide,CUE h1 h2 h3 _ _ _⟩
theorem CXN(w:One):CPK w:=by
 rw[CVU]<;> dsimp only[go_sem];simp only[CC,CU]
 intro a ha x ⟨h0,h1,h2,h4⟩
 have e:Ha=4096:=rfl
 have q1:=BOL (a:=x.v) (b:=3) (by omega) (by omega)
 have q2:=BOL (a:=x.v) (b:=2) (by omega) (by omega)
 have q3:0<=(x.v.tmod 3).tdiv 2/\(x.v.tmod 3).tdiv 2<=1:=by
  rw[Int.tdiv_eq_ediv_of_nonneg q1.1];omega
 have w1:IntKind.i64.wrap ((x.v.tmod 3).tdiv 2)=(x.v.tmod 3).tdiv 2:=HL (by omega) (by omega)
 have w2:IntKind.i64.wrap (1+x.v.tmod 2)=1+x.v.tmod 2:=HL (by omega) (by omega)
 repeat (refine⟨by decide,?_⟩)
 obtain⟨b,b1,b2⟩:=CKX ((IntKind.i64.wrap (1+x.v.tmod 2)).toNat-(IntKind.i64.wrap ((x.v.tmod 3).tdiv 2)).toNat) λi=>bif decide ((IntKind.i64.wrap ((x.v.tmod 3).tdiv 2)).toNat+i=0) then IntKind.i64.wrap (1+x.v.tmod 5) else 6
 obtain⟨l,l1,l2⟩:=BRM 4 (λi=>(gD x.l i).st) (λi=>(gD x.l i).lo) λi=>(gD x.l i).hi
 exact⟨by rw[w1,w2];omega,⟨x.v,x.n,l,b,[]⟩,⟨rfl,l1,by omega,l2,b1,b2⟩,h0,h1,h2,l1⟩
theorem CYW(w:One):CQV w:=by
 rw[CUJ]<;> dsimp only[go_sem]
 intro a ha x ⟨h0,h1,h2,h4⟩
 repeat (refine⟨by decide,?_⟩)
 have go:∀(m:Nat->Nat) (E:Nat->Nat->Int),∃y:SnX,(y.v=x.v/\y.l.length=x.l.length/\(∀i,i<y.l.length->(gD y.l i).st=(gD x.l i).st/\(gD y.l i).lo=(gD x.l i).lo/\(gD y.l i).hi=(gD x.l i).hi)/\y.b.length=x.b.length/\(∀i,i<y.b.length->gD y.b i=gD x.b i)/\y.k.length=2/\∀i,i<y.k.length->(gD y.k i).length=m i/\∀j,j<(gD y.k i).length->gD (gD y.k i) j=E i j)/\y.v=y.n/\y.n<Ha/\Ha-y.n=Ha-a.n/\y.k.length=2/\y.l.length=4:=λm E=>by
  obtain⟨k,k1,k2⟩:=ALA 2 m E
  exact⟨⟨x.v,x.n,x.l,x.b,k⟩,⟨rfl,rfl,λ_ _=>⟨rfl,rfl,rfl⟩,rfl,λ_ _=>rfl,k1,k2⟩,h0,h1,h2,k1,h4⟩
 exact go _ _
theorem DBR(w:One):CQL w:=by
 rw[CTM]<;> dsimp only[go_sem];simp only[CC,CU]
 intro a ha x ⟨h0,h1,h2,h3,h4⟩
 have e:Ha=4096:=rfl
 have q1:=BOL (a:=x.v) (b:=3) (by omega) (by omega)
 have q2:=BOL (a:=x.v) (b:=2) (by omega) (by omega)
 have w1:IntKind.i64.wrap (x.v+1)=((x.n+1:Nat):Int):=by rw[h0];exact BF (by omega)
 have k:∃y:SnX,y.v=IntKind.i64.wrap (x.v+1)/\(y.v=y.n/\y.n<=Ha)/\Ha-y.n<Ha-a.n:=⟨⟨((x.n+1:Nat):Int),x.n+1,[],[],[]⟩,w1.symm,⟨rfl,by show x.n+1<=Ha;omega⟩,by show Ha-(x.n+1)<Ha-a.n;omega⟩
 have g1:gSm x.l=true:=CCO (by omega)
 have g2:kSm (HA (x.v.tmod 3).toNat λi=>gD x.k i)=true:=CEW (by rw[rng_length];omega)
 have c1:0<=x.v.tmod 2/\x.v.tmod 2<x.k.length:=by omega
 have c2:0<=x.v.tmod 3/\x.v.tmod 3<=x.k.length:=by omega
 have c3:∀i,i<(x.v.tmod 3).toNat->gD (HA (x.v.tmod 3).toNat λi=>gD x.k i) i=gD x.k i:=λi hi=>DC _ _ _ hi
 simp[k,c1,c2,g1,g2,BZT]
 simp +contextual [c3]
end Go.Bal
