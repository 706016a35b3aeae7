/- Package chart: times are narrowed. -/
import Derived.Test.YtceloknnpdonhaaGreatChC
set_option linter.unusedVariables false
set_option linter.unusedSimpArgs false
namespace Go.Bal
open Go Go.Sym Go.Proofs
def C_gaps:Ctr:={ ro:=[100,101],α:=Dk,xs:=λ_=>[.bptr 100 0],L:=λw=>dkL w,val:=λ_=>.fn (.func AOE) [] [.bptr 0 0],keep:=λw=>dkK w ++ [(0,.live (.box [.bptr 100 0]))] }
def DDE:Ann:={ ann 4 [] with E:=[100,101] }
def DBO(w:Dk):Prop:=BG Try.prog DDE CKM (AL CKM) (C_gaps.xs w) (AF (C_gaps.L w)) (C_gaps.val w) (C_gaps.keep w) [(0,1000)] []
theorem DIV(w:Dk):(DBO w)=(BB (IH w) (SO w) (SU w) (SY w) (SV w) (Cx w (Nl w) (λi=>Mv i w w i) (He w) (λi=>RZ w i i i i i))):=by kernel_rfl
theorem CQY:AM Try.prog BXP (C_gaps.spec dDk1):=WY C_gaps (λ_=>DDE) [(0,1000)] [] DJO (λ_=>by kernel_rfl) (λ_=>AG) (λ(w:Dk) _=>by
 show DBO w;rw[DIV]<;> delta JB EM FL ZF NU XB AR AK BO CI AO Iz Bh YN Kz Rn Pz Vq Hc Av Gh QP AN Af BV Ia WJ AH YJ AJ JJ AZ AI BI FJ RH AP jF Lg HA BZ IZ JE FP UU WK LV Dh NG GT WF SE IE Bt Dy BB VB LF OX LN YO KJ MH YZ EE OO CS KH CQ CO CP MZ NB Dn ZK Az GP RS bL UY IH Jc oJ Jh SU SY SV TS SO XV Lf bO He RZ Nl Mv lU Cx;simp) (λ_=>YE rfl rfl) _
def farM(c:Cht)(g:Nat):Int:=MQ ((gD c.ms (g+1)).pl-(gD c.ms g).pl)
def Oh(w:Dk)(g:Nat):Span:=⟨MQ (w.c.p.lo*farM w.c g),bif w.sp g then 200000000 else MQ (w.c.p.hi*farM w.c g)⟩
def gapL(w:Dk):List Span:=KA (w.c.ms.length-1) λg=>Oh w g
structure LIS where
 l:List Span
 k:Int
 s:Span
def upd1(l:List Span)(k:Int)(s:Span)(i:Nat):Span:=bif decide (i=k.toNat) then com (gD l k.toNat) s else gD l i
def lkR(n:Nat)(f:Nat->Span):List (Nat×HCell):=[(100,.live (.box [.own 101 2 0 n])),(101,.live (.row 2 n λi=>TF (f i)))]
def C_nar1:Ctr:={ ro:=[100],α:=LIS,xs:=λa=>[.int a.k,.d (TF a.s),.bptr 100 0],L:=λa=>[(100,.box [.own 101 2 0 a.l.length]),(101,rowS a.l)],val:=λ_=>.d (.tup []),keep:=λa=>lkR a.l.length (upd1 a.l a.k a.s),pre:=λa=>[0<=a.k/\a.k<a.l.length] }
def CYL:List AVal->Heap->Option (LIS×List (Nat×Nat)×List Nat)
 |[.d k,.d s,.bptr id _],H=>match H id with
  | .live (.box [.own j _ _ _])=>match H j with
   | .live (.row _ n g)=>some (⟨KA n λi=>Ty (g i),EO k,Ty s⟩,[(100,id),(101,j)],[])
   |_=>none
  |_=>none
 |_,_=>none
def CVM:Ann:={ ann 15 [(BCB,C_com.spec DAC)] with E:=[100,101] }
def CYB(a:LIS):Prop:=BG Try.prog CVM CIC (AL CIC) (C_nar1.xs a) (AF (C_nar1.L a)) (C_nar1.val a) (C_nar1.keep a) [] []
abbrev jB:=LIS.l
abbrev BCA:=LIS.s
abbrev wS a:=Ej (LIS.k a)
attribute [go_sem] jB BCA wS
theorem DJW(a:LIS):(CYB a)=(En (And (CE (LIS.k a) (Jj (jB a))) (EB (CI (wS a) (RP (jB a))) (Mx (jB a) (wS a)) (Mz (jB a) (wS a)) (RB (Mt (BCA a)) 1) Bo (λi=>PV i (Mt (BCA a)) i (BCA a)) MK (CE (LIS.k a) (Jj (jB a))) (KO (wS a) (RP (jB a))))) (PH (jB a)) (λi=>Cc i (jB a) (HT (upd1 (jB a) (LIS.k a) (BCA a) i) (RX i (wS a) (EM (comM (SL.mk (SH (jB a) (wS a)) (Mt (BCA a))))) (EM (SH (jB a) i)))) (FQ (upd1 (jB a) (LIS.k a) (BCA a) i) (RX i (wS a) (FL (comM (SL.mk (SH (jB a) (wS a)) (Mt (BCA a))))) (FL (SH (jB a) i)))))):=by kernel_rfl
theorem DHO:AM Try.prog BKA (C_nar1.spec CYL):=WY C_nar1 (λ_=>CVM) [] [] DGP (λ_=>by kernel_rfl) (λ_=>AB DFB AG) (λ(a:LIS) h=>by
 show CYB a;rw[DJW]<;> delta JB EM FL AR RP AK BO CI AO SH AU EA DJ DX qH QJ FZ SG QT Pg jJ jB BCA AH AJ AZ AI BI FJ Ws AP HA BZ BC IZ FQ HT EJ EW EU AQ BP CE Ej Cc PH Mz Bo Mx RB MK EB KO RX Ks Jj PV Mt uN En wS;simp only[CCQ,eq_self,implies_true,forall_const]
 have h:0<=a.k/\a.k<a.l.length:=h
 have e:comM ⟨gD a.l a.k.toNat,KA 1 λ_=>a.s⟩=com (gD a.l a.k.toNat) a.s:=rfl
 refine⟨⟨h,by omega,by omega,λj hj=>by rw[OW _ _ _ hj];exact⟨rfl,rfl⟩,h,by omega⟩,λi hi=>?_⟩
 rw[e];unfold upd1
 cases decide (i=a.k.toNat)<;>exact⟨rfl,rfl⟩) (λ_=>YE rfl rfl) _
def addS(a s:Span):Span:=⟨MQ (a.lo+s.lo),MQ (a.hi+s.hi)⟩
def subS(a s:Span):Span:=⟨MQ (a.lo-s.hi),MQ (a.hi-s.lo)⟩
def fwM(l:List Span)(s:Nat->Span):Nat->Span
 |0=>gD l 0
 |g+1=>com (gD l (g+1)) (addS (fwM l s g) (s g))
def bkMQ(f s:Nat->Span)(n:Nat):Nat->Span
 |0=>f n
 |j+1=>com (f (n-(j+1))) (subS (bkMQ f s n j) (s (n-(j+1))))
def dF(w:Dk)(l:List Span):List Span:=KA l.length λi=>bkMQ (fwM l (Oh w)) (Oh w) (l.length-1) (l.length-1-i)
structure DkS where
 w:Dk
 l:List Span
def dDkS:List AVal->Heap->Option (DkS×List (Nat×Nat)×List Nat)
 |[.bptr id _,y],H=>match CFW H id,BOO y H with
  |some (w,q),some (l,f)=>some (⟨w,l⟩,[(100,id),(101,q)],f)
  |_,_=>none
 |_,_=>none
def C_nar:Ctr:={ ro:=[100,101],α:=DkS,xs:=λa=>[.bptr 100 0,.d (SR a.l)],L:=λa=>dkL a.w,val:=λa=>.tup [.d (SR (dF a.w a.l)),.bool ((dF a.w a.l).all qF)],keep:=λa=>dkK a.w,pre:=λa=>[a.l.length=a.w.c.ms.length/\1<=a.w.c.ms.length/\a.w.c.ms.length<=40] }
def nrH(a:DkS)(f:Nat->Span)(p:AVal):List (Nat×HCell):=dkK a.w ++ [(2016,.live (.row 2 a.l.length λi=>TF (f i))),(2032,.live (.box [.own 2016 2 0 a.l.length])),(3000,.live (.box [p]))]
def gpS(a:DkS)(l k:Nat):List (Nat×AVal):=[(0,.fn (.yield l) [] []),(1,.bptr 4016 0),(12,.int (MQ ((a.w.c.ms.length:Int)-1))),(13,.int k)]
def gpB:Nat×HCell:=(4016,.live (.box [.bptr 100 0]))
def gp1n(a:DkS)(l:Nat):Shape:={ α:=One,dflt:=default,T:=λ_=>⟨gpS a l 0,nrH a (gD a.l) (.d TE) ++ [gpB]⟩,inv:=λ_=>True,meas:=λ_=>60 }
def gp1o(a:DkS)(l:Nat):Shape:={ α:=Nat,dflt:=0,T:=λk=>⟨gpS a l k,nrH a (gD a.l) (.own 302 2 0 k) ++ [gpB,(302,.live (.row 2 k λi=>TF (Oh a.w i)))]⟩,inv:=λk=>1<=k/\k<=a.w.c.ms.length-1,meas:=λk=>50-k,again:=[(302,6048)] }
noncomputable def DOI(a:DkS):IterAnn:={ fn:=BBP,code:=AL BBP,live:=[6,7],ann:={ base:=λid=>100000+1000*(id+1),Γ:=Sym.look [],E:=[100,101,2016,2032,3000,4016],n:=66,inner:=λgs id=>if id=1 then some [gp1n a (gs.getD 0 0),gp1o a (gs.getD 0 0)] else none } }
def nr6T(a:DkS):One->ST:=λ_=>⟨[(6,.bptr 2032 0),(7,.bptr 3000 0)],nrH a (gD a.l) (.d (SR (gapL a.w)))⟩
def nr6(a:DkS)(z:List Nat):Shape:={ α:=One,dflt:=default,T:=nr6T a,inv:=λ_=>True,meas:=λ_=>0,ffz:=z }
def nr7(a:DkS):Shape:={ α:=One,dflt:=default,T:=λ_=>⟨[(6,.bptr 2032 0),(7,.bptr 3000 0),(10,.fn (.func BKA) [] [.bptr 2032 0])],nrH a (gD a.l) (.d (SR (gapL a.w)))⟩,inv:=λ_=>True,meas:=λ_=>0 }
def nrF(a:DkS)(k i:Nat):Span:=bif decide (i<=k) then fwM a.l (Oh a.w) i else gD a.l i
def nrB(a:DkS)(j i:Nat):Span:=bif decide (a.w.c.ms.length-1-j<=i) then bkMQ (fwM a.l (Oh a.w)) (Oh a.w) (a.w.c.ms.length-1) (a.w.c.ms.length-1-i) else fwM a.l (Oh a.w) i
def nr8(a:DkS):Shape:={ α:=Nat,dflt:=0,T:=λk=>⟨[(6,.bptr 2032 0),(7,.bptr 3000 0),(10,.fn (.func BKA) [] [.bptr 2032 0]),(25,.d (SR (gapL a.w))),(26,.int (gapL a.w).length),(27,.int k)],nrH a (nrF a k) (.d (SR (gapL a.w)))⟩,inv:=λk=>k<=a.w.c.ms.length-1,meas:=λk=>50-k }
def nr13(a:DkS):Shape:={ α:=Nat,dflt:=0,T:=λj=>⟨[(6,.bptr 2032 0),(7,.bptr 3000 0),(10,.fn (.func BKA) [] [.bptr 2032 0]),(13,.int ((a.w.c.ms.length:Int)-2-j))],nrH a (nrB a j) (.d (SR (gapL a.w)))⟩,inv:=λj=>j<=a.w.c.ms.length-1,meas:=λj=>50-j }
noncomputable def DOM(a:DkS):Ann:={ ann 92 [(BDT,C_clo.spec dSs1),(BXP,C_gaps.spec dDk1),(BKA,C_nar1.spec CYL),(n_eS,C4SnO.spec DLM)] with E:=[100,101],mt:=λid=>id==5,iter:=λg=>if g=AOE then some (DOI a) else none,loops:=λid=>if id=8 then some [nr8 a] else if id=13 then some [nr13 a] else none,cut:=λid=>if id=6 then some [nr6 a [],nr6 a [302]] else if id=7 then some [nr7 a] else none }
def DLL(a:DkS):Prop:=BG Try.prog (DOM a) AST (AL AST) (C_nar.xs a) (AF (C_nar.L a)) (C_nar.val a) (C_nar.keep a) [] [2016]
abbrev PO:=DkS.l
abbrev Dt:=DkS.w
abbrev It a b:=AH a b b
abbrev Ru a b:=Ip (λi=>BO a b)
abbrev ZV a:=BV (Dt a)
abbrev BTE a b:=Lg (ZV a) b
abbrev CAM a b:=bV (BTE a b)
abbrev Jm a:=KH (Dt a)
abbrev Qy a:=RS (ZV a)
abbrev Uq a:=SJ (ZV a)
abbrev Qo a:=EE (ZV a)
abbrev Jo a b:=OO (Dt a) b
abbrev R0 a:=LV (Dt a)
abbrev Sz a b c d e:=oJ a (R0 b) (Jo c d) (Dt e)
abbrev Qa a:=BI (R0 a)
abbrev Kp a:=CQ (ZV a)
abbrev Iq a:=CO (ZV a)
abbrev Xw a:=CP (ZV a)
abbrev Ix a:=IE (ZV a)
abbrev Jp a:=LC (ZV a)
abbrev O6 a(b:Nat->Span):=ADX (PO a) b
abbrev Xk a b c:=O6 a (λi=>nrB b c i)
abbrev uS a:=RP (PO a)
abbrev Eg a b:=RB a (RP b)
abbrev bG a:=IS a 1
abbrev aL a:=bG (R0 a)
abbrev vU a:=gapL (Dt a)
abbrev Q2 a:=QY (vU a)
abbrev N4 a:=PH (vU a)
abbrev YM a:=PH (PO a)
abbrev uV a b:=SH (vU a) b
abbrev BWU a b:=Kq a (AU b)
abbrev N3 a:=AU (R0 a)
abbrev Ii a b:=BWU (Kq (N3 a) 2) b
abbrev E2 a b:=ED (Ii a b)
abbrev Vu a:=AN (λi=>CAM a i)
abbrev Sp a:=PU (Dt a)
abbrev AIG a:=Jj (vU a)
abbrev Kl a b:=ZY (λi=>And a b)
abbrev FM a b(c:Nat->Prop) d(e:Nat->Prop) f g h p:=GT a b (AK c) d e f g h p
abbrev Se a b:=Oh (Dt a) b
abbrev AKB a:=QY (PO a)
abbrev PW a b:=EV (Hy a b)
abbrev Fl a:=FZ (GY a)
abbrev ADQ a:=YN (ZV a)
abbrev Nw a:=Kq a 1
abbrev uD a:=MQ (Nw a)
abbrev M7 a:=uD (N3 a)
abbrev Zb a:=(@Eq Fn) (Fn.yield a) (Fn.yield a)
abbrev U2 a b c d e:=Ov a (Jr b) c d e
abbrev Do a b c d e:=U2 a b Fp c (Me d e)
abbrev gZ a b c:=U2 a b Ir Hf c
abbrev Wl a b c:=gZ (Hg a) b c
abbrev BBF a b c d:=AJ a b c b d
abbrev BHK a b c:=BBF a AQ b c
abbrev RU a b:=Ik a b (NU b) (iA a b) (XB b)
abbrev S4 a b:=ntOf (Cf a) b
abbrev Cs a:=CI a 1073741824
attribute [go_sem] PO Dt It Ru ZV BTE CAM Jm Qy Uq Qo Jo R0 Sz Qa Kp Iq Xw Ix Jp O6 Xk uS Eg bG aL vU Q2 N4 YM uV BWU N3 Ii E2 Vu Sp AIG Kl FM Se AKB PW Fl ADQ Nw uD M7 Zb U2 Do gZ Wl BBF BHK RU S4 Cs
theorem DQX(a:DkS):(DLL a)=(And (AY (Bq (PO a) (uS a)) (AK (λi=>VV i (QA (PO a)) (WB (LB (PO a) i) (PO a) i) (LB (PO a) i) (PO a) i)) (ZI (QA (PO a))) (Cs (QA (PO a)))) (It (FK (EP (Jp a) (Ix a) (Kz (ZV a)) (EB (Iq a) (Kp a) (AR (JQ (Dt a)) (R0 a)) (AK (λi=>DO i (JQ (Dt a)) (Ho (Dt a) i) (Jo a i) (Hk (Dt a) i) (MZ (Dt a) i))) (PL (ZV a)) (λi=>OZ i (ZV a) i i i (VY (ZV a) i i) (VE (ZV a) i i)) (Sp a) CS (AP (AN (λi=>VP (Cf (ZV a)) i (ZV a) i)) (Jm a) (AN (λi=>RU (S4 (ZV a) i) (BTE a i))) (Jp a) (Ix a) (Xw a) (Iq a) (Kp a) (XV (AR (R0 a) (JQ (Dt a))) (λi=>DO i (R0 a) (Jo a i) (Ho (Dt a) i) (MZ (Dt a) i) (Hk (Dt a) i)) (UM (ZV a)) (λi=>NR i (ZV a) i i i i (FP (ZV a) i) i) (λi=>Dn i (Dt a)) (AN (λi=>VT (ZV a) i (Cf (ZV a)) i)) (Jm a) (λi=>RU (BTE a i) (S4 (ZV a) i)))))) (λi=>Ou (ZY (λj=>HG (Zb i) (AO (M7 a) (FA (N3 a))) (AP CL (Jp a) (Ix a) (Xw a) (Iq a) (Kp a) (Qa a) (AK (λk=>Sz k a a k a)) (AP (Qo a) (Uq a) (Sp a) CS (Qy a) (Jm a) (Vu a) (RB (PO a) (QA (PO a))) (BHK (AK (λk=>PV k (PO a) k (LB (PO a) k))) (RB (PO a) (QA (PO a))) BK))) FI)) (Ip (λj=>CX FI 0 (M7 a) (AY (Be (CE (GY 0) (N3 a)) (AU 0) (DX (AU 0) (N3 a))) (DU 0 40) (KO 0 40) (DV (WJ (Dt a) 0) (AH (BI i) (Wl 2 2 16) (LA (λk=>JO (AJ (Zb i) (AI (M7 a)) (AV k 0) (Jp a) (EB (Ix a) (Xw a) (Iq a) (Kp a) (Qa a) (λl=>Sz l a a l a) (Qo a) (Uq a) (AP (Sp a) CS (Qy a) (Jm a) (Vu a) (YM a) (AKB a) AQ (En (YM a) (LD k) (λl=>BZ l k (HT (Se a l) (PW (EM (ADQ a)) (LI (Jo a (Fl 0)) (Jo a 0)))) (FQ (Se a l) 200000000)))))) (MW 1 k (EA k (aL a))) 50 k 60))) (AH (BI i) (Wl 2 2 16) (LA (λk=>JO (AJ (Zb i) (AI (M7 a)) (AV k 0) (Jp a) (EB (Ix a) (Xw a) (Iq a) (Kp a) (Qa a) (λl=>Sz l a a l a) (Qo a) (Uq a) (AP (Sp a) CS (Qy a) (Jm a) (Vu a) (YM a) (AKB a) AQ (En (YM a) (LD k) (λl=>BZ l k (HT (Se a l) (PW (EM (ADQ a)) (LI (Jo a (Fl 0)) (Jo a 0)))) (FQ (Se a l) (PW (FL (ADQ a)) (LI (Jo a (Fl 0)) (Jo a 0))))))))) (MW 1 k (EA k (aL a))) 50 k 60))))) (Kl (EP (Jp a) (Ix a) (Kz (ZV a)) (AJ (Iq a) (Kp a) (Qa a) (AK (λk=>Sz k a a k a)) (AP (Qo a) (Uq a) (Sp a) CS (Qy a) (Jm a) (Vu a) (YM a) (xW (AKB a) AQ (YM a) (RB (vU a) 0))))) FI))) (λj=>Bc 1 j (EA j (aL a)) j (M7 a) (AY (Be (CE (GY j) (N3 a)) (AU j) (DX (AU j) (N3 a))) (DU j 40) (KO j 40) (DV (WJ (Dt a) j) (AH (BI i) (Do (Mu j 2) 2 (Ms j) (JF j) 16) (LA (λk=>Fe (AJ (Zb i) (AI (M7 a)) (AV k j) (Jp a) (EB (Ix a) (Xw a) (Iq a) (Kp a) (Qa a) (λl=>Sz l a a l a) (Qo a) (Uq a) (AP (Sp a) CS (Qy a) (Jm a) (Vu a) (YM a) (AKB a) AQ (En (YM a) (Nz k j) (λl=>BZ l k (HT (Se a l) (GJ l j (EM (Se a l)) (PW (EM (ADQ a)) (LI (Jo a (Fl j)) (Jo a j))))) (FQ (Se a l) (GJ l j (FL (Se a l)) 200000000))))))) 1 k (EA k (aL a)) 50 k j))) (AH (BI i) (Do (Mu j 2) 2 (Ms j) (JF j) 16) (LA (λk=>Fe (AJ (Zb i) (AI (M7 a)) (AV k j) (Jp a) (EB (Ix a) (Xw a) (Iq a) (Kp a) (Qa a) (λl=>Sz l a a l a) (Qo a) (Uq a) (AP (Sp a) CS (Qy a) (Jm a) (Vu a) (YM a) (AKB a) AQ (En (YM a) (Nz k j) (λl=>BZ l k (HT (Se a l) (GJ l j (EM (Se a l)) (PW (EM (ADQ a)) (LI (Jo a (Fl j)) (Jo a j))))) (FQ (Se a l) (GJ l j (FL (Se a l)) (PW (FL (ADQ a)) (LI (Jo a (Fl j)) (Jo a j)))))))))) 1 k (EA k (aL a)) 50 k j))))) (Kl (AJ (Jp a) (Ix a) (Xw a) (Iq a) (FM (Kp a) (Qa a) (λk=>Sz k a a k a) (Qo a) (λk=>OA k (ZV a)) (Sp a) CS (Qy a) (DC (Jm a) (Vu a) (YM a) (AKB a) AQ (YM a) (RB (vU a) j) (Hr j) (λk=>PV k (vU a) k (Se a (BP k)))))) FI)))) (Ru FI (And (Kl (EP (Jp a) (Ix a) (Kz (ZV a)) (AP (Iq a) (Kp a) (Qa a) (AK (λi=>Sz i a a i a)) (Qo a) (Uq a) (Sp a) CS (GT (Qy a) (Jm a) (Vu a) (YM a) (λi=>ADW i (PO a)) AQ (YM a) (N4 a) (Q2 a)))) FI) (Ru FI (KF (λi=>And (EP (N4 a) (Q2 a) (AIG a) (AJ (BS i) (Jp a) (Ix a) (Xw a) (AP (Iq a) (Kp a) (Qa a) (AK (λj=>Sz j a a j a)) (Qo a) (Uq a) (Sp a) CS (GT (Qy a) (Jm a) (Vu a) (YM a) (λj=>Ks j (PO a) (nrF a i j) (SH (PO a) j)) AQ (YM a) (N4 a) (Q2 a))))) (QT i (aL a))) (λi=>CX (QT i (aL a)) i (AIG a) (AH (DU i (RP (vU a))) (FT (DU i (uS a)) (CI (BP i) (uS a)) (DU i (uS a)) (CI (BP i) (uS a)) (AI (GY i)) (AI (DK (EM (nrF a i (BP i))) (EM (uV a i)))) (uN (AI (DK (FL (nrF a i (BP i))) (FL (uV a i)))) (Eg (O6 a (λj=>nrF a i j)) (PO a)) (AJ (AK (λj=>PV j (O6 a (λk=>nrF a i k)) j (nrF a i j))) AQ (Eg (PO a) (O6 a (λj=>nrF a i j))) (BC (GY i)) (DX (GY i) (Jj (O6 a (λj=>nrF a i j))))))) (LA (λj=>Wj (EP (N4 a) (Q2 a) (AIG a) (AJ (AV j i) (Jp a) (Ix a) (Xw a) (AP (Iq a) (Kp a) (Qa a) (AK (λk=>Sz k a a k a)) (Qo a) (Uq a) (Sp a) CS (GT (Qy a) (Jm a) (Vu a) (Eg (PO a) (O6 a (λk=>nrF a i k))) (λk=>Ks k (PO a) (nrF a j k) (upd1 (O6 a (λl=>nrF a i l)) (GY i) (X6 (DK (EM (nrF a i (BP i))) (EM (uV a i))) (DK (FL (nrF a i (BP i))) (FL (uV a i)))) k)) AQ (YM a) (N4 a) (Q2 a))))) j (aL a) 50 j i))) (KF (λj=>And (AJ (AO (Ii a j) (FA (AIG a))) (Jp a) (Ix a) (Xw a) (AP (Iq a) (Kp a) (Qa a) (AK (λk=>Sz k a a k a)) (Qo a) (Uq a) (Sp a) CS (GT (Qy a) (Jm a) (Vu a) (YM a) (λk=>Ks k (PO a) (nrB a j k) (nrF a i k)) AQ (YM a) (N4 a) (Q2 a)))) (QT j (aL a))) (λj=>EC (QT j (aL a)) (XE (Ii a j)) (Vy (nO (CE (E2 a j) (Jj (PO a))) (CI (Ej (E2 a j)) (uS a)) (CE (Ii a j) (AIG a)) (AJ (CI (Ej (E2 a j)) (uS a)) (CE (Ii a j) (AIG a)) (AI (Ii a j)) (AI (LI (EM (nrB a j (Ej (E2 a j)))) (FL (uV a (FZ (Ii a j)))))) (uN (AI (LI (FL (nrB a j (Ej (E2 a j)))) (EM (uV a (FZ (Ii a j)))))) (Eg (Xk a a j) (PO a)) (AJ (AK (λk=>PV k (Xk a a j) k (nrB a j k))) AQ (Eg (PO a) (Xk a a j)) (BC (Ii a j)) (DX (Ii a j) (Jj (Xk a a j))))))) (λk=>Wj (AJ (AO (Ii a k) (FA (Ii a j))) (Jp a) (Ix a) (Xw a) (AP (Iq a) (Kp a) (Qa a) (AK (λl=>Sz l a a l a)) (Qo a) (Uq a) (Sp a) CS (GT (Qy a) (Jm a) (Vu a) (Eg (PO a) (Xk a a j)) (λl=>Ks l (PO a) (nrB a k l) (upd1 (Xk a a j) (Ii a j) (X6 (LI (EM (nrB a j (Ej (E2 a j)))) (FL (uV a (FZ (Ii a j))))) (LI (FL (nrB a j (Ej (E2 a j)))) (EM (uV a (FZ (Ii a j)))))) l)) AQ (YM a) (N4 a) (Q2 a)))) k (aL a) 50 k j)) (AH (ZH (Um (Eg (Xk a a j) (PO a)) (ZC (AK (λk=>PV k (Xk a a j) k (nrB a j k))) (Eg (PO a) (Xk a a j)) (λk=>Ks k (PO a) (nrB a j k) (SH (Xk a a j) k)) (BD (RP (Xk a a j))) FI))) (Eg (dF (Dt a) (PO a)) (PO a)) (LP (Hr (uS a)) (λk=>PV k (dF (Dt a) (PO a)) k (nrB a j (BP k))) (JB (hd84 (dF (Dt a) (PO a)) qF) (hd84 (Xk a a j) qF)) (Jp a) (Ix a) (Xw a) (Iq a) (Kp a) (TS (Qa a) (λk=>Sz k a a k a) (Qo a) (Uq a) (λk=>Dn k (Dt a)) (Qy a) (Jm a) (λk=>CAM a k))))))))))))):=by kernel_rfl
theorem CPZ{L:Nat}{f:Nat->Span}{k:Int}{s:Span}{i:Nat}(hi:i<L)(hk:k.toNat<L):upd1 (KA L f) k s i=bif decide (i=k.toNat) then com (f k.toNat) s else f i:=by
 unfold upd1;rw[OW _ _ _ hi,OW _ _ _ hk]
theorem DDX(a:DkS){k i:Nat}(hk:k+1<a.l.length)(hi:i<a.l.length):nrF a (k+1) i=upd1 (KA a.l.length λi=>nrF a k i) ((k+1:Nat):Int) (addS (nrF a k k) (Oh a.w k)) i:=by
 rw[CPZ hi (by show k+1<_;exact hk)]
 show _=bif decide (i=k+1) then com (nrF a k (k+1)) _ else _
 by_cases h:i=k+1
 ·subst h
  simp only[nrF,Nat.le_refl,decide_true,cond_true,show ¬ k+1<=k by omega,decide_false,cond_false]
  rfl
 ·have e:decide (i<=k+1)=decide (i<=k):=by rw[decide_eq_decide];omega
  simp only[nrF,h,e,decide_false,cond_false]
theorem DDJ(a:DkS){j i:Nat}(hl:a.l.length=a.w.c.ms.length)(hj:j+2<=a.l.length)(hi:i<a.l.length):nrB a (j+1) i=upd1 (KA a.l.length λi=>nrB a j i) ((a.w.c.ms.length-2-j:Nat):Int) (subS (nrB a j (a.w.c.ms.length-2-j+1)) (Oh a.w (a.w.c.ms.length-2-j))) i:=by
 rw[CPZ hi (by show a.w.c.ms.length-2-j<_;omega)]
 show _=bif decide (i=a.w.c.ms.length-2-j) then com (nrB a j (a.w.c.ms.length-2-j)) _ else _
 by_cases h:i=a.w.c.ms.length-2-j
 ·have e1:decide (a.w.c.ms.length-1-(j+1)<=i)=true:=by rw[decide_eq_true_eq];omega
  have e2:decide (a.w.c.ms.length-1-j<=a.w.c.ms.length-2-j)=false:=by rw[decide_eq_false_iff_not];omega
  have e3:decide (a.w.c.ms.length-1-j<=a.w.c.ms.length-2-j+1)=true:=by rw[decide_eq_true_eq];omega
  have e4:a.w.c.ms.length-1-i=j+1:=by omega
  have e5:a.w.c.ms.length-1-(a.w.c.ms.length-2-j+1)=j:=by omega
  have e6:a.w.c.ms.length-1-(j+1)=a.w.c.ms.length-2-j:=by omega
  have e7:decide (i=a.w.c.ms.length-2-j)=true:=by rw[decide_eq_true_eq];exact h
  have e8:decide (a.w.c.ms.length-2-j<=i)=true:=by rw[decide_eq_true_eq];omega
  rw[e7]
  simp only[nrB,e2,e3,e4,e5,cond_true,cond_false,bkMQ,e6,e8]
 ·have e1:decide (a.w.c.ms.length-1-(j+1)<=i)=decide (a.w.c.ms.length-1-j<=i):=by rw[decide_eq_decide];omega
  simp only[nrB,h,e1,decide_false,cond_false]
theorem DUE(a:DkS)(h:a.l.length=a.w.c.ms.length/\1<=a.w.c.ms.length/\a.w.c.ms.length<=40):DLL a:=by
 obtain⟨hl,h1,h2⟩:=h
 have e1:MQ ((a.w.c.ms.length:Int)-1)=((a.w.c.ms.length-1:Nat):Int):=by unfold MQ;rw[JC (by omega) (by omega)];omega
 have e2:IntKind.i64.wrap ((a.w.c.ms.length:Int)-1)=((a.w.c.ms.length-1:Nat):Int):=e1
 have gl:(gapL a.w).length=a.w.c.ms.length-1:=rng_length _ _
 have gg:∀{j:Nat},j<a.w.c.ms.length-1->gD (gapL a.w) j=Oh a.w j:=λhj=>OW _ _ _ hj
 have lo:∀k,(Oh a.w k).lo=IntKind.i64.wrap (a.w.c.p.lo*IntKind.i64.wrap ((gD a.w.c.ms (k+1)).pl-(gD a.w.c.ms k).pl)):=λ_=>rfl
 have hi1:∀k,a.w.sp k=true->(Oh a.w k).hi=200000000:=λk h=>by unfold Oh;rw[h];rfl
 have hi0:∀k,a.w.sp k=false->(Oh a.w k).hi=IntKind.i64.wrap (a.w.c.p.hi*IntKind.i64.wrap ((gD a.w.c.ms (k+1)).pl-(gD a.w.c.ms k).pl)):=λk h=>by unfold Oh;rw[h];rfl
 have ws:∀{k:Nat},k<40->IntKind.i64.wrap ((k:Int)+1)=((k+1:Nat):Int):=λh=>FN (by omega)
 rw[DQX]<;> delta JB hd6 Oz EM FL ZF NE Kq NU XB AR RP AK BO CI AO SH AU UH EA DV JD DJ DX OP IS Iz Bh YN Kz Rn Pz Vq Hc Av Gh jM LA FI qH hd84 QJ FZ SG QP AN Af QT Pg BV Ia WJ Hy X6 ZY Ip Me tC PO Dt AH YJ AJ JJ Bs AZ EV Pq AI It BI FJ RH Um Ws nO BBF xW Ui DK AP jF Pb LI Lg HA BZ ED BC IZ Cf ZV JE JF FQ FP HE HT EJ EW EU Xp WK LV Dh AQ NG ADX BP GT GY WF AY SE BDS BWU IE Bt GV CK JZ FK VB OX VQ R0 S4 Gz BTE LC BD DR YO Kj CE KJ MW Ce Ec SB YZ EE EC AV OO CS QA KH CQ BK CO CP DO ES MZ FU FM FA Ej GC Cc vU FF NB PW FW Hi Dn JO ZK PH bG GJ LB Az GP CX NT Ji JI Kd QD OC RS PZ RO DC Nw Mz Gw ZI Bo N3 CL Mx UQ JQ BS EP HR OA PU Hh bL UY DU PY RB Xl HG Jc Ov Jo O6 SJ Jr MK EB Cs Am oJ QZ Cl ADW LD KO QY Fl U2 FT TA SZ iA YM Ii XE Ik Km TS Ht RV XV Fp KF Je BHK Ks Hj El Jj Hf Iq UP PL Kp Jm Bc Jp Ir Eg Sp Ix LP Qa PV UM bV RU Qy CAM Hk Se Hg Qo Ho Fe VT VP Vu Uq aL uD ZH Xw Nz YW Hr Ms uN Sz ZC WB Be Xk En Kl Bq OZ VE VY Ru Zb uS Wj Mu uV M7 Q2 Do gZ N4 VV Ou NR Wl E2 Vy AIG AKB ADQ;simp only[CCQ,eq_self,implies_true,forall_const];simp only[e1,e2,gl,hl]
 refine⟨by omega,⟨⟨default,trivial⟩,⟨λh0=>?_,λh0=>⟨default,by omega⟩⟩,λk hk=>⟨λhlt=>?_,λhge=>⟨default,by omega,Nat.le_refl _,λj hj=>by rw[gg hj];exact⟨rfl,rfl⟩⟩⟩⟩,⟨default,trivial⟩,⟨0,⟨rfl,λi hi=>?_⟩,Nat.zero_le _⟩,λk hk=>⟨λhlt=>?_,λhge=>⟨⟨0,⟨?_,λi hi=>?_⟩,Nat.zero_le _⟩,λj hj=>⟨λhlt=>?_,λhlt=>?_⟩⟩⟩⟩
 ·simp only[ws (show (0:Nat)<40 by omega),Int.toNat_natCast]
  refine⟨by omega,by omega,by omega,λh=>⟨by simp,1,⟨rfl,rfl,rfl,λi hi=>?_⟩,by omega,by omega⟩,λh=>⟨by simp,1,⟨rfl,rfl,rfl,λi hi=>?_⟩,by omega,by omega⟩⟩
  ·obtain rfl:i=0:=by omega
   exact⟨lo 0,hi1 0 h⟩
  ·obtain rfl:i=0:=by omega
   exact⟨lo 0,hi0 0 h⟩
 ·simp only[ws (show k<40 by omega),Int.toNat_natCast]
  refine⟨by omega,by omega,by omega,λh=>⟨⟨by omega,(λh=>by cases h),by omega,by omega⟩,k+1,⟨rfl,rfl,rfl,λi hi=>?_⟩,by omega,by omega⟩,λh=>⟨⟨by omega,(λh=>by cases h),by omega,by omega⟩,k+1,⟨rfl,rfl,rfl,λi hi=>?_⟩,by omega,by omega⟩⟩
  ·by_cases q:i<k
   ·simp only[q,decide_true,cond_true,and_self]
   ·obtain rfl:i=k:=by omega
    simp only[q,decide_false,cond_false]
    exact⟨lo i,hi1 i h⟩
  ·by_cases q:i<k
   ·simp only[q,decide_true,cond_true,and_self]
   ·obtain rfl:i=k:=by omega
    simp only[q,decide_false,cond_false]
    exact⟨lo i,hi0 i h⟩
 ·by_cases q:i=0
  ·subst q;exact⟨rfl,rfl⟩
  ·have:¬ i<=0:=by omega
   simp only[nrF,this,decide_false,cond_false,and_self]
 ·simp only[ws (show k<40 by omega)]
  refine⟨by omega,⟨by omega,by omega,by omega,by omega,λi hi=>by rw[OW _ _ _ hi];exact⟨rfl,rfl⟩,by omega,by omega⟩,k+1,⟨rfl,λi hi=>?_⟩,by omega,by omega⟩
  have e:=DDX a (k:=k) (i:=i) (by omega) (by omega)
  rw[gg (by omega),e,hl];exact⟨rfl,rfl⟩
 ·rw[JC (by omega) (by omega)];omega
 ·obtain rfl:k=a.w.c.ms.length-1:=by omega
  have q1:decide (i<=a.w.c.ms.length-1)=true:=by rw[decide_eq_true_eq];omega
  unfold nrB nrF;rw[q1]
  by_cases q:a.w.c.ms.length-1-0<=i
  ·have q2:a.w.c.ms.length-1-i=0:=by omega
   have q3:i=a.w.c.ms.length-1:=by omega
   simp only[q,decide_true,cond_true,q2,bkMQ];rw[<-q3];exact⟨rfl,rfl⟩
  ·simp only[q,decide_false,cond_false,cond_true,and_self]
 ·have g0:(a.w.c.ms.length:Int)-2-j=((a.w.c.ms.length-2-j:Nat):Int):=by omega
  have g1:IntKind.i64.wrap (((a.w.c.ms.length-2-j:Nat):Int)+1)=((a.w.c.ms.length-2-j+1:Nat):Int):=ws (by omega)
  simp only[g0,g1,Int.toNat_natCast]
  refine⟨⟨by omega,by omega,by omega,by omega,by omega,by omega,λi hi=>by rw[OW _ _ _ hi];exact⟨rfl,rfl⟩,by omega,by omega⟩,j+1,⟨?_,λi hi=>?_⟩,by omega,by omega⟩
  ·rw[JC (by omega) (by omega)];omega
  ·have e:=DDJ a (j:=j) (i:=i) hl (by omega) (by omega)
   rw[gg (by omega),e,hl];exact⟨rfl,rfl⟩
 ·have q:j=a.w.c.ms.length-1:=by omega
  have eq1:∀i,i<a.w.c.ms.length->gD (dF a.w a.l) i=nrB a j i:=λi hi=>by
   unfold dF;rw[OW _ _ _ (by omega),hl]
   have q2:decide (a.w.c.ms.length-1-j<=i)=true:=by rw[decide_eq_true_eq];omega
   unfold nrB;rw[q2];rfl
  have nl:(dF a.w a.l).length=a.w.c.ms.length:=by unfold dF;rw[rng_length,hl]
  refine⟨⟨λi hi=>by rw[OW _ _ _ hi];exact⟨rfl,rfl⟩,λi hi=>by rw[OW _ _ _ hi];exact⟨rfl,rfl⟩,by omega⟩,nl,Nat.le_refl _,λi hi=>by rw[eq1 i (by omega)];exact⟨rfl,rfl⟩,?_⟩
  congr 1
  exact DBA (by rw[nl,rng_length]) λi hi=>by rw[eq1 i (by omega),OW _ _ _ (by omega)]
theorem CWF:AM Try.prog K6 (C_nar.spec dDkS):=WY C_nar DOM [] [2016] CEP (λ_=>by kernel_rfl) (λ_=>AB CUE (AB CQY (AB DHO (AB DQO AG)))) (λa h=>DUE a h) (λa=>CDQ AOE (DOI a) rfl rfl AG CHN (by kernel_rfl) (by kernel_rfl)) _
end Go.Bal
