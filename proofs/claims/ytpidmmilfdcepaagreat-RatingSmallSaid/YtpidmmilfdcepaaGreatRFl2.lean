/- Package rating: the reference: gaugings of a part by rising stages; whether a line passes them. -/
import Derived.Test.YtpidmmilfdcepaaGreatRF1
set_option linter.unusedVariables false
set_option linter.unusedSimpArgs false
namespace Go.Bal
open Go Go.Sym Go.Proofs
def C_rSrt:Ctr:={ α:=List Gau,xs:=λl=>[.d (AT l)],val:=λl=>.d (AT (EJ l)),pre:=λl=>[l.length<1073741824/\True] }
def YU(L:List Gau)(x:Gau)(i a j:Nat):Gau:=if j<i then (if j<=a then gD L j else gD L (j-1)) else if a=i then x else gD L (j-1)
def Gm(l:List Gau)(i:Nat):List Gau:=EJ (l.take i)
def so3n(l:List Gau):Shape:={ α:=One,dflt:=default,T:=λ_=>⟨[(0,.d (AT l)),(3,.d NC),(4,.int 0)],[]⟩,inv:=λ_=>True,meas:=λ_=>l.length }
def so3o(l:List Gau):Shape:={ α:=Nat,dflt:=0,T:=λi=>⟨[(0,.d (AT l)),(3,.own 301 3 0 i),(4,.int i)],[(301,.live (.row 3 i λj=>Ry (gD (Gm l i) j)))]⟩,inv:=λi=>1<=i/\i<=l.length,meas:=λi=>l.length-i }
def so7o(l:List Gau)(m:Nat):Shape:={ α:=NN,dflt:=default,T:=λx=>⟨[(0,.d (AT l)),(3,.own 301 3 0 (x.a+1)),(4,.int x.a),(5,.int x.b)],[(301,.live (.row 3 (x.a+1) λj=>Ry (YU (Gm l x.a) (gD l x.a) x.a x.b j)))]⟩,inv:=λx=>l.length-x.a=m/\x.a<l.length/\x.b<=x.a/\VI (gD l x.a) (Gm l x.a) x.a=VI (gD l x.a) (Gm l x.a) x.b,meas:=λx=>x.b,first:=[(301,7096)] }
def CBX(l:List Gau):Ann:={ ann 55 [] with mt:=λid=>id==6,loops:=λid=>if id=3 then some [so3n l,so3o l] else none,inner:=λgs id=>if id=7 then some [so7o l (gs.getD 0 0)] else none }
def CGT(l:List Gau):Prop:=AS ZP (CBX l) Tryz.f74 (AE Tryz.f74) (C_rSrt.xs l) (AB []) (C_rSrt.val l) [] [] [301]
abbrev MY:=EJ
abbrev BHY a b c:=sM AF a b c
abbrev lY a b(c:Nat->Prop):=BHY a b (AG c)
abbrev TO a b c d e f g h:=HJ a b (BOP (BL c d) e c f g h)
abbrev AGG a:=AQ (DV a)
abbrev Nz a b c d:=SE a (AGG b) c d
abbrev BID a b:=sU a (CS b)
abbrev BMT a b:=Gm a (CS b)
abbrev BAQ a b c:=YU (BMT a b) (BID a b) (CS b) (DV b) c
abbrev Xw a b c:=Qo (BAQ a b c)
abbrev Zu a b c:=tE (BAQ a b c)
abbrev Ou a b c:=Wk (BAQ a b c)
abbrev OQ a:=CN (CS a)
abbrev Ox a b c d e:=VI (BID a b) (BMT c d) e
abbrev fB a b:=Ki (CS a) b
abbrev Jl a b c:=IZ (CH a) b c
abbrev gZ a b c:=BD a b AF c
abbrev Ut a b c d:=AR a b c a d
abbrev No a:=TD (DV a)
abbrev XC a b c d:=AR (BQ a) (AP a) b c d
attribute [go_sem] MY BHY lY TO AGG Nz BID BMT BAQ Xw Zu Ou OQ Ox fB Jl gZ Ut No XC
theorem CLO(l:List Gau):(CGT l)=(WX (KZ (XC l AF AN BB)) (Ep (λi=>So HO 0 (XA l) (AO (Dp (Wg (Rm 0 l)) X4 Dl Xg 1 24) (Y3 (λj=>FE (gZ (BQ l) (AP l) (Ut (PI (OQ j)) (BX (CS j)) (AI (DV j) 0) (AG (λk=>HJ k (OQ j) (Lm (Ou l j k) (BL l DW) (Zu l j k) (DF l DW) (Xw l j k) (DG l DW)))))) (DU (RG l (CS j)) (CH l)) (fB j l) (DV j) (CS j) (DU (Ox l j l j (CS j)) (Ox l j l j (DV j))))) (hd66 (λj=>LZ (JO (DU (RG l (CS j)) (CH l)) (fB j l) (DV j) (CS j) (DU (Ox l j l j (CS j)) (Ox l j l j (DV j)))) (AO (tN (DV j) (TV (DV j) (OQ j))) (tN (DV j) (IU (No j) (OQ j))) (tN (DV j) (PH (CS j) l))) (FD (Iv (DV j) (Oa (Ou l j (No j)) (BL l (CS j)))) (SG (TV (DV j) (OQ j)) (No j) (OQ j) (CR (DV j) (OQ j)) (IU (AGG j) (OQ j))) (Y3 (λk=>IB (gZ (BQ l) (AP l) (Ut (QM (OQ k) (CS j)) (AI (CS k) (CS j)) (lU (DV k) (DV j)) (AG (λm=>HJ m (OQ k) (Lm (Ou l k m) (Nz m j (Ou l j (No j)) (Ou l j m)) (Zu l k m) (Nz m j (Zu l j (No j)) (Zu l j m)) (Xw l k m) (Nz m j (Xw l j (No j)) (Xw l j m))))))) (JO (DU (RG l (CS k)) (CH l)) (fB k l) (DV k) (CS k) (DU (Ox l k l k (CS k)) (Ox l k l k (DV k)))) (DV k) (DV j))) (And (AO (PH (CS j) l) (CR (DV j) (OQ j)) (IU (AGG j) (OQ j))) (EI (λk=>Je (Af l (lY (QM k (CS j)) (AJ k (CS j)) (λm=>TO m k (Gm l k) m (Nz m j (BL l (CS j)) (Ou l j m)) m (Nz m j (DF l (CS j)) (Zu l j m)) (Nz m j (DG l (CS j)) (Xw l j m))))) (GP 1 k (XU k l)) (CH l) k (CH l)))))))) (AAX (Td (MY l))))) (λi=>YH (GP 1 i (XU i l)) i (CH l) (Dp (PH i l) (AGE (DR i) i) Dl Ws (CN i) (vK (CN i))) (Y3 (λj=>FE (gZ (BQ l) (AP l) (Ut (QM (OQ j) i) (AI (CS j) i) (AI (DV j) i) (AG (λk=>HJ k (OQ j) (Lm (Ou l j k) (EF k i (BL (Gm l i) k) (BL l i)) (Zu l j k) (EF k i (DF (Gm l i) k) (DF l i)) (Xw l j k) (EF k i (DG (Gm l i) k) (DG l i))))))) (Jl l (CS j) i) (fB j l) (DV j) (CS j) (DU (Ox l j l j (CS j)) (Ox l j l j (DV j))))) (hd66 (λj=>LZ (JO (Jl l (CS j) i) (fB j l) (DV j) (CS j) (DU (Ox l j l j (CS j)) (Ox l j l j (DV j)))) (AO (tN (DV j) (TV (DV j) (OQ j))) (tN (DV j) (IU (No j) (OQ j))) (tN (DV j) (PH (CS j) l))) (FD (Iv (DV j) (Oa (Ou l j (No j)) (BL l (CS j)))) (SG (TV (DV j) (OQ j)) (No j) (OQ j) (CR (DV j) (OQ j)) (IU (AGG j) (OQ j))) (Y3 (λk=>IB (gZ (BQ l) (AP l) (Ut (QM (OQ k) (CS j)) (AI (CS k) (CS j)) (lU (DV k) (DV j)) (AG (λm=>HJ m (OQ k) (Lm (Ou l k m) (Nz m j (Ou l j (No j)) (Ou l j m)) (Zu l k m) (Nz m j (Zu l j (No j)) (Zu l j m)) (Xw l k m) (Nz m j (Xw l j (No j)) (Xw l j m))))))) (JO (Jl l (CS k) i) (fB k l) (DV k) (CS k) (DU (Ox l k l k (CS k)) (Ox l k l k (DV k)))) (DV k) (DV j))) (And (AO (PH (CS j) l) (CR (DV j) (OQ j)) (IU (AGG j) (OQ j))) (EI (λk=>fR (Af l (lY (QM k (CS j)) (AJ k (CS j)) (λm=>TO m k (Gm l k) m (Nz m j (BL l (CS j)) (Ou l j m)) m (Nz m j (DF l (CS j)) (Zu l j m)) (Nz m j (DG l (CS j)) (Xw l j m))))) 1 k (XU k l) (CH l) k i)))))) (Tl (Uy (MY l) i) i (fS (MY l) (Gm l i))))):=by kernel_rfl
def C_rPb:Ctr:={ α:=List Gau,xs:=λl=>[.d (AT l)],val:=λl=>.bool (Ci l),pre:=λl=>[l.length<1073741824/\(∀g∈l,IT g)/\nM l] }
structure IKM where
 i:Nat
 k:Nat
 m:Nat
 deriving Inhabited
def pb2(l:List Gau):Shape:={ α:=Nat,dflt:=0,T:=λi=>⟨[(0,.d (AT l)),(3,.int i)],[]⟩,inv:=λi=>i<=l.length/\BRV l i 0 0,meas:=λi=>l.length-i }
def pb5(l:List Gau)(n:Nat):Shape:={ α:=NN,dflt:=default,T:=λx=>⟨[(0,.d (AT l)),(3,.int x.a),(4,.int x.b)],[]⟩,inv:=λx=>l.length-x.a=n/\x.a<l.length/\x.a<=x.b/\x.b<=l.length/\BRV l x.a x.b 0,meas:=λx=>l.length-x.b }
def pb8(l:List Gau)(n p:Nat):Shape:={ α:=IKM,dflt:=default,T:=λx=>⟨[(0,.d (AT l)),(3,.int x.i),(4,.int x.k),(5,.int x.m)],[]⟩,inv:=λx=>(l.length-x.i=n/\l.length-x.k=p)/\x.i<=x.k/\x.k<l.length/\x.k<=x.m/\x.m<=l.length/\BRV l x.i x.k x.m,meas:=λx=>l.length-x.m }
def COH(l:List Gau):Ann:={ ann 40 [(108,BJX)] with loops:=λid=>if id=2 then some [pb2 l] else none,inner:=λgs id=>if id=5 then some [pb5 l (gs.getD 0 0)] else if id=8 then some [pb8 l (gs.getD 1 0) (gs.getD 0 0)] else none }
def CQG(l:List Gau):Prop:=AS ZP (COH l) Tryz.f71 (AE Tryz.f71) (C_rPb.xs l) (AB []) (C_rPb.val l) [] [] []
abbrev Hs:=IKM.i
abbrev VT:=IKM.k
abbrev YR:=IKM.m
abbrev Us:=Ci
abbrev Tj(a:Nat->Nat->Prop):=AG (λi=>AG (λj=>a i j))
abbrev YG a b c d e:=Bi a b (AAL c d e)
abbrev eQ a b:=PY a (IN b)
abbrev Tm a b c d e f:=Vh (sU a b) (sU c d) (sU e f)
abbrev AHB a b c:=Or a (And b c)
abbrev AOZ a b c d:=AHB (FC a b) c d
abbrev Dk a b c d:=AOZ a b (DU c b) d
abbrev uJ(a:Nat->Nat->Nat->Prop):=AG (λi=>Tj (λk j=>a i k j))
attribute [go_sem] Hs VT YR Us Tj YG eQ Tm AHB AOZ Dk uJ
theorem CTV(l:List Gau):(CQG l)=(HU (λi=>EE (Af l (BX i)) i (CH l) (uJ (λm k j=>Bi m k (YG k j j l (eQ (Dk m i m (AOZ k 0 (HE k) (FC j 0))) (Tm l m l k l j)))))) (λi=>WU (QY (XU i l) (λj=>Tj (λm k=>Bi j m (YG m k k l (eQ (Dk j i j (AOZ m 0 (HE m) (FC k 0))) (Tm l j l m l k)))))) i (CH l) (Y3 (λj=>HF (XY l (bY (AP l) (Yl j) (BO i) (Om j) (BO i))) (Jl l (CS j) i) (fB j l) (gA j (DV j)) (DV j) (CH l) (uJ (λn m k=>Bi n m (YG m k k l (eQ (Dk n (CS j) n (Dk m (DV j) m (FC k 0))) (Tm l n l m l k))))))) (hd66 (λj=>WU (FE (Jl l (CS j) i) (fB j l) (gA j (DV j)) (DV j) (CH l) (uJ (λn m k=>Bi n m (YG m k k l (eQ (Dk n (CS j) n (Dk m (DV j) m (FC k 0))) (Tm l n l m l k)))))) (DV j) (CH l) ((@Exists IKM) (λk=>AO (XC l (AI (Hs k) (CS j)) (AI (VT k) (DV j)) (AI (YR k) (DV j))) (And (Jl l (Hs k) i) (Jl l (VT k) (DV j))) (FE (FF (Hs k) (VT k)) (Ki (VT k) l) (FF (VT k) (YR k)) (YR k) (CH l) (uJ (λu n m=>Bi u n (YG n m m l (eQ (Dk u (Hs k) u (Dk n (VT k) n (FC m (YR k)))) (Tm l u l n l m)))))))) ((λ(f:IKM->Prop)=>∀(x:IKM),f x) (λk=>AGN (HF (And (Jl l (Hs k) i) (Jl l (VT k) (DV j))) (FF (Hs k) (VT k)) (Ki (VT k) l) (FF (VT k) (YR k)) (YR k) (CH l) (uJ (λu n m=>Bi u n (YG n m m l (eQ (Dk u (Hs k) u (Dk n (VT k) n (FC m (YR k)))) (Tm l u l n l m)))))) (YR k) (CH l) (Qv (Hs k) (CH l) (BK (PH (VT k) l) (PH (YR k) l) (vB (FJ (BL l (Hs k))) (BL l (Hs k)) (DF l (Hs k)) (DG l (Hs k))) (vB (FJ (BL l (VT k))) (BL l (VT k)) (DF l (VT k)) (DG l (VT k))) (FJ (BL l (YR k))) (VF (BL l (YR k))) (FJ (DF l (YR k))) (KO (DF l (YR k)) (DG l (YR k))) (qH (DG l (YR k))))) (not (Tm l (Hs k) l (VT k) l (YR k))) (KU (Us l)) ((@Exists IKM) (λm=>EO (XC l (AI (Hs m) (Hs k)) (AI (VT m) (VT k)) (AJ (YR m) (YR k))) (HF (And (Jl l (Hs m) i) (Jl l (VT m) (DV j))) (FF (Hs m) (VT m)) (Ki (VT m) l) (FF (VT m) (YR m)) (YR m) (CH l) (uJ (λv u n=>Bi v u (YG u n n l (eQ (Dk v (Hs m) v (Dk u (VT m) u (FC n (YR m)))) (Tm l v l u l n)))))) (CH l) (YR m) (YR k))) (Y3 (λm=>EO (XY l (bY (AP l) (Yl m) (BO (Hs k)) (Om m) (P7 (VT k)))) (FE (Jl l (CS m) i) (fB m l) (gA m (DV m)) (DV m) (CH l) (uJ (λv u n=>Bi v u (YG u n n l (eQ (Dk v (CS m) v (Dk u (DV m) u (FC n 0))) (Tm l v l u l n)))))) (CH l) (DV m) (DV j))))) (EI (λk=>EO (Af l (AJ k (CS j))) (QY (XU k l) (λm=>Tj (λu n=>Bi m u (YG u n n l (eQ (Dk m k m (AOZ u 0 (HE u) (FC n 0))) (Tm l m l u l n)))))) (CH l) k i)))) (IN (Us l)))):=by kernel_rfl
structure GBI where
 g:List Gau
 b:List Int
 p:Int
def dGBI:List AVal->Heap->Option (GBI×List (Nat×Nat)×List Nat)
 |[x,y,.d t],H=>match Ht x H,Xt y H with
  |some (l,f),some (m,e)=>some (⟨l,m,EG t⟩,[],f ++ e)
  |_,_=>none
 |_,_=>none
def C_rIns:Ctr:={ α:=GBI,xs:=λa=>[.d (AT a.g),.d (AZ a.b),.int a.p],val:=λa=>.d (AT (SB a.g a.b a.p)),pre:=λa=>[a.g.length<1073741824/\a.b.length<1073741824] }
structure KG where
 k:Nat
 l:List Gau
 deriving Inhabited
def CNC(l:List Gau):AObj:=.row 3 l.length λi=>Ry (gD l i)
def mO(a:GBI)(k:Nat):List Gau:=(a.g.take k).filter λg=>(KB a.b g.st:Int)==a.p
def inSl(a:GBI)(v:AVal)(k:Nat):List (Nat×AVal):=[(0,.d (AT a.g)),(1,.d (AZ a.b)),(2,.int a.p),(7,v),(8,.int k)]
def in3n(a:GBI):Shape:={ α:=Nat,dflt:=0,T:=λk=>⟨inSl a (.d NC) k,[]⟩,inv:=λk=>k<=a.g.length/\mO a k=[],meas:=λk=>a.g.length-k }
def in3o(a:GBI):Shape:={ α:=KG,dflt:=default,T:=λx=>⟨inSl a (.own 301 3 0 x.l.length) x.k,[(301,.live (CNC x.l))]⟩,inv:=λx=>x.k<=a.g.length/\mO a x.k=x.l,meas:=λx=>a.g.length-x.k }
def in4n(a:GBI)(m:Nat):Shape:={ α:=Nat,dflt:=0,T:=λk=>⟨inSl a (.d NC) k,[]⟩,inv:=λk=>k<a.g.length/\a.g.length-k=m/\mO a (k+1)=[],meas:=λ_=>0 }
def in4o(a:GBI)(m:Nat)(f:List (Nat×Nat)):Shape:={ α:=KG,dflt:=default,T:=λx=>⟨inSl a (.own 301 3 0 x.l.length) x.k,[(301,.live (CNC x.l))]⟩,inv:=λx=>x.k<a.g.length/\a.g.length-x.k=m/\mO a (x.k+1)=x.l,meas:=λ_=>0,first:=f }
def BYC(a:GBI):Ann:={ ann 33 [(63,C_rPart.spec dIX),(74,C_rSrt.spec NU)] with mt:=λid=>id==6,loops:=λid=>if id=3 then some [in3n a,in3o a] else none,cutIn:=λgs id=>if id=4 then some [in4n a (gs.getD 0 0),in4o a (gs.getD 0 0) [(301,7096)],in4o a (gs.getD 0 0) []] else none }
def BZG(a:GBI):Prop:=AS ZP (BYC a) Tryz.f72 (AE Tryz.f72) (C_rIns.xs a) (AB []) (C_rIns.val a) [] [] [301]
abbrev RL:=GBI.g
abbrev Zg:=GBI.b
abbrev AIC:=GBI.p
abbrev ATI:=@Exists KG
abbrev MN:=KG.l
abbrev IE:=KG.k
abbrev BQW:=λ(f:KG->Prop)=>∀(x:KG),f x
abbrev Et:=SB
abbrev aB a:=MY (CG a)
abbrev qU a b c:=BQV (mO a b) c
abbrev nT a b c:=qU a b (MN c)
abbrev fI a:=CH (RL a)
abbrev dI a:=AK (AIC a)
abbrev dC a:=EZ (Zg a)
abbrev iA a:=IW (Zg a)
abbrev gN a:=AP (RL a)
abbrev qB a b c:=Jl (RL a) b c
abbrev pW a b:=Ki a (RL b)
abbrev uR a(b:Nat->Prop):=PY a (EI b)
attribute [go_sem] RL Zg AIC ATI MN IE BQW Et aB qU nT fI dI dC iA gN qB pW uR
theorem CKO(a:GBI):(BZG a)=(AO (EI (λi=>EE (DY (BQ (RL a)) (gN a) (iA a) (dC a) (dI a) AF AN (BX i)) i (fI a) (qU a i AAQ))) (AG (λi=>Mb (GP i (fI a) (qU a i AAQ)) i (fI a) (SK (zB (PH i (RL a)) (EA (Zg a)) (CM (Zg a)) (AK (BL (RL a) i)) (LV (Zg a))) (VS (tB (FI (Zg a)) (BL (RL a) i)) (AIC a)) (Dp (PH i (RL a)) X4 Dl Xg 1 24) (ATI (λj=>BD (XY (RL a) (jP (gN a) (iA a) (dC a) (dI a) AF (Uy (MN j) 1) (AI (IE j) i) (AG (λk=>S1 k (MN j) (RL a) i)))) (pW (IE j) a) (qB a (IE j) i) (nT a (CN (IE j)) j))) (EI (λj=>BD (DY (BQ (RL a)) (gN a) (iA a) (dC a) (dI a) AF AN (AI j i)) (pW j a) (qB a j i) (qU a (CN j) AAQ)))) (λj=>uR (AO (pW j a) (qB a j i) (qU a (CN j) AAQ)) (λk=>QS (DY (BQ (RL a)) (gN a) (iA a) (dC a) (dI a) AF AN (AJ k j)) k (fI a) (qU a k AAQ) i)) (BQW (λj=>PY (AO (pW (IE j) a) (qB a (IE j) i) (nT a (CN (IE j)) j)) (ATI (λk=>QS (XY (RL a) (jP (gN a) (iA a) (dC a) (dI a) AF (HQ (MN k) (MN j)) (AJ (IE k) (IE j)) (EK (MN k) (MN j)))) (IE k) (fI a) (nT a (IE k) k) i)))) (AO (Dd AF AF (Br 0)) (Td (Et (RL a) (Zg a) (AIC a))) (EK (Et (RL a) (Zg a) (AIC a)) (MY ((@HA Gau) 0 (λj=>Ky (@default DVal instInhabitedDVal)))))))) (BQW (λi=>Mb (GP (IE i) (fI a) (nT a (IE i) i)) (IE i) (fI a) (SK (zB (PH (IE i) (RL a)) (EA (Zg a)) (CM (Zg a)) (AK (BL (RL a) (IE i))) (LV (Zg a))) (VS (tB (FI (Zg a)) (BL (RL a) (IE i))) (AIC a)) (Dp (PH (IE i) (RL a)) (XY (MN i) (AAL 0 (MN i) Iq)) Dl Ws (WR (MN i)) (vK (WR (MN i)))) (ATI (λj=>BD (XY (RL a) (jP (gN a) (iA a) (dC a) (dI a) AF (Uy (MN j) (WR (MN i))) (AI (IE j) (IE i)) (AG (λk=>Pg k (MN j) (EF k (CH (MN i)) (BL (MN i) k) (BL (RL a) (IE i))) (EF k (CH (MN i)) (DF (MN i) k) (DF (RL a) (IE i))) (EF k (CH (MN i)) (DG (MN i) k) (DG (RL a) (IE i))))))) (pW (IE j) a) (qB a (IE j) (IE i)) (nT a (CN (IE j)) j))) (ATI (λj=>BD (XY (RL a) (jP (gN a) (iA a) (dC a) (dI a) AF (HQ (MN j) (MN i)) (AI (IE j) (IE i)) (EK (MN j) (MN i)))) (pW (IE j) a) (qB a (IE j) (IE i)) (nT a (CN (IE j)) j)))) (λj=>uR (AO (pW j a) (qB a j (IE i)) (qU a (CN j) AAQ)) (λk=>QS (DY (BQ (RL a)) (gN a) (iA a) (dC a) (dI a) AF AN (AJ k j)) k (fI a) (qU a k AAQ) (IE i))) (BQW (λj=>PY (AO (pW (IE j) a) (qB a (IE j) (IE i)) (nT a (CN (IE j)) j)) (ATI (λk=>QS (XY (RL a) (jP (gN a) (iA a) (dC a) (dI a) AF (HQ (MN k) (MN j)) (AJ (IE k) (IE j)) (EK (MN k) (MN j)))) (IE k) (fI a) (nT a (IE k) k) (IE i))))) (AO (AR (AY (MN i)) (XU (AQ (CH (MN i))) (MN i)) (fS (CG (MN i)) (MN i)) (HV (MN i)) HO) (HQ (Et (RL a) (Zg a) (AIC a)) (aB (MN i))) (EK (Et (RL a) (Zg a) (AIC a)) (aB (MN i))))))):=by kernel_rfl
theorem CED{l:List Gau}{i:Nat}(h:i<=l.length):(Gm l i).length=i:=by
 unfold Gm
 rw[(JW _).length_eq,List.length_take];omega
theorem ARJ{l:List Gau}{i:Nat}(h:i<l.length):Gm l (i+1)=insG (Gm l i) (gD l i):=by
 unfold Gm EJ
 rw[LG h,List.foldl_append];rfl
theorem BTN{L:List Gau}{x:Gau}{b:Nat}(hb:0<b)(h:(gD L (b-1)).st>x.st):VI x L b=VI x L (b-1):=by
 obtain⟨n,rfl⟩:∃n,b=n+1:=⟨b-1,by omega⟩
 rw[Nat.add_sub_cancel] at h ⊢
 show (bif decide ((gD L n).st>x.st) then VI x L n else n+1)=_
 rw[decide_eq_true h];rfl
theorem ASE{L:List Gau}{x:Gau}{b:Nat}(h:0<b->¬(gD L (b-1)).st>x.st):VI x L b=b:=by
 cases b with
 |zero=>rfl
 |succ n=>
  have h:=h (by omega)
  rw[Nat.add_sub_cancel] at h
  show (bif decide ((gD L n).st>x.st) then VI x L n else n+1)=_
  rw[decide_eq_false h];rfl
theorem BZX(L:List Gau)(x:Gau)(i j:Nat):YU L x i i j=bif decide (j<i) then gD L j else x:=by
 unfold YU
 by_cases h:j<i
 ·rw[if_pos h,if_pos (by omega),decide_eq_true h];rfl
 ·rw[if_neg h,if_pos rfl,decide_eq_false h];rfl
theorem BCE{L:List Gau}{x:Gau}{i b:Nat}(hb:0<b)(h:b<=i):YU L x i b (b-1)=gD L (b-1):=by
 unfold YU;rw[if_pos (by omega),if_pos (by omega)]
theorem BRH{L:List Gau}{x:Gau}{i b j:Nat}(hb:0<b)(h:b<=i)(hj:j<=i):YU L x i (b-1) j=bif decide (j=b) then YU L x i b (b-1) else YU L x i b j:=by
 rw[BCE hb h]
 by_cases e:j=b
 ·rw[decide_eq_true e,e]
  unfold YU
  by_cases h2:b<i
  ·rw[if_pos h2,if_neg (by omega)];rfl
  ·rw[if_neg h2,if_neg (by omega)];rfl
 ·rw[decide_eq_false e]
  unfold YU
  by_cases h2:j<i
  ·rw[if_pos h2]
   by_cases h3:j<=b-1
   ·rw[if_pos h3];show _=if j<i then (if j<=b then gD L j else gD L (j-1)) else _;rw[if_pos h2,if_pos (by omega)]
   ·rw[if_neg h3];show _=if j<i then (if j<=b then gD L j else gD L (j-1)) else _;rw[if_pos h2,if_neg (by omega)]
  ·rw[if_neg h2,if_neg (by omega)]
   show _=if j<i then (if j<=b then gD L j else gD L (j-1)) else if b=i then x else gD L (j-1)
   rw[if_neg h2,if_neg (by omega)]
theorem BGS{L:List Gau}{x:Gau}{i b j:Nat}(h:b<=i)(hL:L.length=i)(hp:VI x L i=b)(hj:j<=i):gD (insG L x) j=bif decide (j=b) then x else YU L x i b j:=by
 rw[BAO,hL,hp]
 by_cases e:j=b
 ·rw[decide_eq_true e,if_neg (by omega),if_pos e];rfl
 ·rw[decide_eq_false e]
  show _=YU L x i b j
  unfold YU
  by_cases h2:j<b
  ·rw[if_pos h2,if_pos (by omega),if_pos (by omega)]
  ·rw[if_neg h2,if_neg e]
   by_cases h3:j<i
   ·rw[if_pos h3,if_neg (by omega)]
   ·rw[if_neg h3,if_neg (by omega)]
theorem CVB(l:List Gau)(h:l.length<1073741824):CGT l:=by
 rw[CLO]<;> dsimp only[go_sem];simp only[CC,CU]
 have wb':∀{b:Nat},b<1073741824->(b:Int)>0->IntKind.i64.wrap ((b:Int)-1)=((b-1:Nat):Int):=λ{b} hq hb=>by
  rw[HL (by omega) (by omega)];omega
 have pl:∀i,i<l.length->(Gm l i).length=i:=λi hi=>CED (by omega)
 have gt:∀{x:NN},x.a<l.length->x.b<=x.a->(bif decide ((x.b:Int)>0) then decide ((YU (Gm l x.a) (gD l x.a) x.a x.b (IntKind.i64.wrap ((x.b:Int)-1)).toNat).st>(gD l x.a).st) else false)=true->0<x.b/\(gD (Gm l x.a) (x.b-1)).st>(gD l x.a).st:=λ{x} h1 h2 hc=>by
  by_cases hb:(x.b:Int)>0
  ·rw[decide_eq_true hb,wb' (by omega) hb,Int.toNat_natCast,BCE (by omega) h2] at hc
   exact⟨by omega,of_decide_eq_true hc⟩
  ·rw[decide_eq_false hb] at hc;cases hc
 have lt:∀{x:NN},x.a<l.length->x.b<=x.a->0<x.b->(bif decide ((x.b:Int)>0) then decide ((YU (Gm l x.a) (gD l x.a) x.a x.b (IntKind.i64.wrap ((x.b:Int)-1)).toNat).st>(gD l x.a).st) else false)=false->¬(gD (Gm l x.a) (x.b-1)).st>(gD l x.a).st:=λ{x} h1 h2 hb hc=>by
  have hb':(x.b:Int)>0:=by omega
  rw[decide_eq_true hb',wb' (by omega) hb',Int.toNat_natCast,BCE hb h2] at hc
  exact of_decide_eq_false hc
 refine⟨⟨default,trivial⟩,⟨λhlt=>⟨⟨⟨by omega,by omega⟩,by omega,by omega,by omega,by omega,by omega⟩,⟨⟨0,0⟩,⟨rfl,rfl,rfl,rfl,λj hj=>?_⟩,rfl,by show 0<l.length;omega,Nat.le_refl _,rfl⟩,λx ⟨hx1,hx2,hx3,hx4⟩=>?_⟩,λhge=>?_⟩,λi ⟨i1,i2⟩=>⟨λhlt=>⟨⟨⟨by omega,by omega⟩,by omega,λh=>(by cases h),by omega,by omega⟩,⟨⟨i,i⟩,⟨rfl,rfl,rfl,rfl,λj hj=>?_⟩,rfl,by show i<l.length;omega,Nat.le_refl _,rfl⟩,λx ⟨hx1,hx2,hx3,hx4⟩=>?_⟩,λhge=>?_⟩⟩
 ·have hj:j<0+1:=hj
  have e:YU (Gm l 0) (gD l 0) 0 0 j=gD l 0:=by
   unfold YU;rw[if_neg (by omega),if_pos rfl]
  rw[e];exact⟨rfl,rfl,rfl⟩
 ·have wb:(x.b:Int)>0->IntKind.i64.wrap ((x.b:Int)-1)=((x.b-1:Nat):Int):=wb' (by omega)
  refine⟨⟨λhb=>⟨by rw[wb hb];omega,by rw[wb hb];omega⟩,λhb=>by rw[wb hb,Int.toNat_natCast];omega,λ_=>⟨by omega,by omega⟩⟩,λhc=>?_,λhc=>?_⟩
  ·obtain⟨hb,hg⟩:=gt hx2 hx3 hc
   refine⟨⟨⟨by rw[wb (by omega)];omega,by rw[wb (by omega)];omega⟩,by rw[wb (by omega),Int.toNat_natCast];omega,⟨by omega,by omega⟩,by omega⟩,⟨x.a,x.b-1⟩,⟨rfl,rfl,(wb (by omega)).symm,rfl,λj hj=>?_⟩,⟨hx1,hx2,by show x.b-1<=x.a;omega,?_⟩,by show x.b-1<x.b;omega⟩
   ·rw[wb (by omega),Int.toNat_natCast]
    show (YU (Gm l x.a) (gD l x.a) x.a (x.b-1) j).st=_/\(YU (Gm l x.a) (gD l x.a) x.a (x.b-1) j).lo=_/\(YU (Gm l x.a) (gD l x.a) x.a (x.b-1) j).hi=_
    rw[BRH (j:=j) hb hx3 (by have hj:j<x.a+1:=hj;omega)]
    cases decide (j=x.b)<;>exact⟨rfl,rfl,rfl⟩
   ·show VI _ _ x.a=VI _ _ (x.b-1)
    rw[hx4];exact BTN hb hg
  ·refine⟨⟨⟨by omega,by omega⟩,⟨by omega,by omega⟩,by omega⟩,x.a+1,⟨rfl,(BF (by omega)).symm,rfl,λj hj=>?_⟩,⟨⟨by omega,by omega⟩,by omega⟩⟩
   rw[ARJ hx2,BGS (j:=j) hx3 (pl x.a hx2) (hx4.trans (ASE λhb hg=>lt hx2 hx3 hb hc hg)) (by omega)]
   cases decide (j=x.b)<;>exact⟨rfl,rfl,rfl⟩
 ·have:l=[]:=List.eq_nil_of_length_eq_zero (by omega)
  rw[this];rfl
 ·have e:=BZX (Gm l i) (gD l i) i j
  rw[e]
  cases decide (j<i)<;>exact⟨rfl,rfl,rfl⟩
 ·have wb:(x.b:Int)>0->IntKind.i64.wrap ((x.b:Int)-1)=((x.b-1:Nat):Int):=wb' (by omega)
  refine⟨⟨λhb=>⟨by rw[wb hb];omega,by rw[wb hb];omega⟩,λhb=>by rw[wb hb,Int.toNat_natCast];omega,λ_=>⟨by omega,by omega⟩⟩,λhc=>?_,λhc=>?_⟩
  ·obtain⟨hb,hg⟩:=gt hx2 hx3 hc
   refine⟨⟨⟨by rw[wb (by omega)];omega,by rw[wb (by omega)];omega⟩,by rw[wb (by omega),Int.toNat_natCast];omega,⟨by omega,by omega⟩,by omega⟩,⟨x.a,x.b-1⟩,⟨rfl,rfl,(wb (by omega)).symm,rfl,λj hj=>?_⟩,⟨hx1,hx2,by show x.b-1<=x.a;omega,?_⟩,by show x.b-1<x.b;omega⟩
   ·rw[wb (by omega),Int.toNat_natCast]
    show (YU (Gm l x.a) (gD l x.a) x.a (x.b-1) j).st=_/\(YU (Gm l x.a) (gD l x.a) x.a (x.b-1) j).lo=_/\(YU (Gm l x.a) (gD l x.a) x.a (x.b-1) j).hi=_
    rw[BRH (j:=j) hb hx3 (by have hj:j<x.a+1:=hj;omega)]
    cases decide (j=x.b)<;>exact⟨rfl,rfl,rfl⟩
   ·show VI _ _ x.a=VI _ _ (x.b-1)
    rw[hx4];exact BTN hb hg
  ·refine⟨⟨⟨by omega,by omega⟩,⟨by omega,by omega⟩,by omega⟩,x.a+1,⟨rfl,(BF (by omega)).symm,rfl,λj hj=>?_⟩,⟨⟨by omega,by omega⟩,by omega⟩⟩
   rw[ARJ hx2,BGS (j:=j) hx3 (pl x.a hx2) (hx4.trans (ASE λhb hg=>lt hx2 hx3 hb hc hg)) (by omega)]
   cases decide (j=x.b)<;>exact⟨rfl,rfl,rfl⟩
 ·have e:i=l.length:=by omega
  subst e
  have e2:Gm l l.length=EJ l:=by unfold Gm;rw[List.take_of_length_le (Nat.le_refl _)]
  rw[e2]
  exact⟨(JW l).length_eq,Nat.le_refl _,λ_ _=>⟨rfl,rfl,rfl⟩⟩
theorem BTM:AH ZP 74 (C_rSrt.spec NU):=PW C_rSrt CBX [] [301] Tryz.func74 (λ_=>by kernel_rfl) (λ_=>AD) (λ(l:List Gau) h=>CVB l (show l.length<1073741824/\True from h).1) (λ_=>RA rfl rfl) _
theorem DBG(l:List Gau)(h:l.length<1073741824)(ho:∀g∈l,IT g)(ha:nM l):CQG l:=by
 rw[CTV]<;> dsimp only[go_sem];simp only[CC,CU]
 refine⟨⟨0,rfl,Nat.zero_le _,λa b c _ _ _ h=>by omega⟩,λi ⟨i1,i2⟩=>⟨λhlt=>⟨⟨⟨i,i⟩,⟨rfl,rfl⟩,rfl,by show i<l.length;omega,Nat.le_refl _,i1,λa b c h1 h2 h3 h=>i2 a b c h1 h2 h3 (by have h:a<i∨a=i/\(b<i∨b=i/\c<0):=h;omega)⟩,λx ⟨x1,x2,x3,x4,x5⟩=>⟨λhlt2=>⟨⟨⟨x.a,x.b,x.b⟩,⟨rfl,rfl,rfl⟩,⟨x1,rfl⟩,x3,by show x.b<l.length;omega,Nat.le_refl _,x4,λa b c h1 h2 h3 h=>x5 a b c h1 h2 h3 (by have h:a<x.a∨a=x.a/\(b<x.b∨b=x.b/\c<x.b):=h;omega)⟩,λy ⟨⟨y1,y2⟩,y3,y4,y5,y6,y7⟩=>⟨λhlt3=>⟨⟨⟨by omega,by omega⟩,⟨by omega,by omega⟩,⟨by omega,by omega⟩,ho _ (BU (by omega)),ho _ (BU (by omega)),ho _ (BU (by omega))⟩,λhf=>CEL ho ha y3 y5 (by omega) hf,λht=>⟨⟨y.i,y.k,y.m+1⟩,⟨rfl,rfl,(BF (by omega)).symm⟩,⟨⟨y1,y2⟩,y3,y4,by show y.k<=y.m+1;omega,by show y.m+1<=_;omega,λa b c h1 h2 h3 h=>?_⟩,by show l.length-(y.m+1)<_;omega⟩⟩,λhge=>⟨⟨y.i,y.k+1⟩,⟨rfl,(BF (by omega)).symm⟩,⟨y1,by show y.i<_;omega,by show y.i<=y.k+1;omega,by show y.k+1<=_;omega,λa b c h1 h2 h3 h=>y7 a b c h1 h2 h3 (by have h:a<y.i∨a=y.i/\(b<y.k+1∨b=y.k+1/\c<0):=h;omega)⟩,by show l.length-(y.k+1)<_;omega⟩⟩⟩,λhge=>⟨x.a+1,(BF (by omega)).symm,⟨by omega,λa b c h1 h2 h3 h=>x5 a b c h1 h2 h3 (by omega)⟩,by omega⟩⟩⟩,λhge=>BVB ho ha λa b c h1 h2 h3 h=>i2 a b c h1 h2 h3 (by omega)⟩⟩
 have h:a<y.i∨a=y.i/\(b<y.k∨b=y.k/\c<y.m+1):=h
 by_cases e:a=y.i/\b=y.k/\c=y.m
 ·obtain⟨rfl,rfl,rfl⟩:=e;exact ht
 ·exact y7 a b c h1 h2 h3 (by omega)
theorem AMJ:AH ZP 71 (C_rPb.spec NU):=PW C_rPb COH [] [] Tryz.func71 (λ_=>by kernel_rfl) (λ_=>AA BTF AD) (λ(l:List Gau) h=>DBG l h.1 h.2.1 h.2.2) (λ_=>RA rfl rfl) _
theorem F0{a:GBI}{k:Nat}(h:k<a.g.length):mO a (k+1)=if ((KB a.b (gD a.g k).st:Int)==a.p)=true then mO a k ++ [gD a.g k] else mO a k:=by
 unfold mO
 rw[LG h,List.filter_append]
 by_cases c:((KB a.b (gD a.g k).st:Int)==a.p)=true
 ·rw[if_pos c,List.filter_cons,if_pos c];rfl
 ·rw[if_neg c,List.filter_cons,if_neg c];simp
theorem BGI(a:GBI){k:Nat}(h:¬(k:Int)<a.g.length):SB a.g a.b a.p=EJ (mO a k):=by
 unfold mO SB CV Jp FM
 rw[List.take_of_length_le (by omega)]
theorem AMR(a:GBI)(k:Nat):(mO a k).length<=k:=Nat.le_trans (List.length_filter_le _ _) (by rw[List.length_take];omega)
theorem CTU(a:GBI)(h1:a.g.length<1073741824)(h2:a.b.length<1073741824):BZG a:=by
 rw[CKO]<;> dsimp only[go_sem];simp only[CC,CU]
 have cn:∀(m k:Nat),k<a.g.length/\a.g.length-k=m/\mO a (k+1)=[]->∃j:Nat,(j:Int)=IntKind.i64.wrap ((k:Int)+1)/\(j<=a.g.length/\mO a j=[])/\a.g.length-j<m:=λm k ⟨b1,b2,b3⟩=>⟨k+1,(BF (by omega)).symm,⟨by omega,b3⟩,by omega⟩
 have co:∀(m:Nat) (x:KG),x.k<a.g.length/\a.g.length-x.k=m/\mO a (x.k+1)=x.l->∃y:KG,(y.l.length=x.l.length/\(y.k:Int)=IntKind.i64.wrap ((x.k:Int)+1)/\y.l.length=x.l.length/\∀i,i<y.l.length->(gD y.l i).st=(gD x.l i).st/\(gD y.l i).lo=(gD x.l i).lo/\(gD y.l i).hi=(gD x.l i).hi)/\(y.k<=a.g.length/\mO a y.k=y.l)/\a.g.length-y.k<m:=λm x ⟨b1,b2,b3⟩=>⟨⟨x.k+1,x.l⟩,⟨rfl,(BF (by omega)).symm,rfl,λ_ _=>⟨rfl,rfl,rfl⟩⟩,⟨by show x.k+1<=_;omega,b3⟩,by show a.g.length-(x.k+1)<m;omega⟩
 refine⟨⟨0,rfl,Nat.zero_le _,rfl⟩,λk ⟨k1,k2⟩=>⟨λhlt=>⟨⟨⟨⟨by omega,by omega⟩,h2⟩,λhp=>⟨⟨⟨by omega,by omega⟩,by omega,by omega,by omega,by omega,by omega⟩,⟨k,[gD a.g k]⟩,⟨rfl,rfl,rfl,λi hi=>?_⟩,by show k<_;omega,rfl,?_⟩,λhp=>⟨k,rfl,by omega,rfl,?_⟩⟩,cn _,co _⟩,λhge=>?_⟩,λx ⟨x1,x2⟩=>⟨λhlt=>⟨⟨⟨⟨by omega,by omega⟩,h2⟩,λhp=>⟨⟨⟨by omega,by omega⟩,by omega,λh=>(by cases h),?_,?_⟩,⟨x.k,x.l ++ [gD a.g x.k]⟩,⟨by simp,rfl,by simp,λi hi=>?_⟩,by show x.k<_;omega,rfl,?_⟩,λhp=>⟨⟨x.k,x.l⟩,⟨rfl,rfl,rfl,λ_ _=>⟨rfl,rfl,rfl⟩⟩,by show x.k<_;omega,rfl,?_⟩⟩,cn _,co _⟩,λhge=>?_⟩⟩
 ·rw[show i=0 by have hi:i<1:=hi;omega];exact⟨rfl,rfl,rfl⟩
 ·show mO a (k+1)=[gD a.g k]
  rw[F0 (by omega),if_pos hp,k2];rfl
 ·rw[F0 (by omega),if_neg (by rw[hp];simp),k2]
 ·have e:=BGI a hge
  rw[k2] at e
  have e0:(SB a.g a.b a.p).length=0:=by rw[e];rfl
  exact⟨by omega,e0,λi hi=>by omega⟩
 ·have:=AMR a x.k;rw[x2] at this;omega
 ·have:=AMR a x.k;rw[x2] at this;omega
 ·exact BOK _ _ i hi
 ·show mO a (x.k+1)=x.l ++ _
  rw[F0 (by omega),if_pos hp,x2]
 ·show mO a (x.k+1)=x.l
  rw[F0 (by omega),if_neg (by rw[hp];simp),x2]
 ·have:=AMR a x.k;rw[x2] at this
  have e:=BGI a hge
  rw[x2] at e
  rw[e]
  exact⟨⟨Nat.le_refl _,by omega⟩,rfl,λ_ _=>⟨rfl,rfl,rfl⟩⟩
theorem ABD:AH ZP 72 (C_rIns.spec dGBI):=PW C_rIns BYC [] [301] Tryz.func72 (λ_=>by kernel_rfl) (λ_=>AA iQ (AA BTM AD)) (λ(a:GBI) h=>CTU a h.1 h.2) (λ_=>RA rfl rfl) _
end Go.Bal
