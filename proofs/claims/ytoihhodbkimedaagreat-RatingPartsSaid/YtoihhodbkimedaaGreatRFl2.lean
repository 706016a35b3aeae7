/- Package rating: the reference: gaugings of a part by rising stages; whether a line passes them. -/
import Derived.Test.YtoihhodbkimedaaGreatRZ6
set_option linter.unusedVariables false
set_option linter.unusedSimpArgs false
namespace Go.Bal
open Go Go.Sym Go.Proofs
def C_rSrt:Ctr:={ α:=List Gau,xs:=λl=>[.d (BX l)],val:=λl=>.d (BX (FW l)),pre:=λl=>[l.length<1073741824/\True] }
def Bj(L:List Gau)(x:Gau)(i a j:Nat):Gau:=if j<i then (if j<=a then gD L j else gD L (j-1)) else if a=i then x else gD L (j-1)
def Tq(l:List Gau)(i:Nat):List Gau:=FW (l.take i)
def so3n(l:List Gau):Shape:={ α:=One,dflt:=default,T:=λ_=>⟨[(0,.d (BX l)),(3,.d ZU),(4,.int 0)],[]⟩,inv:=λ_=>True,meas:=λ_=>l.length }
def so3o(l:List Gau):Shape:={ α:=Nat,dflt:=0,T:=λi=>⟨[(0,.d (BX l)),(3,.own 301 3 0 i),(4,.int i)],[(301,.live (.row 3 i λj=>jI (gD (Tq l i) j)))]⟩,inv:=λi=>1<=i/\i<=l.length,meas:=λi=>l.length-i }
def so7o(l:List Gau)(m:Nat):Shape:={ α:=NN,dflt:=default,T:=λx=>⟨[(0,.d (BX l)),(3,.own 301 3 0 (x.a+1)),(4,.int x.a),(5,.int x.b)],[(301,.live (.row 3 (x.a+1) λj=>jI (Bj (Tq l x.a) (gD l x.a) x.a x.b j)))]⟩,inv:=λx=>l.length-x.a=m/\x.a<l.length/\x.b<=x.a/\WS (gD l x.a) (Tq l x.a) x.a=WS (gD l x.a) (Tq l x.a) x.b,meas:=λx=>x.b,first:=[(301,7096)] }
def BXV(l:List Gau):Ann:={ ann 55 [] with mt:=λid=>id==6,loops:=λid=>if id=3 then some [so3n l,so3o l] else none,inner:=λgs id=>if id=7 then some [so7o l (gs.getD 0 0)] else none }
def CBS(l:List Gau):Prop:=BQ Try.prog (BXV l) BIK (AI BIK) (C_rSrt.xs l) (AD []) (C_rSrt.val l) [] [] [301]
abbrev qL:=Tq
abbrev NG:=FW
abbrev Df a b:=And (NB a) b
abbrev Zc a b c:=Cm AL a b c
abbrev Fc a b(c:Nat->Prop):=Zc a b (AK c)
abbrev BOR a b:=EZ a (BK b)
abbrev BOV a b:=qL a (BK b)
abbrev AQL a b c:=Bj (BOV a b) (BOR a b) (BK b) (DZ b) c
abbrev Uq a b c:=DP (AQL a b c)
abbrev Un a b c:=EC (AQL a b c)
abbrev Me a b c:=EE (AQL a b c)
abbrev Aq a b:=DV (HV a) b
abbrev La a b c d e:=WS (BOR a b) (BOV c d) e
abbrev YM a b c(d:Nat->Prop):=Vr a b c (AK d)
abbrev Pw a b:=DV (Lx a) b
abbrev YT a b c d:=AF (AZ a) (BN a) b c d
attribute [go_sem] qL NG Df Zc Fc BOR BOV AQL Uq Un Me Aq La YM Pw YT
theorem CEP(l:List Gau):(CBS l)=(KC (Dg (YT l AL DH BY)) (XB (λi=>NJ FP (Jf (EY l)) (BJ (TL (CI l)) Iy Gh MP MU ZC) (UT (λj=>AF (WW l AL (YM (GE (RJ j)) (BD (BK j)) (UJ j 0) (λk=>AT k (RJ j) (CR (Me l j k) (AH l HB) (Un l j k) (AP l HB) (Uq l j k) (AS l HB))))) (dU l (BK j) (CI l)) (RD (BK j) l) (Fe j j) (AR (La l j l j (BK j)) (La l j l j (DZ j))))) (Iv (λj=>ME (Gf (dU l (BK j) (CI l)) (BK j) l (Fe j j) (AR (La l j l j (BK j)) (La l j l j (DZ j)))) (AG (aN j 0 (Pw j (RJ j))) (aN j 0 (HN (IT j) (RJ j))) (aN j 0 (ON (JB j) l))) (CL (FU (Ok j 0) (KO (Me l j (IT j)) (AH l (BK j)))) (AN (Pw j (RJ j)) (BZ (IT j) (RJ j)) (Aq j (RJ j)) (HN (NU j) (RJ j))) (UT (λk=>BW (WW l AL (YM (AR (RJ k) (RJ j)) (NR k j) (OG k (Lx j)) (λm=>AT m (RJ k) (CR (Me l k m) (ZO m j (Me l j (IT j)) (Me l j m)) (Un l k m) (ZO m j (Un l j (IT j)) (Un l j m)) (Uq l k m) (ZO m j (Uq l j (IT j)) (Uq l j m)))))) (Gf (dU l (BK k) (CI l)) (BK k) l (Fe k k) (AR (La l k l k (BK k)) (La l k l k (DZ k)))) (DZ k) (DZ j))) (And (AG (ON (JB j) l) (Aq j (RJ j)) (HN (NU j) (RJ j))) (FB (λk=>Ar (MY l (Fc (AR k (RJ j)) (EA k (JB j)) (λm=>AT m k (ZZ (AH (qL l k) m) (ZO m j (AH l (BK j)) (Me l j m)) (qL l k) m (ZO m j (AP l (BK j)) (Un l j m)) m (ZO m j (AS l (BK j)) (Uq l j m)))))) (Df k (FX k l)) l k (CI l))))))) (cU (Ff (NG l))))) (λi=>NJ (Df i (FX i l)) (FD i (EY l)) (BJ (IB i l) (YV i 3) Gh MD (OC i) (ZL i 24)) (UT (λj=>AF (WW l AL (YM (HC (RJ j) i) (XF j i) (UJ j i) (λk=>AT k (RJ j) (CR (Me l j k) (JQ k i (AH (qL l i) k) (AH l i)) (Un l j k) (JQ k i (AP (qL l i) k) (AP l i)) (Uq l j k) (JQ k i (AS (qL l i) k) (AS l i)))))) (VR l (BK j) i) (RD (BK j) l) (Fe j j) (AR (La l j l j (BK j)) (La l j l j (DZ j))))) (Iv (λj=>ME (Gf (VR l (BK j) i) (BK j) l (Fe j j) (AR (La l j l j (BK j)) (La l j l j (DZ j)))) (AG (aN j 0 (Pw j (RJ j))) (aN j 0 (HN (IT j) (RJ j))) (aN j 0 (ON (JB j) l))) (CL (FU (Ok j 0) (KO (Me l j (IT j)) (AH l (BK j)))) (AN (Pw j (RJ j)) (BZ (IT j) (RJ j)) (Aq j (RJ j)) (HN (NU j) (RJ j))) (UT (λk=>BW (WW l AL (YM (AR (RJ k) (RJ j)) (NR k j) (OG k (Lx j)) (λm=>AT m (RJ k) (CR (Me l k m) (ZO m j (Me l j (IT j)) (Me l j m)) (Un l k m) (ZO m j (Un l j (IT j)) (Un l j m)) (Uq l k m) (ZO m j (Uq l j (IT j)) (Uq l j m)))))) (Gf (VR l (BK k) i) (BK k) l (Fe k k) (AR (La l k l k (BK k)) (La l k l k (DZ k)))) (DZ k) (DZ j))) (And (AG (ON (JB j) l) (Aq j (RJ j)) (HN (NU j) (RJ j))) (FB (λk=>HR (MY l (Fc (AR k (RJ j)) (EA k (JB j)) (λm=>AT m k (ZZ (AH (qL l k) m) (ZO m j (AH l (BK j)) (Me l j m)) (qL l k) m (ZO m j (AP l (BK j)) (Un l j m)) m (ZO m j (AS l (BK j)) (Uq l j m)))))) (Df k (FX k l)) l k i)))))) (KC (CF (NG l) i) (Kl i) (λj=>BR j (NG l) (Cw (AH (NG l) j) (AH (qL l i) (BP j)) (NG l) j (qL l i) (BP j)))))):=by kernel_rfl
def C_rPb:Ctr:={ α:=List Gau,xs:=λl=>[.d (BX l)],val:=λl=>.bool (qF l),pre:=λl=>[l.length<1073741824/\(∀g∈l,RK g)/\yD l] }
structure IKM where
 i:Nat
 k:Nat
 m:Nat
 deriving Inhabited
def pb2(l:List Gau):Shape:={ α:=Nat,dflt:=0,T:=λi=>⟨[(0,.d (BX l)),(3,.int i)],[]⟩,inv:=λi=>i<=l.length/\BMX l i 0 0,meas:=λi=>l.length-i }
def pb5(l:List Gau)(n:Nat):Shape:={ α:=NN,dflt:=default,T:=λx=>⟨[(0,.d (BX l)),(3,.int x.a),(4,.int x.b)],[]⟩,inv:=λx=>l.length-x.a=n/\x.a<l.length/\x.a<=x.b/\x.b<=l.length/\BMX l x.a x.b 0,meas:=λx=>l.length-x.b }
def pb8(l:List Gau)(n p:Nat):Shape:={ α:=IKM,dflt:=default,T:=λx=>⟨[(0,.d (BX l)),(3,.int x.i),(4,.int x.k),(5,.int x.m)],[]⟩,inv:=λx=>(l.length-x.i=n/\l.length-x.k=p)/\x.i<=x.k/\x.k<l.length/\x.k<=x.m/\x.m<=l.length/\BMX l x.i x.k x.m,meas:=λx=>l.length-x.m }
def CND(l:List Gau):Ann:={ ann 40 [(BAG,BGQ)] with loops:=λid=>if id=2 then some [pb2 l] else none,inner:=λgs id=>if id=5 then some [pb5 l (gs.getD 0 0)] else if id=8 then some [pb8 l (gs.getD 1 0) (gs.getD 0 0)] else none }
def CKB(l:List Gau):Prop:=BQ Try.prog (CND l) AZT (AI AZT) (C_rPb.xs l) (AD []) (C_rPb.val l) [] [] []
abbrev Hl:=IKM.i
abbrev WT:=IKM.k
abbrev ZY:=IKM.m
abbrev qA:=qF
abbrev bN(a:Nat->Nat->Prop):=AK (λi=>AK (λj=>a i j))
abbrev Hv a b c d e:=PX a b (BR c d e)
abbrev aI a b:=BV a (EL b)
abbrev Li a b c d e f:=Wd (EZ a b) (EZ c d) (EZ e f)
abbrev AIV a b c:=Or (BZ a b) c
abbrev Dq a b c d:=AIV a b (Ui c b d)
attribute [go_sem] Hl WT ZY qA bN Hv aI Li AIV Dq
theorem CPM(l:List Gau):(CKB l)=(DJ (λi=>KC (MY l (BD i)) (FX i l) (λj=>bN (λm k=>PX j m (Hv m k k l (aI (Dq j i j (AIV m 0 (And (MV m) (BZ k 0)))) (Li l j l m l k)))))) (λi=>OW (FZ (FX i l) (λj=>bN (λm k=>PX j m (Hv m k k l (aI (Dq j i j (AIV m 0 (And (MV m) (BZ k 0)))) (Li l j l m l k)))))) i l (UT (λj=>DY (AZ l) (BN l) (XF j i) (UJ j i) (CU (VR l (BK j) i) (RD (BK j) l) (Rm j j) (FX (DZ j) l) (λk=>bN (λn m=>PX k n (Hv n m m l (aI (Dq k (BK j) k (Dq n (DZ j) n (BZ m 0))) (Li l k l n l m)))))))) (Iv (λj=>FL (CU (VR l (BK j) i) (RD (BK j) l) (Rm j j) (FX (DZ j) l) (λk=>bN (λn m=>PX k n (Hv n m m l (aI (Dq k (BK j) k (Dq n (DZ j) n (BZ m 0))) (Li l k l n l m)))))) (GD (HV j) (EY l)) ((@Exists IKM) (λk=>AG (YT l (Ly (Hl k) j) (CQ (WT k) (HV j)) (CQ (ZY k) (HV j))) (And (VR l (Hl k) i) (VR l (WT k) (DZ j))) (CU (BU (Hl k) (WT k)) (RD (WT k) l) (BU (WT k) (ZY k)) (FX (ZY k) l) (λm=>bN (λu n=>PX m u (Hv u n n l (aI (Dq m (Hl k) m (Dq u (WT k) u (BZ n (ZY k)))) (Li l m l u l n)))))))) ((λ(f:IKM->Prop)=>∀(x:IKM),f x) (λk=>OW (And (And (VR l (Hl k) i) (VR l (WT k) (DZ j))) (CU (BU (Hl k) (WT k)) (RD (WT k) l) (BU (WT k) (ZY k)) (FX (ZY k) l) (λm=>bN (λu n=>PX m u (Hv u n n l (aI (Dq m (Hl k) m (Dq u (WT k) u (BZ n (ZY k)))) (Li l m l u l n))))))) (ZY k) l (And (IB (Hl k) l) (AX (IB (WT k) l) (IB (ZY k) l) (HZ (BC (AH l (Hl k))) (AH l (Hl k)) (AP l (Hl k)) (AS l (Hl k))) (HZ (BC (AH l (WT k))) (AH l (WT k)) (AP l (WT k)) (AS l (WT k))) (BC (AH l (ZY k))) (GU (AH l (ZY k))) (BC (AP l (ZY k))) (DD (AP l (ZY k)) (AS l (ZY k))) (MI (AS l (ZY k))))) (Fh (not (Li l (Hl k) l (WT k) l (ZY k))) (qA l) ((@Exists IKM) (λm=>HR (YT l (CB (Hl m) (Hl k)) (CB (WT m) (WT k)) (BS (ZY m) (ZY k))) (And (And (VR l (Hl m) i) (VR l (WT m) (DZ j))) (CU (BU (Hl m) (WT m)) (RD (WT m) l) (BU (WT m) (ZY m)) (FX (ZY m) l) (λn=>bN (λv u=>PX n v (Hv v u u l (aI (Dq n (Hl m) n (Dq v (WT m) v (BZ u (ZY m)))) (Li l n l v l u))))))) l (ZY m) (ZY k)))) (UT (λm=>HR (WW l (XF m (Hl k)) (OG m (Kz (WT k)))) (CU (VR l (BK m) i) (RD (BK m) l) (Rm m m) (FX (DZ m) l) (λn=>bN (λv u=>PX n v (Hv v u u l (aI (Dq n (BK m) n (Dq v (DZ m) v (BZ u 0))) (Li l n l v l u)))))) l (DZ m) (DZ j))))) (FB (λk=>HR (MY l (EA k (JB j))) (FZ (FX k l) (λm=>bN (λu n=>PX m u (Hv u n n l (aI (Dq m k m (AIV u 0 (And (MV u) (BZ n 0)))) (Li l m l u l n)))))) l k i)))) (EL (qA l)))):=by kernel_rfl
structure GBI where
 g:List Gau
 b:List Int
 p:Int
def dGBI:List AVal->Heap->Option (GBI×List (Nat×Nat)×List Nat)
 |[x,y,.d t],H=>match aE x H,tT y H with
  |some (l,f),some (m,e)=>some (⟨l,m,KT t⟩,[],f ++ e)
  |_,_=>none
 |_,_=>none
def C_rIns:Ctr:={ α:=GBI,xs:=λa=>[.d (BX a.g),.d (CZ a.b),.int a.p],val:=λa=>.d (BX (qW a.g a.b a.p)),pre:=λa=>[a.g.length<1073741824/\a.b.length<1073741824] }
structure KG where
 k:Nat
 l:List Gau
 deriving Inhabited
def CMG(l:List Gau):AObj:=.row 3 l.length λi=>jI (gD l i)
def lS(a:GBI)(k:Nat):List Gau:=(a.g.take k).filter λg=>(Et a.b g.st:Int)==a.p
def inSl(a:GBI)(v:AVal)(k:Nat):List (Nat×AVal):=[(0,.d (BX a.g)),(1,.d (CZ a.b)),(2,.int a.p),(7,v),(8,.int k)]
def in3n(a:GBI):Shape:={ α:=Nat,dflt:=0,T:=λk=>⟨inSl a (.d ZU) k,[]⟩,inv:=λk=>k<=a.g.length/\lS a k=[],meas:=λk=>a.g.length-k }
def in3o(a:GBI):Shape:={ α:=KG,dflt:=default,T:=λx=>⟨inSl a (.own 301 3 0 x.l.length) x.k,[(301,.live (CMG x.l))]⟩,inv:=λx=>x.k<=a.g.length/\lS a x.k=x.l,meas:=λx=>a.g.length-x.k }
def in4n(a:GBI)(m:Nat):Shape:={ α:=Nat,dflt:=0,T:=λk=>⟨inSl a (.d ZU) k,[]⟩,inv:=λk=>k<a.g.length/\a.g.length-k=m/\lS a (k+1)=[],meas:=λ_=>0 }
def in4o(a:GBI)(m:Nat)(f:List (Nat×Nat)):Shape:={ α:=KG,dflt:=default,T:=λx=>⟨inSl a (.own 301 3 0 x.l.length) x.k,[(301,.live (CMG x.l))]⟩,inv:=λx=>x.k<a.g.length/\a.g.length-x.k=m/\lS a (x.k+1)=x.l,meas:=λ_=>0,first:=f }
def BYF(a:GBI):Ann:={ ann 33 [(AKY,C_rPart.spec dIX),(AZA,C_rSrt.spec WJ)] with mt:=λid=>id==6,loops:=λid=>if id=3 then some [in3n a,in3o a] else none,cutIn:=λgs id=>if id=4 then some [in4n a (gs.getD 0 0),in4o a (gs.getD 0 0) [(301,7096)],in4o a (gs.getD 0 0) []] else none }
def CAO(a:GBI):Prop:=BQ Try.prog (BYF a) BHT (AI BHT) (C_rIns.xs a) (AD []) (C_rIns.val a) [] [] [301]
abbrev JX:=GBI.g
abbrev Vq:=GBI.b
abbrev ADB:=GBI.p
abbrev APX:=@Exists KG
abbrev KM:=KG.l
abbrev IZ:=KG.k
abbrev BCX:=λ(f:KG->Prop)=>∀(x:KG),f x
abbrev dV a b c:=AKR (lS a b) c
abbrev fZ a b c:=dV a b (KM c)
abbrev aK a:=AM (ADB a)
abbrev aB a:=FC (Vq a)
abbrev Zw a:=CX (Vq a)
abbrev sE a:=BN (JX a)
abbrev rK a:=AZ (JX a)
abbrev dX a b c:=VR (JX a) b c
abbrev BEW a b c:=AN a a b c
attribute [go_sem] JX Vq ADB APX KM IZ BCX dV fZ aK aB Zw sE rK dX BEW
theorem CEF(a:GBI):(CAO a)=(Ji (FB (λi=>EI (rK a) (sE a) (Zw a) (AF (aB a) (aK a) AL DH (BD i)) (FX i (JX a)) (dV a i rU))) (λi=>OW (OU i (JX a) (dV a i rU)) i (JX a) (And (Dt (IB i (JX a)) (IA (Vq a)) (FA (Vq a)) (AM (AH (JX a) i)) (HS (Vq a))) (VJ (OL (AQ (Et (CT (Vq a)) (AH (JX a) i))) (ADB a)) (BJ (IB i (JX a)) Iy Gh MP MU ZC) (APX (λj=>Gf (BJ (rK a) (sE a) (Zw a) (aB a) (aK a) (Fc (CF (KM j) 1) (CB (IZ j) i) (λk=>BR k (KM j) (Cw (AH (KM j) k) (AH (JX a) i) (KM j) k (JX a) i)))) (IZ j) (JX a) (dX a (IZ j) i) (fZ a (EO (IZ j)) j))) (λj=>Gf (WW (JX a) (Zw a) (AF (aB a) (aK a) AL DH (CB j i))) j (JX a) (dX a j i) (dV a (EO j) rU)))) (Jm (AK (λj=>BV (AG (RD j (JX a)) (dX a j i) (dV a (EO j) rU)) (FB (λk=>HR (WW (JX a) (Zw a) (AF (aB a) (aK a) AL DH (BS k j))) (OU k (JX a) (dV a k rU)) (JX a) k i)))) (BCX (λj=>BV (AG (RD (IZ j) (JX a)) (dX a (IZ j) i) (fZ a (EO (IZ j)) j)) (APX (λk=>HR (BJ (rK a) (sE a) (Zw a) (aB a) (aK a) (Zc (AW (KM k) (KM j)) (BS (IZ k) (IZ j)) (ER (KM k) (KM j)))) (OU (IZ k) (JX a) (fZ a (IZ k) k)) (JX a) (IZ k) i))))) (AG (BEW AL (II 0) FP) (Ff (qW (JX a) (Vq a) (ADB a))) (ER (qW (JX a) (Vq a) (ADB a)) (NG (LZ 0 (λj=>Sr (@default DVal instInhabitedDVal))))))) (BCX (λi=>OW (OU (IZ i) (JX a) (fZ a (IZ i) i)) (IZ i) (JX a) (And (Dt (IB (IZ i) (JX a)) (IA (Vq a)) (FA (Vq a)) (AM (AH (JX a) (IZ i))) (HS (Vq a))) (CL (OL (AQ (Et (CT (Vq a)) (AH (JX a) (IZ i)))) (ADB a)) (BJ (IB (IZ i) (JX a)) (Le (KM i) (BR 0 (KM i) VL)) Gh MD (OC (CI (KM i))) (OR (ZG (KM i)) 24)) (APX (λj=>Gf (BJ (rK a) (sE a) (Zw a) (aB a) (aK a) (Fc (CF (KM j) (ZG (KM i))) (CB (IZ j) (IZ i)) (λk=>BR k (KM j) (ZZ (AH (KM j) k) (JQ k (CI (KM i)) (AH (KM i) k) (AH (JX a) (IZ i))) (KM j) k (JQ k (CI (KM i)) (AP (KM i) k) (AP (JX a) (IZ i))) k (JQ k (CI (KM i)) (AS (KM i) k) (AS (JX a) (IZ i))))))) (IZ j) (JX a) (dX a (IZ j) (IZ i)) (fZ a (EO (IZ j)) j))) (APX (λj=>Gf (BJ (rK a) (sE a) (Zw a) (aB a) (aK a) (Zc (AW (KM j) (KM i)) (CB (IZ j) (IZ i)) (ER (KM j) (KM i)))) (IZ j) (JX a) (dX a (IZ j) (IZ i)) (fZ a (EO (IZ j)) j))))) (Jm (AK (λj=>BV (AG (RD j (JX a)) (dX a j (IZ i)) (dV a (EO j) rU)) (FB (λk=>HR (WW (JX a) (Zw a) (AF (aB a) (aK a) AL DH (BS k j))) (OU k (JX a) (dV a k rU)) (JX a) k (IZ i))))) (BCX (λj=>BV (AG (RD (IZ j) (JX a)) (dX a (IZ j) (IZ i)) (fZ a (EO (IZ j)) j)) (APX (λk=>HR (BJ (rK a) (sE a) (Zw a) (aB a) (aK a) (Zc (AW (KM k) (KM j)) (BS (IZ k) (IZ j)) (ER (KM k) (KM j)))) (OU (IZ k) (JX a) (fZ a (IZ k) k)) (JX a) (IZ k) (IZ i)))))) (AG (RS (CE (KM i)) (FX (BP (CI (KM i))) (KM i)) (λj=>BR j (BH (KM i)) (Cw (HU (KM i) j) (AH (KM i) (BP j)) (BH (KM i)) j (KM i) (BP j))) (FN (KM i)) FP) (AW (qW (JX a) (Vq a) (ADB a)) (NG (BH (KM i)))) (ER (qW (JX a) (Vq a) (ADB a)) (NG (BH (KM i)))))))):=by kernel_rfl
theorem BXW{l:List Gau}{i:Nat}(h:i<=l.length):(Tq l i).length=i:=by
 unfold Tq
 rw[(LR _).length_eq,List.length_take];omega
theorem ATC{l:List Gau}{i:Nat}(h:i<l.length):Tq l (i+1)=insG (Tq l i) (gD l i):=by
 unfold Tq FW
 rw[ND h,List.foldl_append];rfl
theorem BNR{L:List Gau}{x:Gau}{b:Nat}(hb:0<b)(h:(gD L (b-1)).st>x.st):WS x L b=WS x L (b-1):=by
 obtain⟨n,rfl⟩:∃n,b=n+1:=⟨b-1,by omega⟩
 rw[Nat.add_sub_cancel] at h ⊢
 show (bif decide ((gD L n).st>x.st) then WS x L n else n+1)=_
 rw[decide_eq_true h];rfl
theorem ATB{L:List Gau}{x:Gau}{b:Nat}(h:0<b->¬(gD L (b-1)).st>x.st):WS x L b=b:=by
 cases b with
 |zero=>rfl
 |succ n=>
  have h:=h (by omega)
  rw[Nat.add_sub_cancel] at h
  show (bif decide ((gD L n).st>x.st) then WS x L n else n+1)=_
  rw[decide_eq_false h];rfl
theorem CCO(L:List Gau)(x:Gau)(i j:Nat):Bj L x i i j=bif decide (j<i) then gD L j else x:=by
 unfold Bj
 by_cases h:j<i
 ·rw[if_pos h,if_pos (by omega),decide_eq_true h];rfl
 ·rw[if_neg h,if_pos rfl,decide_eq_false h];rfl
theorem BBB{L:List Gau}{x:Gau}{i b:Nat}(hb:0<b)(h:b<=i):Bj L x i b (b-1)=gD L (b-1):=by
 unfold Bj;rw[if_pos (by omega),if_pos (by omega)]
theorem BMU{L:List Gau}{x:Gau}{i b j:Nat}(hb:0<b)(h:b<=i)(hj:j<=i):Bj L x i (b-1) j=bif decide (j=b) then Bj L x i b (b-1) else Bj L x i b j:=by
 rw[BBB hb h]
 by_cases e:j=b
 ·rw[decide_eq_true e,e]
  unfold Bj
  by_cases h2:b<i
  ·rw[if_pos h2,if_neg (by omega)];rfl
  ·rw[if_neg h2,if_neg (by omega)];rfl
 ·rw[decide_eq_false e]
  unfold Bj
  by_cases h2:j<i
  ·rw[if_pos h2]
   by_cases h3:j<=b-1
   ·rw[if_pos h3];show _=if j<i then (if j<=b then gD L j else gD L (j-1)) else _;rw[if_pos h2,if_pos (by omega)]
   ·rw[if_neg h3];show _=if j<i then (if j<=b then gD L j else gD L (j-1)) else _;rw[if_pos h2,if_neg (by omega)]
  ·rw[if_neg h2,if_neg (by omega)]
   show _=if j<i then (if j<=b then gD L j else gD L (j-1)) else if b=i then x else gD L (j-1)
   rw[if_neg h2,if_neg (by omega)]
theorem BCP{L:List Gau}{x:Gau}{i b j:Nat}(h:b<=i)(hL:L.length=i)(hp:WS x L i=b)(hj:j<=i):gD (insG L x) j=bif decide (j=b) then x else Bj L x i b j:=by
 rw[AXE,hL,hp]
 by_cases e:j=b
 ·rw[decide_eq_true e,if_neg (by omega),if_pos e];rfl
 ·rw[decide_eq_false e]
  show _=Bj L x i b j
  unfold Bj
  by_cases h2:j<b
  ·rw[if_pos h2,if_pos (by omega),if_pos (by omega)]
  ·rw[if_neg h2,if_neg e]
   by_cases h3:j<i
   ·rw[if_pos h3,if_neg (by omega)]
   ·rw[if_neg h3,if_neg (by omega)]
theorem CNM(l:List Gau)(h:l.length<1073741824):CBS l:=by
 rw[CEP]<;> delta JT qD XL EE EC DP GD JG CS AO KO AR AK BV BZ AQ BU DD ES LX EF Ba UT BK DZ UM Iv CI EZ FB FP EU LM IY Vu XB XS Jv Mz qL NG AG DG AF AT AH FF CA CF AM BL GQ JM Cm cU Ky Vr AP HA BR AS AW DX HV EO DU CR BP BC HH CQ HL AN AL RI OK JZ AZ EP ED BW EL FX Lx HI JA JB CL RJ EA Hb EX Ab NU FU RH DV ZZ EM GF CB BJ BN FD MW ON HC IT HB Ks RD OG BOV DH BOR JQ BY dU BD HN EY NB Cz HP GE Db RN Ar Ly OA ME VO Fj VR AQL IB MC Ok ZO NR ML OR HR UP QA KC TQ MY YS MD aN MU OC MP Aq UJ NJ Fe Df YM Me XF ZL Ak TL Zc Gh Lm ZC La Gf WW YV Kl Fc Uq Pw Un Ff Iy Dg Ry YT Cw Jf;simp only[CC,eq_self,implies_true,forall_const]
 have wb':∀{b:Nat},b<1073741824->(b:Int)>0->IntKind.i64.wrap ((b:Int)-1)=((b-1:Nat):Int):=λ{b} hq hb=>by
  rw[JH (by omega) (by omega)];omega
 have pl:∀i,i<l.length->(Tq l i).length=i:=λi hi=>BXW (by omega)
 have gt:∀{x:NN},x.a<l.length->x.b<=x.a->(bif decide ((x.b:Int)>0) then decide ((Bj (Tq l x.a) (gD l x.a) x.a x.b (IntKind.i64.wrap ((x.b:Int)-1)).toNat).st>(gD l x.a).st) else false)=true->0<x.b/\(gD (Tq l x.a) (x.b-1)).st>(gD l x.a).st:=λ{x} h1 h2 hc=>by
  by_cases hb:(x.b:Int)>0
  ·rw[decide_eq_true hb,wb' (by omega) hb,Int.toNat_natCast,BBB (by omega) h2] at hc
   exact⟨by omega,of_decide_eq_true hc⟩
  ·rw[decide_eq_false hb] at hc;cases hc
 have lt:∀{x:NN},x.a<l.length->x.b<=x.a->0<x.b->(bif decide ((x.b:Int)>0) then decide ((Bj (Tq l x.a) (gD l x.a) x.a x.b (IntKind.i64.wrap ((x.b:Int)-1)).toNat).st>(gD l x.a).st) else false)=false->¬(gD (Tq l x.a) (x.b-1)).st>(gD l x.a).st:=λ{x} h1 h2 hb hc=>by
  have hb':(x.b:Int)>0:=by omega
  rw[decide_eq_true hb',wb' (by omega) hb',Int.toNat_natCast,BBB hb h2] at hc
  exact of_decide_eq_false hc
 refine⟨⟨default,trivial⟩,⟨λhlt=>⟨⟨⟨by omega,by omega⟩,by omega,by omega,by omega,by omega,by omega⟩,⟨⟨0,0⟩,⟨rfl,rfl,rfl,rfl,λj hj=>?_⟩,rfl,by show 0<l.length;omega,Nat.le_refl _,rfl⟩,λx ⟨hx1,hx2,hx3,hx4⟩=>?_⟩,λhge=>?_⟩,λi ⟨i1,i2⟩=>⟨λhlt=>⟨⟨⟨by omega,by omega⟩,by omega,λh=>(by cases h),by omega,by omega⟩,⟨⟨i,i⟩,⟨rfl,rfl,rfl,rfl,λj hj=>?_⟩,rfl,by show i<l.length;omega,Nat.le_refl _,rfl⟩,λx ⟨hx1,hx2,hx3,hx4⟩=>?_⟩,λhge=>?_⟩⟩
 ·have hj:j<0+1:=hj
  have e:Bj (Tq l 0) (gD l 0) 0 0 j=gD l 0:=by
   unfold Bj;rw[if_neg (by omega),if_pos rfl]
  rw[e];exact⟨rfl,rfl,rfl⟩
 ·have wb:(x.b:Int)>0->IntKind.i64.wrap ((x.b:Int)-1)=((x.b-1:Nat):Int):=wb' (by omega)
  refine⟨⟨λhb=>⟨by rw[wb hb];omega,by rw[wb hb];omega⟩,λhb=>by rw[wb hb,Int.toNat_natCast];omega,λ_=>⟨by omega,by omega⟩⟩,λhc=>?_,λhc=>?_⟩
  ·obtain⟨hb,hg⟩:=gt hx2 hx3 hc
   refine⟨⟨⟨by rw[wb (by omega)];omega,by rw[wb (by omega)];omega⟩,by rw[wb (by omega),Int.toNat_natCast];omega,⟨by omega,by omega⟩,by omega⟩,⟨x.a,x.b-1⟩,⟨rfl,rfl,(wb (by omega)).symm,rfl,λj hj=>?_⟩,⟨hx1,hx2,by show x.b-1<=x.a;omega,?_⟩,by show x.b-1<x.b;omega⟩
   ·rw[wb (by omega),Int.toNat_natCast]
    show (Bj (Tq l x.a) (gD l x.a) x.a (x.b-1) j).st=_/\(Bj (Tq l x.a) (gD l x.a) x.a (x.b-1) j).lo=_/\(Bj (Tq l x.a) (gD l x.a) x.a (x.b-1) j).hi=_
    rw[BMU (j:=j) hb hx3 (by have hj:j<x.a+1:=hj;omega)]
    cases decide (j=x.b)<;>exact⟨rfl,rfl,rfl⟩
   ·show WS _ _ x.a=WS _ _ (x.b-1)
    rw[hx4];exact BNR hb hg
  ·refine⟨⟨⟨by omega,by omega⟩,⟨by omega,by omega⟩,by omega⟩,x.a+1,⟨rfl,(CN (by omega)).symm,rfl,λj hj=>?_⟩,⟨⟨by omega,by omega⟩,by omega⟩⟩
   rw[ATC hx2,BCP (j:=j) hx3 (pl x.a hx2) (hx4.trans (ATB λhb hg=>lt hx2 hx3 hb hc hg)) (by omega)]
   cases decide (j=x.b)<;>exact⟨rfl,rfl,rfl⟩
 ·have:l=[]:=List.eq_nil_of_length_eq_zero (by omega)
  rw[this];rfl
 ·have e:=CCO (Tq l i) (gD l i) i j
  rw[e]
  cases decide (j<i)<;>exact⟨rfl,rfl,rfl⟩
 ·have wb:(x.b:Int)>0->IntKind.i64.wrap ((x.b:Int)-1)=((x.b-1:Nat):Int):=wb' (by omega)
  refine⟨⟨λhb=>⟨by rw[wb hb];omega,by rw[wb hb];omega⟩,λhb=>by rw[wb hb,Int.toNat_natCast];omega,λ_=>⟨by omega,by omega⟩⟩,λhc=>?_,λhc=>?_⟩
  ·obtain⟨hb,hg⟩:=gt hx2 hx3 hc
   refine⟨⟨⟨by rw[wb (by omega)];omega,by rw[wb (by omega)];omega⟩,by rw[wb (by omega),Int.toNat_natCast];omega,⟨by omega,by omega⟩,by omega⟩,⟨x.a,x.b-1⟩,⟨rfl,rfl,(wb (by omega)).symm,rfl,λj hj=>?_⟩,⟨hx1,hx2,by show x.b-1<=x.a;omega,?_⟩,by show x.b-1<x.b;omega⟩
   ·rw[wb (by omega),Int.toNat_natCast]
    show (Bj (Tq l x.a) (gD l x.a) x.a (x.b-1) j).st=_/\(Bj (Tq l x.a) (gD l x.a) x.a (x.b-1) j).lo=_/\(Bj (Tq l x.a) (gD l x.a) x.a (x.b-1) j).hi=_
    rw[BMU (j:=j) hb hx3 (by have hj:j<x.a+1:=hj;omega)]
    cases decide (j=x.b)<;>exact⟨rfl,rfl,rfl⟩
   ·show WS _ _ x.a=WS _ _ (x.b-1)
    rw[hx4];exact BNR hb hg
  ·refine⟨⟨⟨by omega,by omega⟩,⟨by omega,by omega⟩,by omega⟩,x.a+1,⟨rfl,(CN (by omega)).symm,rfl,λj hj=>?_⟩,⟨⟨by omega,by omega⟩,by omega⟩⟩
   rw[ATC hx2,BCP (j:=j) hx3 (pl x.a hx2) (hx4.trans (ATB λhb hg=>lt hx2 hx3 hb hc hg)) (by omega)]
   cases decide (j=x.b)<;>exact⟨rfl,rfl,rfl⟩
 ·have e:i=l.length:=by omega
  subst e
  have e2:Tq l l.length=FW l:=by unfold Tq;rw[List.take_of_length_le (Nat.le_refl _)]
  rw[e2]
  exact⟨(LR l).length_eq,Nat.le_refl _,λ_ _=>⟨rfl,rfl,rfl⟩⟩
theorem BLT:AJ Try.prog AZA (C_rSrt.spec WJ):=VD C_rSrt BXV [] [301] CHK (λ_=>by kernel_rfl) (λ_=>AE) (λ(l:List Gau) h=>CNM l (show l.length<1073741824/\True from h).1) (λ_=>WK rfl rfl) _
theorem CUQ(l:List Gau)(h:l.length<1073741824)(ho:∀g∈l,RK g)(ha:yD l):CKB l:=by
 rw[CPM]<;> delta JT XL EE EC DP GD JG CS AO AR AK BV BZ AQ BU DD ES LX EF UT BK DZ Iv CI EZ FB Hl WT ZY qA AG DG AF AT AH FF CA CF AM GQ AP BR AS AW HV DU AX BC HH CQ HL AN OK AZ ED BW EL FX HI FZ JA JB CL CU GU EA DV GF CB BN FD PX ON MI FL RD OG BS dU BD LC FH EY HZ DY DJ Ar Ly VR IB MV YF Ui HR AIV KC Fh MY UJ Dq OW XF bN WW Rm aI Hv YT Kz Li;simp only[CC,eq_self,implies_true,forall_const]
 refine⟨⟨0,rfl,Nat.zero_le _,λa b c _ _ _ h=>by omega⟩,λi ⟨i1,i2⟩=>⟨λhlt=>⟨⟨⟨i,i⟩,⟨rfl,rfl⟩,rfl,by show i<l.length;omega,Nat.le_refl _,i1,λa b c h1 h2 h3 h=>i2 a b c h1 h2 h3 (by have h:a<i∨a=i/\(b<i∨b=i/\c<0):=h;omega)⟩,λx ⟨x1,x2,x3,x4,x5⟩=>⟨λhlt2=>⟨⟨⟨x.a,x.b,x.b⟩,⟨rfl,rfl,rfl⟩,⟨x1,rfl⟩,x3,by show x.b<l.length;omega,Nat.le_refl _,x4,λa b c h1 h2 h3 h=>x5 a b c h1 h2 h3 (by have h:a<x.a∨a=x.a/\(b<x.b∨b=x.b/\c<x.b):=h;omega)⟩,λy ⟨⟨y1,y2⟩,y3,y4,y5,y6,y7⟩=>⟨λhlt3=>⟨⟨⟨by omega,by omega⟩,⟨by omega,by omega⟩,⟨by omega,by omega⟩,ho _ (CV (by omega)),ho _ (CV (by omega)),ho _ (CV (by omega))⟩,λhf=>BUG ho ha y3 y5 (by omega) hf,λht=>⟨⟨y.i,y.k,y.m+1⟩,⟨rfl,rfl,(CN (by omega)).symm⟩,⟨⟨y1,y2⟩,y3,y4,by show y.k<=y.m+1;omega,by show y.m+1<=_;omega,λa b c h1 h2 h3 h=>?_⟩,by show l.length-(y.m+1)<_;omega⟩⟩,λhge=>⟨⟨y.i,y.k+1⟩,⟨rfl,(CN (by omega)).symm⟩,⟨y1,by show y.i<_;omega,by show y.i<=y.k+1;omega,by show y.k+1<=_;omega,λa b c h1 h2 h3 h=>y7 a b c h1 h2 h3 (by have h:a<y.i∨a=y.i/\(b<y.k+1∨b=y.k+1/\c<0):=h;omega)⟩,by show l.length-(y.k+1)<_;omega⟩⟩⟩,λhge=>⟨x.a+1,(CN (by omega)).symm,⟨by omega,λa b c h1 h2 h3 h=>x5 a b c h1 h2 h3 (by omega)⟩,by omega⟩⟩⟩,λhge=>BRY ho ha λa b c h1 h2 h3 h=>i2 a b c h1 h2 h3 (by omega)⟩⟩
 have h:a<y.i∨a=y.i/\(b<y.k∨b=y.k/\c<y.m+1):=h
 by_cases e:a=y.i/\b=y.k/\c=y.m
 ·obtain⟨rfl,rfl,rfl⟩:=e;exact ht
 ·exact y7 a b c h1 h2 h3 (by omega)
theorem BTM:AJ Try.prog ALK (C_rPb.spec WJ):=VD C_rPb CND [] [] BVA (λ_=>by kernel_rfl) (λ_=>AC BNL AE) (λ(l:List Gau) h=>CUQ l h.1 h.2.1 h.2.2) (λ_=>WK rfl rfl) _
theorem xR{a:GBI}{k:Nat}(h:k<a.g.length):lS a (k+1)=if ((Et a.b (gD a.g k).st:Int)==a.p)=true then lS a k ++ [gD a.g k] else lS a k:=by
 unfold lS
 rw[ND h,List.filter_append]
 by_cases c:((Et a.b (gD a.g k).st:Int)==a.p)=true
 ·rw[if_pos c,List.filter_cons,if_pos c];rfl
 ·rw[if_neg c,List.filter_cons,if_neg c];simp
theorem BEY(a:GBI){k:Nat}(h:¬(k:Int)<a.g.length):qW a.g a.b a.p=FW (lS a k):=by
 unfold lS qW PH Ja PB
 rw[List.take_of_length_le (by omega)]
theorem APH(a:GBI)(k:Nat):(lS a k).length<=k:=Nat.le_trans (List.length_filter_le _ _) (by rw[List.length_take];omega)
theorem CNU(a:GBI)(h1:a.g.length<1073741824)(h2:a.b.length<1073741824):CAO a:=by
 rw[CEF]<;> delta JT XL EE EC DP GD JG CS AO AR CG AK BV BZ CM AQ BU DD ES LX EF NK OL CI EZ FB LZ FP LM Jv Mz AKR rU NG JX Vq ADB APX KM IZ BCX AG GT JO GV IE DG AF AT AH FF CA CF BH AM CT Jm BL GQ JM Cm Ky AP BR AS AW DF DX EO DU CR BP BC HH CQ HL IC AN AL OK AZ BEW EP GI ED AY BW HU EL FX GC HI CX JD II JA HG CL EA Hb EX HY DV ZZ EM GH PG IH GF FE CB BJ BN BM FC EW FM FK FD MW ON SL Ks FL RD Ac CE IA NT DH ER BS ZX JQ dU BD FH EY FA NB Cz HS Db FN RN Ar OA VO ZG VR IB EI MC OR HR UP OU YS MD MU dV VL OC MP RS OW Ak Zc Gh Zw ZC Gf VJ WW aB Fc aK Ff Ji Iy Ry Cw fZ dX Le Dt sE rK;simp only[CC,eq_self,implies_true,forall_const]
 have cn:∀(m k:Nat),k<a.g.length/\a.g.length-k=m/\lS a (k+1)=[]->∃j:Nat,(j:Int)=IntKind.i64.wrap ((k:Int)+1)/\(j<=a.g.length/\lS a j=[])/\a.g.length-j<m:=λm k ⟨b1,b2,b3⟩=>⟨k+1,(CN (by omega)).symm,⟨by omega,b3⟩,by omega⟩
 have co:∀(m:Nat) (x:KG),x.k<a.g.length/\a.g.length-x.k=m/\lS a (x.k+1)=x.l->∃y:KG,(y.l.length=x.l.length/\(y.k:Int)=IntKind.i64.wrap ((x.k:Int)+1)/\y.l.length=x.l.length/\∀i,i<y.l.length->(gD y.l i).st=(gD x.l i).st/\(gD y.l i).lo=(gD x.l i).lo/\(gD y.l i).hi=(gD x.l i).hi)/\(y.k<=a.g.length/\lS a y.k=y.l)/\a.g.length-y.k<m:=λm x ⟨b1,b2,b3⟩=>⟨⟨x.k+1,x.l⟩,⟨rfl,(CN (by omega)).symm,rfl,λ_ _=>⟨rfl,rfl,rfl⟩⟩,⟨by show x.k+1<=_;omega,b3⟩,by show a.g.length-(x.k+1)<m;omega⟩
 refine⟨⟨0,rfl,Nat.zero_le _,rfl⟩,λk ⟨k1,k2⟩=>⟨λhlt=>⟨⟨⟨⟨by omega,by omega⟩,h2⟩,λhp=>⟨⟨⟨by omega,by omega⟩,by omega,by omega,by omega,by omega,by omega⟩,⟨k,[gD a.g k]⟩,⟨rfl,rfl,rfl,λi hi=>?_⟩,by show k<_;omega,rfl,?_⟩,λhp=>⟨k,rfl,by omega,rfl,?_⟩⟩,cn _,co _⟩,λhge=>?_⟩,λx ⟨x1,x2⟩=>⟨λhlt=>⟨⟨⟨⟨by omega,by omega⟩,h2⟩,λhp=>⟨⟨⟨by omega,by omega⟩,by omega,λh=>(by cases h),?_,?_⟩,⟨x.k,x.l ++ [gD a.g x.k]⟩,⟨by simp,rfl,by simp,λi hi=>?_⟩,by show x.k<_;omega,rfl,?_⟩,λhp=>⟨⟨x.k,x.l⟩,⟨rfl,rfl,rfl,λ_ _=>⟨rfl,rfl,rfl⟩⟩,by show x.k<_;omega,rfl,?_⟩⟩,cn _,co _⟩,λhge=>?_⟩⟩
 ·rw[show i=0 by have hi:i<1:=hi;omega];exact⟨rfl,rfl,rfl⟩
 ·show lS a (k+1)=[gD a.g k]
  rw[xR (by omega),if_pos hp,k2];rfl
 ·rw[xR (by omega),if_neg (by rw[hp];simp),k2]
 ·have e:=BEY a hge
  rw[k2] at e
  have e0:(qW a.g a.b a.p).length=0:=by rw[e];rfl
  exact⟨by omega,e0,λi hi=>by omega⟩
 ·have:=APH a x.k;rw[x2] at this;omega
 ·have:=APH a x.k;rw[x2] at this;omega
 ·exact BNC _ _ i hi
 ·show lS a (x.k+1)=x.l ++ _
  rw[xR (by omega),if_pos hp,x2]
 ·show lS a (x.k+1)=x.l
  rw[xR (by omega),if_neg (by rw[hp];simp),x2]
 ·have:=APH a x.k;rw[x2] at this
  have e:=BEY a hge
  rw[x2] at e
  rw[e]
  exact⟨⟨Nat.le_refl _,by omega⟩,rfl,λ_ _=>⟨rfl,rfl,rfl⟩⟩
theorem CGZ:AJ Try.prog BGI (C_rIns.spec dGBI):=VD C_rIns BYF [] [301] CFA (λ_=>by kernel_rfl) (λ_=>AC BDA (AC BLT AE)) (λ(a:GBI) h=>CNU a h.1 h.2) (λ_=>WK rfl rfl) _
end Go.Bal
