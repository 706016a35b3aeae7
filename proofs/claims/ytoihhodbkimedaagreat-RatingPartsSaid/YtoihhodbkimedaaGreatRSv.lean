/- Package rating: sets that change places, and are put in order (any number up to 24). -/
import Derived.Test.YtoihhodbkimedaaGreatRT13
set_option linter.unusedVariables false
set_option linter.unusedSimpArgs false
namespace Go.Bal
open Go Go.Sym Go.Proofs
structure GsP where
 a:List Gau
 b:List Gau
def dGsP:List AVal->Heap->Option (GsP×List (Nat×Nat)×List Nat)
 |[x,y],H=>match aE x H,aE y H with
  |some (l,f),some (m,e)=>some (⟨l,m⟩,[],f ++ e)
  |_,_=>none
 |_,_=>none
def C_pv1:Ctr:={ α:=GsP,xs:=λa=>[.d (BX a.a),.d (BX a.b)],val:=λa=>.int (Oz (gD a.a 0).st (gD a.b 0).st),pre:=λa=>[0<a.a.length/\0<a.b.length] }
def CLT:Ann:=ann 14 [(sV,G6)]
def CJQ(a:GsP):Prop:=BQ Try.prog CLT ADN (AI ADN) (C_pv1.xs a) (AD []) (C_pv1.val a) [] [] []
theorem COC(a:GsP):(CJQ a)=(And (DE ML (TQ (CI (GsP.a a))) ML (TQ (CI (GsP.b a)))) (AO (Mo (AH (GsP.a a) 0) (AH (GsP.b a) 0)) (Mo (AH (GsP.a a) HB) (AH (GsP.b a) HB)))):=by kernel_rfl
def dGsD:DVal->List Gau
 | .list _ n h _=>MK n λi=>Sr (h i)
 |_=>default
def rowS(S:List (List Gau)):AObj:=.row 1 S.length λi=>BX (gD S i)
def CTR(S:List (List Gau))(l:List Int):AObj:=.row 1 S.length λi=>BX (gD S (gD l i).toNat)
def bT:AVal:=.fn (.func SN) [] []
def oSS(S:List (List Gau)):AVal:=.own 100 1 0 S.length
def glS(S:List (List Gau))(l:List Int):List (Nat×HCell):=[(100,.live (CTR S l))]
def KH(S:List (List Gau)):List Int:=WH S.length
structure SX where
 s:List (List Gau)
 x:Nat
 y:Nat
 z:Nat
def xSX(a:SX):List AVal:=[oSS a.s,.int a.x,.int a.y,.int a.z,bT]
def lSX(a:SX):List (Nat×AObj):=[(100,rowS a.s)]
def dSX:List AVal->Heap->Option (SX×List (Nat×Nat)×List Nat)
 |[.own id _ _ n,.d x,.d y,.d z,.fn (.func f) [] []],H=>if f=SN then match H id with
  | .live (.row _ _ r)=>some (⟨MK n λi=>dGsD (r i),(KT x).toNat,(KT y).toNat,(KT z).toNat⟩,[(100,id)],[])
  |_=>none else none
 |_,_=>none
def C_swpS:Ctr:={ α:=SX,xs:=xSX,L:=lSX,val:=λ_=>.d (.tup []),keep:=λa=>glS a.s (zD (KH a.s) a.x a.y a.z),pre:=λa=>[a.s.length<1073741824/\a.x+a.z<=a.y/\a.y+a.z<=a.s.length] }
def swS1(a:SX):Shape:={ α:=Nat,dflt:=0,T:=λi=>⟨[(0,oSS a.s),(1,.int a.x),(2,.int a.y),(3,.int a.z),(10,.int i)],glS a.s (zD (KH a.s) a.x a.y i)⟩,inv:=λi=>i<=a.z,meas:=λi=>a.z-i }
def BXT(a:SX):Ann:={ ann 38 [] with E:=[100],loops:=λid=>if id=1 then some [swS1 a] else none }
def BVG(a:SX):Prop:=BQ Try.prog (BXT a) BHR (AI BHR) (xSX a) (AD (lSX a)) (.d (.tup [])) (C_swpS.keep a) [] []
abbrev LI:=@List.length (List Gau)
abbrev TP:=SX.s
abbrev cF:=SX.x
abbrev Gx:=SX.y
abbrev Nc:=SX.z
abbrev SI:=@gD (List Gau) (@instInhabitedList Gau)
abbrev TU a b c d:=XY a b (AW c d) (λi=>NT i c d)
abbrev XV a b c:=SI a (Jn b c)
abbrev ATI a b c:=XV (TP a) b c
abbrev AHJ a b c d:=zD a b (Gx c) d
abbrev pM a:=KH (TP a)
abbrev VN a b c d e f:=ATI a (AHJ (pM b) (cF c) d e) f
abbrev KR a:=LI (TP a)
abbrev Cg a:=AQ (Gx a)
abbrev Ve a b:=Vg (Cg a) b
abbrev A9 a:=AQ (cF a)
abbrev Wu a b:=Vg (A9 a) b
abbrev Kr a b c:=yN a (CI b) c
abbrev Xv a:=BL (KR a)
abbrev dN a:=BE (Gx a)
attribute [go_sem] LI TP cF Gx Nc SI TU XV ATI AHJ pM VN KR Cg Ve A9 Wu Kr Xv dN
theorem CFP(a:SX):(BVG a)=(DJ (λi=>DY AL (Xv a) (BE (cF a)) (CU (dN a) (BE (Nc a)) (BD i) (Xv a) (λj=>TU j (KR a) (VN a a a a i j) (SI (TP a) j))) (IY i (Nc a))) (λi=>PI (IY i (Nc a)) i (Nc a) (AN (DV (VZ (Cg a) i) (KR a)) (BZ (Ve a i) (KR a)) (DV (VZ (A9 a) i) (KR a)) (SC (BZ (Wu a i) (KR a)) (DV (VZ (A9 a) i) (KR a)) (DV (VZ (Cg a) i) (KR a)) (HN (Ve a i) (KR a)))) (FB (λj=>RL (LO (Xv a) (BE (cF a)) (CU (dN a) (BE (Nc a)) (BS j i) (Xv a) (λk=>XY k (KR a) (CF (VN a a a a j k) (Kr (XS k (Ve a i)) (VN a a a a i (Wu a i)) (Kr (XS k (Wu a i)) (VN a a a a i (Ve a i)) (CI (VN a a a a i k))))) (λl=>BR l (VN a a a a j k) (ZZ (AH (VN a a a a j k) l) (Ab k (Ve a i) (AH (VN a a a a i (Wu a i)) l) (Ab k (Wu a i) (AH (VN a a a a i (Ve a i)) l) (AH (VN a a a a i k) l))) (VN a a a a j k) l (Ab k (Ve a i) (AP (VN a a a a i (Wu a i)) l) (Ab k (Wu a i) (AP (VN a a a a i (Ve a i)) l) (AP (VN a a a a i k) l))) l (Ab k (Ve a i) (AS (VN a a a a i (Wu a i)) l) (Ab k (Wu a i) (AS (VN a a a a i (Ve a i)) l) (AS (VN a a a a i k) l)))))))) j (Nc a) j i)) (VW (KR a) (λj=>TU j (KR a) (VN a a a a (Nc a) j) (VN a a a a i j))))):=by kernel_rfl
def C_rotS:Ctr:={ α:=SX,xs:=xSX,L:=lSX,val:=λ_=>.d (.tup []),keep:=λa=>glS a.s (KA (KH a.s) a.x a.y a.z),pre:=λa=>[a.s.length<1073741824/\a.x<a.y/\a.y<a.z/\a.z<=a.s.length] }
def roS2(a:SX):Shape:={ α:=IJL,dflt:=default,T:=λx=>⟨[(0,oSS a.s),(2,.int a.y),(4,bT),(10,.int x.i),(11,.int x.j)],glS a.s x.l⟩,inv:=λx=>(0<x.i/\0<x.j/\x.i<=a.y/\a.y+x.j<=a.s.length)/\x.l.length=a.s.length/\KA x.l (a.y-x.i) a.y (a.y+x.j)=KA (KH a.s) a.x a.y a.z,meas:=λx=>x.i+x.j }
def BUM(a:SX):Ann:={ ann 58 [(BFW,C_swpS.spec dSX)] with E:=[100],loops:=λid=>if id=2 then some [roS2 a] else none }
def BUI(a:SX):Prop:=BQ Try.prog (BUM a) BGT (AI BGT) (xSX a) (AD (lSX a)) (.d (.tup [])) (C_rotS.keep a) [] []
abbrev aP a b:=AEP (Cg a) b
abbrev SG a(b:Nat->(List Gau)):=(@MK (List Gau)) (LI a) (λi=>dGsD (BX (b i)))
abbrev SM a b c:=ATI a (XN b) c
abbrev Yl a b c d:=KA a b (Gx c) d
abbrev Hg a(b:Nat->(List Gau)):=LI (SG a b)
abbrev YO a b(c:Nat->(List Gau)):=AR a (Hg b c)
abbrev AKK a b c d e f g h:=AX a b c d a e f g h
abbrev mI a(b:Nat->(List Gau)) c:=SI (SG a b) c
abbrev Be a b(c:Nat->(List Gau))(d:Nat->(List Gau)) e f:=TU a (Hg b c) (mI b d e) f
abbrev Ku a(b:Nat->(List Gau)) c:=AR (Hg a b) c
abbrev Ze a b:=tY (Gx a) b
attribute [go_sem] aP SG SM Yl Hg YO AKK mI Be Ku Ze
theorem CEQ(a:SX):(BUI a)=(And (ABC (λi=>AN (IW (Xv a) (CU (dN a) (UD (ZQ i) (Cg a) (A9 a)) (UD (Mc i) (AQ (Nc a)) (Cg a)) (Xv a) (λj=>TU j (KR a) (SM a i j) (SI (TP a) j)))) (AN (Xs i) (Yy i) (Yg i (Gx a)) (BU (Ze a i) (KR a))) (YB (XN i) (KR a)) (Kc (Yl (XN i) (aX (Gx a) i) a (Ze a i)) (Yl (pM a) (cF a) a (Nc a))))) (BCS (λi=>HP (EI (Xs i) (Yy i) (Yg i (Gx a)) (BU (Ze a i) (KR a)) (YB (XN i) (KR a)) (Kc (Yl (XN i) (aX (Gx a) i) a (Ze a i)) (Yl (pM a) (cF a) a (Nc a)))) (WI (Wz i) (Wr i)) (CL (KO (Wz i) (Wr i)) (JJ (AKK (Ku (TP a) (λj=>SM a i j) (KR a)) (Pa (aP a i) (Cg a) i) (dN a) (BE (Mc i)) (AK (λj=>Be j (TP a) (λk=>SM a i k) (λk=>SM a i k) j (SM a i j))) (II (Hg (TP a) (λj=>SM a i j))) (BU (tY (aP a i) i) (Gx a)) (BU (Ze a i) (Hg (TP a) (λj=>SM a i j))))) (ABC (λj=>BW (IW (Xv a) (CU (dN a) (UD (ZQ j) (Wz i) (Wr i)) (CB (Mc j) (Mc i)) (YO (KR a) (TP a) (λk=>SM a i k)) (λk=>TU k (KR a) (SM a j k) (XV (SG (TP a) (λl=>SM a i l)) (AHJ (KH (SG (TP a) (λl=>SM a i l))) (aP a i) a (Mc i)) k)))) (EI (Xs j) (Yy j) (Yg j (Gx a)) (BU (Ze a j) (KR a)) (YB (XN j) (KR a)) (Kc (Yl (XN j) (aX (Gx a) j) a (Ze a j)) (Yl (pM a) (cF a) a (Nc a)))) (bG j j) (bG i i))) (Gj (AKK (Ku (TP a) (λj=>SM a i j) (KR a)) (Pa (aP a i) (Cg a) i) (Pa (bQ (Cg a) i i) (AGK (Cg a) i) i) (BE (ZQ i)) (AK (λj=>Be j (TP a) (λk=>SM a i k) (λk=>SM a i k) j (SM a i j))) (II (Hg (TP a) (λj=>SM a i j))) (BU (Yq (aP a i) i) (bQ (Cg a) i i)) (BU (Yq (bQ (Cg a) i i) i) (Hg (TP a) (λj=>SM a i j)))) (ABC (λj=>BW (IW (Xv a) (CU (dN a) (CB (ZQ j) (ZQ i)) (Pa (Mc j) (Wr i) i) (YO (KR a) (TP a) (λk=>SM a i k)) (λk=>TU k (KR a) (SM a j k) (XV (SG (TP a) (λl=>SM a i l)) (zD (KH (SG (TP a) (λl=>SM a i l))) (aP a i) (bQ (Cg a) i i) (ZQ i)) k)))) (EI (Xs j) (Yy j) (Yg j (Gx a)) (BU (Ze a j) (KR a)) (YB (XN j) (KR a)) (Kc (Yl (XN j) (aX (Gx a) j) a (Ze a j)) (Yl (pM a) (cF a) a (Nc a)))) (bG j j) (bG i i))))) (DE AL (AKK (Ku (TP a) (λj=>SM a i j) (KR a)) (Pa (aP a i) (Cg a) i) (dN a) (BE (ZQ i)) (AK (λj=>Be j (TP a) (λk=>SM a i k) (λk=>SM a i k) j (SM a i j))) (II (Hg (TP a) (λj=>SM a i j))) (BU (Yq (aP a i) i) (Gx a)) (BU (Yq (Gx a) i) (Hg (TP a) (λj=>SM a i j)))) (YO (KR a) (TP a) (λj=>SM a i j)) (AK (λj=>TU j (KR a) (ATI a (Yl (pM a) (cF a) a (Nc a)) j) (XV (SG (TP a) (λk=>SM a i k)) (AHJ (KH (SG (TP a) (λk=>SM a i k))) (aP a i) a (ZQ i)) j))))))):=by kernel_rfl
structure SY where
 s:List (List Gau)
 x:Nat
 y:Nat
def xSY(a:SY):List AVal:=[oSS a.s,.int a.x,.int a.y,bT]
def dSY:List AVal->Heap->Option (SY×List (Nat×Nat)×List Nat)
 |[.own id _ _ n,.d x,.d y,.fn (.func f) [] []],H=>if f=SN then match H id with
  | .live (.row _ _ r)=>some (⟨MK n λi=>dGsD (r i),(KT x).toNat,(KT y).toNat⟩,[(100,id)],[])
  |_=>none else none
 |_,_=>none
structure pInS(s:List (List Gau))(x y:Nat):Prop where
 b:s.length<1073741824
 ne:∀i,i<s.length->0<(gD s i).length
 d:x<=y/\y<=s.length
def C_insS:Ctr:={ α:=SY,xs:=xSY,L:=λa=>[(100,rowS a.s)],val:=λ_=>.d (.tup []),keep:=λa=>glS a.s (GO (DM a.s) (KH a.s) a.x a.y),pre:=λa=>[pInS a.s a.x a.y] }
def inST(a:SY)(i:Nat):List (Nat×AVal):=[(0,oSS a.s),(1,.int a.x),(2,.int a.y),(3,bT),(8,.int i)]
def iS1(a:SY):Shape:={ α:=Nat,dflt:=0,T:=λi=>⟨inST a i,glS a.s (GO (DM a.s) (KH a.s) a.x i)⟩,inv:=λi=>a.x+1<=i/\(i<=a.y∨i=a.x+1),meas:=λi=>a.y-i }
def iS4(a:SY)(m:Nat):Shape:={ α:=NN,dflt:=default,T:=λx=>⟨inST a x.a ++ [(9,.int x.b)],glS a.s (KA (GO (DM a.s) (KH a.s) a.x x.a) x.b x.a (x.a+1))⟩,inv:=λx=>a.y-x.a=m/\a.x+1<=x.a/\x.a<a.y/\(a.x<=x.b/\x.b<=x.a)/\∀k,x.b<=k->k<x.a->DM a.s (gD (KH a.s) x.a)<DM a.s (gD (GO (DM a.s) (KH a.s) a.x x.a) k),meas:=λx=>x.b }
def CCU(a:SY):Ann:={ ann 53 [(SN,C_pv1.spec dGsP)] with E:=[100],loops:=λid=>if id=1 then some [iS1 a] else none,inner:=λgs id=>if id=4 then some [iS4 a (gs.getD 0 0)] else none }
def BXR(a:SY):Prop:=BQ Try.prog (CCU a) AOA (AI AOA) (xSY a) (AD [(100,rowS a.s)]) (.d (.tup [])) (C_insS.keep a) [] []
abbrev Gy:=SY.s
abbrev SV:=SY.x
abbrev Mt:=SY.y
abbrev Nd:=DM
abbrev ASZ a b c d:=GO (Nd a) b c d
abbrev AUU a b c d:=ASZ a (KH b) c d
abbrev Vj a b c d:=XV a (AUU a a b c) d
abbrev XO a:=LI (Gy a)
abbrev AGN a b:=AUU (Gy a) (Gy a) (SV a) (BK b)
abbrev Lg a b c:=XV (Gy a) (AND (AGN a b) b b) c
abbrev eI a:=BL (XO a)
abbrev gH a b c:=Lg a b (IT c)
abbrev fU a b c:=Lg a b (NU c)
abbrev Zo a:=HU a 0
attribute [go_sem] Gy SV Mt Nd ASZ AUU Vj XO AGN Lg eI gH fU Zo
theorem CEH(a:SY):(BXR a)=(DJ (λi=>AG (IW (eI a) (CU (BE (SV a)) (BE (Mt a)) (BS i (SV a)) (eI a) (λj=>TU j (XO a) (Vj (Gy a) (SV a) i j) (SI (Gy a) j)))) (RN (SV a) i) (Or (BU i (Mt a)) (HC i (SV a)))) (λi=>PI (And (RN (SV a) i) (Or (BU i (Mt a)) (HC i (SV a)))) i (Mt a) (UT (λj=>DY AL (eI a) (BE (SV a)) (CU (BE (Mt a)) (XF j i) (UJ j i) (eI a) (λk=>TU k (XO a) (Lg a j k) (Vj (Gy a) (SV a) i k))) (Iu (Rs (Mt a) j i) (Dr (SV a) j) (Dk j (Mt a)) (YF (SV a) j) (Fe j j) (λk=>PX (DZ j) k (Kf k (BK j) (Nd (Gy a) (CM (KH (Gy a)) (BK j))) (Nd (Gy a) (CM (AGN a j) k))))))) (Iv (λj=>ME (Iu (Rs (Mt a) j i) (Dr (SV a) j) (Dk j (Mt a)) (YF (SV a) j) (Fe j j) (λk=>PX (DZ j) k (Kf k (BK j) (Nd (Gy a) (CM (KH (Gy a)) (BK j))) (Nd (Gy a) (CM (AGN a j) k))))) (AF (Pb j (SV a) (Aq j (XO a))) (Pb j (SV a) (HN (NU j) (XO a))) (Pb j (SV a) (Pw j (XO a))) (Pb j (SV a) (HN (IT j) (XO a))) (Pb j (SV a) (BJ (CE (fU a j j)) (BB (fU a j j)) (CE (gH a j j)) (BB (gH a j j)) (Pg (fU a j j)) (Pg (gH a j j))))) (VJ (FU (Ok j (AQ (SV a))) (YL (Zo (fU a j j)) (Zo (gH a j j)))) (AN (Pw j (XO a)) (BZ (IT j) (XO a)) (Aq j (XO a)) (SC (BZ (NU j) (XO a)) (Aq j (XO a)) (Pw j (XO a)) (HN (IT j) (XO a)))) (UT (λk=>BW (LO (eI a) (BE (SV a)) (CU (BE (Mt a)) (NR k j) (OG k (Lx j)) (eI a) (λl=>XY l (XO a) (CF (Lg a k l) (Kr (XS l (IT j)) (fU a j j) (Kr (XS l (NU j)) (gH a j j) (CI (Lg a j l))))) (λm=>BR m (Lg a k l) (ZZ (AH (Lg a k l) m) (Cd l (IT j) (AH (fU a j j) m) l j (AH (gH a j j) m) (AH (Lg a j l) m)) (Lg a k l) m (Cd l (IT j) (AP (fU a j j) m) l j (AP (gH a j j) m) (AP (Lg a j l) m)) m (Cd l (IT j) (AS (fU a j j) m) l j (AS (gH a j j) m) (AS (Lg a j l) m))))))) (Iu (Rs (Mt a) k i) (Dr (SV a) k) (Dk k (Mt a)) (YF (SV a) k) (Fe k k) (λl=>PX (DZ k) l (Kf l (BK k) (Nd (Gy a) (CM (KH (Gy a)) (BK k))) (Nd (Gy a) (CM (AGN a k) l))))) (DZ k) (DZ j))) (λk=>EV (IW (eI a) (CU (BE (SV a)) (BE (Mt a)) (EA k (JB j)) (eI a) (λl=>TU l (XO a) (Vj (Gy a) (SV a) k l) (Lg a j l)))) (And (RN (SV a) k) (Or (BU k (Mt a)) (HC k (SV a)))) (Mt a) k i)))) (VW (XO a) (λj=>TU j (XO a) (Vj (Gy a) (SV a) (Mt a) j) (Vj (Gy a) (SV a) i j))))):=by kernel_rfl
theorem BFV:AJ Try.prog SN (C_pv1.spec dGsP):=VD C_pv1 (λ_=>CLT) [] [] BIU (λ_=>by kernel_rfl) (λ_=>AC ALH AE) (λ(a:GsP) h=>by
 show CJQ a;rw[COC]<;> delta EE AO Mo AQ DD ES CI EZ EU AG AH HI HB DE ML TQ
 obtain⟨h1,h2⟩:0<a.a.length/\0<a.b.length:=h
 exact⟨⟨⟨by omega,by omega⟩,by omega,by omega⟩,rfl⟩) (λ_=>WK rfl rfl) _
theorem BAX(l:List Gau):dGsD (BX l)=l:=by
 show MK l.length (λi=>Sr (jI (gD l i)))=l
 simp only[CBE];exact RB l
theorem CKV(S:List (List Gau)):(MK S.length λi=>dGsD (BX (gD S i)))=S:=by
 simp only[BAX];exact RB S
theorem rfl3(l:List Gau):l.length=l.length/\∀i,i<l.length->(gD l i).st=(gD l i).st/\(gD l i).lo=(gD l i).lo/\(gD l i).hi=(gD l i).hi:=⟨rfl,λ_ _=>⟨rfl,rfl,rfl⟩⟩
theorem ASL(S:List (List Gau)):(KH S).length=S.length:=RW _
theorem rZ{S:List (List Gau)}{i:Nat}(h:i<S.length):gD (KH S) i=i:=Fd h
theorem AUZ(S:List (List Gau))(l:List Int):KH (cpS S l)=WH S.length:=by unfold KH;rw[Ls]
theorem UZ{l m:List Gau}(h:l=m):l.length=m.length/\∀i,i<l.length->(gD l i).st=(gD m i).st/\(gD l i).lo=(gD m i).lo/\(gD l i).hi=(gD m i).hi:=by subst h;exact rfl3 l
theorem BOA{b c:Bool}{l x y z:List Gau}(h:l=bif b then x else bif c then y else z):l.length=(bif b then x.length else bif c then y.length else z.length)/\∀i,i<l.length->(gD l i).st=(bif b then (gD x i).st else bif c then (gD y i).st else (gD z i).st)/\(gD l i).lo=(bif b then (gD x i).lo else bif c then (gD y i).lo else (gD z i).lo)/\(gD l i).hi=(bif b then (gD x i).hi else bif c then (gD y i).hi else (gD z i).hi):=by
 subst h;cases b<;>cases c<;>exact rfl3 _
theorem AWK{b c:Bool}{S:List (List Gau)}{x y z w:Int}(h:w=bif b then x else bif c then y else z):gD S w.toNat=bif b then gD S x.toNat else bif c then gD S y.toNat else gD S z.toNat:=by
 subst h;cases b<;>cases c<;>rfl
theorem CRM(a:SX)(h:a.s.length<1073741824)(h1:a.x+a.z<=a.y)(h2:a.y+a.z<=a.s.length):BVG a:=by
 rw[CFP]<;> delta EE EC DP GD CS AO AR AK BV BZ CM AQ DD ES LX EF CI EZ FB EU LM IY XS yN LI TP cF Gx Nc SI AG DG AF AT AH FF Jn CA CF AM BL SC AP XV BR AS AW DX DU CR BP BC GA CQ AN AL RI EP BE ED BW ATI XY HI FZ CL CU EA Ab DV ZZ EM FE EW FM FK FD LN VZ LL FL EV NT BS KR BD FH HN TU VW DY DJ Vg pM Cg AHJ LO VN A9 Ve RL Wu PI Kr Xv dN;simp only[CC,eq_self,implies_true,forall_const]
 have hn:=ASL a.s
 refine⟨⟨0,⟨rfl,λi hi=>?_⟩,Nat.zero_le _⟩,λi hi=>⟨λhlt=>?_,λhge=>λk hk=>?_⟩⟩
 ·rw[BPV,rZ hi,Int.toNat_natCast];exact rfl3 _
 ·have w1:IntKind.i64.wrap ((a.y:Int)+i)=((a.y+i:Nat):Int):=by rw[JH (by omega) (by omega)];omega
  have w2:IntKind.i64.wrap ((a.x:Int)+i)=((a.x+i:Nat):Int):=by rw[JH (by omega) (by omega)];omega
  rw[w1,w2];simp only[Int.toNat_natCast]
  exact⟨⟨⟨by omega,by omega⟩,by omega,⟨by omega,by omega⟩,by omega,⟨by omega,by omega⟩,by omega,⟨by omega,by omega⟩,by omega⟩,i+1,⟨(CN (by omega)).symm,λk hk=>BOA (AWK (BNN (l:=KH a.s) (by omega) (by omega) (by omega)))⟩,by omega,by omega⟩
 ·rw[show i=a.z by omega];exact rfl3 _
theorem CDO:AJ Try.prog BFW (C_swpS.spec dSX):=VD C_swpS BXT [] [] CEL (λ_=>by kernel_rfl) (λ_=>AE) (λ(a:SX) h=>CRM a h.1 h.2.1 h.2.2) (λ_=>WK rfl rfl) _
theorem CRL(a:SX)(h:a.s.length<1073741824)(h1:a.x<a.y)(h2:a.y<a.z)(h3:a.z<=a.s.length):BUI a:=by
 rw[CEQ]<;> delta EE EC DP WI CS AO KO AR CG AK BV BZ CM AQ BU LX EF Ba CI EZ EU LM ABC ZQ Mc XN Kc BCS LI TP cF Gx Nc SI AG DG AF AT AH FF Jn CA CF AM BL AP XV HA BR AS AW DX CR AX GA CQ AN AL AKK EP SG BE BW ATI XY II CL CU SM EM FE CB EW FM FK MW Hg VZ AML NT KR TU HP DE tY Wz pM IW UD Cg AEP JJ EI AHJ Ku mI YO YB A9 AGK Pa Ze Yy aP Gj Xs bG Xv Wr Yq dN Yg Yl bQ aX Be;simp only[CC,eq_self,implies_true,forall_const,BAX]
 have hn:=ASL a.s
 refine⟨⟨⟨a.y-a.x,a.z-a.y,KH a.s⟩,⟨?_,?_,λi hi=>?_⟩,⟨by show 0<a.y-a.x;omega,by show 0<a.z-a.y;omega,by show a.y-a.x<=_;omega,by show a.y+(a.z-a.y)<=_;omega⟩,hn,?_⟩,λx ⟨⟨x1,x2,x3,x4⟩,x5,x6⟩=>?_⟩
 ·show ((a.y-a.x:Nat):Int)=_;rw[JH (by omega) (by omega)];omega
 ·show ((a.z-a.y:Nat):Int)=_;rw[JH (by omega) (by omega)];omega
 ·show (gD a.s (gD (KH a.s) i).toNat).length=_/\∀k,k<(gD a.s (gD (KH a.s) i).toNat).length->(gD (gD a.s (gD (KH a.s) i).toNat) k).st=_/\(gD (gD a.s (gD (KH a.s) i).toNat) k).lo=_/\(gD (gD a.s (gD (KH a.s) i).toNat) k).hi=_
  rw[rZ hi,Int.toNat_natCast];exact rfl3 _
 ·show KA (KH a.s) (a.y-(a.y-a.x)) a.y (a.y+(a.z-a.y))=_
  rw[show a.y-(a.y-a.x)=a.x by omega,show a.y+(a.z-a.y)=a.z by omega]
 ·have er:(MK a.s.length λi=>gD a.s (gD x.l i).toNat)=cpS a.s x.l:=rfl
  have w1:IntKind.i64.wrap ((a.y:Int)-x.i)=((a.y-x.i:Nat):Int):=by rw[JH (by omega) (by omega)];omega
  have w2:IntKind.i64.wrap ((a.y:Int)+x.j)=((a.y+x.j:Nat):Int):=by rw[JH (by omega) (by omega)];omega
  rw[er,w1,w2];simp only[Int.toNat_natCast,AUZ,Ls]
  refine⟨λhne=>⟨λhgt=>?_,λhle=>?_⟩,λheq=>?_⟩
  ·have e:IntKind.i64.wrap ((x.i:Int)-x.j)=((x.i-x.j:Nat):Int):=by rw[JH (by omega) (by omega)];omega
   refine⟨⟨trivial,λi hi=>UZ (qE hi),h,by omega,by omega⟩,⟨x.i-x.j,x.j,zD x.l (a.y-x.i) a.y x.j⟩,⟨e.symm,rfl,λi hi=>UZ (BSY x5 (by omega) (by omega) hi).symm⟩,⟨⟨by show 0<x.i-x.j;omega,x2,by show x.i-x.j<=_;omega,x4⟩,by show (zD _ _ _ _).length=_;rw[cO];exact x5,?_⟩,by show x.i-x.j+x.j<_;omega⟩
   show KA (zD x.l (a.y-x.i) a.y x.j) (a.y-(x.i-x.j)) a.y (a.y+x.j)=_
   rw[BDW (by omega) x3 (by omega)];exact x6
  ·have hlt:x.i<x.j:=by
    have:¬(x.i:Int)=x.j:=by simpa using hne
    omega
   have w3:IntKind.i64.wrap (((a.y+x.j:Nat):Int)-x.i)=((a.y+x.j-x.i:Nat):Int):=by rw[JH (by omega) (by omega)];omega
   have e:IntKind.i64.wrap ((x.j:Int)-x.i)=((x.j-x.i:Nat):Int):=by rw[JH (by omega) (by omega)];omega
   rw[w3];simp only[Int.toNat_natCast]
   refine⟨⟨trivial,trivial,λi hi=>UZ (qE hi),h,by omega,by omega⟩,⟨x.i,x.j-x.i,zD x.l (a.y-x.i) (a.y+x.j-x.i) x.i⟩,⟨rfl,e.symm,λi hi=>UZ (BSY x5 (by omega) (by omega) hi).symm⟩,⟨⟨x1,by show 0<x.j-x.i;omega,x3,by show a.y+(x.j-x.i)<=_;omega⟩,by show (zD _ _ _ _).length=_;rw[cO];exact x5,?_⟩,by show x.i+(x.j-x.i)<_;omega⟩
   show KA (zD x.l (a.y-x.i) (a.y+x.j-x.i) x.i) (a.y-x.i) a.y (a.y+(x.j-x.i))=_
   rw[show a.y+(x.j-x.i)=a.y+x.j-x.i by omega,BEK hlt x3 (by omega)];exact x6
  ·have heq:x.i=x.j:=by
    have:(x.i:Int)=x.j:=by simpa using heq
    omega
   refine⟨⟨trivial,λi hi=>UZ (qE hi),h,by omega,by omega⟩,λk hk=>UZ ?_⟩
   rw[BSY x5 (by omega) (by omega) hk,<-x6,BEN x3 (by omega),heq]
theorem CEC:AJ Try.prog BJG (C_rotS.spec dSX):=VD C_rotS BUM [] [] CGY (λ_=>by kernel_rfl) (λ_=>AC CDO AE) (λ(a:SX) h=>CRL a h.1 h.2.1 h.2.2.1 h.2.2.2) (λ_=>WK rfl rfl) _
theorem CNY(a:SY)(h:pInS a.s a.x a.y):BXR a:=by
 rw[CEH]<;> delta JT qD XL EE EC DP GD JG CS AO Mo KO AR AK BV BZ CM AQ BU DD ES LX EF Ba UT BK DZ Iv CI EZ FB LZ EU LM IY XS yN LI SI Gy SV Mt Nd AG GT GV DG AF AT AH FF Jn CA CF BH AM BL SC AP XV HA BR AS AW DX HV EO DU CR BP BC GA CQ AN ASZ AL RI JZ EP BE ED AUU BW HU EL XY Lx HI FZ JB CL RJ CU EA EX Ab HY NU FU DV ZZ Vj EM FE CB BJ EW FM FK FD LN MW PX HC uZ IT LL FL OG CE EV NT BS FH HN BB TU AND VW DY RN DJ Ly ME XO IW Fj AGN Ok ZO NR YF Lg XG LO aN Aq UJ Fe Dr XF YL Dk Pg VJ Pw PI Pb eI Kf Kr Zo Cd Iu gH fU Rs;simp only[CC,eq_self,implies_true,forall_const]
 obtain⟨h0,hne,⟨h1,h2⟩⟩:=h
 have hn:=ASL a.s
 have hr:inR a.s.length (KH a.s):=ADF _
 have hx:IntKind.i64.wrap ((a.x:Int)+1)=((a.x+1:Nat):Int):=by rw[JH (by omega) (by omega)];omega
 refine⟨⟨a.x+1,⟨hx.symm,λi hi=>?_⟩,Nat.lt_succ_self _,.inr rfl⟩,λi ⟨i1,i2⟩=>⟨λhlt=>?_,λhge=>λk hk=>?_⟩⟩
 ·rw[AVZ,rZ hi,Int.toNat_natCast];exact rfl3 _
 ·have hL:=UR (key:=DM a.s) (l:=KH a.s) (show a.x<=i by omega)
  refine⟨⟨⟨i,i⟩,⟨rfl,rfl,λk hk=>UZ (by rw[AKC (Nat.le_refl _) (Nat.le_succ _) (.inl rfl)])⟩,rfl,i1,by show i<a.y;omega,⟨by show a.x<=i;omega,Nat.le_refl _⟩,λk k1 k2=>by have k1:i<=k:=k1;have k2:k<i:=k2;omega⟩,λy ⟨y1,y2,y3,⟨y4,y5⟩,y6⟩=>?_⟩
  have hl:=UR (key:=DM a.s) (l:=KH a.s) (show a.x<=y.a by omega)
  have hp:(GO (DM a.s) (KH a.s) a.x y.a).Perm (KH a.s):=YU (by omega)
  have e0:gD (GO (DM a.s) (KH a.s) a.x y.a) y.a=gD (KH a.s) y.a:=Av (by omega) (by omega) (.inr (Nat.le_refl _))
  have hrt:inR a.s.length (KA (GO (DM a.s) (KH a.s) a.x y.a) y.b y.a (y.a+1)):=Hh (Hh hr hp) (pK y5 (by omega) (by omega))
  have hrl:=TF (GO (DM a.s) (KH a.s) a.x y.a) y.b y.a (y.a+1)
  have hpos:∀{k:Nat},k<a.s.length->0<(gD a.s (gD (KA (GO (DM a.s) (KH a.s) a.x y.a) y.b y.a (y.a+1)) k).toNat).length:=λ{k} hk=>by
   have:=AYJ hrt (show k<(KA (GO (DM a.s) (KH a.s) a.x y.a) y.b y.a (y.a+1)).length by omega)
   exact hne _ (by omega)
  have ea:gD (KA (GO (DM a.s) (KH a.s) a.x y.a) y.b y.a (y.a+1)) y.b=gD (KH a.s) y.a:=by rw[BME y5 (by omega),e0]
  have wb:(y.b:Int)>a.x->IntKind.i64.wrap ((y.b:Int)-1)=((y.b-1:Nat):Int):=λhb=>by rw[JH (by omega) (by omega)];omega
  have eb:y.b>a.x->gD (KA (GO (DM a.s) (KH a.s) a.x y.a) y.b y.a (y.a+1)) (y.b-1)=gD (GO (DM a.s) (KH a.s) a.x y.a) (y.b-1):=λhb=>BEE y5 (by omega) (by omega)
  refine⟨⟨λhb=>⟨by omega,by omega⟩,λhb=>by omega,λhb=>by rw[wb hb];omega,λhb=>by rw[wb hb,Int.toNat_natCast];omega,λhb=>⟨hpos (by omega),by rw[wb hb,Int.toNat_natCast];exact hpos (by omega)⟩⟩,λhc=>?_,λhc=>?_⟩
  ·have hb:(y.b:Int)>a.x:=by
    cases hd:decide ((y.b:Int)>a.x) with
    |false=>rw[hd] at hc;cases hc
    |true=>exact of_decide_eq_true hd
   rw[decide_eq_true hb] at hc
   have hc:decide (Oz (DM a.s (gD (KA (GO (DM a.s) (KH a.s) a.x y.a) y.b y.a (y.a+1)) y.b)) (DM a.s (gD (KA (GO (DM a.s) (KH a.s) a.x y.a) y.b y.a (y.a+1)) (IntKind.i64.wrap ((y.b:Int)-1)).toNat))<0)=true:=hc
   have hc:=Tb.1 (of_decide_eq_true hc)
   rw[wb hb] at hc ⊢
   simp only[Int.toNat_natCast] at hc ⊢
   rw[ea,eb (by omega)] at hc
   refine⟨⟨⟨by omega,by omega⟩,by omega,⟨by omega,by omega⟩,by omega,⟨by omega,by omega⟩,by omega,⟨by omega,by omega⟩,by omega⟩,⟨y.a,y.b-1⟩,⟨rfl,rfl,λk hk=>BOA (AWK (by show gD (KA (GO (DM a.s) (KH a.s) a.x y.a) (y.b-1) y.a (y.a+1)) k=_;exact BOC (by omega) y5 (by omega) (by omega)))⟩,⟨y1,y2,y3,⟨by show a.x<=y.b-1;omega,by show y.b-1<=y.a;omega⟩,λk k1 k2=>?_⟩,by show y.b-1<_;omega⟩
   by_cases e:k=y.b-1
   ·rw[e];exact hc
   ·exact y6 k (by have k1:y.b-1<=k:=k1;omega) k2
  ·have hstop:a.x<y.b->¬DM a.s (gD (KH a.s) y.a)<DM a.s (gD (GO (DM a.s) (KH a.s) a.x y.a) (y.b-1)):=λhb q=>by
    have hb':(y.b:Int)>a.x:=by omega
    rw[decide_eq_true hb'] at hc
    have hc:decide (Oz (DM a.s (gD (KA (GO (DM a.s) (KH a.s) a.x y.a) y.b y.a (y.a+1)) y.b)) (DM a.s (gD (KA (GO (DM a.s) (KH a.s) a.x y.a) y.b y.a (y.a+1)) (IntKind.i64.wrap ((y.b:Int)-1)).toNat))<0)=false:=hc
    have hc:=of_decide_eq_false hc
    rw[Tb,wb hb',Int.toNat_natCast,ea,eb hb] at hc
    exact hc q
   have hs:=oU (key:=DM a.s) (l:=KH a.s) (show a.x<=y.a by omega) (by omega)
   have E:KA (GO (DM a.s) (KH a.s) a.x y.a) y.b y.a (y.a+1)=GO (DM a.s) (KH a.s) a.x (y.a+1):=by
    rw[<-CLG (key:=DM a.s) (l:=KH a.s) (a:=a.x) (i:=y.a) (b:=y.a+1) (by omega) (by omega) (by omega)]
    refine BHF (by omega) y4 y5 hs (λp q p1 p2 q1 q2 _=>?_) (λk k1 k2=>?_) (λk k1 k2=>by rw[e0];exact y6 k k1 k2)
    ·have:q=y.a:=by omega
     subst this
     obtain⟨p',r1,r2,r3⟩:=tQ (key:=DM a.s) (l:=KH a.s) (show a.x<=y.a by omega) (by omega) p1 p2
     rw[r3,e0,rZ (by omega),rZ (by omega)];omega
    ·rw[e0]
     have q1:=hstop (by omega)
     by_cases e:k=y.b-1
     ·rw[e];exact q1
     ·have:=sY (hs k (y.b-1) k1 (by omega) (by omega));omega
   exact⟨y.a+1,⟨(CN (by omega)).symm,λk hk=>UZ (by rw[E])⟩,⟨by omega,.inl (by omega)⟩,by omega⟩
 ·rcases i2 with i2 | i2
  ·rw[show i=a.y by omega];exact rfl3 _
  ·by_cases e:a.y=a.x+1
   ·rw[i2,e];exact rfl3 _
   ·rw[i2,AVZ,show a.y=a.x by omega,cY];exact rfl3 _
theorem CFV:AJ Try.prog ANW (C_insS.spec dSY):=VD C_insS CCU [] [] BNE (λ_=>by kernel_rfl) (λ_=>AC BFV AE) (λ(a:SY) h=>CNY a h) (λ_=>WK rfl rfl) _
end Go.Bal
