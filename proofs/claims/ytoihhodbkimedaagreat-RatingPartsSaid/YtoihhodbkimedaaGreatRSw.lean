/- Package rating: the order of gaugings (any number up to 24). -/
import Derived.Test.YtoihhodbkimedaaGreatRatQ
import Derived.Test.YtoihhodbkimedaaGreatRS1
set_option linter.unusedVariables false
set_option linter.unusedSimpArgs false
namespace Go.Bal
open Go Go.Sym Go.Proofs
structure GAB where
 g:List Gau
 a:Int
 b:Int
def CY(g:List Gau)(x:Int):Int:=(gD g x.toNat).st
def bxG(g:List Gau):AObj:=.box [.d (BX g)]
def dGAB:List AVal->Heap->Option (GAB×List (Nat×Nat)×List Nat)
 |[.d x,.d y,.bptr id _],H=>match H id with
  | .live (.box [.d (.list _ n h _)])=>some (⟨MK n λi=>Sr (h i),KT x,KT y⟩,[(100,id)],[])
  |_=>none
 |_,_=>none
def C_fw1:Ctr:={ ro:=[100],α:=GAB,xs:=λa=>[.int a.a,.int a.b,.bptr 100 0],L:=λa=>[(100,bxG a.g)],val:=λa=>.int (Oz (CY a.g a.a) (CY a.g a.b)),keep:=λa=>[(100,.live (bxG a.g))],pre:=λa=>[(0<=a.a/\a.a<a.g.length)/\0<=a.b/\a.b<a.g.length] }
def CJZ:Ann:={ ann 17 [(sV,G6)] with E:=[100] }
def CMX(a:GAB):Prop:=BQ Try.prog CJZ ADW (AI ADW) (C_fw1.xs a) (AD (C_fw1.L a)) (C_fw1.val a) (C_fw1.keep a) [] []
abbrev zG:=GAB.g
abbrev Jt:=CY
attribute [go_sem] zG Jt
theorem CRN(a:GAB):(CMX a)=(And (AG (ON (GAB.a a) (zG a)) (BC (GAB.b a)) (Gi (GAB.b a) (zG a))) (YP (Mo (Jt (zG a) (GAB.a a)) (Jt (zG a) (GAB.b a))) (Mo (AH (zG a) (EU (GAB.a a))) (AH (zG a) (EU (GAB.b a)))) (zG a) (BN (zG a)))):=by kernel_rfl
def rowI(l:List Int):AObj:=.row 1 l.length λi=>QH (gD l i)
def CTH(n:Nat)(l:List Int):AObj:=.row 1 n λi=>QH (gD l i)
structure GX where
 g:List Gau
 l:List Int
 x:Nat
 y:Nat
 z:Nat
structure IJL where
 i:Nat
 j:Nat
 l:List Int
 deriving Inhabited
def fnW1:AVal:=.fn (.func Ej) [] [.bptr 101 0]
def glX(g:List Gau)(n:Nat)(l:List Int):List (Nat×HCell):=[(100,.live (CTH n l)),(101,.live (bxG g))]
def xGX(a:GX):List AVal:=[.own 100 1 0 a.l.length,.int a.x,.int a.y,.int a.z,fnW1]
def lGX(a:GX):List (Nat×AObj):=[(100,rowI a.l),(101,bxG a.g)]
def dGX:List AVal->Heap->Option (GX×List (Nat×Nat)×List Nat)
 |[.own id _ _ n,.d x,.d y,.d z,.fn (.func f) [] [.bptr c _]],H=>if f=Ej then match H id,H c with
  | .live (.row _ m r),.live (.box [.d (.list _ k h _)])=>some (⟨MK k λi=>Sr (h i),MK n λi=>KT (r i),(KT x).toNat,(KT y).toNat,(KT z).toNat⟩,[(100,id),(101,c)],[])
  |_,_=>none else none
 |_,_=>none
def C_swp:Ctr:={ ro:=[101],α:=GX,xs:=xGX,L:=lGX,val:=λ_=>.d (.tup []),keep:=λa=>glX a.g a.l.length (zD a.l a.x a.y a.z),pre:=λa=>[a.l.length<1073741824/\a.x+a.z<=a.y/\a.y+a.z<=a.l.length] }
def swp1(a:GX):Shape:={ α:=Nat,dflt:=0,T:=λi=>⟨[(0,.own 100 1 0 a.l.length),(1,.int a.x),(2,.int a.y),(3,.int a.z),(10,.int i)],glX a.g a.l.length (zD a.l a.x a.y i)⟩,inv:=λi=>i<=a.z,meas:=λi=>a.z-i }
def CJS(a:GX):Ann:={ ann 38 [] with E:=[100,101],loops:=λid=>if id=1 then some [swp1 a] else none }
def CKO(a:GX):Prop:=BQ Try.prog (CJS a) BHA (AI BHA) (xGX a) (AD (lGX a)) (.d (.tup [])) (C_swp.keep a) [] []
abbrev JY:=GX.l
abbrev Jz:=GX.x
abbrev Hm:=GX.y
abbrev Mx:=GX.z
abbrev Jy:=GX.g
abbrev lD a:=BN (Jy a)
abbrev dE a:=AZ (Jy a)
abbrev sO a b c d:=HG a b c a d a
abbrev RV a b c:=AK (λi=>sO i a b c)
abbrev Tw a b c d:=zD a b (Hm c) d
abbrev yO a b c d e f g h:=AX a b c d e a f g h
abbrev RI a:=BP (EU a)
abbrev VZ a b:=FF a (AQ b)
abbrev Vg a b:=RI (VZ a b)
abbrev XH a:=AQ (Hm a)
abbrev nE a:=AQ (Jz a)
abbrev eR a:=BE (Hm a)
abbrev Co a b:=HN a (CG b)
abbrev Rd a b:=BZ a (CG b)
abbrev Gj a b:=And (JJ a) b
abbrev kO a b c:=sO a b c b
attribute [go_sem] JY Jz Hm Mx Jy lD dE sO RV Tw yO RI VZ Vg XH nE eR Co Rd Gj kO
theorem CQM(a:GX):(CKO a)=(DJ (λi=>Gj (yO (CX (JY a)) (BE (Jz a)) (eR a) (BE (Mx a)) (BD i) (AK (λj=>kO j (JY a) (Tw (JY a) (Jz a) a i))) (dE a) (lD a)) (IY i (Mx a))) (λi=>PI (IY i (Mx a)) i (Mx a) (AN (KJ (VZ (XH a) i) (JY a)) (Rd (Vg (XH a) i) (JY a)) (KJ (VZ (nE a) i) (JY a)) (SC (Rd (Vg (nE a) i) (JY a)) (KJ (VZ (nE a) i) (JY a)) (KJ (VZ (XH a) i) (JY a)) (Co (Vg (XH a) i) (JY a)))) (FB (λj=>RL (JJ (yO (CX (JY a)) (BE (Jz a)) (eR a) (BE (Mx a)) (BS j i) (AK (λk=>GC k (JY a) (Tw (JY a) (Jz a) a j) k (Ab k (Vg (XH a) i) (CM (Tw (JY a) (Jz a) a i) (Vg (nE a) i)) (Ab k (Vg (nE a) i) (CM (Tw (JY a) (Jz a) a i) (Vg (XH a) i)) (CM (Tw (JY a) (Jz a) a i) k))))) (dE a) (lD a))) j (Mx a) j i)) (AN (CX (JY a)) (RV (JY a) (Tw (JY a) (Jz a) a (Mx a)) (Tw (JY a) (Jz a) a i)) (dE a) (lD a)))):=by kernel_rfl
def C_rot:Ctr:={ ro:=[101],α:=GX,xs:=xGX,L:=lGX,val:=λ_=>.d (.tup []),keep:=λa=>glX a.g a.l.length (KA a.l a.x a.y a.z),pre:=λa=>[a.l.length<1073741824/\a.x<a.y/\a.y<a.z/\a.z<=a.l.length] }
def rot2(a:GX):Shape:={ α:=IJL,dflt:=default,T:=λx=>⟨[(0,.own 100 1 0 a.l.length),(2,.int a.y),(4,fnW1),(10,.int x.i),(11,.int x.j)],glX a.g a.l.length x.l⟩,inv:=λx=>(0<x.i/\0<x.j/\x.i<=a.y/\a.y+x.j<=a.l.length)/\x.l.length=a.l.length/\KA x.l (a.y-x.i) a.y (a.y+x.j)=KA a.l a.x a.y a.z,meas:=λx=>x.i+x.j }
def CKE(a:GX):Ann:={ ann 58 [(BHH,C_swp.spec dGX)] with E:=[100,101],loops:=λid=>if id=2 then some [rot2 a] else none }
def CMT(a:GX):Prop:=BQ Try.prog (CKE a) BGV (AI BGV) (xGX a) (AD (lGX a)) (.d (.tup [])) (C_rot.keep a) [] []
abbrev ABC:=@Exists IJL
abbrev ZQ:=IJL.i
abbrev Mc:=IJL.j
abbrev XN:=IJL.l
abbrev Kc:=@Eq (List Int)
abbrev BCS:=λ(f:IJL->Prop)=>∀(x:IJL),f x
abbrev AML a b:=EU (HA a b)
abbrev Wz a:=AQ (ZQ a)
abbrev AEP a b:=AML a (Wz b)
abbrev Yo a b:=AEP (XH a) b
abbrev TC a b:=IE (JY a) (XN b)
abbrev aG a b c d:=KA a b (Hm c) d
abbrev Yq a b:=LM a (ZQ b)
abbrev Ts a b:=AY a (JY b)
abbrev Pa a b c:=UD a b (Wz c)
abbrev tY a b:=LM a (Mc b)
abbrev bG a b:=tY (ZQ a) b
abbrev Xj a b:=tY (Hm a) b
abbrev aX a b:=EF a (ZQ b)
abbrev Yg a b:=BU (ZQ a) b
abbrev Yy a:=MW (Mc a)
abbrev Xs a:=MW (ZQ a)
abbrev AGK a b:=VZ a (Mc b)
abbrev bQ a b c:=AEP (AGK a b) c
abbrev Wr a:=AQ (Mc a)
attribute [go_sem] ABC ZQ Mc XN Kc BCS AML Wz AEP Yo TC aG Yq Ts Pa tY bG Xj aX Yg Yy Xs AGK bQ Wr
theorem CPY(a:GX):(CMT a)=(And (ABC (λi=>AN (Bl AL (CX (JY a)) (eR a) (UD (ZQ i) (XH a) (nE a)) (UD (Mc i) (AQ (Mx a)) (XH a)) (AK (λj=>kO j (JY a) (XN i))) (dE a) (lD a)) (AN (Xs i) (Yy i) (Yg i (Hm a)) (JF (Xj a i) (JY a))) (Ts (XN i) a) (Kc (aG (XN i) (aX (Hm a) i) a (Xj a i)) (aG (JY a) (Jz a) a (Mx a))))) (BCS (λi=>HP (EI (Xs i) (Yy i) (Yg i (Hm a)) (JF (Xj a i) (JY a)) (Ts (XN i) a) (Kc (aG (XN i) (aX (Hm a) i) a (Xj a i)) (aG (JY a) (Jz a) a (Mx a)))) (WI (Wz i) (Wr i)) (CL (KO (Wz i) (Wr i)) (BJ AL (Ts (TC a i) a) (Pa (Yo a i) (XH a) i) (eR a) (BE (Mc i)) (AX (Ts (TC a i) a) (BM (TC a i) (XN i)) (CE (Jy a)) (BB (Jy a)) (KX (Jy a)) (NP (Jy a)) (SL (TC a i)) (BU (tY (Yo a i) i) (Hm a)) (JF (Xj a i) (TC a i)))) (ABC (λj=>BW (QK AL (JY a) (eR a) (UD (ZQ j) (Wz i) (Wr i)) (CB (Mc j) (Mc i)) (AY (JY a) (TC a i)) (RV (JY a) (XN j) (Tw (TC a i) (Yo a i) a (Mc i))) (dE a) (lD a)) (EI (Xs j) (Yy j) (Yg j (Hm a)) (JF (Xj a j) (JY a)) (Ts (XN j) a) (Kc (aG (XN j) (aX (Hm a) j) a (Xj a j)) (aG (JY a) (Jz a) a (Mx a)))) (bG j j) (bG i i))) (And (BJ AL (Ts (TC a i) a) (Pa (Yo a i) (XH a) i) (Pa (bQ (XH a) i i) (AGK (XH a) i) i) (BE (ZQ i)) (AX (Ts (TC a i) a) (BM (TC a i) (XN i)) (CE (Jy a)) (BB (Jy a)) (KX (Jy a)) (NP (Jy a)) (SL (TC a i)) (BU (Yq (Yo a i) i) (bQ (XH a) i i)) (JF (Yq (bQ (XH a) i i) i) (TC a i)))) (ABC (λj=>BW (QK AL (JY a) (eR a) (CB (ZQ j) (ZQ i)) (Pa (Mc j) (Wr i) i) (AY (JY a) (TC a i)) (RV (JY a) (XN j) (zD (TC a i) (Yo a i) (bQ (XH a) i i) (ZQ i))) (dE a) (lD a)) (EI (Xs j) (Yy j) (Yg j (Hm a)) (JF (Xj a j) (JY a)) (Ts (XN j) a) (Kc (aG (XN j) (aX (Hm a) j) a (Xj a j)) (aG (JY a) (Jz a) a (Mx a)))) (bG j j) (bG i i))))) (QD (BJ AL (Ts (TC a i) a) (Pa (Yo a i) (XH a) i) (eR a) (BE (ZQ i)) (AX (Ts (TC a i) a) (BM (TC a i) (XN i)) (CE (Jy a)) (BB (Jy a)) (KX (Jy a)) (NP (Jy a)) (SL (TC a i)) (BU (Yq (Yo a i) i) (Hm a)) (JF (Yq (Hm a) i) (TC a i)))) (AY (JY a) (TC a i)) (RV (JY a) (aG (JY a) (Jz a) a (Mx a)) (Tw (TC a i) (Yo a i) a (ZQ i))) (dE a) (Jy a))))):=by kernel_rfl
structure GY where
 g:List Gau
 l:List Int
 x:Nat
 y:Nat
def xGY(a:GY):List AVal:=[.own 100 1 0 a.l.length,.int a.x,.int a.y,fnW1]
def lGY(a:GY):List (Nat×AObj):=[(100,rowI a.l),(101,bxG a.g)]
def dGY:List AVal->Heap->Option (GY×List (Nat×Nat)×List Nat)
 |[.own id _ _ n,.d x,.d y,.fn (.func f) [] [.bptr c _]],H=>if f=Ej then match H id,H c with
  | .live (.row _ m r),.live (.box [.d (.list _ k h _)])=>some (⟨MK k λi=>Sr (h i),MK n λi=>KT (r i),(KT x).toNat,(KT y).toNat⟩,[(100,id),(101,c)],[])
  |_,_=>none else none
 |_,_=>none
structure pIns(n:Nat)(l:List Int)(x y:Nat):Prop where
 b:l.length<1073741824
 i:inR n l
 d:x<=y/\y<=l.length
 u:incr l x y
def C_ins:Ctr:={ ro:=[101],α:=GY,xs:=xGY,L:=lGY,val:=λ_=>.d (.tup []),keep:=λa=>glX a.g a.l.length (GO (CY a.g) a.l a.x a.y),pre:=λa=>[pIns a.g.length a.l a.x a.y] }
def insT(a:GY)(i:Nat):List (Nat×AVal):=[(0,.own 100 1 0 a.l.length),(1,.int a.x),(2,.int a.y),(3,fnW1),(8,.int i)]
def ins1(a:GY):Shape:={ α:=Nat,dflt:=0,T:=λi=>⟨insT a i,glX a.g a.l.length (GO (CY a.g) a.l a.x i)⟩,inv:=λi=>a.x+1<=i/\(i<=a.y∨i=a.x+1),meas:=λi=>a.y-i }
def ins4(a:GY)(m:Nat):Shape:={ α:=NN,dflt:=default,T:=λx=>⟨insT a x.a ++ [(9,.int x.b)],glX a.g a.l.length (KA (GO (CY a.g) a.l a.x x.a) x.b x.a (x.a+1))⟩,inv:=λx=>a.y-x.a=m/\a.x+1<=x.a/\x.a<a.y/\(a.x<=x.b/\x.b<=x.a)/\∀k,x.b<=k->k<x.a->CY a.g (gD a.l x.a)<CY a.g (gD (GO (CY a.g) a.l a.x x.a) k),meas:=λx=>x.b }
def CKN(a:GY):Ann:={ ann 53 [(Ej,C_fw1.spec dGAB)] with E:=[100,101],loops:=λid=>if id=1 then some [ins1 a] else none,inner:=λgs id=>if id=4 then some [ins4 a (gs.getD 0 0)] else none }
def CLE(a:GY):Prop:=BQ Try.prog (CKN a) BHM (AI BHM) (xGY a) (AD (lGY a)) (.d (.tup [])) (C_ins.keep a) [] []
abbrev JW:=GY.l
abbrev XZ:=GY.x
abbrev Na:=GY.y
abbrev NC:=GY.g
abbrev Rk a:=BN (NC a)
abbrev Fg a:=AZ (NC a)
abbrev Om a b c:=RV (JW a) b c
abbrev sZ a:=Jt (NC a)
abbrev ARE a b c:=GO (sZ a) (JW a) b c
abbrev qY a b:=ARE a (XZ a) b
abbrev Cj a:=CX (JW a)
abbrev uZ a b c d:=KA a (DZ b) c d
abbrev RJ a:=EO (BK a)
abbrev AND a b c:=uZ a b (BK c) (RJ b)
abbrev AGU a b:=qY a (BK b)
abbrev Ia a b c d:=AND (AGU a b) c d
abbrev Iu a b c d e(f:Nat->Prop):=CU a b c (And d e) f
abbrev Fe a b:=Fj a (BK b)
abbrev YF a b:=BU a (DZ b)
abbrev Dk a b:=BZ (BK a) b
abbrev Dr a b:=RN a (BK b)
abbrev Rs a b c:=AR (EF a (BK b)) (EF a c)
abbrev NU a:=BP (DZ a)
abbrev ZO a b c d:=Ab a (NU b) c d
abbrev Cd a b c d e f g:=Ab a b c (ZO d e f g)
abbrev Lx a:=JZ (HV a)
abbrev IT a:=RI (Lx a)
abbrev Ly a b:=CQ a (JB b)
abbrev NR a b:=Ly (BK a) b
abbrev Zk a b:=Jt (BH a) b
abbrev Ok a b:=KO (HV a) b
abbrev aN a b c:=EX (Ok a b) c
abbrev Pb a b c:=aN a (AQ b) c
abbrev lO a:=HY (NC a)
abbrev UJ a b:=OG a (AQ b)
abbrev XF a b:=CB (BK a) b
attribute [go_sem] JW XZ Na NC Rk Fg Om sZ ARE qY Cj uZ RJ AND AGU Ia Iu Fe YF Dk Dr Rs NU ZO Cd Lx IT Ly NR Zk Ok aN Pb lO UJ XF
theorem COD(a:GY):(CLE a)=(DJ (λi=>AG (Bl AL (Cj a) (BE (XZ a)) (BE (Na a)) (BS i (XZ a)) (AK (λj=>kO j (JW a) (qY a i))) (Fg a) (Rk a)) (RN (XZ a) i) (Or (BU i (Na a)) (HC i (XZ a)))) (λi=>PI (And (RN (XZ a) i) (Or (BU i (Na a)) (HC i (XZ a)))) i (Na a) (UT (λj=>Gj (yO (Cj a) (BE (XZ a)) (BE (Na a)) (XF j i) (UJ j i) (Om a (Ia a j j j) (qY a i)) (Fg a) (Rk a)) (Iu (Rs (Na a) j i) (Dr (XZ a) j) (Dk j (Na a)) (YF (XZ a) j) (Fe j j) (λk=>PX (DZ j) k (Kf k (BK j) (Jt (NC a) (CM (JW a) (BK j))) (Jt (NC a) (CM (AGU a j) k))))))) (Iv (λj=>ME (Iu (Rs (Na a) j i) (Dr (XZ a) j) (Dk j (Na a)) (YF (XZ a) j) (Fe j j) (λk=>PX (DZ j) k (Kf k (BK j) (Jt (NC a) (CM (JW a) (BK j))) (Jt (NC a) (CM (AGU a j) k))))) (AF (Pb j (XZ a) (KJ (HV j) (JW a))) (Pb j (XZ a) (Co (NU j) (JW a))) (Pb j (XZ a) (KJ (Lx j) (JW a))) (Pb j (XZ a) (Co (IT j) (JW a))) (Pb j (XZ a) (JR (JD (Ia a j j j) (NU j)) (JD (Ia a j j j) (IT j)) (CE (NC a)) (BB (NC a)) (KX (NC a)) (NP (NC a)) (DV (CM (Ia a j j j) (NU j)) (lO a)) (CM (Ia a j j j) (IT j)) (HI (CM (Ia a j j j) (IT j)) (lO a))))) (VJ (FU (Ok j (AQ (XZ a))) (YL (Zk (NC a) (CM (Ia a j j j) (NU j))) (Zk (NC a) (CM (Ia a j j j) (IT j))))) (AN (KJ (Lx j) (JW a)) (Rd (IT j) (JW a)) (KJ (HV j) (JW a)) (SC (Rd (NU j) (JW a)) (KJ (HV j) (JW a)) (KJ (Lx j) (JW a)) (Co (IT j) (JW a)))) (UT (λk=>BW (JJ (yO (Cj a) (BE (XZ a)) (BE (Na a)) (NR k j) (OG k (Lx j)) (AK (λl=>GC l (JW a) (Ia a k k k) l (Cd l (IT j) (CM (Ia a j j j) (NU j)) l j (CM (Ia a j j j) (IT j)) (CM (Ia a j j j) l)))) (Fg a) (Rk a))) (Iu (Rs (Na a) k i) (Dr (XZ a) k) (Dk k (Na a)) (YF (XZ a) k) (Fe k k) (λl=>PX (DZ k) l (Kf l (BK k) (Jt (NC a) (CM (JW a) (BK k))) (Jt (NC a) (CM (AGU a k) l))))) (DZ k) (DZ j))) (λk=>EV (Bl AL (Cj a) (BE (XZ a)) (BE (Na a)) (EA k (JB j)) (Om a (qY a k) (Ia a j j j)) (Fg a) (Rk a)) (And (RN (XZ a) k) (Or (BU k (Na a)) (HC k (XZ a)))) (Na a) k i)))) (AN (Cj a) (Om a (qY a (Na a)) (qY a i)) (Fg a) (Rk a)))):=by kernel_rfl
theorem BZD:AJ Try.prog Ej (C_fw1.spec dGAB):=VD C_fw1 (λ_=>CJZ) [] [] BHB (λ_=>by kernel_rfl) (λ_=>AC ALH AE) (λ(a:GAB) h=>by
 show CMX a;rw[CRN]<;> delta EE EC DP AO Mo AR AK BV BZ AQ DD ES CI EZ EU zG Jt AG AT AH CA CF AM GQ AP BR AS AW BC HH HL AZ ED HI JA DV GF BN ON YP Gi;simp only[CC,eq_self,implies_true,forall_const]
 exact⟨h,rfl⟩) (λ_=>WK rfl rfl) _
theorem CTK(a:GX)(h:a.l.length<1073741824)(h1:a.x+a.z<=a.y)(h2:a.y+a.z<=a.l.length):CKO a:=by
 rw[CQM]<;> delta EE EC DP GD CS AO AR CG AK BV BZ CM AQ DD ES LX EF CI EZ FB EU LM IY XS JY Jz Hm Mx Jy AG DG AF AT AH FF CA CF AM BL GQ SC AP BR AS AW DF DU AX BP BC HH CQ HL AN AL RI AZ yO GI BE ED BW GC HI CX FZ JA HG CL EA Ab DV sO kO GF BN FD LN VZ LL KJ FL EV BS BD FH HN DJ Vg JJ RV XH Rd Co RL PI Gj dE eR Tw nE lD;simp only[CC,eq_self,implies_true,forall_const]
 refine⟨⟨0,⟨rfl,λi _=>by rw[BPV]⟩,Nat.zero_le _⟩,λi hi=>⟨λhlt=>?_,λhge=>λk hk=>by rw[show i=a.z by omega]⟩⟩
 have w1:IntKind.i64.wrap ((a.y:Int)+i)=((a.y+i:Nat):Int):=by rw[JH (by omega) (by omega)];omega
 have w2:IntKind.i64.wrap ((a.x:Int)+i)=((a.x+i:Nat):Int):=by rw[JH (by omega) (by omega)];omega
 rw[w1,w2];simp only[Int.toNat_natCast]
 exact⟨⟨⟨by omega,by omega⟩,by omega,⟨by omega,by omega⟩,by omega,⟨by omega,by omega⟩,by omega,⟨by omega,by omega⟩,by omega⟩,i+1,⟨(CN (by omega)).symm,λk hk=>BNN (by omega) (by omega) hk⟩,by omega,by omega⟩
theorem CPN:AJ Try.prog BHH (C_swp.spec dGX):=VD C_swp CJS [] [] CDQ (λ_=>by kernel_rfl) (λ_=>AE) (λ(a:GX) h=>CTK a h.1 h.2.1 h.2.2) (λ_=>WK rfl rfl) _
theorem CTA(a:GX)(h:a.l.length<1073741824)(h1:a.x<a.y)(h2:a.y<a.z)(h3:a.z<=a.l.length):CMT a:=by
 rw[CPY]<;> delta EE EC DP WI CS AO KO AR CG AK BV BZ CM AQ BU LX EF NK Ba CI EZ LZ EU LM JY Jz Hm Mx Jy ABC ZQ Mc XN Kc BCS AG GT JO GV IE DG AF AT AH FF CA CF BH AM BL GQ AP HA BR AS AW DF DX CR AX HH CQ HL IC AN AL AZ Bl EP GI BE AY BW HU GC CX II JA HG CL CU EM GH IH sO kO GF FE CB BJ BN BM EW FM FK MW SL VZ AML CE JF BB HP tY Wz UD AEP EI RV XH TC KX In NP QK QD AGK Ts Pa Yo Yy Xj Xs bG Wr Yq dE Yg eR bQ aX aG Tw nE lD;simp only[CC,eq_self,implies_true,forall_const]
 refine⟨⟨⟨a.y-a.x,a.z-a.y,a.l⟩,⟨?_,?_,λ_ _=>rfl⟩,⟨by show 0<a.y-a.x;omega,by show 0<a.z-a.y;omega,by show a.y-a.x<=_;omega,by show a.y+(a.z-a.y)<=_;omega⟩,rfl,?_⟩,λx ⟨⟨x1,x2,x3,x4⟩,x5,x6⟩=>?_⟩
 ·show ((a.y-a.x:Nat):Int)=_;rw[JH (by omega) (by omega)];omega
 ·show ((a.z-a.y:Nat):Int)=_;rw[JH (by omega) (by omega)];omega
 ·show KA a.l (a.y-(a.y-a.x)) a.y (a.y+(a.z-a.y))=_
  rw[show a.y-(a.y-a.x)=a.x by omega,show a.y+(a.z-a.y)=a.z by omega]
 ·have er:(MK a.l.length λi=>gD x.l i)=x.l:=by rw[<-x5];exact RB _
  have w1:IntKind.i64.wrap ((a.y:Int)-x.i)=((a.y-x.i:Nat):Int):=by rw[JH (by omega) (by omega)];omega
  have w2:IntKind.i64.wrap ((a.y:Int)+x.j)=((a.y+x.j:Nat):Int):=by rw[JH (by omega) (by omega)];omega
  rw[er,w1,w2];simp only[Int.toNat_natCast]
  refine⟨λhne=>⟨λhgt=>?_,λhle=>?_⟩,λheq=>?_⟩
  ·have e:IntKind.i64.wrap ((x.i:Int)-x.j)=((x.i-x.j:Nat):Int):=by rw[JH (by omega) (by omega)];omega
   refine⟨⟨trivial,λ_ _=>trivial,h,by omega,by omega⟩,⟨x.i-x.j,x.j,zD x.l (a.y-x.i) a.y x.j⟩,⟨e.symm,rfl,λ_ _=>rfl⟩,⟨⟨by show 0<x.i-x.j;omega,x2,by show x.i-x.j<=_;omega,x4⟩,by show (zD _ _ _ _).length=_;rw[cO];exact x5,?_⟩,by show x.i-x.j+x.j<_;omega⟩
   show KA (zD x.l (a.y-x.i) a.y x.j) (a.y-(x.i-x.j)) a.y (a.y+x.j)=_
   rw[BDW (by omega) x3 (by omega)];exact x6
  ·have hlt:x.i<x.j:=by
    have:¬(x.i:Int)=x.j:=by simpa using hne
    omega
   have w3:IntKind.i64.wrap (((a.y+x.j:Nat):Int)-x.i)=((a.y+x.j-x.i:Nat):Int):=by rw[JH (by omega) (by omega)];omega
   have e:IntKind.i64.wrap ((x.j:Int)-x.i)=((x.j-x.i:Nat):Int):=by rw[JH (by omega) (by omega)];omega
   rw[w3];simp only[Int.toNat_natCast]
   refine⟨⟨trivial,trivial,λ_ _=>trivial,h,by omega,by omega⟩,⟨x.i,x.j-x.i,zD x.l (a.y-x.i) (a.y+x.j-x.i) x.i⟩,⟨rfl,e.symm,λ_ _=>rfl⟩,⟨⟨x1,by show 0<x.j-x.i;omega,x3,by show a.y+(x.j-x.i)<=_;omega⟩,by show (zD _ _ _ _).length=_;rw[cO];exact x5,?_⟩,by show x.i+(x.j-x.i)<_;omega⟩
   show KA (zD x.l (a.y-x.i) (a.y+x.j-x.i) x.i) (a.y-x.i) a.y (a.y+(x.j-x.i))=_
   rw[show a.y+(x.j-x.i)=a.y+x.j-x.i by omega,BEK hlt x3 (by omega)];exact x6
  ·have heq:x.i=x.j:=by
    have:(x.i:Int)=x.j:=by simpa using heq
    omega
   refine⟨⟨trivial,λ_ _=>trivial,h,by omega,by omega⟩,λk hk=>?_⟩
   rw[<-x6,BEN x3 (by omega),heq]
theorem CQG:AJ Try.prog BHP (C_rot.spec dGX):=VD C_rot CKE [] [] CFI (λ_=>by kernel_rfl) (λ_=>AC CPN AE) (λ(a:GX) h=>CTA a h.1 h.2.1 h.2.2.1 h.2.2.2) (λ_=>WK rfl rfl) _
theorem CTE(a:GY)(h:pIns a.g.length a.l a.x a.y):CLE a:=by
 rw[COD]<;> delta JT qD XL EE EC DP GD JG CS AO Mo KO AR CG AK BV BZ CM AQ BU DD ES LX EF Ba UT BK DZ Iv CI EZ FB LZ EU LM IY XS Jt JW XZ Na NC AG GT GV DG AF AT AH FF CA CF BH AM BL GQ SC AP HA BR AS AW DF DX HV EO DU CR AX BP BC HH CQ HL AN AL RI JZ AZ Bl yO EP GI BE ED BW HU EL Lx GC HI CX JD FZ JA HG JB CL RJ CU EA EX Ab HY sZ NU FU DV EM sO kO GF FE CB BN EW FM FK FD LN PX HC uZ IT LL KJ FL OG CE EV BS FH HN BB AND RN DJ Ly ME Fj ARE JJ Ok RV ZO NR YF KX qY AGU In Rd XG aN NP Cj JR Fg UJ Fe Co Dr Ia XF YL Rk Dk VJ Om PI Gj Pb Kf Zk Cd Iu lO Rs;simp only[CC,eq_self,implies_true,forall_const]
 obtain⟨h0,hr,⟨h1,h2⟩,hu⟩:=h
 have hx:IntKind.i64.wrap ((a.x:Int)+1)=((a.x+1:Nat):Int):=by rw[JH (by omega) (by omega)];omega
 refine⟨⟨a.x+1,⟨hx.symm,λ_ _=>by rw[AVZ]⟩,Nat.lt_succ_self _,.inr rfl⟩,λi ⟨i1,i2⟩=>⟨λhlt=>?_,λhge=>λk hk=>?_⟩⟩
 ·have hL:=UR (key:=CY a.g) (l:=a.l) (show a.x<=i by omega)
  refine⟨⟨⟨i,i⟩,⟨rfl,rfl,λk hk=>by rw[AKC (Nat.le_refl _) (Nat.le_succ _) (.inl rfl)]⟩,rfl,i1,by show i<a.y;omega,⟨by show a.x<=i;omega,Nat.le_refl _⟩,λk k1 k2=>by have k1:i<=k:=k1;have k2:k<i:=k2;omega⟩,λy ⟨y1,y2,y3,⟨y4,y5⟩,y6⟩=>?_⟩
  have hl:=UR (key:=CY a.g) (l:=a.l) (show a.x<=y.a by omega)
  have hp:(GO (CY a.g) a.l a.x y.a).Perm a.l:=YU (by omega)
  have e0:gD (GO (CY a.g) a.l a.x y.a) y.a=gD a.l y.a:=Av (by omega) (by omega) (.inr (Nat.le_refl _))
  have hrt:inR a.g.length (KA (GO (CY a.g) a.l a.x y.a) y.b y.a (y.a+1)):=Hh (Hh hr hp) (pK y5 (by omega) (by omega))
  have hrl:=TF (GO (CY a.g) a.l a.x y.a) y.b y.a (y.a+1)
  have ea:gD (KA (GO (CY a.g) a.l a.x y.a) y.b y.a (y.a+1)) y.b=gD a.l y.a:=by rw[BME y5 (by omega),e0]
  have wb:(y.b:Int)>a.x->IntKind.i64.wrap ((y.b:Int)-1)=((y.b-1:Nat):Int):=λhb=>by rw[JH (by omega) (by omega)];omega
  have eb:y.b>a.x->gD (KA (GO (CY a.g) a.l a.x y.a) y.b y.a (y.a+1)) (y.b-1)=gD (GO (CY a.g) a.l a.x y.a) (y.b-1):=λhb=>BEE y5 (by omega) (by omega)
  refine⟨⟨λhb=>⟨by omega,by omega⟩,λhb=>by omega,λhb=>by rw[wb hb];omega,λhb=>by rw[wb hb,Int.toNat_natCast];omega,λhb=>⟨hrt _ (CV (by omega)),by rw[wb hb,Int.toNat_natCast];exact hrt _ (CV (by omega))⟩⟩,λhc=>?_,λhc=>?_⟩
  ·have hb:(y.b:Int)>a.x:=by
    cases hd:decide ((y.b:Int)>a.x) with
    |false=>rw[hd] at hc;cases hc
    |true=>exact of_decide_eq_true hd
   rw[decide_eq_true hb] at hc
   have hc:decide (Oz (CY a.g (gD (KA (GO (CY a.g) a.l a.x y.a) y.b y.a (y.a+1)) y.b)) (CY a.g (gD (KA (GO (CY a.g) a.l a.x y.a) y.b y.a (y.a+1)) (IntKind.i64.wrap ((y.b:Int)-1)).toNat))<0)=true:=hc
   have hc:=Tb.1 (of_decide_eq_true hc)
   rw[wb hb] at hc ⊢
   simp only[Int.toNat_natCast] at hc ⊢
   rw[ea,eb (by omega)] at hc
   refine⟨⟨⟨by omega,by omega⟩,by omega,⟨by omega,by omega⟩,by omega,⟨by omega,by omega⟩,by omega,⟨by omega,by omega⟩,by omega⟩,⟨y.a,y.b-1⟩,⟨rfl,rfl,λk hk=>by show gD (KA (GO (CY a.g) a.l a.x y.a) (y.b-1) y.a (y.a+1)) k=_;exact BOC (by omega) y5 (by omega) (by omega)⟩,⟨y1,y2,y3,⟨by show a.x<=y.b-1;omega,by show y.b-1<=y.a;omega⟩,λk k1 k2=>?_⟩,by show y.b-1<_;omega⟩
   by_cases e:k=y.b-1
   ·rw[e];exact hc
   ·exact y6 k (by have k1:y.b-1<=k:=k1;omega) k2
  ·have hstop:a.x<y.b->¬CY a.g (gD a.l y.a)<CY a.g (gD (GO (CY a.g) a.l a.x y.a) (y.b-1)):=λhb q=>by
    have hb':(y.b:Int)>a.x:=by omega
    rw[decide_eq_true hb'] at hc
    have hc:decide (Oz (CY a.g (gD (KA (GO (CY a.g) a.l a.x y.a) y.b y.a (y.a+1)) y.b)) (CY a.g (gD (KA (GO (CY a.g) a.l a.x y.a) y.b y.a (y.a+1)) (IntKind.i64.wrap ((y.b:Int)-1)).toNat))<0)=false:=hc
    have hc:=of_decide_eq_false hc
    rw[Tb,wb hb',Int.toNat_natCast,ea,eb hb] at hc
    exact hc q
   have hs:=oU (key:=CY a.g) (l:=a.l) (show a.x<=y.a by omega) (by omega)
   have E:KA (GO (CY a.g) a.l a.x y.a) y.b y.a (y.a+1)=GO (CY a.g) a.l a.x (y.a+1):=by
    rw[<-CLG (key:=CY a.g) (l:=a.l) (a:=a.x) (i:=y.a) (b:=y.a+1) (by omega) (by omega) (by omega)]
    refine BHF (by omega) y4 y5 hs (λp q p1 p2 q1 q2 _=>?_) (λk k1 k2=>?_) (λk k1 k2=>by rw[e0];exact y6 k k1 k2)
    ·have:q=y.a:=by omega
     subst this
     obtain⟨p',r1,r2,r3⟩:=tQ (key:=CY a.g) (l:=a.l) (show a.x<=y.a by omega) (by omega) p1 p2
     rw[r3,e0];exact hu p' y.a r1 r2 y3
    ·rw[e0]
     have q1:=hstop (by omega)
     by_cases e:k=y.b-1
     ·rw[e];exact q1
     ·have:=sY (hs k (y.b-1) k1 (by omega) (by omega));omega
   exact⟨y.a+1,⟨(CN (by omega)).symm,λk hk=>by rw[E]⟩,⟨by omega,.inl (by omega)⟩,by omega⟩
 ·rcases i2 with i2 | i2
  ·rw[show i=a.y by omega]
  ·by_cases e:a.y=a.x+1
   ·rw[i2,e]
   ·rw[i2,AVZ,show a.y=a.x by omega,cY]
theorem CPC:AJ Try.prog BGG (C_ins.spec dGY):=VD C_ins CKN [] [] CHY (λ_=>by kernel_rfl) (λ_=>AC BZD AE) (λ(a:GY) h=>CTE a h) (λ_=>WK rfl rfl) _
end Go.Bal
