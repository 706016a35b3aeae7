/- Package rating: the reference: flow, Flow, Reaches. -/
import Derived.Test.YtpidmmilfdcepaaGreatRLn4
set_option linter.unusedVariables false
set_option linter.unusedSimpArgs false
namespace Go.Bal
open Go Go.Sym Go.Proofs
structure GT where
 g:List Gau
 t:Int
def dGT:List AVal->Heap->Option (GT×List (Nat×Nat)×List Nat)
 |[x,.d t],H=>match Ht x H with
  |some (l,f)=>some (⟨l,EG t⟩,[],f)
  |none=>none
 |_,_=>none
def C_rFw:Ctr:={ α:=GT,xs:=λa=>[.d (AT a.g),.int a.t],val:=λa=>.d (eBnd (RP a.g a.t)),pre:=λa=>[a.g.length<1073741824/\(∀g∈a.g,IT g)/\nM a.g/\Can a.g/\0<=a.t/\a.t<=2000] }
structure FwS where
 i:Nat
 k:Nat
 lo:Rt
 hi:Rt
 deriving Inhabited
def fwH(x:FwS):List (Nat×HCell):=[(1000,.live (.box [.int 0,.int 0,.int 0,.int 0])),(2048,.live (.box [.int x.lo.n,.int x.lo.d,.int x.hi.n,.int x.hi.d]))]
def fwSl(a:GT)(x:FwS):List (Nat×AVal):=[(0,.d (AT a.g)),(1,.int a.t),(4,.bptr 1000 0),(5,.bptr 2048 0),(6,.int x.i)]
def rfw3(a:GT):Shape:={ α:=FwS,dflt:=default,T:=λx=>⟨fwSl a x,fwH x⟩,inv:=λx=>x.k=0/\x.i<=a.g.length/\flI a.g a.t x.i 0 x.lo x.hi,meas:=λx=>a.g.length-x.i }
def CYB(a:GT)(m:Nat):Shape:={ α:=FwS,dflt:=default,T:=λx=>⟨fwSl a x ++ [(9,.int x.k)],fwH x⟩,inv:=λx=>a.g.length-x.i=m/\x.i<a.g.length/\x.i<x.k/\x.k<=a.g.length/\flI a.g a.t x.i x.k x.lo x.hi,meas:=λx=>a.g.length-x.k }
def CZX(a:GT)(m:Nat):Shape:={ α:=FwS,dflt:=default,T:=λx=>⟨fwSl a x,fwH x⟩,inv:=λx=>x.k=0/\a.g.length-x.i=m/\x.i<a.g.length/\flI a.g a.t x.i (x.i+1) x.lo x.hi,meas:=λ_=>0 }
def rfw8(a:GT)(m:Nat):Shape:={ α:=FwS,dflt:=default,T:=λx=>⟨fwSl a x ++ [(8,.bptr 6240 0)],fwH x ++ [(6240,.live (.box [.int (gD a.g x.i).hi,.int 1]))]⟩,inv:=λx=>x.k=0/\a.g.length-x.i=m/\x.i<a.g.length/\MaxR (loO a.g a.t x.i (x.i+1)) (loQ a.g a.t) x.lo/\MinR (hiO a.g a.t x.i 0) (hiQ a.g a.t) x.hi,meas:=λ_=>0 }
def CQO(a:GT):Ann:={ ann 116 [(66,tY),(119,BQH),(62,AJY)] with loops:=λid=>if id=3 then some [rfw3 a] else none,inner:=λgs id=>if id=11 then some [CYB a (gs.getD 0 0)] else none,cutIn:=λgs id=>if id=8 then some [rfw8 a (gs.getD 0 0)] else if id=10 then some [CZX a (gs.getD 0 0)] else none }
def CNP(a:GT):Prop:=AS ZP (CQO a) Tryz.f84 (AE Tryz.f84) (C_rFw.xs a) (AB []) (C_rFw.val a) [] [] []
abbrev jB:=@Exists FwS
abbrev VX:=GT.g
abbrev SZ:=GT.t
abbrev LC:=FwS.i
abbrev Lg:=FwS.lo
abbrev Kf:=FwS.hi
abbrev GJ:=FwS.k
abbrev BDT:=λ(f:FwS->Prop)=>∀(x:FwS),f x
abbrev WM a:=CH (VX a)
abbrev Bj a b c d e f g:=MinR (hiO (VX a) (SZ b) (LC c) d) (hiQ (VX e) (SZ f)) (Kf g)
abbrev ZZ a b c d e f g:=MaxR (loO (VX a) (SZ b) (LC c) d) (loQ (VX e) (SZ f)) (Lg g)
abbrev ALT a b:=FF a (WM b)
abbrev gC a:=HE (GJ a)
abbrev BBL a b:=Fs (Kf a) b
abbrev pQ a b:=BBL a (Kf b)
abbrev BAP a b:=Gc (Kf a) b
abbrev lJ a b:=BAP a (Kf b)
abbrev AUL a b:=Fs (Lg a) b
abbrev qC a b:=AUL a (Lg b)
abbrev BCO a b:=Gc (Lg a) b
abbrev rP a b:=BCO a (Lg b)
abbrev O8 a:=AP (VX a)
abbrev W0 a:=BQ (VX a)
abbrev vM a b:=ALT (GJ a) b
abbrev uK a b:=FC (LC a) (GJ b)
abbrev Kt a b:=Ki (LC a) (VX b)
abbrev Jv a b c:=IZ (WM a) (LC b) (LC c)
abbrev Yw a b:=AI (LC a) (LC b)
abbrev rG a:=AK (SZ a)
abbrev BMX a b:=sU (VX a) b
abbrev Tu a b:=BMX a (GJ b)
abbrev Tw a b:=BMX a (LC b)
abbrev Yt a b:=BL (VX a) b
abbrev BLZ a b:=DG (VX a) b
abbrev uQ a b:=BLZ a (LC b)
abbrev gE a:=CN (LC a)
attribute [go_sem] jB VX SZ LC Lg Kf GJ BDT WM Bj ZZ ALT gC BBL pQ BAP lJ AUL qC BCO rP O8 W0 vM uK Kt Jv Yw rG BMX Tu Tw Yt BLZ uQ gE
theorem CWG(a:GT):(CNP a)=(And (jB (λi=>AR (Gn (W0 a) (O8 a) (SZ a) (ZU (BX (LC i)) (CL (MH (Lg i))) (fN (Lg i)) (vG (Kf i) 200000) (fN (Kf i)))) (gC i) (ALT (LC i) a) (ZZ a a i 0 a a i) (Bj a a i 0 a a i))) (BDT (λi=>YH (BD (gC i) (ALT (LC i) a) (ZZ a a i 0 a a i) (Bj a a i 0 a a i)) (LC i) (WM a) (YE (CR (LC i) (WM a)) (BO (LC i)) (Wr (BO (LC i)) (WM a))) (Qv (LC i) (WM a) (HZ (EP (hd7 (Yt a (LC i)) (SZ a)) (lR (Lg i) (DF (VX a) (LC i)))) (jB (λj=>AW (AW (W0 a) (O8 a) (rG a) (Yw j i) BB (Ld BB BB (vG (Lg j) (DF (VX a) (LC i))) (fN (Lg j)) (lJ j i) (pQ j i) (BM (uQ a j) (uQ a i)) (JQ 1))) (gC j) (Jv a j i) (Kt j a) (ZZ a a j (gE j) a a j) (Bj a a j 0 a a j))) (jB (λj=>AW (AW (W0 a) (O8 a) (rG a) (Yw j i) BB (Ld BB BB (rP j i) (qC j i) (lJ j i) (pQ j i) (BM (uQ a j) (uQ a i)) (JQ 1))) (gC j) (Jv a j i) (Kt j a) (ZZ a a j (gE j) a a j) (Bj a a j 0 a a j))))) (BDT (λj=>LZ (AR (gC j) (Jv a j i) (Kt j a) (ZZ a a j (gE j) a a j) (Bj a a j 0 a a j)) (Qv (LC j) (WM a) (HZ (EP (hd6 (Yt a (LC j)) (SZ a)) (iX (Rz (uQ a j)) (Kf j))) (jB (λk=>AW (Gn (W0 a) (O8 a) (SZ a) (ZU (Yw k j) (rP k j) (qC k j) (vG (Kf k) (uQ a j)) (fN (Kf k)))) (gC k) (Jv a k i) (Kt k a) (ZZ a a k (gE k) a a k) (Bj a a k (gE k) a a k))) (jB (λk=>AW (Gn (W0 a) (O8 a) (SZ a) (ZU (Yw k j) (rP k j) (qC k j) (lJ k j) (pQ k j))) (gC k) (Jv a k i) (Kt k a) (ZZ a a k (gE k) a a k) (Bj a a k (gE k) a a k))))) (BDT (λk=>LZ (AR (gC k) (Jv a k i) (Kt k a) (ZZ a a k (gE k) a a k) (Bj a a k (gE k) a a k)) (jB (λl=>CY (XC (VX a) (rG a) (Yw l k) (ZU (AJ (GJ l) (LC k)) (rP l k) (qC l k) (lJ l k) (pQ l k))) (Jv a l i) (Kt l a) (uK l l) (vM l a) (ZZ a a l (GJ l) a a l) (Bj a a l (GJ l) a a l))) (BDT (λl=>AGN (AW (Jv a l i) (Kt l a) (uK l l) (vM l a) (ZZ a a l (GJ l) a a l) (Bj a a l (GJ l) a a l)) (GJ l) (WM a) (YE (CR (GJ l) (WM a)) (BO (LC l)) (Wr (BO (LC l)) (WM a))) (VS (Yt a (GJ l)) (Yt a (LC l))) (jB (λm=>EO (XC (VX a) (rG a) (Yw m l) (ZU (AJ (GJ m) (GJ l)) (rP m l) (qC m l) (lJ m l) (pQ m l))) (AW (Jv a m i) (Kt m a) (uK m m) (vM m a) (ZZ a a m (GJ m) a a m) (Bj a a m (GJ m) a a m)) (WM a) (GJ m) (GJ l))) (TC (CY (CR (LC l) (WM a)) (CR (GJ l) (WM a)) (vB (FJ (Yt a (LC l))) (Yt a (LC l)) (DF (VX a) (LC l)) (uQ a l)) (vB (FJ (Yt a (GJ l))) (Yt a (GJ l)) (DF (VX a) (GJ l)) (BLZ a (GJ l))) (OB (Yt a (LC l)) (Yt a (GJ l))) (FJ (SZ a)) (VF (SZ a))) (iX (Lg l) (sI (Tw a l) (Tu a l) (SZ a))) (HZ (iX (jE (Tw a l) (Tu a l) (SZ a)) (Kf l)) (jB (λm=>EO (XC (VX a) (rG a) (Yw m l) (ZU (AJ (GJ m) (GJ l)) (BCO m (sI (Tw a l) (Tu a l) (SZ a))) (AUL m (sI (Tw a l) (Tu a l) (SZ a))) (BAP m (jE (Tw a l) (Tu a l) (SZ a))) (BBL m (jE (Tw a l) (Tu a l) (SZ a))))) (AW (Jv a m i) (Kt m a) (uK m m) (vM m a) (ZZ a a m (GJ m) a a m) (Bj a a m (GJ m) a a m)) (WM a) (GJ m) (GJ l))) (jB (λm=>EO (XC (VX a) (rG a) (Yw m l) (ZU (AJ (GJ m) (GJ l)) (BCO m (sI (Tw a l) (Tu a l) (SZ a))) (AUL m (sI (Tw a l) (Tu a l) (SZ a))) (lJ m l) (pQ m l))) (AW (Jv a m i) (Kt m a) (uK m m) (vM m a) (ZZ a a m (GJ m) a a m) (Bj a a m (GJ m) a a m)) (WM a) (GJ m) (GJ l)))) (HZ (iX (jE (Tw a l) (Tu a l) (SZ a)) (Kf l)) (jB (λm=>EO (XC (VX a) (rG a) (Yw m l) (ZU (AJ (GJ m) (GJ l)) (rP m l) (qC m l) (BAP m (jE (Tw a l) (Tu a l) (SZ a))) (BBL m (jE (Tw a l) (Tu a l) (SZ a))))) (AW (Jv a m i) (Kt m a) (uK m m) (vM m a) (ZZ a a m (GJ m) a a m) (Bj a a m (GJ m) a a m)) (WM a) (GJ m) (GJ l))) (jB (λm=>EO (XC (VX a) (rG a) (Yw m l) (ZU (AJ (GJ m) (GJ l)) (rP m l) (qC m l) (lJ m l) (pQ m l))) (AW (Jv a m i) (Kt m a) (uK m m) (vM m a) (ZZ a a m (GJ m) a a m) (Bj a a m (GJ m) a a m)) (WM a) (GJ m) (GJ l))))) (jB (λm=>EO (Gn (W0 a) (O8 a) (SZ a) (ZU (AJ (LC m) (LC l)) (rP m l) (qC m l) (lJ m l) (pQ m l))) (BD (gC m) (ALT (LC m) a) (ZZ a a m 0 a a m) (Bj a a m 0 a a m)) (WM a) (LC m) (LC i))))))))) (AR (AMZ (AO (Ii (L6 (Lg i)) (QA (Lg i)) 4000000) (KO (-2305843009213693952) (MH (Lg i))) (Ze (MH (Lg i)))) (Ii (L6 (Kf i)) (QA (Kf i)) 4000000) (-2305843009213693952) (MH (Kf i)) (Ze (MH (Kf i)))) (BM (MV (RP (VX a) (SZ a))) (oP (Lg i))) (BM (OO (RP (VX a) (SZ a))) (P4 (Lg i))) (BM (NS (RP (VX a) (SZ a))) (oP (Kf i))) (BM (NT (RP (VX a) (SZ a))) (P4 (Kf i))))))):=by kernel_rfl
def C_rFlow:Ctr:={ α:=GBt,xs:=xGBt,L:=λ_=>[],val:=λa=>.tup [.d (eBnd (KN a)),.int (EW a)],keep:=λ_=>[],pre:=λa=>[a.g.length<1073741824/\a.b.length<1073741824] }
def BTX:Ann:=ann 33 [(70,C_rAsk.spec dGB),(56,Rw),(63,C_rPart.spec dIX),(72,C_rIns.spec dGBI),(71,C_rPb.spec NU),(84,C_rFw.spec dGT)]
def BPH(a:GBt):Prop:=AS ZP BTX Tryz.f40 (AE Tryz.f40) (xGBt a) (AB []) (C_rFlow.val a) [] [] []
abbrev BSU:=@Exists Ln
abbrev APG:=Rl.num
abbrev AYK a b:=tB (Lq a) b
abbrev AEA a:=AYK a (RN a)
abbrev ZY a b c:=ALH (YC a) (Lq b) (AEA c)
abbrev X1 a:=Rl.w (HM a)
attribute [go_sem] BSU APG AYK AEA ZY X1
theorem CAV(a:GBt):(BPH a)=(Sa (AW (uX a a) (vQ a a) (Iz a) (Kc a) (KV (YC a)) (MB (Lq a))) (wP a a) (Rn (rD a) (rN a) (oT a) (oJ a) (pP a (wP a a))) (HZ (XP (RN a)) (Rn (rD a) (rN a) (oT a) (oJ a) (pP a 4)) (AO (AO (Iz a) (Kc a) (BK (AK (RN a)) (P1 (Lq a)) (uX a a) (vQ a a) (Iz a) (Kc a) (BP (KB (Lq a) (RN a))) (KV (YC a)) (MB (Lq a)))) (AR (AY (Et (YC a) (Lq a) (AEA a))) (BJ (Et (YC a) (Lq a) (AEA a))) (KV (ZY a a a)) (Pb (ZY a a a)) (Tj (λj i=>YG j i i (ZY a a a) (pZ (BL (ZY a a a) j) (ZY a a a) i)))) (Uk (Us (ZY a a a)) (Rn (rD a) (rN a) (oT a) (oJ a) (pP a 6)) (AW (S9 (AY (Et (YC a) (Lq a) (AEA a))) (BJ (Et (YC a) (Lq a) (AEA a))) (AK (RN a)) (KV (ZY a a a)) (Pb (ZY a a a)) (Tj (λj i=>YG j i i (ZY a a a) (pZ (BL (ZY a a a) j) (ZY a a a) i))) (BSU (λi=>And (HX i) (AID (λj=>aR j (ZY a a a) (Ii (KO (hd75 (tE j) (X1 i)) (APG (HM i) (Wk j))) (APG (HM i) (Wk j)) (hd75 (Qo j) (X1 i))))))) (RN a)) (BM (rD a) (MV (RP (ZY a a a) (RN a)))) (BM (rN a) (OO (RP (ZY a a a) (RN a)))) (BM (oT a) (NS (RP (ZY a a a) (RN a)))) (BM (oJ a) (NT (RP (ZY a a a) (RN a)))) (CL (ADA a))))))):=by kernel_rfl
structure RcA where
 a:GBt
 u:Bool
 x:Ln
def dRcA:List AVal->Heap->Option (RcA×List (Nat×Nat)×List Nat)
 |[x,y,.d t,.d u,.d z],H=>match Ht x H,Xt y H with
  |some (l,f),some (m,e)=>some (⟨⟨l,m,EG t⟩,CGC u,dLn z⟩,[],f ++ e)
  |_,_=>none
 |_,_=>none
def rcS(a:RcA):List Gau:=SB a.a.g a.a.b (KB a.a.b a.a.t)
def C_rRch:Ctr:={ α:=RcA,xs:=λa=>[.d (AT a.a.g),.d (AZ a.a.b),.int a.a.t,.bool a.u,.d (eLn a.x)],val:=λ_=>.bool true,pre:=λa=>[(a.a.g.length<1073741824/\a.a.b.length<1073741824)/\EW a.a=0/\MI a.x/\(∀g∈rcS a,NJ a.x g=true)/\Cf (Ct a.x a.a.t)=(bif a.u then (KN a.a).hi else (KN a.a).lo)] }
def rc6(a:RcA):Shape:={ α:=Nat,dflt:=0,T:=λi=>⟨[(2,.int a.a.t),(3,.bool a.u),(9,.bptr 1000 0),(11,.bptr 2112 0),(13,.d (AT (rcS a))),(14,.int i)],[(1000,.live (.box [.int a.x.a0,.int a.x.a1,.int a.x.b0,.int a.x.b1])),(2112,.live (.box [.int (KN a.a).lo.n,.int (KN a.a).lo.d,.int (KN a.a).hi.n,.int (KN a.a).hi.d]))]⟩,inv:=λi=>i<=(rcS a).length,meas:=λi=>(rcS a).length-i }
def BZU(a:RcA):Ann:={ ann 83 [(40,C_rFlow.spec G7),(58,zR),(63,C_rPart.spec dIX),(72,C_rIns.spec dGBI),(60,jI),(66,tY),(62,AJY)] with loops:=λid=>if id=6 then some [rc6 a] else none }
def CGL(a:RcA):Prop:=AS ZP (BZU a) Tryz.f42 (AE Tryz.f42) (C_rRch.xs a) (AB []) (.bool true) [] [] []
abbrev Cl:=RcA.a
abbrev bP:=RcA.x
abbrev Nj a:=AQP (Cl a)
abbrev AKW a b:=pT (bP a) b
abbrev aC a:=RN (Cl a)
abbrev Ol a b:=AKW a (aC b)
abbrev O9 a:=Lq (Cl a)
abbrev lQ a:=YC (Cl a)
attribute [go_sem] Cl bP Nj AKW aC Ol O9 lQ
theorem CIP(a:RcA):(CGL a)=(TC (CY (AYG (lQ a) (Cl a)) (BAD (lQ a) (Cl a)) (Iz (Cl a)) (Kc (Cl a)) (AK (aC a)) (KV (lQ a)) (MB (O9 a))) (JR (RR (ADA (Wp (Cl a)))) (kK (bP a))) Un (WX (AO (Iz (Cl a)) (Kc (Cl a)) (BK (AK (aC a)) (P1 (O9 a)) (AYG (lQ a) (Cl a)) (BAD (lQ a) (Cl a)) (Iz (Cl a)) (Kc (Cl a)) (BP (KB (O9 a) (aC a))) (KV (lQ a)) (MB (O9 a)))) (EI (λi=>XV (AR (AK (aC a)) (jL (RcA.u a)) (HQ (rcS a) (Et (lQ a) (O9 a) (AYK (Cl a) (aC a)))) (EK (rcS a) (Et (lQ a) (O9 a) (AYK (Cl a) (aC a)))) (BK (BX i) (Q9 (bP a)) (Su (bP a)) (AFP (bP a)) (Sj (bP a)) (BM (MV (Nj a)) (rD (Wp (Cl a)))) (BM (OO (Nj a)) (rN (Wp (Cl a)))) (BM (NS (Nj a)) (oT (Wp (Cl a)))) (BM (NT (Nj a)) (oJ (Wp (Cl a)))))) i (CH (rcS a)))) (λi=>YH (Ko i (CH (rcS a))) i (CH (rcS a)) (BD (PH i (rcS a)) (HX (bP a)) (FJ (BL (rcS a) i)) (VF (BL (rcS a) i))) (Qv i (CH (rcS a)) (Pa (lR (AKW a (BL (rcS a) i)) (DF (rcS a) i)) (PH i (rcS a)))) (Tp (lR (AKW a (BL (rcS a) i)) (DF (rcS a) i)) (iX (Rz (DG (rcS a) i)) (AKW a (BL (rcS a) i))) (EI (λj=>Bm (AR (AK (aC a)) (jL (RcA.u a)) (BQ (rcS a)) (AP (rcS a)) (BK (AJ j i) (Q9 (bP a)) (Su (bP a)) (AFP (bP a)) (Sj (bP a)) (AK (MV (Nj a))) (AK (OO (Nj a))) (AK (NS (Nj a))) (AK (NT (Nj a))))) j (CH (rcS a)) j i))) (FD (RcA.u a) (xB (HX (bP a)) (UW (aC a)) (Ii (L6 (Ol a a)) (QA (Ol a a)) 4000000) (-2305843009213693952) (MH (Ol a a)) (Ze (MH (Ol a a)))) (Va aN (Mm (VS (oP (Ol a a)) (NS (Nj a))) (VS (P4 (Ol a a)) (NT (Nj a))))) (Wo (xB (HX (bP a)) (UW (aC a)) (Ii (L6 (Ol a a)) (QA (Ol a a)) 4000000) (-2305843009213693952) (MH (Ol a a)) (Ze (MH (Ol a a)))) aN (Mm (VS (oP (Ol a a)) (MV (Nj a))) (VS (P4 (Ol a a)) (OO (Nj a))))))))):=by kernel_rfl
theorem DBF(a:GT)(h:a.g.length<1073741824)(ho:∀g∈a.g,IT g)(ha:nM a.g)(hc:Can a.g)(ht:0<=a.t/\a.t<=2000):CNP a:=by
 rw[CWG]<;> dsimp only[go_sem];simp only[CC,CU]
 have lo1:∀(x:FwS),(x.i:Int)<a.g.length->MaxR (loO a.g a.t x.i 0) (loQ a.g a.t) x.lo->∀c:Bool,(bif decide ((gD a.g x.i).st<=a.t) then belR x.lo ⟨(gD a.g x.i).lo,1⟩ else false)=c->MaxR (loO a.g a.t x.i (x.i+1)) (loQ a.g a.t) (bif c then⟨(gD a.g x.i).lo,1⟩ else x.lo):=λx hx hm c hcc=>by
  have:=CRW ho (show x.i<a.g.length by omega) hm
  rw[show (bif decide ((gD a.g x.i).st<=a.t) then Qe x.lo ⟨(gD a.g x.i).lo,1⟩ else false)=c from hcc] at this
  exact this
 have hi1:∀(x:FwS),x.i<a.g.length->MinR (hiO a.g a.t x.i 0) (hiQ a.g a.t) x.hi->∀c:Bool,(bif decide ((gD a.g x.i).st>=a.t) then belR ⟨(gD a.g x.i).hi,1⟩ x.hi else false)=c->MinR (hiO a.g a.t x.i (x.i+1)) (hiQ a.g a.t) (bif c then⟨(gD a.g x.i).hi,1⟩ else x.hi):=λx hx hm c hcc=>by
  have:=CTI ho hx hm
  rw[show (bif decide ((gD a.g x.i).st>=a.t) then Qe ⟨(gD a.g x.i).hi,1⟩ x.hi else false)=c from hcc] at this
  exact this
 have D2:∀(w:FwS),(w.k:Int)<a.g.length->((gD a.g w.k).st==(gD a.g w.i).st)=false->w.i<w.k->(gD a.g w.i).st<(gD a.g w.k).st:=λw h1 h2 h3=>by
  have e1:=ha w.i w.k (by omega) (by omega)
  have e2:¬(gD a.g w.k).st=(gD a.g w.i).st:=by simpa using h2
  omega
 have lo2:∀(w:FwS),(w.k:Int)<a.g.length->((gD a.g w.k).st==(gD a.g w.i).st)=false->w.i<w.k->MaxR (loO a.g a.t w.i w.k) (loQ a.g a.t) w.lo->∀c:Bool,belR w.lo (U0 (gD a.g w.i) (gD a.g w.k) a.t)=c->MaxR (loO a.g a.t w.i (w.k+1)) (loQ a.g a.t) (bif c then U0 (gD a.g w.i) (gD a.g w.k) a.t else w.lo):=λw h1 h2 h3 hm c hcc=>by
  have:=CTX ho ht h3 (by omega) (D2 w h1 h2 h3) hm
  rw[show Qe w.lo (U0 (gD a.g w.i) (gD a.g w.k) a.t)=c from hcc] at this
  exact this
 have hi2:∀(w:FwS),(w.k:Int)<a.g.length->((gD a.g w.k).st==(gD a.g w.i).st)=false->w.i<w.k->MinR (hiO a.g a.t w.i w.k) (hiQ a.g a.t) w.hi->∀c:Bool,belR (U8 (gD a.g w.i) (gD a.g w.k) a.t) w.hi=c->MinR (hiO a.g a.t w.i (w.k+1)) (hiQ a.g a.t) (bif c then U8 (gD a.g w.i) (gD a.g w.k) a.t else w.hi):=λw h1 h2 h3 hm c hcc=>by
  have:=CUA ho ht h3 (by omega) (D2 w h1 h2 h3) hm
  rw[show Qe (U8 (gD a.g w.i) (gD a.g w.k) a.t) w.hi=c from hcc] at this
  exact this
 refine⟨⟨⟨0,0,⟨0,1⟩,⟨200000,1⟩⟩,⟨rfl,rfl,rfl,rfl,rfl⟩,rfl,Nat.zero_le _,CYX _ _⟩,λx ⟨x1,x2,x3,x4⟩=>⟨λhlt=>⟨⟨by omega,by omega⟩,⟨⟨by omega,by omega⟩,λc=>⟨⟨x.i,0,⟨(gD a.g x.i).lo,1⟩,x.hi⟩,⟨rfl,rfl,rfl,rfl,rfl,rfl⟩,rfl,rfl,by show x.i<_;omega,lo1 x hlt x3 true c,x4⟩,λc=>⟨⟨x.i,0,x.lo,x.hi⟩,⟨rfl,rfl,rfl,rfl,rfl,rfl⟩,rfl,rfl,by show x.i<_;omega,lo1 x hlt x3 false c,x4⟩⟩,λy ⟨y1,y2,y3,y4,y5⟩=>⟨⟨⟨by omega,by omega⟩,λc=>⟨⟨y.i,0,y.lo,⟨(gD a.g y.i).hi,1⟩⟩,⟨rfl,rfl,rfl,rfl,rfl⟩,rfl,y2,y3,y4,hi1 y y3 y5 true c⟩,λc=>⟨⟨y.i,0,y.lo,y.hi⟩,⟨rfl,rfl,rfl,rfl,rfl⟩,rfl,y2,y3,y4,hi1 y y3 y5 false c⟩⟩,λz ⟨z1,z2,z3,z4,z5⟩=>⟨⟨⟨z.i,z.i+1,z.lo,z.hi⟩,⟨rfl,(BF (by omega)).symm,rfl,rfl,rfl,rfl⟩,z2,z3,Nat.lt_succ_self _,by show z.i+1<=_;omega,z4,z5⟩,λw ⟨w1,w2,w3,w4,w5,w6⟩=>⟨λhlt2=>⟨⟨⟨by omega,by omega⟩,by omega,by omega⟩,λce=>?_,λce=>⟨⟨⟨by omega,by omega⟩,⟨by omega,by omega⟩,ho _ (BU w2),ho _ (BU (by omega)),D2 w hlt2 ce w3,ht⟩,λc=>⟨λd=>⟨⟨w.i,w.k+1,U0 (gD a.g w.i) (gD a.g w.k) a.t,U8 (gD a.g w.i) (gD a.g w.k) a.t⟩,⟨rfl,(BF (by omega)).symm,rfl,rfl,rfl,rfl⟩,⟨w1,w2,Nat.lt_succ_of_lt w3,by show w.k+1<=_;omega,lo2 w hlt2 ce w3 w5 true c,hi2 w hlt2 ce w3 w6 true d⟩,by show a.g.length-(w.k+1)<_;omega⟩,λd=>⟨⟨w.i,w.k+1,U0 (gD a.g w.i) (gD a.g w.k) a.t,w.hi⟩,⟨rfl,(BF (by omega)).symm,rfl,rfl,rfl,rfl⟩,⟨w1,w2,Nat.lt_succ_of_lt w3,by show w.k+1<=_;omega,lo2 w hlt2 ce w3 w5 true c,hi2 w hlt2 ce w3 w6 false d⟩,by show a.g.length-(w.k+1)<_;omega⟩⟩,λc=>⟨λd=>⟨⟨w.i,w.k+1,w.lo,U8 (gD a.g w.i) (gD a.g w.k) a.t⟩,⟨rfl,(BF (by omega)).symm,rfl,rfl,rfl,rfl⟩,⟨w1,w2,Nat.lt_succ_of_lt w3,by show w.k+1<=_;omega,lo2 w hlt2 ce w3 w5 false c,hi2 w hlt2 ce w3 w6 true d⟩,by show a.g.length-(w.k+1)<_;omega⟩,λd=>⟨⟨w.i,w.k+1,w.lo,w.hi⟩,⟨rfl,(BF (by omega)).symm,rfl,rfl,rfl,rfl⟩,⟨w1,w2,Nat.lt_succ_of_lt w3,by show w.k+1<=_;omega,lo2 w hlt2 ce w3 w5 false c,hi2 w hlt2 ce w3 w6 false d⟩,by show a.g.length-(w.k+1)<_;omega⟩⟩⟩⟩,λhge=>⟨⟨w.i+1,0,w.lo,w.hi⟩,⟨(BF (by omega)).symm,rfl,rfl,rfl,rfl⟩,⟨rfl,by show w.i+1<=_;omega,?_⟩,by show a.g.length-(w.i+1)<_;omega⟩⟩⟩⟩⟩,λhge=>?_⟩⟩
 ·have e:(gD a.g w.k).st=(gD a.g w.i).st:=by simpa using ce
  have:=CAZ w3 e ⟨w5,w6⟩
  exact⟨⟨w.i,w.k+1,w.lo,w.hi⟩,⟨rfl,(BF (by omega)).symm,rfl,rfl,rfl,rfl⟩,⟨w1,w2,Nat.lt_succ_of_lt w3,by show w.k+1<=_;omega,this⟩,by show a.g.length-(w.k+1)<_;omega⟩
 ·have e:w.k=a.g.length:=by omega
  rw[e] at w5 w6
  exact CBK ⟨w5,w6⟩
 ·have e:x.i=a.g.length:=by omega
  rw[e] at x3 x4
  have E:=CVS ho ha ht hc ⟨x3,x4⟩
  have l0:=x3.low.1
  have h0:=x4.low.1
  obtain⟨b1,b2,b3⟩:=x3.b
  obtain⟨d1,d2,d3⟩:=x4.b
  rw[<-E]
  exact⟨⟨⟨⟨l0,by omega⟩,by omega,by omega⟩,⟨h0,by omega⟩,by omega,by omega⟩,rfl,rfl,rfl,rfl⟩
theorem BIR:AH ZP 84 (C_rFw.spec dGT):=PW C_rFw CQO [] [] Tryz.func84 (λ_=>by kernel_rfl) (λ_=>AA A3 (AA CDL (AA ANB AD))) (λ(a:GT) h=>DBF a h.1 h.2.1 h.2.2.1 h.2.2.2.1 h.2.2.2.2) (λ_=>RA rfl rfl) _
theorem CLI(a:GBt)(h1:a.g.length<1073741824)(h2:a.b.length<1073741824):BPH a:=by
 rw[CAV]<;> dsimp only[go_sem];simp only[CC,CU,show GB.mk a.g a.b=Pq a from rfl]
 have hd:¬EW a=0->KN a=default:=λh=>by unfold KN;rw[show (EW a==0)=false by simpa using h];rfl
 have hl:=iG a.g a.b (KB a.b a.t)
 refine⟨⟨h1,h2⟩,λhE=>?_,λhE=>⟨λhT=>?_,λhT=>?_⟩⟩
 ·have e:EW a=AV (Pq a):=by unfold EW;rw[show (AV (Pq a)==0)=false by simpa using hE];rfl
  rw[hd (by rw[e];simpa using hE)];exact⟨rfl,rfl,rfl,rfl,e⟩
 ·have e:EW a=4:=by unfold EW;rw[show (AV (Pq a)==0)=true by simpa using hE,show inT a=false from hT];rfl
  rw[hd (by rw[e];omega)];exact⟨rfl,rfl,rfl,rfl,e⟩
 ·have hE0:AV (Pq a)=0:=by simpa using hE
  obtain⟨f1,f2⟩:=CEI hE0 hT
  have ho:∀g∈SB a.g a.b (KB a.b a.t),IT g:=mR (Ts hE0)
  have ht:0<=a.t/\a.t<=2000:=by unfold JD at hT;simpa using hT
  refine⟨⟨h2,h1,h2⟩,⟨by omega,ho,aL _ _ _⟩,λhp=>?_,λhp=>⟨⟨by omega,ho,aL _ _ _,(Vs ho).1 hp,ht⟩,?_⟩⟩
  ·have e:=f2 hp
   rw[hd (by rw[e];omega)];exact⟨rfl,rfl,rfl,rfl,e⟩
  ·obtain⟨e,e2⟩:=f1 hp
   rw[e2];exact⟨rfl,rfl,rfl,rfl,e⟩
theorem AOP:AH ZP 40 (C_rFlow.spec G7):=PW C_rFlow (λ_=>BTX) [] [] Tryz.func40 (λ_=>by kernel_rfl) (λ_=>AA ACS (AA Vj (AA iQ (AA ABD (AA AMJ (AA BIR AD)))))) (λ(a:GBt) h=>CLI a h.1 h.2) (λ_=>RA rfl rfl) _
theorem BYV{a:GBt}(h:EW a=0):AV (Pq a)=0/\inT a=true:=by
 unfold EW at h
 cases h1:AV (Pq a)==0 with
 |false=>rw[h1] at h;rw[show AV (Pq a)=0 from h] at h1;cases h1
 |true=>
  rw[h1] at h
  cases h2:inT a with
  |false=>rw[h2] at h;cases h
  |true=>exact⟨by simpa using h1,rfl⟩
theorem CVM(a:RcA)(h:(a.a.g.length<1073741824/\a.a.b.length<1073741824)/\EW a.a=0/\MI a.x/\(∀g∈rcS a,NJ a.x g=true)/\Cf (Ct a.x a.a.t)=(bif a.u then (KN a.a).hi else (KN a.a).lo)):CGL a:=by
 rw[CIP]<;> dsimp only[go_sem];simp only[CC,CU]
 obtain⟨⟨h1,h2⟩,h3,h4,h5,h6⟩:=h
 have hx:Kv a.x=true:=by
  obtain⟨q1,q2,q3,q4,q5,q6⟩:=h4
  unfold Kv riP JD
  simp only[Bool.and_eq_true,decide_eq_true_eq];omega
 obtain⟨hE,hT⟩:=BYV h3
 have ho:∀g∈rcS a,IT g:=mR (Ts hE)
 have ht:0<=a.a.t/\a.a.t<=2000:=by unfold inT JD at hT;simpa using hT
 have hl:(rcS a).length<=a.a.g.length:=iG _ _ _
 rw[show EW (GBt.mk a.a.g a.a.b a.a.t)=0 from h3,hx]
 have hd:=AFA (t:=a.a.t) h4
 have hn:=BYY h4 ht
 have hq:0<=a.x.b0-a.x.a0/\a.x.b0-a.x.a0<=2000:=by obtain⟨q1,q2,q3,q4,q5,q6⟩:=h4;omega
 refine⟨⟨h1,h2⟩,λhc=>(by cases hc),λ_=>⟨⟨h2,h1,h2⟩,⟨0,⟨rfl,λ_ _=>⟨rfl,rfl,rfl⟩,rfl⟩,Nat.zero_le _⟩,λi hi=>⟨λhlt=>?_,λhge=>⟨λhu=>⟨⟨h4,ht,⟨hd.1,by omega⟩,hn⟩,?_⟩,λhu=>⟨⟨h4,ht,⟨hd.1,by omega⟩,hn⟩,?_⟩⟩⟩⟩⟩
 ·have hm:=BU (l:=rcS a) (show i<(rcS a).length by omega)
  have hg:=ho _ hm
  rw[AXO h4 hg,h5 _ hm]
  exact⟨⟨⟨by omega,by omega⟩,h4,hg.1,hg.2.1⟩,⟨⟨by omega,by omega⟩,λ_=>⟨by omega,by omega⟩⟩,λhc=>(by cases hc),λ_=>⟨i+1,(BF (by omega)).symm,by omega,by omega⟩⟩
 ·rw[hu] at h6;rw[h6];simp
 ·rw[hu] at h6;rw[h6];simp
theorem CLN:AH ZP 42 (C_rRch.spec dRcA):=PW C_rRch BZU [] [] Tryz.func42 (λ_=>by kernel_rfl) (λ_=>AA AOP (AA AGF (AA iQ (AA ABD (AA AJH (AA A3 (AA ANB AD))))))) (λ(a:RcA) h=>CVM a h) (λ_=>RA rfl rfl) _
end Go.Bal
