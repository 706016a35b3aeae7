/- Package rating: Stages, Dry. -/
import Derived.Test.YtpidmmilfdcepaaGreatRatL
set_option linter.unusedVariables false
set_option linter.unusedSimpArgs false
namespace Go.Bal
open Go Go.Sym Go.Proofs
structure GBf where
 a:GB
 f:Int
def dGBf:List AVal->Heap->Option (GBf×List (Nat×Nat)×List Nat)
 |[x,y,.d t],H=>match Ht x H,Xt y H with
  |some (l,f),some (m,e)=>some (⟨⟨l,m⟩,EG t⟩,[],f ++ e)
  |_,_=>none
 |_,_=>none
def xGBf(x:GBf):List AVal:=[.d (AT x.a.g),.d (AZ x.a.b),.int x.f]
def hsK:Nat->(Int->Bool)×(Int->Int)
 |0=>(λ_=>false,λ_=>0)
 |k+1=>(WA (hsK k).1 k,xG (hsK k).1 (hsK k).2 k)
def wK(a:GB)(k:Nat):Bk:=⟨a.g,a.b,(hsK k).1,(hsK k).2⟩
def G8(x:GBf)(k:Nat):Int:=upM H7 ⟨FM x.a,k,⟨x.f,1⟩⟩+1
def G1(x:GBf)(k:Nat):Int:=upM D2 ⟨FM x.a,k,⟨x.f,1⟩⟩
def lnK(a:GB)(k:Nat):List Ln:=PX (Jp (FM a) k) (DD (FM a) k).lo
def Db(x:GBf):Nat->Nat->Span->Bool->Span×Int
 |0,_,o,m=>bif m then (o,0) else (default,5)
 |n+1,k,o,m=>bif decide ((lnK x.a k).length=0) then (default,6) else bif decide (G1 x k<G8 x k) then Db x n (k+1) o m else Db x n (k+1) ⟨bif m then o.lo else G8 x k,G1 x k⟩ true
def preB(a:GB):Prop:=a.g.length<4611686018427387904/\a.b.length<4611686018427387904
def inF(x:GBf):Bool:=JD x.f 0 200000
def LU(x:GBf):Span×Int:=bif AV x.a==0 then (bif inF x then Db x (x.a.b.length+1) 0 default false else (default,4)) else (default,AV x.a)
structure KOM where
 k:Nat
 o:Span
 m:Bool
 deriving Inhabited
def bkH(w:Bk)(p q:Nat):List (Nat×HCell):=[(p,.live (bkB w q)),(q,.live (bkM w))]
def sg8(x:GBf):Shape:={ α:=KOM,dflt:=default,T:=λy=>⟨[(2,.int x.f),(6,.bptr 1000 0),(8,.bptr 2032 0),(10,.bptr 7016 0),(11,.bool y.m),(36,.int (x.a.b.length+1)),(37,.int y.k)],bkH (wK x.a y.k) 2032 2033 ++ [(1000,.live (.box [.int 0,.int 0])),(7016,.live (.box [.int y.o.lo,.int y.o.hi]))]⟩,inv:=λy=>y.k<=x.a.b.length+1/\LU x=Db x (x.a.b.length+1-y.k) y.k y.o y.m,meas:=λy=>x.a.b.length+1-y.k }
def C_Stages:Ctr:={ α:=GBf,xs:=xGBf,L:=λ_=>[],val:=λx=>.tup [.d (AHZ (LU x).1),.int (LU x).2],keep:=λ_=>[],pre:=λx=>[preB x.a/\True] }
def G_sg(c:Sym.Spec):List (FuncId×Sym.Spec):=[(67,c),(49,G4),(89,C_span.spec dBkI),(88,C_lns.spec dBkS),(90,orS ((C_up H7 91).spec (dUpI 91)) ((C_up D2 93).spec (dUpI 93)))]
def CPO(x:GBf):Ann:={ ann 75 (G_sg (C_open.spec dGB)) with loops:=λid=>if id=8 then some [sg8 x] else none }
def CMR:Ann:={ ann 75 (G_sg (C_openX.spec dGB)) with cut:=λid=>if id=6 then some [] else none }
def COD(x:GBf):Prop:=AS ZP (CPO x) Tryz.f43 (AE Tryz.f43) (xGBf x) (AB []) (C_Stages.val x) [] [] []
abbrev I1:=GBf.a
abbrev AIM:=GBf.f
abbrev BDY:=@Prod.fst Span Int
abbrev CEC:=@Prod.snd Span Int
abbrev BFI:=@Exists KOM
abbrev cL:=KOM.m
abbrev PT:=KOM.k
abbrev jG:=KOM.o
abbrev ARS:=@Eq (Prod Span Int)
abbrev ATB:=UpI.mk
abbrev AYI a:=CEC (LU a)
abbrev AZQ a:=jQ (BDY (LU a))
abbrev yR a:=AHW (jG a)
abbrev AWK a:=AHW (BDY (LU a))
abbrev dP a b c d:=Jr (AWK a) (AZQ b) (AYI c) d
abbrev uO a b:=AO a a b
abbrev LD a:=Eu (I1 a)
abbrev YD a:=ZT (LD a)
abbrev APA a b c d e f g:=BK a b c d e BB BB f g
abbrev ZI a b c d e f g h:=APA a b c d e (BM f g) h
abbrev O5 a:=Rz (AIM a)
abbrev Dm a:=BO (PT a)
abbrev BWE a b:=CHC a b b
abbrev BJJ a b:=C3 (Ej a) b
abbrev AX a b:=wK (I1 a) (PT b)
abbrev ER a b:=BJJ (AX a b) (Dm b)
abbrev Dy a b c d:=BWE (AX a b) (ER c d)
abbrev lL a:=hd54 (NP a) 1
abbrev WQ a:=AK (AIM a)
abbrev Kk a b:=BM a (XM b)
abbrev pV a b:=Fv a (jQ b)
abbrev Dh a b:=Is (AX a b)
abbrev VN a b:=Ej (AX a b)
abbrev EU a:=BXL (PO a) (PQ a)
abbrev Zz a:=EU (I1 a)
abbrev KM a:=PQ (I1 a)
abbrev KQ a:=PO (I1 a)
abbrev xL a b:=V0 (KQ a) (KM b)
abbrev Ey a:=G9 (I1 a)
attribute [go_sem] I1 AIM BDY CEC BFI cL PT jG ARS ATB AYI AZQ yR AWK dP uO LD YD APA ZI O5 Dm BWE BJJ AX ER Dy lL WQ Kk pV Dh VN EU Zz KM KQ xL Ey
theorem CVT(x:GBf):(COD x)=(TC (CY (HQ (KQ x) (Ey x)) (EK (KQ x) (Ey x)) (BC (KM x) (LD x)) (BR (KM x) (LD x)) (Fz (KQ x)) (ZS (KM x)) (CL (xL x x))) (EP (Bf 0) (qQ (AIM x) 200000)) (dP x x x 4) (And (BFI (λi=>EE (And (WQ x) (Hk (KU (cL i)) (lL (LD x)) (XM (NP (LD x))) (AR (BX (PT i)) (JJ (AX x i) (Zz x)) (JK (AX x i) (Zz x)) (JI (AX x i) (Zz x)) (APA (JM (AX x i) (Zz x)) CZ (EL (λj=>KU (bT (AX x i) j))) (LA (AX x i) (Zz x)) (EL (λj=>DI (AX x i) j (Zz x) (λk=>CP k (AX x i) j (Zz x) (CE (BA (AX x i) j k) (BA (Zz x) j k) (BE (AX x i) j k) (BE (Zz x) j k) (AX x i) j k (BZ (Zz x) j k))))) (CL (yR i)) (CL (jQ (jG i))))))) (PT i) (YD x) (ARS (LU x) (Db x (TJ (YD x) (PT i)) (PT i) (jG i) (cL i))))) ((λ(f:KOM->Prop)=>∀(x:KOM),f x) (λi=>MO (GP (PT i) (YD x) (ARS (LU x) (Db x (TJ (YD x) (PT i)) (PT i) (jG i) (cL i)))) (UO (PT i) (lL (LD x))) (AO (BP (PT i)) (Eb (AX x i)) (IY (Gd (AX x i)) (OL (Dh x i) (AX x i)) (OX (Dh x i) (AX x i)) (VO (AX x i)) (MU (AX x i)) (λj=>DI (VN x i) j (AX x i) (λk=>CP k (VN x i) j (AX x i) (CE (BA (VN x i) j k) (BA (AX x i) j k) (BE (VN x i) j k) (BE (AX x i) j k) (VN x i) j k (BZ (AX x i) j k)))) (cU (Be (AX x i)) (AX x i)) (IY (qW (Be (AX x i)) (AX x i)) (BC (Cp (AX x i)) (Dh x i)) (BR (Cp (AX x i)) (Dh x i)) (VO (AX x i)) (MU (AX x i)) (λj=>DI (AX x i) j (VN x i) (λk=>CP k (AX x i) j (VN x i) (CE (BA (AX x i) j k) (BA (VN x i) j k) (BE (AX x i) j k) (BE (VN x i) j k) (AX x i) j k (BZ (VN x i) j k)))) (YE (SF (AX x i) (Dh x i) OB) (Dm i) (gY (Dm i) (Dh x i))) (BK (BP (PT i)) (AK (Mc (VN x i) (Dm i))) (Eb (AX x i)) (Gd (AX x i)) (OL (Dh x i) (AX x i)) (OX (Dh x i) (AX x i)) CZ (VO (AX x i)) (Jf (MU (AX x i)) (λj=>DI (VN x i) j (AX x i) (λk=>CP k (VN x i) j (AX x i) (CE (BA (VN x i) j k) (BA (AX x i) j k) (BE (VN x i) j k) (BE (AX x i) j k) (VN x i) j k (BZ (AX x i) j k)))) (JJ (AX x i) (ER x i)) (JK (AX x i) (ER x i)) (JI (AX x i) (ER x i)) (JM (AX x i) (ER x i)) (SF (AX x i) (Dh x i) OB) (Mc (VN x i) (Dm i))))))) (HZ (mN (CO (BLR (VN x i) (Dm i) (Mc (VN x i) (Dm i))))) (dP x x x 6) (uO (Ag (BP (PT i)) (Eb (AX x i)) (Gd (AX x i)) (OL (Dh x i) (AX x i)) (OX (Dh x i) (AX x i)) (VO (ER x i)) (MU (ER x i)) (DO (EL (λj=>DI (Dy x i x i) j (ER x i) (λk=>CP k (Dy x i x i) j (ER x i) (CE (BA (Dy x i x i) j k) (BA (ER x i) j k) (BE (Dy x i x i) j k) (BE (ER x i) j k) (Dy x i x i) j k (BZ (ER x i) j k))))) (WQ x) (AK 1) (cU (Be (AX x i)) (AX x i)) (qW (Be (AX x i)) (AX x i)) (BC (Cp (AX x i)) (Dh x i)) (λj=>AOV j (Cp (AX x i)) (Dh x i)) CZ (BK (VO (ER x i)) (MU (ER x i)) (EL (λj=>DI (ER x i) j (Dy x i x i) (λk=>CP k (ER x i) j (Dy x i x i) (CE (BA (ER x i) j k) (BA (Dy x i x i) j k) (BE (ER x i) j k) (BE (Dy x i x i) j k) (ER x i) j k (BZ (Dy x i x i) j k))))) (WQ x) (AK 1) (SF (AX x i) (Dh x i) OB) (FJ (Dm i)) (gY (Dm i) (Dh x i)) (IN (bT (ER x i) (Dm i)))))) (HZ (Oa (XM (zV (ATB (Dy x i x i) (Dm i) (O5 x)))) (nB (ATB (Dy x i x i) (Dm i) (O5 x)))) (BFI (λj=>QS (Wx (WQ x) (Va (cL j) (cL i)) (lL (LD x)) (AJ (PT j) (PT i)) (JJ (AX x j) (AX x i)) (JK (AX x j) (AX x i)) (JI (AX x j) (AX x i)) (ZI (JM (AX x j) (AX x i)) CZ (Rj (AX x j) (ER x i)) (LA (AX x j) (ER x i)) (EL (λk=>DI (AX x j) k (ER x i) (λl=>CP l (AX x j) k (ER x i) (CE (BA (AX x j) k l) (BA (ER x i) k l) (BE (AX x j) k l) (BE (ER x i) k l) (AX x j) k l (BZ (ER x i) k l))))) (yR j) (yR i) (pV (jG j) (jG i)))) (PT j) (YD x) (ARS (LU x) (Db x (TJ (YD x) (PT j)) (PT j) (jG j) (cL j))) (PT i))) (Uk (cL i) (BFI (λj=>QS (Wx (WQ x) (IN (cL j)) (lL (LD x)) (AJ (PT j) (PT i)) (JJ (AX x j) (AX x i)) (JK (AX x j) (AX x i)) (JI (AX x j) (AX x i)) (APA (JM (AX x j) (AX x i)) CZ (Rj (AX x j) (ER x i)) (LA (AX x j) (ER x i)) (EL (λk=>DI (AX x j) k (ER x i) (λl=>CP l (AX x j) k (ER x i) (CE (BA (AX x j) k l) (BA (ER x i) k l) (BE (AX x j) k l) (BE (ER x i) k l) (AX x j) k l (BZ (ER x i) k l))))) (Kk (yR j) (zV (ATB (Dy x i x i) (Dm i) (O5 x)))) (Fv (jG j) (nB (ATB (Dy x i x i) (Dm i) (O5 x)))))) (PT j) (YD x) (ARS (LU x) (Db x (TJ (YD x) (PT j)) (PT j) (jG j) (cL j))) (PT i))) (BFI (λj=>QS (Wx (WQ x) (Va (cL j) (cL i)) (lL (LD x)) (AJ (PT j) (PT i)) (JJ (AX x j) (AX x i)) (JK (AX x j) (AX x i)) (JI (AX x j) (AX x i)) (ZI (JM (AX x j) (AX x i)) CZ (Rj (AX x j) (ER x i)) (LA (AX x j) (ER x i)) (EL (λk=>DI (AX x j) k (ER x i) (λl=>CP l (AX x j) k (ER x i) (CE (BA (AX x j) k l) (BA (ER x i) k l) (BE (AX x j) k l) (BE (ER x i) k l) (AX x j) k l (BZ (ER x i) k l))))) (yR j) (yR i) (Fv (jG j) (nB (ATB (Dy x i x i) (Dm i) (O5 x)))))) (PT j) (YD x) (ARS (LU x) (Db x (TJ (YD x) (PT j)) (PT j) (jG j) (cL j))) (PT i))))))) (Uk (cL i) (dP x x x 5) (Lm (AWK x) (yR i) (AZQ x) (jQ (jG i)) (AYI x) 0)))))):=by kernel_rfl
def CMA(x:GBf):Prop:=AS ZP CMR Tryz.f43 (AE Tryz.f43) (xGBf x) (AB []) (C_Stages.val x) [] [] []
theorem CRQ(x:GBf):(CMA x)=(SK (CY (HQ (KQ x) (Ey x)) (EK (KQ x) (Ey x)) (BC (KM x) (LD x)) (BR (KM x) (LD x)) (Fz (KQ x)) (ZS (KM x)) (II (xL x x))) (EP (OJ (xL x x)) (qQ (AIM x) 200000)) (dP x x x 4) HO (Al (HZ (RR (xL x x)) (dP x x x (xL x x)) zA))):=by kernel_rfl
theorem BAX{pr:Int->Bool}:∀(n:Nat) (lo hi:Int),lo<=hi->lo<=upL pr n lo hi/\upL pr n lo hi<=hi
 |0,lo,hi,h=>⟨Int.le_refl _,h⟩
 |n+1,lo,hi,h=>by
  unfold upL
  by_cases hl:lo<hi
  ·obtain⟨h3,h4⟩:=Q2 hl
   rw[decide_eq_true hl]
   cases pr (lo+(hi-lo+1).tdiv 2)
   ·have:=BAX (pr:=pr) n lo (lo+(hi-lo+1).tdiv 2-1) (by omega);exact⟨this.1,by have:=this.2;show upL _ _ _ _<=_;omega⟩
   ·have:=BAX (pr:=pr) n (lo+(hi-lo+1).tdiv 2) hi h4;exact⟨by have:=this.1;show _<=upL _ _ _ _;omega,this.2⟩
  ·rw[decide_eq_false hl];exact⟨Int.le_refl _,h⟩
theorem CCT{v:BnF->Bool}{a:UpI}(h:US a.w.g a.w.b)(h1:0<=a.k)(h2:a.k<=a.w.b.length):(DD a.w a.k).lo-1<=upM v a/\upM v a<=(DD a.w a.k).hi /\ -1<=upM v a/\upM v a<=2000:=by
 obtain⟨s1,s2,s3,_⟩:=Cb h h1 h2
 obtain⟨i1,i2⟩:=BAX (pr:=upP v a) 3000 ((DD a.w a.k).lo-1) (DD a.w a.k).hi (by omega)
 unfold upM;omega
theorem CYF(x:GBf)(h:preB x.a)(hE:AV x.a=0):COD x:=by
 rw[CVT]<;> dsimp only[go_sem];simp only[CC,CU,XS,Fe,sK,sJ,Fh,if_true]
 have hb:US x.a.g x.a.b:=WT hE
 have hl24:x.a.b.length<=24:=hb.2.2.1
 have e0:AV x.a==0:=by rw[hE];rfl
 refine⟨⟨h.1,h.2,hE⟩,λhf=>?_,λhf=>⟨⟨⟨0,default,false⟩,⟨rfl,(HL (by omega) (by omega)).symm,rfl,rfl,λ_ _=>⟨rfl,rfl,rfl⟩,rfl,λ_ _=>rfl,λ_=>rfl,λ_=>rfl,λ_=>⟨rfl,λ_ _=>⟨rfl,rfl,rfl,rfl⟩⟩,rfl,rfl⟩,Nat.zero_le _,?_⟩,λy ⟨hy1,hy2⟩=>⟨λhlt=>?_,λhge=>?_⟩⟩⟩
 ·have e:LU x=(default,4):=by
   have hf:(!inF x)=true:=hf
   unfold LU;rw[e0,show inF x=false by simpa using hf];rfl
  rw[e];exact⟨rfl,rfl,rfl⟩
 ·have hf:(!inF x)=false:=hf
  show LU x=_
  unfold LU;rw[e0,show inF x=true by simpa using hf];rfl
 ·have hlt:y.k<=x.a.b.length:=by omega
  have hs:=Cb (w:=wK x.a y.k) (k:=y.k) hb (by omega) (by show (y.k:Int)<=(x.a.b.length:Nat);omega)
  have hkk:(0:Int)<=(y.k:Int)/\(y.k:Int)<=((wK x.a y.k).b.length:Nat):=⟨by omega,by show (y.k:Int)<=(x.a.b.length:Nat);omega⟩
  have hup:(C3 (wK x.a y.k) y.k).has y.k=true:=by show WA _ _ _=true;simp[WA]
  obtain⟨n,hn⟩:∃n,x.a.b.length+1-y.k=n+1:=⟨x.a.b.length-y.k,by omega⟩
  have hn2:x.a.b.length+1-(y.k+1)=n:=by omega
  have hn3:x.a.b.length+1-(y.k+1)<x.a.b.length+1-y.k:=by omega
  have key:=hy2
  rw[hn] at key;unfold Db at key
  have u1:=CCT (v:=H7) (a:=⟨C3 (wK x.a y.k) y.k,y.k,⟨x.f,1⟩⟩) hb hkk.1 hkk.2
  have e1:IntKind.i64.wrap (upM H7 ⟨C3 (wK x.a y.k) y.k,y.k,⟨x.f,1⟩⟩+1)=G8 x y.k:=HL (by omega) (by omega)
  have e2:upM D2 ⟨C3 (wK x.a y.k) y.k,y.k,⟨x.f,1⟩⟩=G1 x y.k:=rfl
  rw[e1,e2]
  have ek:((y.k+1:Nat):Int)=IntKind.i64.wrap ((y.k:Int)+1):=by rw[HL (by omega) (by omega)];rfl
  refine⟨⟨⟨hb,hkk⟩,hb,hs.1,by omega⟩,λhc=>?_,λhc=>⟨⟨hb,hkk.1,hkk.2,hup⟩,⟨hb,hkk.1,hkk.2,hup⟩,λhg=>?_,λhg=>⟨λhm=>?_,λhm=>?_⟩⟩⟩
  ·have hc:((lnK x.a y.k).length:Int)==0:=hc
   rw[decide_eq_true (show (lnK x.a y.k).length=0 by have:=eq_of_beq hc;omega)] at key
   rw[key];exact⟨rfl,rfl,rfl⟩
  all_goals
   have hc:(((lnK x.a y.k).length:Int)==0)=false:=hc
   rw[decide_eq_false (show ¬(lnK x.a y.k).length=0 by intro h0;rw[h0] at hc;cases hc)] at key
  ·rw[decide_eq_true (show G1 x y.k<G8 x y.k from hg)] at key
   exact⟨⟨y.k+1,y.o,y.m⟩,⟨rfl,ek,rfl,λ_ _=>⟨rfl,rfl,rfl⟩,rfl,λ_ _=>rfl,λ_=>rfl,λ_=>rfl,λ_=>⟨rfl,λ_ _=>⟨rfl,rfl,rfl,rfl⟩⟩,rfl,rfl⟩,⟨by show y.k+1<=_;omega,by show LU x=Db x (x.a.b.length+1-(y.k+1)) _ _ _;rw[hn2];exact key⟩,hn3⟩
  ·rw[decide_eq_false (show ¬G1 x y.k<G8 x y.k from hg),hm] at key
   exact⟨⟨y.k+1,⟨G8 x y.k,G1 x y.k⟩,true⟩,⟨rfl,ek,rfl,λ_ _=>⟨rfl,rfl,rfl⟩,rfl,λ_ _=>rfl,λ_=>rfl,λ_=>rfl,λ_=>⟨rfl,λ_ _=>⟨rfl,rfl,rfl,rfl⟩⟩,rfl,rfl⟩,⟨by show y.k+1<=_;omega,by show LU x=Db x (x.a.b.length+1-(y.k+1)) _ _ _;rw[hn2];exact key⟩,hn3⟩
  ·rw[decide_eq_false (show ¬G1 x y.k<G8 x y.k from hg),hm] at key
   exact⟨⟨y.k+1,⟨y.o.lo,G1 x y.k⟩,true⟩,⟨hm.symm,ek,rfl,λ_ _=>⟨rfl,rfl,rfl⟩,rfl,λ_ _=>rfl,λ_=>rfl,λ_=>rfl,λ_=>⟨rfl,λ_ _=>⟨rfl,rfl,rfl,rfl⟩⟩,rfl,rfl⟩,⟨by show y.k+1<=_;omega,by show LU x=Db x (x.a.b.length+1-(y.k+1)) _ _ _;rw[hn2];exact key⟩,hn3⟩
 ·have hk:x.a.b.length+1-y.k=0:=by omega
  rw[hk] at hy2;unfold Db at hy2
  refine⟨λhm=>?_,λhm=>?_⟩<;>rw[hm] at hy2<;>rw[hy2]<;>exact⟨rfl,rfl,rfl⟩
theorem CXE(x:GBf)(h:preB x.a)(hE:AV x.a≠0):CMA x:=by
 rw[CRQ]<;> dsimp only[go_sem];simp only[CC,CU,XS,Fe,sK,sJ,Fh,if_true]
 have hE:AV ⟨x.a.g,x.a.b⟩≠0:=hE
 have e0:(AV ⟨x.a.g,x.a.b⟩==0)=false:=by simpa using hE
 rw[e0]
 refine⟨⟨h.1,h.2,hE⟩,λhc=>(by cases hc),λ_=>⟨λ_=>?_,λhc=>?_⟩⟩
 ·have e:LU x=(default,AV x.a):=by unfold LU;rw[show (AV x.a==0)=false from e0];rfl
  rw[e];exact⟨rfl,rfl,rfl⟩
 ·exact hE (by simpa using hc)
theorem ART:AH ZP 43 (C_Stages.spec dGBf):=Ctr.spec_ok (C:=C_Stages) (λ(x:GBf) h=>by
 have h:preB x.a:=(show preB x.a/\True from h).1
 by_cases hE:AV x.a=0
 ·exact WP (A:=CPO x) (L:=[]) (keep:=[]) (ren:=[]) (fz:=[]) Tryz.func43 (by kernel_rfl) (AA C4 (AA aH (AA B7 (AA AGW (AA (pR BXM BXE) AD))))) (CYF x h hE)
 ·exact WP (A:=CMR) (L:=[]) (keep:=[]) (ren:=[]) (fz:=[]) Tryz.func43 (by kernel_rfl) (AA yY (AA aH (AA B7 (AA AGW (AA (pR BXM BXE) AD))))) (CXE x h hE)) _
end Go.Bal
