/- Package rating: Passes, Through, At. -/
import Derived.Test.YtpidmmilfdcepaaGreatRatPw
set_option linter.unusedVariables false
set_option linter.unusedSimpArgs false
namespace Go.Bal
open Go Go.Sym Go.Proofs
structure GR where
 g:List Gau
 r:Rtg
def dGR:List AVal->Heap->Option (GR×List (Nat×Nat)×List Nat)
 |[x,y],H=>match Ht x H,dRtg y H with
  |some (l,f),some (r,e)=>some (⟨l,r⟩,[],f ++ e)
  |_,_=>none
 |_,_=>none
def xGR(a:GR):List AVal:=[.d (AT a.g),.d (eRtg a.r)]
def notP(a:GR)(i:Nat):Bool:=!NJ (gD a.r.l (KB a.r.b (gD a.g i).st)) (gD a.g i)
def vS(a:GR)(n:Nat):List Int:=((List.range n).filter (notP a)).map Int.ofNat
def Kz(a:GR):Int:=bif AL a.g==0 then HB a.r else AL a.g
def sX(a:GR):List Int:=bif Kz a==0 then vS a a.g.length else []
def C_Passes:Ctr:={ α:=GR,xs:=xGR,L:=λ_=>[],val:=λa=>.tup [.d (AZ (sX a)),.int (Kz a)],keep:=λ_=>[],pre:=λa=>[a.g.length<1073741824/\a.r.b.length<1073741824/\a.r.l.length<1073741824] }
structure KI where
 k:Nat
 l:List Int
 deriving Inhabited
def rtgC(r:Rtg):HCell:=.live (.box [.d (AZ r.b),.d (Qr r.l)])
def psS(a:GR)(v:AVal)(k:Nat):List (Nat×AVal):=[(3,.bptr 1000 0),(7,v),(19,.d (AT a.g)),(20,.int a.g.length),(21,.int k)]
def psI(a:GR)(k:Nat)(l:List Int):Prop:=Kz a=0/\k<=a.g.length/\l=vS a k
def ps8n(a:GR):Shape:={ α:=Nat,dflt:=0,T:=λk=>⟨psS a (.d NC) k,[(1000,rtgC a.r)]⟩,inv:=λk=>psI a k [],meas:=λk=>a.g.length-k }
def ps8o(a:GR):Shape:={ α:=KI,dflt:=default,T:=λx=>⟨psS a (.own 301 1 0 x.l.length) x.k,[(1000,rtgC a.r),(301,.live (rowI x.l))]⟩,inv:=λx=>psI a x.k x.l,meas:=λx=>a.g.length-x.k }
def CXU(a:GR)(m:Nat):Shape:={ α:=Nat,dflt:=0,T:=λk=>⟨psS a (.d NC) k,[(1000,rtgC a.r)]⟩,inv:=λk=>k<a.g.length/\a.g.length-k=m/\psI a (k+1) [],meas:=λ_=>0 }
def CNZ(a:GR)(m:Nat)(f:List (Nat×Nat)):Shape:={ α:=KI,dflt:=default,T:=λx=>⟨psS a (.own 301 1 0 x.l.length) x.k,[(1000,rtgC a.r),(301,.live (rowI x.l))]⟩,inv:=λx=>x.k<a.g.length/\a.g.length-x.k=m/\psI a (x.k+1) x.l,meas:=λ_=>0,first:=f }
def ps4(a:GR):Shape:={ α:=One,dflt:=default,T:=λ_=>⟨[(0,.d (AT a.g)),(3,.bptr 1000 0),(6,.int (Kz a))],[(1000,rtgC a.r)]⟩,inv:=λ_=>True,meas:=λ_=>0 }
def BCY(a:GR):Ann:={ ann 44 [(9,C_Check.spec NU),(10,C_CheckR.spec dRt1),(64,C_part.spec dIX),(65,ANT)] with mt:=λid=>id==11,loops:=λid=>if id=8 then some [ps8n a,ps8o a] else none,cut:=λid=>if id=4 then some [ps4 a] else none,cutIn:=λgs id=>if id=12 then some [CXU a (gs.getD 0 0),CNZ a (gs.getD 0 0) [(301,12048)],CNZ a (gs.getD 0 0) []] else none }
def BDG(a:GR):Prop:=AS ZP (BCY a) Tryz.f23 (AE Tryz.f23) (xGR a) (AB []) (C_Passes.val a) [] [] [301]
abbrev QK:=GR.g
abbrev cE:=Kz
abbrev ARM:=Rtg.mk
abbrev Xe:=sX
abbrev wZ:=@Exists KI
abbrev ID:=KI.l
abbrev DT:=KI.k
abbrev AQI:=λ(f:KI->Prop)=>∀(x:KI),f x
abbrev HD a:=CL (cE a)
abbrev AZU a b:=BC a (ID b)
abbrev BJY a b c:=ACG a (vS b c)
abbrev wO a b c:=BJY (ID a) b c
abbrev DN a:=CH (QK a)
abbrev cZ a b:=AZU (ID a) b
abbrev AMG a b:=KX (GR.r a) b
abbrev pJ a:=IS (GR.r a)
abbrev V7 a b:=uL a (pJ b) (AMG b a)
abbrev UD a:=DR (pJ a)
abbrev Gy a:=Cm (GR.r a)
abbrev TL a:=EZ (Gy a)
abbrev TH a:=IW (Gy a)
abbrev gQ a:=BP (DN a)
abbrev UC a:=AP (QK a)
abbrev Qu a:=CN (DT a)
abbrev Zw a b c:=wO a b (Qu c)
abbrev xM a b c:=IZ (DN a) b c
abbrev Yq a b c:=xM a (DT b) c
abbrev tR a b:=FC a (DN b)
abbrev Xl a b:=tR (DT a) b
abbrev Gs a b:=BJY aX a b
abbrev Di a:=AG (λi=>V7 i a)
abbrev Yx a:=BQ (QK a)
abbrev OV a:=Ce (GR.r a)
abbrev AGL a b:=KB (OV a) b
abbrev Pf a b c:=AMG a (AGL b c)
abbrev YI a b:=BL (QK a) b
abbrev ZC a b:=YI a (DT b)
abbrev mF a b:=DF (QK a) b
abbrev dU a:=rZ (GR.r a)
attribute [go_sem] QK cE ARM Xe wZ ID DT AQI HD AZU BJY wO DN cZ AMG pJ V7 UD Gy TL TH gQ UC Qu Zw xM Yq tR Xl Gs Di Yx OV AGL Pf YI ZC mF dU
theorem BUX(a:GR):(BDG a)=(AO (zF (QK a)) (FD (OJ (lG (QK a))) (AW (BC (OV a) (Gy a)) (BR (OV a) (Gy a)) (LB (dU a) (pJ a)) (AG (λi=>Ov i (dU a) (AMG a i))) (ZS (OV a)) (Hb (CO (dU a)))) (KZ (CY (Yx a) (UC a) (BM (cE a) (Hj (ARM (OV a) (dU a)))) (TH a) (TL a) (UD a) (Di a))) (KZ (CY (Yx a) (UC a) (eR (cE a) (QK a)) (TH a) (TL a) (UD a) (Di a)))) (Ep (λi=>Ys HO (RR (cE a)) (qY (Xe a) (AK (cE a))) (AO (EI (λj=>JO (EN (BK AN (Yx a) (UC a) (gQ a) (BX j) (TH a) (TL a) (UD a) (Di a))) (HD a) j (DN a) (Gs a j))) (AG (λj=>Mb (EE (HD a) j (DN a) (Gs a j)) j (DN a) (UG (CR j (DN a)) (AO (BC (OV a) (Gy a)) (BR (OV a) (Gy a)) (BK (AK (YI a j)) (And (ZS (OV a)) (vI OB (OV a))) (CR (AGL a (YI a j)) (pJ a)) (HX (Pf a a (YI a j))) (FJ (YI a j)) (VF (YI a j)) (FJ (mF a j)) (KO (mF a j) (DG (QK a) j)) (qH (DG (QK a) j)))) (AUJ (Pf a a (YI a j)) (QK a) j) (Sx 1 YM 8) (wZ (λk=>HF (OS AF (mT (ID k)) (QK a) (UQ (UC a) (gQ a) (AI (DT k) j) (TH a) (TL a) (UD a) (λl=>V7 l a) (mT (ID k)) (λl=>KC l (ID k) (BO j)))) (Xl k a) (Yq a k j) (HD a) (Qu k) (DN a) (Zw k a k))) (EI (λk=>HF (EN (BK AN (Yx a) (UC a) (gQ a) (AI k j) (TH a) (TL a) (UD a) (Di a))) (tR k a) (xM a k j) (HD a) (CN k) (DN a) (Gs a (CN k))))) (λk=>uR (FE (tR k a) (xM a k j) (HD a) (CN k) (DN a) (Gs a (CN k))) (λl=>Am (EN (BK AN (Yx a) (UC a) (gQ a) (AJ l k) (TH a) (TL a) (UD a) (Di a))) (HD a) l (DN a) (Gs a l) j)) (AQI (λk=>PY (FE (Xl k a) (Yq a k j) (HD a) (Qu k) (DN a) (Zw k a k)) (wZ (λl=>Am (OS AF (cZ l k) (QK a) (DO (UC a) (gQ a) (AJ (DT l) (DT k)) (TH a) (TL a) (UD a) (λm=>V7 m a) (cZ l k) (BR (ID l) (ID k)))) (HD a) (DT l) (DN a) (wO l a (DT l)) j)))) (qY (Xe a) (HD a)))) (AQI (λj=>Mb (EE (HD a) (DT j) (DN a) (wO j a (DT j))) (DT j) (DN a) (UG (CR (DT j) (DN a)) (AO (BC (OV a) (Gy a)) (BR (OV a) (Gy a)) (BK (AK (ZC a j)) (And (ZS (OV a)) (vI OB (OV a))) (CR (AGL a (ZC a j)) (pJ a)) (HX (Pf a a (ZC a j))) (FJ (ZC a j)) (VF (ZC a j)) (FJ (mF a (DT j))) (KO (mF a (DT j)) (DG (QK a) (DT j))) (qH (DG (QK a) (DT j))))) (AUJ (Pf a a (ZC a j)) (QK a) (DT j)) (eV (And (IW (ID j)) (sL 0 (ID j) UX)) YM (ZT (ID j)) 8) (wZ (λk=>HF (OS AF (OD (ID k) (ZT (ID j))) (QK a) (UQ (UC a) (gQ a) (AI (DT k) (DT j)) (TH a) (TL a) (UD a) (λl=>V7 l a) (OD (ID k) (ZT (ID j))) (λl=>KC l (ID k) (EF l (GZ (ID j)) (KL (ID j) l) (BO (DT j)))))) (Xl k a) (Yq a k (DT j)) (HD a) (Qu k) (DN a) (Zw k a k))) (wZ (λk=>HF (OS AF (cZ k j) (QK a) (DO (UC a) (gQ a) (AI (DT k) (DT j)) (TH a) (TL a) (UD a) (λl=>V7 l a) (cZ k j) (BR (ID k) (ID j)))) (Xl k a) (Yq a k (DT j)) (HD a) (Qu k) (DN a) (Zw k a k)))) (λk=>uR (FE (tR k a) (xM a k (DT j)) (HD a) (CN k) (DN a) (Gs a (CN k))) (λl=>Am (EN (BK AN (Yx a) (UC a) (gQ a) (AJ l k) (TH a) (TL a) (UD a) (Di a))) (HD a) l (DN a) (Gs a l) (DT j))) (AQI (λk=>PY (FE (Xl k a) (Yq a k (DT j)) (HD a) (Qu k) (DN a) (Zw k a k)) (wZ (λl=>Am (OS AF (cZ l k) (QK a) (DO (UC a) (gQ a) (AJ (DT l) (DT k)) (TH a) (TL a) (UD a) (λm=>V7 m a) (cZ l k) (BR (ID l) (ID k)))) (HD a) (DT l) (DN a) (wO l a (DT l)) (DT j))))) (Sz (AZU (Xe a) j) (AQ (GZ (ID j))) (ID j) (AG (λk=>yC k (Xe a) (ID j) k)) (HD a)))))))):=by kernel_rfl
def thrK(a:GB):Nat->Nat->Bool
 |0,_=>true
 |n+1,k=>bif (EV (Jp (FM a) k)).2 then thrK a n (k+1) else false
def thrM(a:GB):Bool:=bif AV a==0 then thrK a (a.b.length+1) 0 else false
def C_Through:Ctr:={ α:=GB,xs:=xGB,L:=λ_=>[],val:=λa=>.tup [.bool (thrM a),.int (AV a)],keep:=λ_=>[],pre:=λx=>[preB x/\True] }
def th5(a:GB):Shape:={ α:=Nat,dflt:=0,T:=λk=>⟨[(6,.bptr 2032 0),(22,.int (a.b.length+1)),(23,.int k)],bkH (FM a) 2032 2033⟩,inv:=λk=>k<=a.b.length+1/\thrM a=thrK a (a.b.length+1-k) k,meas:=λk=>a.b.length+1-k }
def G_th(c:Sym.Spec):List (FuncId×Sym.Spec):=[(67,c),(68,C_inside.spec dBkI),(69,C_line.spec dGsK)]
def CMM(a:GB):Ann:={ ann 36 (G_th (C_open.spec dGB)) with loops:=λid=>if id=5 then some [th5 a] else none }
def COV:Ann:={ ann 36 (G_th (C_openX.spec dGB)) with cut:=λid=>if id=4 then some [] else none }
def CQD(a:GB):Prop:=AS ZP (CMM a) Tryz.f29 (AE Tryz.f29) (xGB a) (AB []) (C_Through.val a) [] [] []
abbrev Wj:=thrM
abbrev Mo a:=ZT (Eu a)
abbrev Au a:=Ej (GN a)
attribute [go_sem] Wj Mo Au
theorem CST(a:GB):(CQD a)=(WX (CY (Tk a a) (Sc a a) (Lz a a) (Lw a a) (W3 a) (P6 a) (CL (Mq a a))) (EI (λi=>EE (TN (lL (Eu a)) (XM (NP (Eu a))) (TX (BX i) (JJ (GN a) (EU a)) (JK (GN a) (EU a)) (JI (GN a) (EU a)) (JM (GN a) (EU a)) Gq (LA (GN a) (EU a)) (λj=>DI (GN a) j (EU a) (λk=>CP k (GN a) j (EU a) (CE (BA (GN a) j k) (BA (EU a) j k) (BE (GN a) j k) (BE (EU a) j k) (GN a) j k (BZ (EU a) j k)))))) i (Mo a) (Va (Wj a) (thrK a (TJ (Mo a) i) i)))) (λi=>MO (GP i (Mo a) (Va (Wj a) (thrK a (TJ (Mo a) i) i))) (UO i (lL (Eu a))) (AW (BP i) (Eb (GN a)) (Gd (GN a)) (OL (Is (GN a)) (GN a)) (OX (Is (GN a)) (GN a)) (BK CZ Gq (MU (GN a)) (EL (λj=>DI (Au a) j (GN a) (λk=>CP k (Au a) j (GN a) (CE (BA (Au a) j k) (BA (GN a) j k) (BE (Au a) j k) (BE (GN a) j k) (Au a) j k (BZ (GN a) j k))))) (cU (pC a) (GN a)) (qW (pC a) (GN a)) (BC (rA a) (Is (GN a))) (BR (rA a) (Is (GN a))) (DO CZ Gq (MU (GN a)) (EL (λj=>DI (GN a) j (Au a) (λk=>CP k (GN a) j (Au a) (CE (BA (GN a) j k) (BA (Au a) j k) (BE (GN a) j k) (BE (Au a) j k) (GN a) j k (BZ (Au a) j k))))) (Al (SF (GN a) (Is (GN a)) OB)) (AY (sQ (Au a) (BO i))) (λj=>UA j (CG (sQ (Au a) (BO i))) (sQ (Au a) (BO i))) (HV (sQ (Au a) (BO i))) (Sn (sQ (Au a) (BO i)))))) (FD (To (sQ (Au a) (BO i))) (KU (Wj a)) (Rf a) (EI (λj=>QS (And (AK (lL (Eu a))) (TX (AJ j i) (BQ (pC a)) (AP (pC a)) (IW (rA a)) (EZ (rA a)) Gq (MU (GN a)) (λk=>YJ (Ex (GN a) k) (λl=>Js l (Ex (GN a) k) (BE (GN a) k l) (GN a) k)))) j (Mo a) (Va (Wj a) (thrK a (TJ (Mo a) j) j)) i))) (And (IN (Wj a)) (Rf a)))):=by kernel_rfl
def CNY(a:GB):Prop:=AS ZP COV Tryz.f29 (AE Tryz.f29) (xGB a) (AB []) (C_Through.val a) [] [] []
theorem CUW(a:GB):(CNY a)=(AO (CY (Tk a a) (Sc a a) (Lz a a) (Lw a a) (W3 a) (P6 a) (II (Mq a a))) (FD (RR (Mq a a)) (KU (Wj a)) (oG a (Mq a a)) zA) HO):=by kernel_rfl
structure RtI where
 r:Rtg
 t:Int
def okRt(r:Rtg):Prop:=asc r.b/\r.l.length=r.b.length+1/\(∀x∈r.l,MI x)/\r.b.length<=24
def dRtI:List AVal->Heap->Option (RtI×List (Nat×Nat)×List Nat)
 |[x,.d t],H=>match dRtg x H with
  |some (r,f)=>some (⟨r,EG t⟩,[],f)
  |none=>none
 |_,_=>none
def atF(a:RtI):Rt:=JF (gD a.r.l (KB a.r.b a.t)) a.t
def C_flowR:Ctr:={ α:=RtI,xs:=λa=>[.d (eRtg a.r),.int a.t],L:=λ_=>[],val:=λa=>.d (G2 (atF a)),keep:=λ_=>[],pre:=λa=>[okRt a.r/\0<=a.t/\a.t<=2000] }
def BTC:Ann:=ann 15 [(64,C_part.spec dIX),(161,AJO)]
def BPD(a:RtI):Prop:=AS ZP BTC Tryz.f163 (AE Tryz.f163) (C_flowR.xs a) (AB []) (C_flowR.val a) [] [] []
abbrev Ck:=RtI.r
abbrev UM:=RtI.t
abbrev AGR a b:=KX (Ck a) b
abbrev NE a:=Ce (Ck a)
abbrev AXQ a b:=KB (NE a) (UM b)
abbrev Yc a b c:=AGR a (AXQ b c)
attribute [go_sem] Ck UM AGR NE AXQ Yc
theorem BXP(a:RtI):(BPD a)=(bY (Wx (Dq (NE a) (Ck a)) (Cq (NE a) (Ck a)) (UM a) (And (ZS (NE a)) (vI OB (NE a))) (CR (AXQ a a) (IS (Ck a))) (HX (Yc a a a)) (FJ (UM a)) (VF (UM a))) (MH (atF a)) (MH (hd82 (Yc a a a) (UM a))) (QA (atF a)) (QA (hd82 (Yc a a a) (UM a)))):=by kernel_rfl
def dAR:List AVal->Heap->Option (RtI×List (Nat×Nat)×List Nat)
 |[.d (.iface 31 (.agg [.list _ n f _,.list _ m g _])),.d t],_=>some (⟨⟨HA n λi=>EG (f i),HA m λi=>dLn (g i)⟩,EG t⟩,[],[])
 |_,_=>none
def C_askR:Ctr:={ C_flowR with xs:=λ(a:RtI)=>[.d (.iface 31 (eRtg a.r)),.int a.t] }
def CHD(a:RtI):Prop:=AS ZP (ann 8 [(163,C_flowR.spec dRtI)]) Tryz.f61 (AE Tryz.f61) (C_askR.xs a) (AB []) (C_askR.val a) [] [] []
abbrev AHN:=RtI.mk
abbrev Dc a:=rZ (Ck a)
abbrev mC a b:=ARM (NE a) (Dc b)
attribute [go_sem] AHN Dc mC
theorem CII(a:RtI):(CHD a)=(bY (DY (Dq (NE a) (Ck a)) (Cq (NE a) (Ck a)) (Sk (Dc a) (Ck a)) (AG (λi=>Ov i (Dc a) (AGR a i))) (AK (UM a)) (BD (vI OB (NE a)) (LB (Dc a) (ZT (NE a))) (H3 (λi=>iB i (Dc a) (HX i))) (N1 (NE a))) (FJ (UM a)) (VF (UM a))) (MH (atF a)) (MH (atF (AHN (mC a a) (UM a)))) (QA (atF a)) (QA (atF (AHN (mC a a) (UM a))))):=by kernel_rfl
def atE(a:RtI):Int:=bif HB a.r==0 then (bif JD a.t 0 2000 then 0 else 4) else HB a.r
def atM(a:RtI):Rt:=bif atE a==0 then atF a else⟨0,0⟩
def C_At:Ctr:={ α:=RtI,xs:=λa=>[.d (eRtg a.r),.int a.t],L:=λ_=>[],val:=λa=>.tup [.d (G2 (atM a)),.int (atE a)],keep:=λ_=>[],pre:=λa=>[a.r.b.length<1073741824/\a.r.l.length<1073741824] }
def A_At:Ann:=ann 21 [(10,C_CheckR.spec dRt1),(49,G4),(61,C_askR.spec dAR)]
def V_At(a:RtI):Prop:=AS ZP A_At Tryz.f21 (AE Tryz.f21) (C_At.xs a) (AB []) (C_At.val a) [] [] []
abbrev vN a:=QA (atM a)
abbrev wN a:=MH (atM a)
attribute [go_sem] vN wN
theorem CWW(a:RtI):(V_At a)=(Sa (AW (Dq (NE a) (Ck a)) (Cq (NE a) (Ck a)) (Sk (Dc a) (Ck a)) (AG (λi=>Ov i (Dc a) (AGR a i))) (ZS (NE a)) (Hb (CO (Dc a)))) (Hj (mC a a)) (Jr (wN a) (vN a) (atE a) (Hj (mC a a))) (Gj (XP (UM a)) (Jr (wN a) (vN a) (atE a) 4) (DY (Dq (NE a) (Ck a)) (Cq (NE a) (Ck a)) (Sk (Dc a) (Ck a)) (AG (λi=>Ov i (Dc a) (AGR a i))) (AK (UM a)) (BD (vI OB (NE a)) (LB (Dc a) (ZT (NE a))) (H3 (λi=>iB i (Dc a) (HX i))) (N1 (NE a))) (FJ (UM a)) (VF (UM a))) (Lm (wN a) (MH (atF (AHN (mC a a) (UM a)))) (vN a) (QA (atF (AHN (mC a a) (UM a)))) (atE a) 0))):=by kernel_rfl
theorem C9{r:Rtg}(h:HB r=0):okRt r/\∀x∈r.b,1<=x/\x<=2000:=by
 unfold HB at h
 cases hb:OC r.b != 0 with
 |true=>rw[hb] at h;have h:OC r.b=0:=h;rw[h] at hb;cases hb
 |false=>
  rw[hb] at h
  have hb0:OC r.b=0:=by simpa using hb
  cases hl:(r.l.length:Int) != (r.b.length:Int)+1 with
  |true=>rw[hl] at h;cases h
  |false=>
   rw[hl] at h
   cases hr:r.l.all Kv with
   |false=>rw[hr] at h;cases h
   |true=>
    have hl0:(r.l.length:Int)=(r.b.length:Int)+1:=by simpa using hl
    unfold OC at hb0
    split at hb0
    ·cases hb0
    ·obtain⟨h5,h6⟩:=BJQ _ 0 (by omega) hb0
     exact⟨⟨h5,by omega,λx hx=>aI.1 (List.all_eq_true.1 hr x hx),by omega⟩,λx hx=>by have:=h6 x hx;omega⟩
theorem Hl{a:GR}{k:Nat}:vS a (k+1)=if notP a k=true then vS a k ++ [(k:Int)] else vS a k:=by
 unfold vS
 rw[List.range_succ,List.filter_append,List.map_append]
 by_cases h:notP a k=true
 ·rw[if_pos h,List.filter_cons_of_pos h];rfl
 ·rw[if_neg h,List.filter_cons_of_neg h];simp
theorem ADE(a:GR)(k:Nat):(vS a k).length<=k:=by
 unfold vS;rw[List.length_map]
 exact Nat.le_trans (List.length_filter_le _ _) (by simp)
theorem CEV(a:GR)(h1:a.g.length<1073741824)(h2:a.r.b.length<1073741824)(h3:a.r.l.length<1073741824):BDG a:=by
 rw[BUX]<;> dsimp only[go_sem];simp only[CC,CU]
 have em:¬Kz a=0->sX a=[]:=λh=>by unfold sX;rw[show (Kz a==0)=false by simpa using h];rfl
 have facts:Kz a=0->AL a.g=0/\okRt a.r:=λh=>by
  unfold Kz at h
  cases hc:AL a.g==0 with
  |false=>rw[hc] at h;have h:AL a.g=0:=h;rw[h] at hc;cases hc
  |true=>rw[hc] at h;exact⟨by simpa using hc,(C9 h).1⟩
 have pre:∀{k:Nat},Kz a=0->k<a.g.length->((a.r.b.length<4611686018427387904/\asc a.r.b)/\(0<=((KB a.r.b (gD a.g k).st:Nat):Int)/\((KB a.r.b (gD a.g k).st:Nat):Int)<a.r.l.length)/\MI (gD a.r.l (KB a.r.b (gD a.g k).st))/\IT (gD a.g k)):=λ{k} h hk=>by
  obtain⟨f1,f2,f3,f4,f5⟩:=facts h
  have hle:KB a.r.b (gD a.g k).st<=a.r.b.length:=List.countP_le_length
  exact⟨⟨by omega,f2⟩,⟨by omega,by omega⟩,f4 _ (BU (by omega)),(JU f1).2 _ (BU hk)⟩
 have nP:∀{k:Nat},NJ (gD a.r.l (KB a.r.b (gD a.g k).st)) (gD a.g k)=false->notP a k=true:=λ{k} h=>by unfold notP;rw[h];rfl
 have nQ:∀{k:Nat},NJ (gD a.r.l (KB a.r.b (gD a.g k).st)) (gD a.g k)=true->¬notP a k=true:=λ{k} h=>by unfold notP;rw[h];simp
 have cn:∀(m i:Nat),i<a.g.length/\a.g.length-i=m/\psI a (i+1) []->∃j:Nat,(j:Int)=IntKind.i64.wrap ((i:Int)+1)/\psI a j []/\a.g.length-j<m:=λm i ⟨b1,b2,b3⟩=>⟨i+1,(BF (by omega)).symm,b3,by omega⟩
 have co:∀(m:Nat) (x:KI),x.k<a.g.length/\a.g.length-x.k=m/\psI a (x.k+1) x.l->∃y:KI,(y.l.length=x.l.length/\(y.k:Int)=IntKind.i64.wrap ((x.k:Int)+1)/\y.l.length=x.l.length/\∀i,i<y.l.length->gD y.l i=gD x.l i)/\psI a y.k y.l/\a.g.length-y.k<m:=λm x ⟨b1,b2,b3⟩=>⟨⟨x.k+1,x.l⟩,⟨rfl,(BF (by omega)).symm,rfl,λ_ _=>rfl⟩,b3,by show a.g.length-(x.k+1)<m;omega⟩
 have fin:∀{l:List Int},Kz a=0->l=vS a a.g.length->sX a=l:=λ{l} h1 h2=>by unfold sX;rw[h1,h2];rfl
 refine⟨by omega,⟨λhc=>⟨⟨by omega,by omega⟩,default,?_⟩,λhc=>⟨default,?_⟩⟩,λhe=>?_,λhe=>⟨⟨0,rfl,by simpa using he,Nat.zero_le _,rfl⟩,λk ⟨k1,k2,k3⟩=>⟨λhlt=>⟨⟨⟨by omega,by omega⟩,pre k1 (by omega),λhp=>⟨⟨by omega,by omega,by omega,by omega,by omega⟩,⟨k,[(k:Int)]⟩,⟨rfl,rfl,rfl,λi hi=>?_⟩,by show k<_;omega,rfl,k1,by show k<_;omega,?_⟩,λhp=>⟨k,rfl,by omega,rfl,k1,by omega,?_⟩⟩,cn _,co _⟩,λhge=>?_⟩,λx ⟨x1,x2,x3⟩=>⟨λhlt=>⟨⟨⟨by omega,by omega⟩,pre x1 (by omega),λhp=>⟨⟨by omega,λh=>(by cases h),?_,?_⟩,⟨x.k,x.l ++ [(x.k:Int)]⟩,⟨by simp,rfl,by simp,CBH _ _⟩,by show x.k<_;omega,rfl,x1,by show x.k<_;omega,?_⟩,λhp=>⟨x,⟨rfl,rfl,rfl,λ_ _=>rfl⟩,by omega,rfl,x1,by omega,?_⟩⟩,cn _,co _⟩,λhge=>?_⟩⟩⟩
 ·unfold Kz;rw[hc];rfl
 ·unfold Kz;rw[hc];rfl
 ·rw[em (by simpa using he)];rfl
 ·rw[show i=0 by have h1:i<1:=hi;omega];rfl
 ·rw[Hl,if_pos (nP hp),<-k3];rfl
 ·rw[Hl,if_neg (nQ hp)];exact k3
 ·have e:sX a=[]:=fin k1 (by rw[k3,show k=a.g.length by omega])
  rw[e];exact⟨rfl,rfl,k1⟩
 ·have:=ADE a x.k;rw[<-x3] at this;omega
 ·have:=ADE a x.k;rw[<-x3] at this;omega
 ·show x.l ++ _=_;rw[Hl,if_pos (nP hp),<-x3]
 ·rw[Hl,if_neg (nQ hp)];exact x3
 ·have e:sX a=x.l:=fin x1 (by rw[x3,show x.k=a.g.length by omega])
  rw[e];exact⟨rfl,Nat.le_refl _,λ_ _=>rfl,x1⟩
theorem BUE:AH ZP 23 (C_Passes.spec dGR):=PW C_Passes BCY [] [301] Tryz.func23 (λ_=>by kernel_rfl) (λ_=>AA Jx (AA D7 (AA ADJ (AA ASB AD)))) (λ(a:GR) h=>CEV a h.1 h.2.1 h.2.2) (λ_=>RA rfl rfl) _
theorem CUH{g:List Gau}{b:List Int}(h:US g b)(k:Int):(Jp (FM ⟨g,b⟩) k).length<1073741824/\∀x∈Jp (FM ⟨g,b⟩) k,IT x:=by
 obtain⟨h1,h2,_⟩:=h
 refine⟨?_,λx hx=>h2 x (List.mem_filter.1 hx).1⟩
 have:(Jp (FM ⟨g,b⟩) k).length<=g.length:=List.length_filter_le _ _
 omega
theorem BLQ:AH ZP 29 (C_Through.spec dGB):=Ctr.spec_ok (C:=C_Through) (λ(a:GB) h=>by
 have h:preB a:=(show preB a/\True from h).1
 by_cases hE:AV a=0
 ·refine WP (A:=CMM a) (L:=[]) (keep:=[]) (ren:=[]) (fz:=[]) Tryz.func29 (by kernel_rfl) (AA C4 (AA C8 (AA AKE AD))) ?_
  show CQD a;rw[CST]<;> dsimp only[go_sem];simp only[CC,CU,XS]
  have hb:US a.g a.b:=WT hE
  have hl:=hb.2.2.1
  have eT:thrM a=thrK a (a.b.length+1) 0:=by unfold thrM;rw[hE];rfl
  refine⟨⟨h.1,h.2,hE⟩,⟨0,⟨(HL (by omega) (by omega)).symm,rfl⟩,Nat.zero_le _,eT⟩,λk ⟨k1,k2⟩=>⟨λhlt=>?_,λhge=>?_⟩⟩
  ·obtain⟨n,hn⟩:∃n,a.b.length+1-k=n+1:=⟨a.b.length-k,by omega⟩
   rw[hn] at k2;unfold thrK at k2
   refine⟨⟨hb,CUH hb _⟩,λhq=>?_,λhq=>?_⟩
   ·rw[hq] at k2;exact⟨k2,hE⟩
   ·rw[hq] at k2
    exact⟨k+1,(BF (by omega)).symm,⟨by omega,by rw[show a.b.length+1-(k+1)=n by omega];exact k2⟩,by omega⟩
  ·rw[show a.b.length+1-k=0 by omega] at k2
   exact⟨k2,hE⟩
 ·refine WP (A:=COV) (L:=[]) (keep:=[]) (ren:=[]) (fz:=[]) Tryz.func29 (by kernel_rfl) (AA yY (AA C8 (AA AKE AD))) ?_
  show CNY a;rw[CUW]<;> dsimp only[go_sem];simp only[CC,CU,XS]
  refine⟨⟨h.1,h.2,hE⟩,λ_=>?_,λhc=>?_⟩
  ·unfold thrM;rw[show (AV a==0)=false by simpa using hE];rfl
  ·have hE:AV ⟨a.g,a.b⟩≠0:=hE
   exact hE (by simpa using hc)) _
theorem CFD:AH ZP 163 (C_flowR.spec dRtI):=PW C_flowR (λ_=>BTC) [] [] Tryz.func163 (λ_=>by kernel_rfl) (λ_=>AA ADJ (AA BGA AD)) (λ(a:RtI) h=>by
 show BPD a;rw[BXP]<;> dsimp only[go_sem];simp only[CC,CU]
 obtain⟨⟨h1,h2,h3,h4⟩,h5⟩:okRt a.r/\0<=a.t/\a.t<=2000:=h
 have hle:KB a.r.b a.t<=a.r.b.length:=List.countP_le_length
 exact⟨⟨⟨by omega,h1⟩,⟨by omega,by omega⟩,h3 _ (BU (by omega)),h5⟩,rfl,rfl⟩) (λ_=>RA rfl rfl) _
theorem CLZ:AH ZP 61 (C_askR.spec dAR):=PW C_askR (λ_=>ann 8 [(163,C_flowR.spec dRtI)]) [] [] Tryz.func61 (λ_=>by kernel_rfl) (λ_=>AA CFD AD) (λ(a:RtI) h=>by
 show CHD a;rw[CII]<;> dsimp only[go_sem];simp only[CC,CU]
 exact h) (λ_=>RA rfl rfl) _
theorem CZY:AH ZP 21 (C_At.spec dRtI):=PW C_At (λ_=>A_At) [] [] Tryz.func21 (λ_=>by kernel_rfl) (λ_=>AA D7 (AA aH (AA CLZ AD))) (λ(a:RtI) h=>by
 show V_At a;rw[CWW]<;> dsimp only[go_sem];simp only[CC,CU]
 obtain⟨h1,h2⟩:a.r.b.length<1073741824/\a.r.l.length<1073741824:=h
 refine⟨⟨by omega,by omega⟩,λhc=>?_,λhc=>?_⟩
 ·have e0:(HB a.r==0)=false:=by simpa using hc
  have e:atE a=HB a.r:=by unfold atE;rw[e0];rfl
  have e2:atM a=⟨0,0⟩:=by unfold atM;rw[e,e0];rfl
  rw[e2];exact⟨rfl,rfl,e⟩
 ·have e1:HB a.r=0:=by simpa using hc
  have e0:(HB a.r==0)=true:=by simpa using hc
  refine⟨λhi=>?_,λhi=>?_⟩
  ·have e:atE a=4:=by unfold atE;rw[e0,hi];rfl
   have e2:atM a=⟨0,0⟩:=by unfold atM;rw[e];rfl
   rw[e2];exact⟨rfl,rfl,e⟩
  ·have e:atE a=0:=by unfold atE;rw[e0,hi];rfl
   have e2:atM a=atF a:=by unfold atM;rw[e];rfl
   have ht:0<=a.t/\a.t<=2000:=by unfold JD at hi;simpa using hi
   rw[e2];exact⟨⟨(C9 e1).1,ht⟩,rfl,rfl,e⟩) (λ_=>RA rfl rfl) _
end Go.Bal
