/- Package rating: the last stage of a part for which something is so. -/
import Derived.Test.YtceloknnpdonhaaGreatRatK
set_option linter.unusedVariables false
set_option linter.unusedSimpArgs false
namespace Go.Bal
open Go Go.Sym Go.Proofs
def DMS(a:UpI):Prop:=BG Try.prog (A_up st2 WW ((jA st2).spec dBnF) a) R7 (AL R7) ((C_up st2 WW).xs a) (AF ((C_up st2 WW).L a)) ((C_up st2 WW).val a) ((C_up st2 WW).keep a) [] []
abbrev mT a:=upM st2 a
attribute [go_sem] mT
theorem DQP(a:UpI):(DMS a)=(AH (AY (AI (AOX a)) (CG (Ee a) (QU a)) (AT (Ee a) (QU a)) (LP (NC (UJ a) (DF a)) (λi=>TI i (UJ a) (DF a) i) CV (aH a) (dD a) (AN (λi=>EX (JR a) i (DF a) (λj=>DW j (JR a) i (DF a) (CU (CH (JR a) i j) (Kr a i j) (CF (JR a) i j) (Jv a i j) (FB (JR a) i j) (DF a) i j)))) (CG (QU a) (Ee a)) (AT (QU a) (Ee a)) (LP (AW (Wc a) (UJ a)) (λi=>Bn i (DF a) (BJ (UJ a) i)) CV (aH a) (dD a) (AN (λi=>EX (DF a) i (JR a) (λj=>DW j (DF a) i (JR a) (CU (Kr a i j) (CH (JR a) i j) (Jv a i j) (CF (JR a) i j) (FB (DF a) i j) (JR a) i j)))) (PD (Ee a) (UJ a) DX (λi=>PG i (UJ a) i i)) (BC (AOX a)) (Fq (AOX a) (UJ a))))) (fE (λi=>RY (Ju i (FA (EM (ADB (JR a) a))) (Ff (YI i) (FL (ADB (JR a) a)) (QU a) (LQ (nU a) (mK a) (λj=>Gc j (Wc a) (DF a) j) CV (aH a) (dD a) (AN (λj=>Ct (pN a j) (λk=>Cq k (pN a j) (DF a) j (Kr a j k) (Jv a j k)))) (aX a) (Rs a)))) (wF (Zd a) i) (wN i) (vN i (Zd a)) (λj=>Bg i j (mT a) (upP st2 a) j i i))) (BBL (λi=>FF (Kg (Zd a) i i i (λj=>Bg i j (mT a) (upP st2 a) j i i)) (Hz i) (YI i) (AY (Kt XQ) (HX (AI (TP i)) (CG (Ee a) (QU a)) (AT (Ee a) (QU a)) (NC (UJ a) (DF a)) (AK (λj=>TI j (UJ a) (DF a) j)) CV (aH a) (EB (dD a) (AN (λj=>EX (JR a) j (DF a) (λk=>DW k (JR a) j (DF a) (CU (CH (JR a) j k) (Kr a j k) (CF (JR a) j k) (Jv a j k) (FB (JR a) j k) (DF a) j k)))) (IN (QU a) (II a i)) (SX (QU a) (II a i)) (MO (DF a) (II a i)) (λj=>MP j (DF a) (II a i)) (PD (Ee a) (UJ a) DX (λj=>PG j (UJ a) j j)) (BC (TP i)) (HN (TP i)))) (Ax (IP (aM a i)) (IP (Qh a i)) (DN (IW (aM a i)) (IW (Qh a i)) (AO (IK (aM a i)) (IK (Qh a i))) (BBF (AO (IR (aM a i)) (IR (Qh a i))) (aX a) (Rs a) (Rs a)))) (DV (st2 (BnF.mk (aM a i) (UpI.f a))) (fE (λj=>CK (Ju j (TP i) (Ff (YI j) (YI i) (QU a) (LQ (nU a) (mK a) (λk=>Gc k (Wc a) (DF a) k) CV (AN (λk=>SS (DF a) k (II a i) k)) (MV (DF a) (II a i)) (AN (λk=>EX (DF a) k (II a i) (λl=>DW l (DF a) k (II a i) (CU (Kr a k l) (CH (II a i) k l) (Jv a k l) (CF (II a i) k l) (FB (DF a) k l) (II a i) k l)))) (aX a) (Rs a)))) (Kg (Zd a) j j j (λk=>Bg j k (mT a) (upP st2 a) k j j)) (ZJ j) (ZJ i))) (fE (λj=>CK (Ju j (Hz i) (Ff (YI j) (FA (TP i)) (QU a) (LQ (nU a) (mK a) (λk=>Gc k (Wc a) (DF a) k) CV (AN (λk=>SS (DF a) k (II a i) k)) (MV (DF a) (II a i)) (AN (λk=>EX (DF a) k (II a i) (λl=>DW l (DF a) k (II a i) (CU (Kr a k l) (CH (II a i) k l) (Jv a k l) (CF (II a i) k l) (FB (DF a) k l) (II a i) k l)))) (aX a) (Rs a)))) (Kg (Zd a) j j j (λk=>Bg j k (mT a) (upP st2 a) k j j)) (ZJ j) (ZJ i))))) (Ff (mT a) (Hz i) (QU a) (LQ (nU a) (mK a) (λj=>Gc j (Wc a) (DF a) j) CV (aH a) (dD a) (AN (λj=>Ct (pN a j) (λk=>Cq k (pN a j) (DF a) j (Kr a j k) (Jv a j k)))) (aX a) (Rs a)))))):=by kernel_rfl
theorem DYJ(a:UpI)(h:Ic a.w.g a.w.b)(hk:0<=a.k/\a.k<=a.w.b.length)(hh:a.w.has a.k=true):DMS a:=by
 rw[DQP]<;> delta JB EM FL NE Kq AR AK BO CI AO AU UH EA DV JD DJ DX OP FZ PS QP AN BN BJ JN EY GW FC GF GD HB GE IG ZX Aa CW FX Jb JY NK Dc QN XL Xt Ma tD AOX DF fE Hz YI BBL BRO AH LY NX LX NY AJ AZ EV AI BI FJ RH BBF sM sI DK AP Wm DI tP DY LI A2 BZ ED BC DZ EZ Pd pT APF Ud xR Tw DN GQ JA HE ER ID BLM HC AW Ca QL BMC HY YB FB Il HL UW BPF GU AY CG CF yC Bt IA Gk BY CH CK JZ Yf FK kP AWL QU HN TP OB AYL KJ GH OH EC Rv CV D1 FU FA FF AYJ GM HO OI QV Hq Qh BR IR IP CU Cw NC CR IW IK Cy Kn JR Wr AT Oc Nw II Ct EX QE DW XK RY UJ EB IN ZJ Bn UE MO Ka Ax Ow Ee MP Cq ADB HX Wc Mw PG MV Zd uY LQ SS TI SX XQ vN Vp wF LP Kr wN Ev Jv Rs Gc PD Bg Ff Ju Fq aH aX dD Kt aM nU mK Kg pN mT;simp only[CC,eq_self,implies_true,forall_const,Wy,eE,AOW,AOJ,eD,BNT,if_true]
 obtain⟨s1,s2,s3,s4⟩:=I8 h hk.1 hk.2
 refine⟨⟨h,hk⟩,⟨⟨(FH a.w a.k).lo-1,(FH a.w a.k).hi⟩,⟨(JC (n:=(FH a.w a.k).lo-1) (by omega) (by omega)).symm,rfl⟩,Int.le_refl _,(by omega:(FH a.w a.k).lo-1<=(FH a.w a.k).hi),Int.le_refl _,λm hm=>ZR 3000 m ((FH a.w a.k).lo-1) (FH a.w a.k).hi (by omega) (by omega) hm⟩,λx ⟨i1,i2,i3,i4⟩=>⟨λhl=>?_,λhl=>?_⟩⟩
 ·obtain⟨m1,m2⟩:=AXH hl
  simp only[CPO (lo:=x.lo) (hi:=x.hi) (by omega) (by omega) (by omega),show ∀t,kB ⟨a.w,t⟩=(Uo a.w.b t:Int) from λ_=>rfl,s4 _ (show (FH a.w a.k).lo<=x.lo+(x.hi-x.lo+1).tdiv 2 by omega) (by omega),nY hh,implies_true,and_true]
  obtain⟨n,hn⟩:∃n,(x.hi-x.lo).toNat=n+1:=⟨(x.hi-x.lo).toNat-1,by omega⟩
  have key:=i4 (n+1) (by omega)
  unfold upL at key
  rw[decide_eq_true hl] at key
  generalize hM:x.lo+(x.hi-x.lo+1).tdiv 2=M at *
  refine⟨by simp,⟨h,by omega,by omega⟩,λhp=>⟨⟨M,x.hi⟩,⟨rfl,rfl⟩,⟨(by omega:(FH a.w a.k).lo-1<=M),m2,i3,λm hm=>?_⟩,(by omega:(x.hi-M).toNat<(x.hi-x.lo).toNat)⟩,λhp=>⟨⟨x.lo,M-1⟩,⟨rfl,(JC (n:=M-1) (by omega) (by omega)).symm⟩,⟨i1,(by omega:x.lo<=M-1),(by omega:M-1<=(FH a.w a.k).hi),λm hm=>?_⟩,(by omega:(M-1-x.lo).toNat<(x.hi-x.lo).toNat)⟩⟩
  ·rw[key,show upP st2 a M=true from hp]
   exact ZR n m M x.hi m2 (by omega) hm
  ·rw[key,show upP st2 a M=false from hp]
   exact ZR n m x.lo (M-1) (by omega) (by omega) hm
 ·rw[i4 0 (by omega)];rfl
theorem DEU:AM Try.prog AYK ((C_up st1 WV).spec (dUpI WV)):=WY (C_up st1 WV) (A_up st1 WV ((jA st1).spec dBnF)) [] [] BMO (λ_=>by kernel_rfl) (λ_=>AB AMJ (AB AZF (AB DOV AG))) (λ(a:UpI) h=>by
 have h:Ic a.w.g a.w.b/\0<=a.k/\a.k<=a.w.b.length/\a.w.has a.k=true:=h
 exact DXQ a h.1 ⟨h.2.1,h.2.2.1⟩ h.2.2.2) (λ_=>YE rfl rfl) _
theorem DCI:AM Try.prog AYK ((C_up st2 WW).spec (dUpI WW)):=WY (C_up st2 WW) (A_up st2 WW ((jA st2).spec dBnF)) [] [] BMO (λ_=>by kernel_rfl) (λ_=>AB AMJ (AB AZF (AB DOZ AG))) (λ(a:UpI) h=>by
 have h:Ic a.w.g a.w.b/\0<=a.k/\a.k<=a.w.b.length/\a.w.has a.k=true:=h
 exact DYJ a h.1 ⟨h.2.1,h.2.2.1⟩ h.2.2.2) (λ_=>YE rfl rfl) _
def dryR(r:Rt):Bool:=r.n==0&&r.d==1
def CXN:=pD dR1 λr=>.bool (dryR r)
def DCH(r:Rt):Prop:=BG Try.prog (ann 6 []) CIB (AL CIB) (xR1 r) (AF []) (.bool (dryR r)) [] [] []
theorem DJB(r:Rt):(DCH r)=(JB (dryR r) (and (GA (GE r)) (and (Cu (IG r) 1) QJ))):=by kernel_rfl
structure BnO where
 b:Bnd
def bxF:AObj:=.box [.fn (.func BGB) [] []]
def dBnO:List AVal->Heap->Option (BnO×List (Nat×Nat)×List Nat)
 |[.d x,.bptr id _],H=>match H id with
  | .live (.box [.fn (.func g) [] []])=>if g=BGB then some (⟨dBnd x⟩,[(100,id)],[]) else none
  |_=>none
 |_,_=>none
def jG(v:BnO->Bool):Ctr:={ ro:=[100],α:=BnO,xs:=λa=>[.d (eBnd a.b),.bptr 100 0],L:=λ_=>[(100,bxF)],val:=λa=>.bool (v a),keep:=λ_=>[(100,.live bxF)] }
def dr2(a:BnO):Bool:=dryR a.b.hi
def dr3(a:BnO):Bool:=dryR a.b.lo
def CQH:Ann:={ ann 8 [(BGB,CXN)] with E:=[100] }
def DOG(a:BnO):Prop:=BG Try.prog CQH CLH (AL CLH) ((jG dr2).xs a) (AF ((jG dr2).L a)) ((jG dr2).val a) ((jG dr2).keep a) [] []
theorem DQJ(a:BnO):(DOG a)=(JB (dr2 a) (dryR (Aa (BnO.b a)))):=by kernel_rfl
def DNP(a:BnO):Prop:=BG Try.prog CQH CKX (AL CKX) ((jG dr3).xs a) (AF ((jG dr3).L a)) ((jG dr3).val a) ((jG dr3).keep a) [] []
theorem DQS(a:BnO):(DNP a)=(JB (dr3 a) (dryR (ZX (BnO.b a)))):=by kernel_rfl
theorem CQD:AM Try.prog BGB CXN:=Hv xR1 hR1 λg _=>Mj (A:=ann 6 []) (ren:=[]) (fz:=[]) DHV (by kernel_rfl) AG (by
 show DCH g;rw[DJB]<;> delta JB Cu QJ GE IG GA;unfold dryR;rw[Bool.and_true])
theorem DRE:AM Try.prog aZ ((jG dr2).spec dBnO):=WY (jG dr2) (λ_=>CQH) [] [] DJT (λ_=>by kernel_rfl) (λ_=>AB CQD AG) (λ(a:BnO) _=>by
 show DOG a;rw[DQJ]<;> delta JB Aa;rfl) (λ_=>YE rfl rfl) _
theorem DQA:AM Try.prog dJ ((jG dr3).spec dBnO):=WY (jG dr3) (λ_=>CQH) [] [] DHH (λ_=>by kernel_rfl) (λ_=>AB CQD AG) (λ(a:BnO) _=>by
 show DNP a;rw[DQS]<;> delta JB ZX;rfl) (λ_=>YE rfl rfl) _
def dUpO(n:FuncId):List AVal->Heap->Option (BkI×List (Nat×Nat)×List Nat)
 |[.bptr id _,.d k,.fn (.func g) [] [.bptr c _]],H=>if g=n then match BVU H id,H c with
  |some (w,q),.live (.box [.fn (.func f) [] []])=>if f=BGB then some (⟨w,EO k⟩,[(100,id),(101,q),(102,c)],[]) else none
  |_,_=>none else none
 |_,_=>none
def upPO(v:BnO->Bool)(a:BkI)(t:Int):Bool:=v ⟨bndM (lB ⟨a.w,t⟩) t⟩
def upMO(v:BnO->Bool)(a:BkI):Int:=upL (upPO v a) 3000 ((FH a.w a.k).lo-1) (FH a.w a.k).hi
def upHO(a:BkI):List (Nat×HCell):=bkK a.w ++ [(102,.live bxF)]
def upO3(v:BnO->Bool)(n:FuncId)(a:BkI):Shape:={ α:=LH,dflt:=default,T:=λx=>⟨[(0,.bptr 100 0),(2,.fn (.func n) [] [.bptr 102 0]),(8,.int x.lo),(9,.int x.hi)],upHO a⟩,inv:=λx=>(FH a.w a.k).lo-1<=x.lo/\x.lo<=x.hi/\x.hi<=(FH a.w a.k).hi/\∀m:Nat,(x.hi-x.lo).toNat<=m->upMO v a=upL (upPO v a) m x.lo x.hi,meas:=λx=>(x.hi-x.lo).toNat }
def rM(v:BnO->Bool)(n:FuncId):Ctr:={ ro:=[100,101,102],α:=BkI,xs:=λa=>[.bptr 100 0,.int a.k,.fn (.func n) [] [.bptr 102 0]],L:=λa=>bkL a.w ++ [(102,bxF)],val:=λa=>.int (upMO v a),keep:=λa=>upHO a,pre:=λa=>[Ic a.w.g a.w.b/\0<=a.k/\a.k<=a.w.b.length/\a.w.has a.k=true] }
def CND(v:BnO->Bool)(n:FuncId)(f:Sym.Spec)(a:BkI):Ann:={ ann 44 [(BPO,C_span.spec dBkI),(nL,C_bnd.spec dBkt),(n,f)] with E:=[100,101,102],loops:=λid=>if id=3 then some [upO3 v n a] else none }
def DCZ(a:BkI):Prop:=BG Try.prog (CND dr2 aZ ((jG dr2).spec dBnO) a) R7 (AL R7) ((rM dr2 aZ).xs a) (AF ((rM dr2 aZ).L a)) ((rM dr2 aZ).val a) ((rM dr2 aZ).keep a) [] []
abbrev iZ:=upMO
abbrev IT a b:=AYJ (IB a) b
abbrev Rp a b:=AYL (IB a) b
abbrev dI a b:=dBnd (DVal.agg (D1 (IP (Rp a b)) (IW (Rp a b)) (D1 (IK (Rp a b)) (IR (Rp a b)) BRO)))
abbrev Fi a:=pT (IB a)
abbrev JW a:=Ud (IB a)
attribute [go_sem] iZ IT Rp dI Fi JW
theorem DJL(a:BkI):(DCZ a)=(AH (AY (AI (XO a)) (CG (Fi a) (JL a)) (AT (Fi a) (JL a)) (LP (AW (OJ a) (UD a)) (λi=>OB i (OJ a) (Fu a i)) CV (NL a) (NH a) (AN (λi=>Hq (Ca (JW a) i) (XI a i) (λj=>DW j (JW a) i (IB a) (CU (CH (JW a) i j) (KR a i j) (CF (JW a) i j) (Oa a i j) (FB (JW a) i j) (IB a) i j)))) (CG (JL a) (Fi a)) (AT (JL a) (Fi a)) (LP (AW (UD a) (OJ a)) (λi=>HL i (UD a) (Fu a i) (BJ (OJ a) i)) CV (NL a) (NH a) (AN (λi=>Cw (XI a i) (JW a) i (λj=>Cy j (XI a i) (IB a) i j (JW a) i (CU (KR a i j) (CH (JW a) i j) (Oa a i j) (CF (JW a) i j) (FB (IB a) i j) (JW a) i j)))) (PD (Fi a) (OJ a) DX (λi=>PG i (OJ a) i i)) (BC (XO a)) (Fq (XO a) (OJ a))))) (fE (λi=>RY (Ju i (FA (EM (U8 (JW a) a))) (Ei (AO (YI i) (FL (U8 (JW a) a))) a a a a (NL a) (NH a) (λj=>TG a j (λk=>TB k a j a j (KR a j k) a j k)))) (wF (ZB a) i) (wN i) (vN i (ZB a)) (λj=>Bg i j (iZ dr2 a) (upPO dr2 a) j i i))) (BBL (λi=>FF (Kg (ZB a) i i i (λj=>Bg i j (iZ dr2 a) (upPO dr2 a) j i i)) (Hz i) (YI i) (AY (Kt XQ) (HX (AI (TP i)) (CG (Fi a) (JL a)) (AT (Fi a) (JL a)) (AW (OJ a) (UD a)) (AK (λj=>OB j (OJ a) (Fu a j))) CV (NL a) (EB (NH a) (AN (λj=>Hq (Ca (JW a) j) (XI a j) (λk=>DW k (JW a) j (IB a) (CU (CH (JW a) j k) (KR a j k) (CF (JW a) j k) (Oa a j k) (FB (JW a) j k) (IB a) j k)))) (IN (JL a) (IT a i)) (SX (JL a) (IT a i)) (NC (UD a) (IT a i)) (λj=>HL j (UD a) (Fu a j) (Il (IT a i) j)) (PD (Fi a) (OJ a) DX (λj=>PG j (OJ a) j j)) (BC (TP i)) (HN (TP i)))) (Ax (IP (dI a i)) (IP (Rp a i)) (HC (IW (dI a i)) (IW (Rp a i)) (IK (dI a i)) (IK (Rp a i)) (IR (dI a i)) (IR (Rp a i)))) (DV (dr2 (BnO.mk (dI a i))) (fE (λj=>CK (Ju j (TP i) (Ei (AO (YI j) (YI i)) a a a a (AN (λk=>SS (IB a) k (IT a i) k)) (MV (IB a) (IT a i)) (λk=>Cw (XI a k) (IT a i) k (λl=>Cy l (XI a k) (IB a) k l (IT a i) k (CU (KR a k l) (CH (IT a i) k l) (Oa a k l) (CF (IT a i) k l) (FB (IB a) k l) (IT a i) k l))))) (Kg (ZB a) j j j (λk=>Bg j k (iZ dr2 a) (upPO dr2 a) k j j)) (ZJ j) (ZJ i))) (fE (λj=>CK (Ju j (Hz i) (Ei (AO (YI j) (FA (TP i))) a a a a (AN (λk=>SS (IB a) k (IT a i) k)) (MV (IB a) (IT a i)) (λk=>Cw (XI a k) (IT a i) k (λl=>Cy l (XI a k) (IB a) k l (IT a i) k (CU (KR a k l) (CH (IT a i) k l) (Oa a k l) (CF (IT a i) k l) (FB (IB a) k l) (IT a i) k l))))) (Kg (ZB a) j j j (λk=>Bg j k (iZ dr2 a) (upPO dr2 a) k j j)) (ZJ j) (ZJ i))))) (Ei (AO (iZ dr2 a) (Hz i)) a a a a (NL a) (NH a) (λj=>TG a j (λk=>TB k a j a j (KR a j k) a j k)))))):=by kernel_rfl
def DAR(a:BkI):Prop:=BG Try.prog (CND dr3 dJ ((jG dr3).spec dBnO) a) R7 (AL R7) ((rM dr3 dJ).xs a) (AF ((rM dr3 dJ).L a)) ((rM dr3 dJ).val a) ((rM dr3 dJ).keep a) [] []
theorem DIN(a:BkI):(DAR a)=(AH (AY (AI (XO a)) (CG (Fi a) (JL a)) (AT (Fi a) (JL a)) (LP (AW (OJ a) (UD a)) (λi=>OB i (OJ a) (Fu a i)) CV (NL a) (NH a) (AN (λi=>Hq (Ca (JW a) i) (XI a i) (λj=>DW j (JW a) i (IB a) (CU (CH (JW a) i j) (KR a i j) (CF (JW a) i j) (Oa a i j) (FB (JW a) i j) (IB a) i j)))) (CG (JL a) (Fi a)) (AT (JL a) (Fi a)) (LP (AW (UD a) (OJ a)) (λi=>HL i (UD a) (Fu a i) (BJ (OJ a) i)) CV (NL a) (NH a) (AN (λi=>Cw (XI a i) (JW a) i (λj=>Cy j (XI a i) (IB a) i j (JW a) i (CU (KR a i j) (CH (JW a) i j) (Oa a i j) (CF (JW a) i j) (FB (IB a) i j) (JW a) i j)))) (PD (Fi a) (OJ a) DX (λi=>PG i (OJ a) i i)) (BC (XO a)) (Fq (XO a) (OJ a))))) (fE (λi=>RY (Ju i (FA (EM (U8 (JW a) a))) (Ei (AO (YI i) (FL (U8 (JW a) a))) a a a a (NL a) (NH a) (λj=>TG a j (λk=>TB k a j a j (KR a j k) a j k)))) (wF (ZB a) i) (wN i) (vN i (ZB a)) (λj=>Bg i j (iZ dr3 a) (upPO dr3 a) j i i))) (BBL (λi=>FF (Kg (ZB a) i i i (λj=>Bg i j (iZ dr3 a) (upPO dr3 a) j i i)) (Hz i) (YI i) (AY (Kt XQ) (HX (AI (TP i)) (CG (Fi a) (JL a)) (AT (Fi a) (JL a)) (AW (OJ a) (UD a)) (AK (λj=>OB j (OJ a) (Fu a j))) CV (NL a) (EB (NH a) (AN (λj=>Hq (Ca (JW a) j) (XI a j) (λk=>DW k (JW a) j (IB a) (CU (CH (JW a) j k) (KR a j k) (CF (JW a) j k) (Oa a j k) (FB (JW a) j k) (IB a) j k)))) (IN (JL a) (IT a i)) (SX (JL a) (IT a i)) (NC (UD a) (IT a i)) (λj=>HL j (UD a) (Fu a j) (Il (IT a i) j)) (PD (Fi a) (OJ a) DX (λj=>PG j (OJ a) j j)) (BC (TP i)) (HN (TP i)))) (Ax (IP (dI a i)) (IP (Rp a i)) (HC (IW (dI a i)) (IW (Rp a i)) (IK (dI a i)) (IK (Rp a i)) (IR (dI a i)) (IR (Rp a i)))) (DV (dr3 (BnO.mk (dI a i))) (fE (λj=>CK (Ju j (TP i) (Ei (AO (YI j) (YI i)) a a a a (AN (λk=>SS (IB a) k (IT a i) k)) (MV (IB a) (IT a i)) (λk=>Cw (XI a k) (IT a i) k (λl=>Cy l (XI a k) (IB a) k l (IT a i) k (CU (KR a k l) (CH (IT a i) k l) (Oa a k l) (CF (IT a i) k l) (FB (IB a) k l) (IT a i) k l))))) (Kg (ZB a) j j j (λk=>Bg j k (iZ dr3 a) (upPO dr3 a) k j j)) (ZJ j) (ZJ i))) (fE (λj=>CK (Ju j (Hz i) (Ei (AO (YI j) (FA (TP i))) a a a a (AN (λk=>SS (IB a) k (IT a i) k)) (MV (IB a) (IT a i)) (λk=>Cw (XI a k) (IT a i) k (λl=>Cy l (XI a k) (IB a) k l (IT a i) k (CU (KR a k l) (CH (IT a i) k l) (Oa a k l) (CF (IT a i) k l) (FB (IB a) k l) (IT a i) k l))))) (Kg (ZB a) j j j (λk=>Bg j k (iZ dr3 a) (upPO dr3 a) k j j)) (ZJ j) (ZJ i))))) (Ei (AO (iZ dr3 a) (Hz i)) a a a a (NL a) (NH a) (λj=>TG a j (λk=>TB k a j a j (KR a j k) a j k)))))):=by kernel_rfl
theorem DQR(a:BkI)(h:Ic a.w.g a.w.b)(hk:0<=a.k/\a.k<=a.w.b.length)(hh:a.w.has a.k=true):DCZ a:=by
 rw[DJL]<;> delta JB EM FL NE Kq AR AK BO CI AO AU UH EA DV JD DJ DX OP FZ PS QP AN BN BJ JN EY GW FC GF GD HB GE IG ZX Aa CW FX Jb JY NK Dc XO QN IB XL Xt Ma tD fE Hz YI BBL BRO iZ AH LY NX LX NY AJ AZ EV AI BI FJ RH sM sI DK AP Wm DI tP DY LI A2 BZ ED BC DZ EZ Pd pT APF Ud xR Tw DN GQ JL JA HE ER ID BLM HC AW Ca QL BMC HY GT YB FB Il HL UW BPF GU AY CG CF yC Bt IA Gk BY CH CK JZ Yf FK kP AWL HN TP OB AYL KJ GH OH UD EC Rv CV D1 FU FM XI FA FF AYJ GM HO OI QV Hq Rp IR IP CU Cw NC CR IW IK Cy Kn Wr Fu AT JW Oc Nw IT XH Ct QE DW OJ KR XK U8 RY Oa NL EB IN Kf ZJ UE NH WC Ka Ax Ow VJ TG ZB BAA Cq Fi HX Mw PG MV SS SX XQ TB vN Vp wF LP wN Ev PD Bg Ju Fq dI Kt Kg Ei;simp only[CC,eq_self,implies_true,forall_const,Wy,eE,AOW,AOJ,eD,BNT,if_true]
 obtain⟨s1,s2,s3,s4⟩:=I8 h hk.1 hk.2
 refine⟨⟨h,hk⟩,⟨⟨(FH a.w a.k).lo-1,(FH a.w a.k).hi⟩,⟨(JC (n:=(FH a.w a.k).lo-1) (by omega) (by omega)).symm,rfl⟩,Int.le_refl _,(by omega:(FH a.w a.k).lo-1<=(FH a.w a.k).hi),Int.le_refl _,λm hm=>ZR 3000 m ((FH a.w a.k).lo-1) (FH a.w a.k).hi (by omega) (by omega) hm⟩,λx ⟨i1,i2,i3,i4⟩=>⟨λhl=>?_,λhl=>?_⟩⟩
 ·obtain⟨m1,m2⟩:=AXH hl
  simp only[CPO (lo:=x.lo) (hi:=x.hi) (by omega) (by omega) (by omega),show ∀t,kB ⟨a.w,t⟩=(Uo a.w.b t:Int) from λ_=>rfl,s4 _ (show (FH a.w a.k).lo<=x.lo+(x.hi-x.lo+1).tdiv 2 by omega) (by omega),nY hh,implies_true,and_true]
  obtain⟨n,hn⟩:∃n,(x.hi-x.lo).toNat=n+1:=⟨(x.hi-x.lo).toNat-1,by omega⟩
  have key:=i4 (n+1) (by omega)
  unfold upL at key
  rw[decide_eq_true hl] at key
  generalize hM:x.lo+(x.hi-x.lo+1).tdiv 2=M at *
  refine⟨by simp,⟨h,by omega,by omega⟩,λhp=>⟨⟨M,x.hi⟩,⟨rfl,rfl⟩,⟨(by omega:(FH a.w a.k).lo-1<=M),m2,i3,λm hm=>?_⟩,(by omega:(x.hi-M).toNat<(x.hi-x.lo).toNat)⟩,λhp=>⟨⟨x.lo,M-1⟩,⟨rfl,(JC (n:=M-1) (by omega) (by omega)).symm⟩,⟨i1,(by omega:x.lo<=M-1),(by omega:M-1<=(FH a.w a.k).hi),λm hm=>?_⟩,(by omega:(M-1-x.lo).toNat<(x.hi-x.lo).toNat)⟩⟩
  ·rw[key,show upPO dr2 a M=true from hp]
   exact ZR n m M x.hi m2 (by omega) hm
  ·rw[key,show upPO dr2 a M=false from hp]
   exact ZR n m x.lo (M-1) (by omega) (by omega) hm
 ·rw[i4 0 (by omega)];rfl
theorem CQM:AM Try.prog AYK ((rM dr2 aZ).spec (dUpO aZ)):=WY (rM dr2 aZ) (CND dr2 aZ ((jG dr2).spec dBnO)) [] [] BMO (λ_=>by kernel_rfl) (λ_=>AB AMJ (AB AZF (AB DRE AG))) (λ(a:BkI) h=>by
 have h:Ic a.w.g a.w.b/\0<=a.k/\a.k<=a.w.b.length/\a.w.has a.k=true:=h
 exact DQR a h.1 ⟨h.2.1,h.2.2.1⟩ h.2.2.2) (λ_=>YE rfl rfl) _
theorem DQF(a:BkI)(h:Ic a.w.g a.w.b)(hk:0<=a.k/\a.k<=a.w.b.length)(hh:a.w.has a.k=true):DAR a:=by
 rw[DIN]<;> delta JB EM FL NE Kq AR AK BO CI AO AU UH EA DV JD DJ DX OP FZ PS QP AN BN BJ JN EY GW FC GF GD HB GE IG ZX Aa CW FX Jb JY NK Dc XO QN IB XL Xt Ma tD fE Hz YI BBL BRO iZ AH LY NX LX NY AJ AZ EV AI BI FJ RH sM sI DK AP Wm DI tP DY LI A2 BZ ED BC DZ EZ Pd pT APF Ud xR Tw DN GQ JL JA HE ER ID BLM HC AW Ca QL BMC HY GT YB FB Il HL UW BPF GU AY CG CF yC Bt IA Gk BY CH CK JZ Yf FK kP AWL HN TP OB AYL KJ GH OH UD EC Rv CV D1 FU FM XI FA FF AYJ GM HO OI QV Hq Rp IR IP CU Cw NC CR IW IK Cy Kn Wr Fu AT JW Oc Nw IT XH Ct QE DW OJ KR XK U8 RY Oa NL EB IN Kf ZJ UE NH WC Ka Ax Ow VJ TG ZB BAA Cq Fi HX Mw PG MV SS SX XQ TB vN Vp wF LP wN Ev PD Bg Ju Fq dI Kt Kg Ei;simp only[CC,eq_self,implies_true,forall_const,Wy,eE,AOW,AOJ,eD,BNT,if_true]
 obtain⟨s1,s2,s3,s4⟩:=I8 h hk.1 hk.2
 refine⟨⟨h,hk⟩,⟨⟨(FH a.w a.k).lo-1,(FH a.w a.k).hi⟩,⟨(JC (n:=(FH a.w a.k).lo-1) (by omega) (by omega)).symm,rfl⟩,Int.le_refl _,(by omega:(FH a.w a.k).lo-1<=(FH a.w a.k).hi),Int.le_refl _,λm hm=>ZR 3000 m ((FH a.w a.k).lo-1) (FH a.w a.k).hi (by omega) (by omega) hm⟩,λx ⟨i1,i2,i3,i4⟩=>⟨λhl=>?_,λhl=>?_⟩⟩
 ·obtain⟨m1,m2⟩:=AXH hl
  simp only[CPO (lo:=x.lo) (hi:=x.hi) (by omega) (by omega) (by omega),show ∀t,kB ⟨a.w,t⟩=(Uo a.w.b t:Int) from λ_=>rfl,s4 _ (show (FH a.w a.k).lo<=x.lo+(x.hi-x.lo+1).tdiv 2 by omega) (by omega),nY hh,implies_true,and_true]
  obtain⟨n,hn⟩:∃n,(x.hi-x.lo).toNat=n+1:=⟨(x.hi-x.lo).toNat-1,by omega⟩
  have key:=i4 (n+1) (by omega)
  unfold upL at key
  rw[decide_eq_true hl] at key
  generalize hM:x.lo+(x.hi-x.lo+1).tdiv 2=M at *
  refine⟨by simp,⟨h,by omega,by omega⟩,λhp=>⟨⟨M,x.hi⟩,⟨rfl,rfl⟩,⟨(by omega:(FH a.w a.k).lo-1<=M),m2,i3,λm hm=>?_⟩,(by omega:(x.hi-M).toNat<(x.hi-x.lo).toNat)⟩,λhp=>⟨⟨x.lo,M-1⟩,⟨rfl,(JC (n:=M-1) (by omega) (by omega)).symm⟩,⟨i1,(by omega:x.lo<=M-1),(by omega:M-1<=(FH a.w a.k).hi),λm hm=>?_⟩,(by omega:(M-1-x.lo).toNat<(x.hi-x.lo).toNat)⟩⟩
  ·rw[key,show upPO dr3 a M=true from hp]
   exact ZR n m M x.hi m2 (by omega) hm
  ·rw[key,show upPO dr3 a M=false from hp]
   exact ZR n m x.lo (M-1) (by omega) (by omega) hm
 ·rw[i4 0 (by omega)];rfl
theorem CNL:AM Try.prog AYK ((rM dr3 dJ).spec (dUpO dJ)):=WY (rM dr3 dJ) (CND dr3 dJ ((jG dr3).spec dBnO)) [] [] BMO (λ_=>by kernel_rfl) (λ_=>AB AMJ (AB AZF (AB DQA AG))) (λ(a:BkI) h=>by
 have h:Ic a.w.g a.w.b/\0<=a.k/\a.k<=a.w.b.length/\a.w.has a.k=true:=h
 exact DQF a h.1 ⟨h.2.1,h.2.2.1⟩ h.2.2.2) (λ_=>YE rfl rfl) _
end Go.Bal
