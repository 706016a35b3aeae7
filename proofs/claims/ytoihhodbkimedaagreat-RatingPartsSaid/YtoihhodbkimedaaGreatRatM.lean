/- Package rating: the last stage of a part for which something is so. -/
import Derived.Test.YtoihhodbkimedaaGreatRatK
set_option linter.unusedVariables false
set_option linter.unusedSimpArgs false
namespace Go.Bal
open Go Go.Sym Go.Proofs
def CJF(a:UpI):Prop:=BQ Try.prog (A_up st2 SP ((Vt st2).spec dBnF) a) oP (AI oP) ((C_up st2 SP).xs a) (AD ((C_up st2 SP).L a)) ((C_up st2 SP).val a) ((C_up st2 SP).keep a) [] []
abbrev Yx a:=upM st2 a
attribute [go_sem] Yx
theorem CPL(a:UpI):(CJF a)=(EI (AM (Ev a)) (AW (ZI a) (WG a)) (ER (ZI a) (WG a)) (AX (SB (VX a) (CW a)) (SE (VX a) (CW a)) EQ (Qg a) (Qm a) (BG (λi=>CJ (MX a) i (CW a) (λj=>CK j (MX a) i (CW a) (EJ (BO (MX a) i j) (Cb a i j) (BI (MX a) i j) (Nw a i j) (DW (MX a) i j) (CW a) i j)))) (AW (WG a) (ZI a)) (ER (WG a) (ZI a)) (JR (AY (XM a) (VX a)) (BM (XM a) (VX a)) EQ (Qg a) (Qm a) (BG (λi=>CJ (CW a) i (MX a) (λj=>CK j (CW a) i (MX a) (EJ (Cb a i j) (BO (MX a) i j) (Nw a i j) (BI (MX a) i j) (DW (CW a) i j) (MX a) i j)))) (LA (ZI a) (VX a) ES) (Ev a) (VT (Ev a) (VX a)))) (Td (λi=>CU (Dn i (JZ (WQ (MX a) (Ev a))) (YP (TY i) (Jc (MX a) (Ev a)) (WG a) (QK (aR a) (XM a) (Yt a) EQ (Qg a) (Qm a) (BG (λj=>UL (CW a) j (λk=>UC k (CW a) j (Cb a j k)))) (Ns a) (Qr a)))) (aS a a i) (eA i) (gB i (CW a) (Ev a)) (λj=>VG i j (Yx a) (upP st2 a) j i i))) (ACA (λi=>HP (Dm (aS a a i) i i (CW a) (Ev a) (λj=>VG i j (Yx a) (upP st2 a) j i i)) (GD (Bp i) (TY i)) (AN (Dw (Lk (UM 2))) (Cl (WM i) (AW (ZI a) (WG a)) (ER (ZI a) (WG a)) (AF (SB (VX a) (CW a)) (SE (VX a) (CW a)) EQ (Qg a) (JR (Qm a) (BG (λj=>CJ (MX a) j (CW a) (λk=>CK k (MX a) j (CW a) (EJ (BO (MX a) j k) (Cb a j k) (BI (MX a) j k) (Nw a j k) (DW (MX a) j k) (CW a) j k)))) (NM (WG a) (HQ a i)) (NH (WG a) (HQ a i)) (SB (XM a) (HQ a i)) (SE (XM a) (HQ a i)) (LA (ZI a) (VX a) ES) (WM i) (GU (WM i))))) (Ld (OS (Ou a i)) (OS (Zr a i)) (DX (JI (Ou a i)) (JI (Zr a i)) (JP (Ou a i)) (JP (Zr a i)) (AOY (AO (OX (Ou a i)) (OX (Zr a i))) (Ns a) (Qr a)))) (CS (st2 (BnF.mk (Ou a i) (UpI.f a))) (Td (λj=>BW (Dn j (WM i) (YP (TY j) (TY i) (WG a) (QK (aR a) (XM a) (Yt a) EQ (BG (λk=>OQ (CW a) k (HQ a i) k)) (JK (CW a) (HQ a i)) (BG (λk=>CJ (CW a) k (HQ a i) (λl=>CK l (CW a) k (HQ a i) (EJ (Cb a k l) (BO (HQ a i) k l) (Nw a k l) (BI (HQ a i) k l) (DW (CW a) k l) (HQ a i) k l)))) (Ns a) (Qr a)))) (Dm (aS a a j) j j (CW a) (Ev a) (λk=>VG j k (Yx a) (upP st2 a) k j j)) (UF j) (UF i))) (Td (λj=>BW (Dn j (Bp i) (YP (TY j) (JZ (WM i)) (WG a) (QK (aR a) (XM a) (Yt a) EQ (BG (λk=>OQ (CW a) k (HQ a i) k)) (JK (CW a) (HQ a i)) (BG (λk=>CJ (CW a) k (HQ a i) (λl=>CK l (CW a) k (HQ a i) (EJ (Cb a k l) (BO (HQ a i) k l) (Nw a k l) (BI (HQ a i) k l) (DW (CW a) k l) (HQ a i) k l)))) (Ns a) (Qr a)))) (Dm (aS a a j) j j (CW a) (Ev a) (λk=>VG j k (Yx a) (upP st2 a) k j j)) (UF j) (UF i))))) (YP (Yx a) (Bp i) (WG a) (QK (aR a) (XM a) (Yt a) EQ (Qg a) (Qm a) (BG (λj=>UL (CW a) j (λk=>UC k (CW a) j (Cb a j k)))) (Ns a) (Qr a)))))):=by kernel_rfl
theorem CRO(a:UpI)(h:ZV a.w.g a.w.b)(hk:0<=a.k/\a.k<=a.w.b.length)(hh:a.w.has a.k=true):CJF a:=by
 rw[CPL]<;> delta JT EE EC DP OV LY LW MN GD CS AO AR CG AK BV BZ CM AQ BU DD ES LX NK Ba UM Sv WL WY iR gU CI EZ LZ VY EU Lj ID RG PA PK Bq BG Jp Dd Vl Vv Ms Ev CW Td Bp TY ACA APG AG GT JO GV IE DG AF AT AH FF CA Eo CF rQ AM BL GQ JM Bu Cm AOY aD Xf AP HA BR cX AS AW DF DX DU sP CR AX qJ BC HH GA HL IC AN Ha JZ jU XT AZ Hd EP GI AY yR DW BW GC CX JD BI FZ uF UU APJ JA HG BO EK CU PF GU Ng AOX WG MX EM WM GH PG IH GF FE BN BM FC EW APR FM FK AOR EQ Aa PX Bt ACU MI Zr WA Mr Gw EJ SE NT OP ER SB SD OX OS NH NQ HQ CJ HZ CK JI JP VW NM HP UL WQ VX ME Jc UF XM Bz EI Dv ZI VV UC RO JK Ld OQ VF JR gB fS eA S2 dF Cb VT QK LA VG YP Dn Ns Qm Qr Qg Ou Nw Dw aR Dm Yt Yx Cl aS Lk;simp only[CC,eq_self,implies_true,forall_const,Fa,Sh,yL,yM,Si,AMG,if_true]
 obtain⟨s1,s2,s3,s4⟩:=mH h hk.1 hk.2
 refine⟨⟨h,hk⟩,⟨⟨(EN a.w a.k).lo-1,(EN a.w a.k).hi⟩,⟨(JH (n:=(EN a.w a.k).lo-1) (by omega) (by omega)).symm,rfl⟩,Int.le_refl _,(by omega:(EN a.w a.k).lo-1<=(EN a.w a.k).hi),Int.le_refl _,λm hm=>UV 3000 m ((EN a.w a.k).lo-1) (EN a.w a.k).hi (by omega) (by omega) hm⟩,λx ⟨i1,i2,i3,i4⟩=>⟨λhl=>?_,λhl=>?_⟩⟩
 ·obtain⟨m1,m2⟩:=O8 hl
  simp only[BLA (lo:=x.lo) (hi:=x.hi) (by omega) (by omega) (by omega),show ∀t,kB ⟨a.w,t⟩=(Et a.w.b t:Int) from λ_=>rfl,s4 _ (show (EN a.w a.k).lo<=x.lo+(x.hi-x.lo+1).tdiv 2 by omega) (by omega),aZ hh,implies_true,and_true]
  obtain⟨n,hn⟩:∃n,(x.hi-x.lo).toNat=n+1:=⟨(x.hi-x.lo).toNat-1,by omega⟩
  have key:=i4 (n+1) (by omega)
  unfold upL at key
  rw[decide_eq_true hl] at key
  generalize hM:x.lo+(x.hi-x.lo+1).tdiv 2=M at *
  refine⟨by simp,⟨h,by omega,by omega⟩,λhp=>⟨⟨M,x.hi⟩,⟨rfl,rfl⟩,⟨(by omega:(EN a.w a.k).lo-1<=M),m2,i3,λm hm=>?_⟩,(by omega:(x.hi-M).toNat<(x.hi-x.lo).toNat)⟩,λhp=>⟨⟨x.lo,M-1⟩,⟨rfl,(JH (n:=M-1) (by omega) (by omega)).symm⟩,⟨i1,(by omega:x.lo<=M-1),(by omega:M-1<=(EN a.w a.k).hi),λm hm=>?_⟩,(by omega:(M-1-x.lo).toNat<(x.hi-x.lo).toNat)⟩⟩
  ·rw[key,show upP st2 a M=true from hp]
   exact UV n m M x.hi m2 (by omega) hm
  ·rw[key,show upP st2 a M=false from hp]
   exact UV n m x.lo (M-1) (by omega) (by omega) hm
 ·rw[i4 0 (by omega)];rfl
theorem BVQ:AJ Try.prog A5 ((C_up yS SO).spec (dUpI SO)):=VD (C_up yS SO) (A_up yS SO ((Vt yS).spec dBnF)) [] [] ALB (λ_=>by kernel_rfl) (λ_=>AC vP (AC W6 (AC CNL AE))) (λ(a:UpI) h=>by
 have h:ZV a.w.g a.w.b/\0<=a.k/\a.k<=a.w.b.length/\a.w.has a.k=true:=h
 exact CST a h.1 ⟨h.2.1,h.2.2.1⟩ h.2.2.2) (λ_=>WK rfl rfl) _
theorem BWY:AJ Try.prog A5 ((C_up st2 SP).spec (dUpI SP)):=VD (C_up st2 SP) (A_up st2 SP ((Vt st2).spec dBnF)) [] [] ALB (λ_=>by kernel_rfl) (λ_=>AC vP (AC W6 (AC CQD AE))) (λ(a:UpI) h=>by
 have h:ZV a.w.g a.w.b/\0<=a.k/\a.k<=a.w.b.length/\a.w.has a.k=true:=h
 exact CRO a h.1 ⟨h.2.1,h.2.2.1⟩ h.2.2.2) (λ_=>WK rfl rfl) _
def dryR(r:Rt):Bool:=r.n==0&&r.d==1
def BVK:=pD dR1 λr=>.bool (dryR r)
def BVU(r:Rt):Prop:=BQ Try.prog (ann 6 []) BKC (AI BKC) (xR1 r) (AD []) (.bool (dryR r)) [] [] []
theorem CDM(r:Rt):(BVU r)=(JT (dryR r) (and (VU (WL r)) (and (OL (WY r) 1) JG))):=by kernel_rfl
structure BnO where
 b:Bnd
def bxF:AObj:=.box [.fn (.func AFA) [] []]
def dBnO:List AVal->Heap->Option (BnO×List (Nat×Nat)×List Nat)
 |[.d x,.bptr id _],H=>match H id with
  | .live (.box [.fn (.func g) [] []])=>if g=AFA then some (⟨dBnd x⟩,[(100,id)],[]) else none
  |_=>none
 |_,_=>none
def Vm(v:BnO->Bool):Ctr:={ ro:=[100],α:=BnO,xs:=λa=>[.d (eBnd a.b),.bptr 100 0],L:=λ_=>[(100,bxF)],val:=λa=>.bool (v a),keep:=λ_=>[(100,.live bxF)] }
def yB(a:BnO):Bool:=dryR a.b.hi
def yJ(a:BnO):Bool:=dryR a.b.lo
def BMF:Ann:={ ann 8 [(AFA,BVK)] with E:=[100] }
def CKH(a:BnO):Prop:=BQ Try.prog BMF BIX (AI BIX) ((Vm yB).xs a) (AD ((Vm yB).L a)) ((Vm yB).val a) ((Vm yB).keep a) [] []
theorem CNG(a:BnO):(CKH a)=(JT (yB a) (dryR (gU (BnO.b a)))):=by kernel_rfl
def CNC(a:BnO):Prop:=BQ Try.prog BMF BHI (AI BHI) ((Vm yJ).xs a) (AD ((Vm yJ).L a)) ((Vm yJ).val a) ((Vm yJ).keep a) [] []
theorem COH(a:BnO):(CNC a)=(JT (yJ a) (dryR (iR (BnO.b a)))):=by kernel_rfl
theorem BLZ:AJ Try.prog AFA BVK:=UX xR1 hR1 λg _=>Mn (A:=ann 6 []) (ren:=[]) (fz:=[]) CGT (by kernel_rfl) AE (by
 show BVU g;rw[CDM]<;> delta JT JG WL WY OL VU;unfold dryR;rw[Bool.and_true])
theorem CPE:AJ Try.prog Rg ((Vm yB).spec dBnO):=VD (Vm yB) (λ_=>BMF) [] [] CEN (λ_=>by kernel_rfl) (λ_=>AC BLZ AE) (λ(a:BnO) _=>by
 show CKH a;rw[CNG]<;> delta JT gU;rfl) (λ_=>WK rfl rfl) _
theorem CPV:AJ Try.prog Og ((Vm yJ).spec dBnO):=VD (Vm yJ) (λ_=>BMF) [] [] CFB (λ_=>by kernel_rfl) (λ_=>AC BLZ AE) (λ(a:BnO) _=>by
 show CNC a;rw[COH]<;> delta JT iR;rfl) (λ_=>WK rfl rfl) _
def dUpO(n:FuncId):List AVal->Heap->Option (BkI×List (Nat×Nat)×List Nat)
 |[.bptr id _,.d k,.fn (.func g) [] [.bptr c _]],H=>if g=n then match ATT H id,H c with
  |some (w,q),.live (.box [.fn (.func f) [] []])=>if f=AFA then some (⟨w,KT k⟩,[(100,id),(101,q),(102,c)],[]) else none
  |_,_=>none else none
 |_,_=>none
def upPO(v:BnO->Bool)(a:BkI)(t:Int):Bool:=v ⟨bndM (lB ⟨a.w,t⟩) t⟩
def upMO(v:BnO->Bool)(a:BkI):Int:=upL (upPO v a) 3000 ((EN a.w a.k).lo-1) (EN a.w a.k).hi
def upHO(a:BkI):List (Nat×HCell):=bkK a.w ++ [(102,.live bxF)]
def upO3(v:BnO->Bool)(n:FuncId)(a:BkI):Shape:={ α:=LH,dflt:=default,T:=λx=>⟨[(0,.bptr 100 0),(2,.fn (.func n) [] [.bptr 102 0]),(8,.int x.lo),(9,.int x.hi)],upHO a⟩,inv:=λx=>(EN a.w a.k).lo-1<=x.lo/\x.lo<=x.hi/\x.hi<=(EN a.w a.k).hi/\∀m:Nat,(x.hi-x.lo).toNat<=m->upMO v a=upL (upPO v a) m x.lo x.hi,meas:=λx=>(x.hi-x.lo).toNat }
def cH(v:BnO->Bool)(n:FuncId):Ctr:={ ro:=[100,101,102],α:=BkI,xs:=λa=>[.bptr 100 0,.int a.k,.fn (.func n) [] [.bptr 102 0]],L:=λa=>bkL a.w ++ [(102,bxF)],val:=λa=>.int (upMO v a),keep:=λa=>upHO a,pre:=λa=>[ZV a.w.g a.w.b/\0<=a.k/\a.k<=a.w.b.length/\a.w.has a.k=true] }
def BKS(v:BnO->Bool)(n:FuncId)(f:Sym.Spec)(a:BkI):Ann:={ ann 44 [(ARL,C_span.spec dBkI),(Zt,C_bnd.spec dBkt),(n,f)] with E:=[100,101,102],loops:=λid=>if id=3 then some [upO3 v n a] else none }
def CCG(a:BkI):Prop:=BQ Try.prog (BKS yB Rg ((Vm yB).spec dBnO) a) oP (AI oP) ((cH yB Rg).xs a) (AD ((cH yB Rg).L a)) ((cH yB Rg).val a) ((cH yB Rg).keep a) [] []
abbrev Vk:=upMO
abbrev Zs a b c:=S2 (DB a) (HM b) c
abbrev NA a:=gZ (DB a)
abbrev HT a b:=AOR (NA a) b
abbrev Ra a b c:=BI (DB a) b c
abbrev bD a b:=APR (NA a) b
abbrev Ol a b:=dBnd (DVal.agg (ACU (OS (bD a b)) (JI (bD a b)) (ACU (JP (bD a b)) (OX (bD a b)) APG)))
abbrev ZE a:=Hd (DB a)
attribute [go_sem] Vk Zs NA HT Ra bD Ol ZE
theorem CGE(a:BkI):(CCG a)=(EI (AM (HM a)) (AW (ZE a) (FV a)) (ER (ZE a) (FV a)) (AX (AY (OB a) (PQ a)) (BM (OB a) (PQ a)) EQ (KV a) (LD a) (BG (λi=>CJ (NA a) i (DB a) (λj=>CK j (NA a) i (DB a) (EJ (BO (NA a) i j) (Fb a i j) (BI (NA a) i j) (Ra a i j) (DW (NA a) i j) (DB a) i j)))) (AW (FV a) (ZE a)) (ER (FV a) (ZE a)) (JR (AY (PQ a) (OB a)) (BM (PQ a) (OB a)) EQ (KV a) (LD a) (BG (λi=>CJ (DB a) i (NA a) (λj=>CK j (DB a) i (NA a) (EJ (Fb a i j) (BO (NA a) i j) (Ra a i j) (BI (NA a) i j) (DW (DB a) i j) (NA a) i j)))) (LA (ZE a) (OB a) ES) (HM a) (VT (HM a) (OB a)))) (Td (λi=>CU (Dn i (JZ (WQ (NA a) (HM a))) (YE (AO (TY i) (Jc (NA a) (HM a))) a a a a (KV a) (LD a) (λj=>OY a j (λk=>OZ k a j a j k)))) (Zs a a i) (eA i) (gB i (DB a) (HM a)) (λj=>VG i j (Vk yB a) (upPO yB a) j i i))) (ACA (λi=>HP (Dm (Zs a a i) i i (DB a) (HM a) (λj=>VG i j (Vk yB a) (upPO yB a) j i i)) (GD (Bp i) (TY i)) (AN (Dw (Lk (UM 2))) (Cl (WM i) (AW (ZE a) (FV a)) (ER (ZE a) (FV a)) (AF (AY (OB a) (PQ a)) (BM (OB a) (PQ a)) EQ (KV a) (JR (LD a) (BG (λj=>CJ (NA a) j (DB a) (λk=>CK k (NA a) j (DB a) (EJ (BO (NA a) j k) (Fb a j k) (BI (NA a) j k) (Ra a j k) (DW (NA a) j k) (DB a) j k)))) (NM (FV a) (HT a i)) (NH (FV a) (HT a i)) (SB (PQ a) (HT a i)) (SE (PQ a) (HT a i)) (LA (ZE a) (OB a) ES) (WM i) (GU (WM i))))) (Ld (OS (Ol a i)) (OS (bD a i)) (CR (JI (Ol a i)) (JI (bD a i)) (JP (Ol a i)) (JP (bD a i)) (OX (Ol a i)) (OX (bD a i)))) (CS (yB (BnO.mk (Ol a i))) (Td (λj=>BW (Dn j (WM i) (YE (AO (TY j) (TY i)) a a a a (BG (λk=>OQ (DB a) k (HT a i) k)) (JK (DB a) (HT a i)) (λk=>CJ (DB a) k (HT a i) (λl=>CK l (DB a) k (HT a i) (EJ (Fb a k l) (BO (HT a i) k l) (Ra a k l) (BI (HT a i) k l) (DW (DB a) k l) (HT a i) k l))))) (Dm (Zs a a j) j j (DB a) (HM a) (λk=>VG j k (Vk yB a) (upPO yB a) k j j)) (UF j) (UF i))) (Td (λj=>BW (Dn j (Bp i) (YE (Iz (TY j) (WM i)) a a a a (BG (λk=>OQ (DB a) k (HT a i) k)) (JK (DB a) (HT a i)) (λk=>CJ (DB a) k (HT a i) (λl=>CK l (DB a) k (HT a i) (EJ (Fb a k l) (BO (HT a i) k l) (Ra a k l) (BI (HT a i) k l) (DW (DB a) k l) (HT a i) k l))))) (Dm (Zs a a j) j j (DB a) (HM a) (λk=>VG j k (Vk yB a) (upPO yB a) k j j)) (UF j) (UF i))))) (YE (AO (Vk yB a) (Bp i)) a a a a (KV a) (LD a) (λj=>OY a j (λk=>OZ k a j a j k)))))):=by kernel_rfl
def CBN(a:BkI):Prop:=BQ Try.prog (BKS yJ Og ((Vm yJ).spec dBnO) a) oP (AI oP) ((cH yJ Og).xs a) (AD ((cH yJ Og).L a)) ((cH yJ Og).val a) ((cH yJ Og).keep a) [] []
theorem CGF(a:BkI):(CBN a)=(EI (AM (HM a)) (AW (ZE a) (FV a)) (ER (ZE a) (FV a)) (AX (AY (OB a) (PQ a)) (BM (OB a) (PQ a)) EQ (KV a) (LD a) (BG (λi=>CJ (NA a) i (DB a) (λj=>CK j (NA a) i (DB a) (EJ (BO (NA a) i j) (Fb a i j) (BI (NA a) i j) (Ra a i j) (DW (NA a) i j) (DB a) i j)))) (AW (FV a) (ZE a)) (ER (FV a) (ZE a)) (JR (AY (PQ a) (OB a)) (BM (PQ a) (OB a)) EQ (KV a) (LD a) (BG (λi=>CJ (DB a) i (NA a) (λj=>CK j (DB a) i (NA a) (EJ (Fb a i j) (BO (NA a) i j) (Ra a i j) (BI (NA a) i j) (DW (DB a) i j) (NA a) i j)))) (LA (ZE a) (OB a) ES) (HM a) (VT (HM a) (OB a)))) (Td (λi=>CU (Dn i (JZ (WQ (NA a) (HM a))) (YE (AO (TY i) (Jc (NA a) (HM a))) a a a a (KV a) (LD a) (λj=>OY a j (λk=>OZ k a j a j k)))) (Zs a a i) (eA i) (gB i (DB a) (HM a)) (λj=>VG i j (Vk yJ a) (upPO yJ a) j i i))) (ACA (λi=>HP (Dm (Zs a a i) i i (DB a) (HM a) (λj=>VG i j (Vk yJ a) (upPO yJ a) j i i)) (GD (Bp i) (TY i)) (AN (Dw (Lk (UM 2))) (Cl (WM i) (AW (ZE a) (FV a)) (ER (ZE a) (FV a)) (AF (AY (OB a) (PQ a)) (BM (OB a) (PQ a)) EQ (KV a) (JR (LD a) (BG (λj=>CJ (NA a) j (DB a) (λk=>CK k (NA a) j (DB a) (EJ (BO (NA a) j k) (Fb a j k) (BI (NA a) j k) (Ra a j k) (DW (NA a) j k) (DB a) j k)))) (NM (FV a) (HT a i)) (NH (FV a) (HT a i)) (SB (PQ a) (HT a i)) (SE (PQ a) (HT a i)) (LA (ZE a) (OB a) ES) (WM i) (GU (WM i))))) (Ld (OS (Ol a i)) (OS (bD a i)) (CR (JI (Ol a i)) (JI (bD a i)) (JP (Ol a i)) (JP (bD a i)) (OX (Ol a i)) (OX (bD a i)))) (CS (yJ (BnO.mk (Ol a i))) (Td (λj=>BW (Dn j (WM i) (YE (AO (TY j) (TY i)) a a a a (BG (λk=>OQ (DB a) k (HT a i) k)) (JK (DB a) (HT a i)) (λk=>CJ (DB a) k (HT a i) (λl=>CK l (DB a) k (HT a i) (EJ (Fb a k l) (BO (HT a i) k l) (Ra a k l) (BI (HT a i) k l) (DW (DB a) k l) (HT a i) k l))))) (Dm (Zs a a j) j j (DB a) (HM a) (λk=>VG j k (Vk yJ a) (upPO yJ a) k j j)) (UF j) (UF i))) (Td (λj=>BW (Dn j (Bp i) (YE (Iz (TY j) (WM i)) a a a a (BG (λk=>OQ (DB a) k (HT a i) k)) (JK (DB a) (HT a i)) (λk=>CJ (DB a) k (HT a i) (λl=>CK l (DB a) k (HT a i) (EJ (Fb a k l) (BO (HT a i) k l) (Ra a k l) (BI (HT a i) k l) (DW (DB a) k l) (HT a i) k l))))) (Dm (Zs a a j) j j (DB a) (HM a) (λk=>VG j k (Vk yJ a) (upPO yJ a) k j j)) (UF j) (UF i))))) (YE (AO (Vk yJ a) (Bp i)) a a a a (KV a) (LD a) (λj=>OY a j (λk=>OZ k a j a j k)))))):=by kernel_rfl
theorem COX(a:BkI)(h:ZV a.w.g a.w.b)(hk:0<=a.k/\a.k<=a.w.b.length)(hh:a.w.has a.k=true):CCG a:=by
 rw[CGE]<;> delta JT EE EC DP OV LY LW MN GD CS AO AR CG AK BV BZ CM AQ BU DD ES LX NK Ba UM Sv WL WY iR gU CI EZ LZ VY EU Lj ID RG HM PA DB PK Bq BG Jp Dd Vl Vv Ms Td Bp TY ACA APG Vk AG GT JO GV IE DG AF AT AH FF CA Eo CF rQ AM BL GQ JM Bu aD Xf AP HA BR cX AS AW DF DX DU FV sP CR AX qJ BC HH GA HL IC AN Ha JZ jU XT AZ Hd ACB gZ EP GI AY yR DW BW NA GC CX JD BI FZ PQ uF UU APJ JA HG BO EK CU PF GU Ng AOX EM WM GH PG IH GF FE BN BM FC EW APR FM FK AOR EQ Aa PX Bt ACU MI WA Mr Gw bD EJ SE NT OP ER SB SD OX OS NH NQ CJ HZ CK JI JP VW NM HT TS OB HP TG UL Fb WQ Du QW ME LD Cs Jc KV UF Bz EI OF Dv OY VV ZE UC RO JK OZ Ld OQ VF JR gB eA S2 VT LA VG Dn Ol Dw Ra Dm YE Iz Cl Zs Lk;simp only[CC,eq_self,implies_true,forall_const,Fa,Sh,yL,yM,Si,AMG,if_true]
 obtain⟨s1,s2,s3,s4⟩:=mH h hk.1 hk.2
 refine⟨⟨h,hk⟩,⟨⟨(EN a.w a.k).lo-1,(EN a.w a.k).hi⟩,⟨(JH (n:=(EN a.w a.k).lo-1) (by omega) (by omega)).symm,rfl⟩,Int.le_refl _,(by omega:(EN a.w a.k).lo-1<=(EN a.w a.k).hi),Int.le_refl _,λm hm=>UV 3000 m ((EN a.w a.k).lo-1) (EN a.w a.k).hi (by omega) (by omega) hm⟩,λx ⟨i1,i2,i3,i4⟩=>⟨λhl=>?_,λhl=>?_⟩⟩
 ·obtain⟨m1,m2⟩:=O8 hl
  simp only[BLA (lo:=x.lo) (hi:=x.hi) (by omega) (by omega) (by omega),show ∀t,kB ⟨a.w,t⟩=(Et a.w.b t:Int) from λ_=>rfl,s4 _ (show (EN a.w a.k).lo<=x.lo+(x.hi-x.lo+1).tdiv 2 by omega) (by omega),aZ hh,implies_true,and_true]
  obtain⟨n,hn⟩:∃n,(x.hi-x.lo).toNat=n+1:=⟨(x.hi-x.lo).toNat-1,by omega⟩
  have key:=i4 (n+1) (by omega)
  unfold upL at key
  rw[decide_eq_true hl] at key
  generalize hM:x.lo+(x.hi-x.lo+1).tdiv 2=M at *
  refine⟨by simp,⟨h,by omega,by omega⟩,λhp=>⟨⟨M,x.hi⟩,⟨rfl,rfl⟩,⟨(by omega:(EN a.w a.k).lo-1<=M),m2,i3,λm hm=>?_⟩,(by omega:(x.hi-M).toNat<(x.hi-x.lo).toNat)⟩,λhp=>⟨⟨x.lo,M-1⟩,⟨rfl,(JH (n:=M-1) (by omega) (by omega)).symm⟩,⟨i1,(by omega:x.lo<=M-1),(by omega:M-1<=(EN a.w a.k).hi),λm hm=>?_⟩,(by omega:(M-1-x.lo).toNat<(x.hi-x.lo).toNat)⟩⟩
  ·rw[key,show upPO yB a M=true from hp]
   exact UV n m M x.hi m2 (by omega) hm
  ·rw[key,show upPO yB a M=false from hp]
   exact UV n m x.lo (M-1) (by omega) (by omega) hm
 ·rw[i4 0 (by omega)];rfl
theorem BMZ:AJ Try.prog A5 ((cH yB Rg).spec (dUpO Rg)):=VD (cH yB Rg) (BKS yB Rg ((Vm yB).spec dBnO)) [] [] ALB (λ_=>by kernel_rfl) (λ_=>AC vP (AC W6 (AC CPE AE))) (λ(a:BkI) h=>by
 have h:ZV a.w.g a.w.b/\0<=a.k/\a.k<=a.w.b.length/\a.w.has a.k=true:=h
 exact COX a h.1 ⟨h.2.1,h.2.2.1⟩ h.2.2.2) (λ_=>WK rfl rfl) _
theorem CQJ(a:BkI)(h:ZV a.w.g a.w.b)(hk:0<=a.k/\a.k<=a.w.b.length)(hh:a.w.has a.k=true):CBN a:=by
 rw[CGF]<;> delta JT EE EC DP OV LY LW MN GD CS AO AR CG AK BV BZ CM AQ BU DD ES LX NK Ba UM Sv WL WY iR gU CI EZ LZ VY EU Lj ID RG HM PA DB PK Bq BG Jp Dd Vl Vv Ms Td Bp TY ACA APG Vk AG GT JO GV IE DG AF AT AH FF CA Eo CF rQ AM BL GQ JM Bu aD Xf AP HA BR cX AS AW DF DX DU FV sP CR AX qJ BC HH GA HL IC AN Ha JZ jU XT AZ Hd ACB gZ EP GI AY yR DW BW NA GC CX JD BI FZ PQ uF UU APJ JA HG BO EK CU PF GU Ng AOX EM WM GH PG IH GF FE BN BM FC EW APR FM FK AOR EQ Aa PX Bt ACU MI WA Mr Gw bD EJ SE NT OP ER SB SD OX OS NH NQ CJ HZ CK JI JP VW NM HT TS OB HP TG UL Fb WQ Du QW ME LD Cs Jc KV UF Bz EI OF Dv OY VV ZE UC RO JK OZ Ld OQ VF JR gB eA S2 VT LA VG Dn Ol Dw Ra Dm YE Iz Cl Zs Lk;simp only[CC,eq_self,implies_true,forall_const,Fa,Sh,yL,yM,Si,AMG,if_true]
 obtain⟨s1,s2,s3,s4⟩:=mH h hk.1 hk.2
 refine⟨⟨h,hk⟩,⟨⟨(EN a.w a.k).lo-1,(EN a.w a.k).hi⟩,⟨(JH (n:=(EN a.w a.k).lo-1) (by omega) (by omega)).symm,rfl⟩,Int.le_refl _,(by omega:(EN a.w a.k).lo-1<=(EN a.w a.k).hi),Int.le_refl _,λm hm=>UV 3000 m ((EN a.w a.k).lo-1) (EN a.w a.k).hi (by omega) (by omega) hm⟩,λx ⟨i1,i2,i3,i4⟩=>⟨λhl=>?_,λhl=>?_⟩⟩
 ·obtain⟨m1,m2⟩:=O8 hl
  simp only[BLA (lo:=x.lo) (hi:=x.hi) (by omega) (by omega) (by omega),show ∀t,kB ⟨a.w,t⟩=(Et a.w.b t:Int) from λ_=>rfl,s4 _ (show (EN a.w a.k).lo<=x.lo+(x.hi-x.lo+1).tdiv 2 by omega) (by omega),aZ hh,implies_true,and_true]
  obtain⟨n,hn⟩:∃n,(x.hi-x.lo).toNat=n+1:=⟨(x.hi-x.lo).toNat-1,by omega⟩
  have key:=i4 (n+1) (by omega)
  unfold upL at key
  rw[decide_eq_true hl] at key
  generalize hM:x.lo+(x.hi-x.lo+1).tdiv 2=M at *
  refine⟨by simp,⟨h,by omega,by omega⟩,λhp=>⟨⟨M,x.hi⟩,⟨rfl,rfl⟩,⟨(by omega:(EN a.w a.k).lo-1<=M),m2,i3,λm hm=>?_⟩,(by omega:(x.hi-M).toNat<(x.hi-x.lo).toNat)⟩,λhp=>⟨⟨x.lo,M-1⟩,⟨rfl,(JH (n:=M-1) (by omega) (by omega)).symm⟩,⟨i1,(by omega:x.lo<=M-1),(by omega:M-1<=(EN a.w a.k).hi),λm hm=>?_⟩,(by omega:(M-1-x.lo).toNat<(x.hi-x.lo).toNat)⟩⟩
  ·rw[key,show upPO yJ a M=true from hp]
   exact UV n m M x.hi m2 (by omega) hm
  ·rw[key,show upPO yJ a M=false from hp]
   exact UV n m x.lo (M-1) (by omega) (by omega) hm
 ·rw[i4 0 (by omega)];rfl
theorem BPF:AJ Try.prog A5 ((cH yJ Og).spec (dUpO Og)):=VD (cH yJ Og) (BKS yJ Og ((Vm yJ).spec dBnO)) [] [] ALB (λ_=>by kernel_rfl) (λ_=>AC vP (AC W6 (AC CPV AE))) (λ(a:BkI) h=>by
 have h:ZV a.w.g a.w.b/\0<=a.k/\a.k<=a.w.b.length/\a.w.has a.k=true:=h
 exact CQJ a h.1 ⟨h.2.1,h.2.2.1⟩ h.2.2.2) (λ_=>WK rfl rfl) _
end Go.Bal
