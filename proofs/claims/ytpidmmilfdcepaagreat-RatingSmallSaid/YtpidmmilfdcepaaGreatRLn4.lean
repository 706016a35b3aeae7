/- Package rating: the reference's gaugings and ratings; Passes. -/
import Derived.Test.YtpidmmilfdcepaaGreatRPt3
set_option linter.unusedVariables false
set_option linter.unusedSimpArgs false
namespace Go.Bal
open Go Go.Sym Go.Proofs
def C_Gaus:Ctr:={ α:=List Gau,xs:=λl=>[.d (AT l)],val:=λl=>.d (AT l),pre:=λl=>[l.length<1073741824/\True] }
def ga3n(l:List Gau):Shape:={ α:=One,dflt:=default,T:=λ_=>⟨[(0,.d (AT l)),(3,.d NC),(4,.int 0)],[]⟩,inv:=λ_=>True,meas:=λ_=>l.length+1 }
def ga3o(l:List Gau):Shape:={ α:=Nat,dflt:=0,T:=λi=>⟨[(0,.d (AT l)),(3,.own 301 3 0 i),(4,.int i)],[(301,.live (.row 3 i λj=>Ry (gD l j)))]⟩,inv:=λi=>1<=i/\i<=l.length,meas:=λi=>l.length-i,again:=[(301,6096)] }
def CBZ(l:List Gau):Ann:={ ann 19 [] with mt:=λid=>id==5,loops:=λid=>if id=3 then some [ga3n l,ga3o l] else none }
def BYJ(l:List Gau):Prop:=AS ZP (CBZ l) Tryz.f15 (AE Tryz.f15) (C_Gaus.xs l) (AB []) (C_Gaus.val l) [] [] [301]
theorem CKG(l:List Gau):(BYJ l)=(WX (KZ (XC l AF AN BB)) (Ep (λi=>MO HO (Tx 0 (XA l)) (Dp (Wg (Rm 0 l)) X4 Dl Xg 1 24) (EI (λj=>Je (Af l (lY (PI j) (oW j) (λk=>TO k j l k (BL l DW) k (DF l DW) (DG l DW)))) (GP 1 j (XU j l)) (CH l) j (WR l))) (AAX (Td l)))) (λi=>WU (GP 1 i (XU i l)) i (CH l) (Dp (PH i l) (AGE (DR i) i) Dl Ws (CN i) (vK (CN i))) (EI (λj=>fR (Af l (lY (QM j i) (AJ j i) (λk=>TO k j l k (EF k i (BL l k) (BL l i)) k (EF k i (DF l k) (DF l i)) (EF k i (DG l k) (DG l i))))) 1 j (XU j l) (CH l) j i)) (Tl (Uy l i) i (AG (λj=>AXP j l l (AQ j) l (AQ j) l (AQ j)))))):=by kernel_rfl
def AKF:=pD dL1 λx=>.d (eLn x)
def BOQ(x:Ln):Prop:=AS ZP (ann 8 []) Tryz.f20 (AE Tryz.f20) (xL1 x) (AB []) (.d (eLn x)) [] [] []
theorem BVW(x:Ln):(BOQ x)=(And (Q9 x) (AXB (QT x) x (SJ x))):=by kernel_rfl
def C_modC:Ctr:={ α:=Rtg,xs:=λr=>[.d (eRtg r)],val:=λr=>.d (eRtg r),pre:=λr=>[r.b.length<1073741824/\r.l.length<1073741824] }
def mcH(r:Rtg)(v:AVal):List (Nat×HCell):=[(1000,rtgC r),(1016,.live (.box [.d NC,.d NC])),(2064,.live (.box [.d (AZ r.b),v]))]
def mcS(i:AVal):List (Nat×AVal):=[(1,.bptr 1000 0),(2,.bptr 1016 0),(3,.bptr 2064 0),(4,i)]
def mc3n(r:Rtg):Shape:={ α:=One,dflt:=default,T:=λ_=>⟨mcS (.int 0),mcH r (.d NC)⟩,inv:=λ_=>True,meas:=λ_=>r.l.length+1 }
def mc3o(r:Rtg):Shape:={ α:=Nat,dflt:=0,T:=λi=>⟨mcS (.int i),mcH r (.own 301 4 0 i) ++ [(301,.live (.row 4 i λj=>eLn (gD r.l j)))]⟩,inv:=λi=>1<=i/\i<=r.l.length,meas:=λi=>r.l.length-i,again:=[(301,6144)] }
def CAB(r:Rtg):Ann:={ ann 28 [(13,C_cdI.spec dIs1),(20,AKF)] with mt:=λid=>id==5,loops:=λid=>if id=3 then some [mc3n r,mc3o r] else none }
def BXF(r:Rtg):Prop:=AS ZP (CAB r) Tryz.f17 (AE Tryz.f17) (C_modC.xs r) (AB []) (C_modC.val r) [] [] [301]
abbrev wM a b:=SJ (KX a b)
attribute [go_sem] wM
theorem CLB(r:Rtg):(BXF r)=(BD (Dd (Dq (Ce r) r) (Cq (Ce r) r) (MB (Ce r))) (KZ (AR BB (fW r) (fU r) (DR (IS r)) (rX (AG (λi=>uL i (IS r) (KX r i))) AF AN AF (BC (Cm r) (Ce r)) (BR (Cm r) (Ce r)) AF AN))) (Ep (λi=>MO HO (Tx 0 (S0 r)) (Dp (VL (IS r)) (Xk 4) yK Xg 1 32) (EI (λj=>Je (CY (oW j) (fW r) (fU r) (DR (IS r)) (AG (λk=>uL k (IS r) (KX r k))) AF (APF AN AF AN (fW r) (fU r) (PI j) (λk=>dB k j (KX r k) (MG (KX r DW)) (tU (QT (KX r k)) (QT (KX r DW)) (KX r k) (KX r DW) (wM r k) (wM r DW))))) (ZN 1 j (IS r)) (IS r) j (CN (IS r)))) (And (fW r) (Hv (fU r) (HE (IS r)))))) (AG (λi=>WU (ZN 1 i (IS r)) i (IS r) (Dp (CR i (IS r)) (qK i) yK Ws (CN i) (ABE (CN i) 32)) (EI (λj=>fR (CY (AJ j i) (fW r) (fU r) (DR (IS r)) (AG (λk=>uL k (IS r) (KX r k))) AF (APF AN AF AN (fW r) (fU r) (QM j i) (λk=>dB k j (KX r k) (EF k i (MG (KX r k)) (MG (KX r i))) (AEX (KX r k) (EF k i (QT (KX r k)) (QT (KX r i))) (EF k i (RU (KX r k)) (RU (KX r i))) (wM r k) (EF k i (wM r k) (wM r i)))))) 1 j (FF j (IS r)) (IS r) j i)) (FE (fW r) (fU r) (DU (IS r) i) (AQ i) i (AG (λj=>dB j (IS r) (KX r j) (MG (KX r (AQ j))) (tU (QT (KX r j)) (QT (KX r (AQ j))) (KX r j) (KX r (AQ j)) (wM r j) (wM r (AQ j))))))))):=by kernel_rfl
def rsS(a:GR)(v:AVal)(k:Nat):List (Nat×AVal):=[(0,.d (AT a.g)),(3,.bptr 1000 0),(8,v),(9,.int k)]
def rs9n(a:GR):Shape:={ α:=Nat,dflt:=0,T:=λk=>⟨rsS a (.d NC) k,[(1000,rtgC a.r)]⟩,inv:=λk=>psI a k [],meas:=λk=>a.g.length-k }
def rs9o(a:GR):Shape:={ α:=KI,dflt:=default,T:=λx=>⟨rsS a (.own 301 1 0 x.l.length) x.k,[(1000,rtgC a.r),(301,.live (rowI x.l))]⟩,inv:=λx=>psI a x.k x.l,meas:=λx=>a.g.length-x.k }
def CYZ(a:GR)(m:Nat):Shape:={ α:=Nat,dflt:=0,T:=λk=>⟨rsS a (.d NC) k,[(1000,rtgC a.r)]⟩,inv:=λk=>k<a.g.length/\a.g.length-k=m/\psI a (k+1) [],meas:=λ_=>0 }
def CQR(a:GR)(m:Nat)(f:List (Nat×Nat)):Shape:={ α:=KI,dflt:=default,T:=λx=>⟨rsS a (.own 301 1 0 x.l.length) x.k,[(1000,rtgC a.r),(301,.live (rowI x.l))]⟩,inv:=λx=>x.k<a.g.length/\a.g.length-x.k=m/\psI a (x.k+1) x.l,meas:=λ_=>0,first:=f }
def CBQ(a:GR):Ann:={ ann 70 [(14,C_rCheck.spec NU),(16,C_rChkR.spec dRt1),(63,C_rPart.spec dIX),(60,jI),(66,tY)] with mt:=λid=>id==13,loops:=λid=>if id=9 then some [rs9n a,rs9o a] else none,cutIn:=λgs id=>if id=10 then some [CYZ a (gs.getD 0 0),CQR a (gs.getD 0 0) [(301,14048)],CQR a (gs.getD 0 0) []] else none }
def CCN(a:GR):Prop:=AS ZP (CBQ a) Tryz.f24 (AE Tryz.f24) (xGR a) (AB []) (C_Passes.val a) [] [] [301]
abbrev ATU a b c d e f g h:=BK a b c d e f g b h
abbrev yV a b c d e f g h:=BK a b AF c d e f g h
abbrev lR a b:=iX a (Rz b)
attribute [go_sem] ATU yV lR
theorem CKK(a:GR):(CCN a)=(Sa (xA (QK a) (HV (QK a))) (lG (QK a)) (qY (Xe a) (eR (cE a) (QK a))) (Sa (AW (BC (OV a) (Gy a)) (BR (OV a) (Gy a)) (LB (dU a) (pJ a)) (AG (λi=>Ov i (dU a) (AMG a i))) (MB (OV a)) (Br (CO (dU a)))) (Hj (ARM (OV a) (dU a))) (qY (Xe a) (BM (cE a) (Hj (ARM (OV a) (dU a))))) (AO (EI (λi=>JO (yV (Yx a) (UC a) AN (BX i) (TH a) (TL a) (UD a) (Di a)) (HD a) i (DN a) (Gs a i))) (AG (λi=>Mb (EE (HD a) i (DN a) (Gs a i)) i (DN a) (UG (Qv i (DN a) (S9 (BC (OV a) (Gy a)) (BR (OV a) (Gy a)) (AK (YI a i)) (P1 (OV a)) (CR (AGL a (YI a i)) (pJ a)) (CR i (DN a)) (HX (Pf a a (YI a i))) (YI a i))) (Qv i (DN a) (Pa (lR (pT (Pf a a (YI a i)) (YI a i)) (mF a i)) (CR i (DN a)))) (JR (lR (pT (Pf a a (YI a i)) (YI a i)) (mF a i)) (iX (Rz (DG (QK a) i)) (pT (Pf a a (YI a i)) (YI a i)))) (Sx 1 YM 8) (wZ (λj=>HF (O2 (QK a) (UC a) (ATU AF (mT (ID j)) (AI (DT j) i) (TH a) (TL a) (UD a) (Di a) (AG (λk=>KC k (ID j) (BO i))))) (Xl j a) (Yq a j i) (HD a) (Qu j) (DN a) (Zw j a j))) (EI (λj=>HF (yV (Yx a) (UC a) AN (AI j i) (TH a) (TL a) (UD a) (Di a)) (tR j a) (xM a j i) (HD a) (CN j) (DN a) (Gs a (CN j))))) (λj=>uR (FE (tR j a) (xM a j i) (HD a) (CN j) (DN a) (Gs a (CN j))) (λk=>Am (yV (Yx a) (UC a) AN (AJ k j) (TH a) (TL a) (UD a) (Di a)) (HD a) k (DN a) (Gs a k) i)) (AQI (λj=>PY (FE (Xl j a) (Yq a j i) (HD a) (Qu j) (DN a) (Zw j a j)) (wZ (λk=>Am (O2 (QK a) (UC a) (ATU AF (cZ k j) (AJ (DT k) (DT j)) (TH a) (TL a) (UD a) (Di a) (BR (ID k) (ID j)))) (HD a) (DT k) (DN a) (wO k a (DT k)) i)))) (qY (Xe a) (HD a)))) (AQI (λi=>Mb (EE (HD a) (DT i) (DN a) (wO i a (DT i))) (DT i) (DN a) (UG (Qv (DT i) (DN a) (S9 (BC (OV a) (Gy a)) (BR (OV a) (Gy a)) (AK (ZC a i)) (P1 (OV a)) (CR (AGL a (ZC a i)) (pJ a)) (CR (DT i) (DN a)) (HX (Pf a a (ZC a i))) (ZC a i))) (Qv (DT i) (DN a) (Pa (lR (pT (Pf a a (ZC a i)) (ZC a i)) (mF a (DT i))) (CR (DT i) (DN a)))) (JR (lR (pT (Pf a a (ZC a i)) (ZC a i)) (mF a (DT i))) (iX (Rz (DG (QK a) (DT i))) (pT (Pf a a (ZC a i)) (ZC a i)))) (eV (And (IW (ID i)) (sL 0 (ID i) UX)) YM (ZT (ID i)) 8) (wZ (λj=>HF (O2 (QK a) (UC a) (ATU AF (OD (ID j) (ZT (ID i))) (AI (DT j) (DT i)) (TH a) (TL a) (UD a) (Di a) (AG (λk=>KC k (ID j) (EF k (GZ (ID i)) (KL (ID i) k) (BO (DT i))))))) (Xl j a) (Yq a j (DT i)) (HD a) (Qu j) (DN a) (Zw j a j))) (wZ (λj=>HF (O2 (QK a) (UC a) (ATU AF (cZ j i) (AI (DT j) (DT i)) (TH a) (TL a) (UD a) (Di a) (BR (ID j) (ID i)))) (Xl j a) (Yq a j (DT i)) (HD a) (Qu j) (DN a) (Zw j a j)))) (λj=>uR (FE (tR j a) (xM a j (DT i)) (HD a) (CN j) (DN a) (Gs a (CN j))) (λk=>Am (yV (Yx a) (UC a) AN (AJ k j) (TH a) (TL a) (UD a) (Di a)) (HD a) k (DN a) (Gs a k) (DT i))) (AQI (λj=>PY (FE (Xl j a) (Yq a j (DT i)) (HD a) (Qu j) (DN a) (Zw j a j)) (wZ (λk=>Am (O2 (QK a) (UC a) (ATU AF (cZ k j) (AJ (DT k) (DT j)) (TH a) (TL a) (UD a) (Di a) (BR (ID k) (ID j)))) (HD a) (DT k) (DN a) (wO k a (DT k)) (DT i))))) (Sz (AZU (Xe a) i) (AQ (GZ (ID i))) (ID i) (AG (λj=>yC j (Xe a) (ID i) j)) (HD a))))))):=by kernel_rfl
theorem CUI(l:List Gau)(h:l.length<1073741824):BYJ l:=by
 rw[CKG]<;> dsimp only[go_sem];simp only[CC,CU,Int.toNat_zero]
 refine⟨⟨default,trivial⟩,⟨λhlt=>⟨⟨⟨by omega,by omega⟩,by omega,by omega,by omega,by omega,by omega⟩,1,⟨rfl,(BF (a:=0) (by omega)).symm,rfl,λi hi=>by rw[show i=0 by omega];exact⟨rfl,rfl,rfl⟩⟩,⟨by omega,by omega⟩,by omega⟩,λhge=>by omega⟩,λk ⟨k1,k2⟩=>⟨λhlt=>⟨⟨⟨by omega,by omega⟩,by omega,λh=>(by cases h),by omega,by omega⟩,k+1,⟨rfl,(BF (by omega)).symm,rfl,λi hi=>?_⟩,⟨by omega,by omega⟩,by omega⟩,λhge=>⟨by omega,Nat.le_refl _⟩⟩⟩
 by_cases e:i<k
 ·rw[decide_eq_true e];exact⟨rfl,rfl,rfl⟩
 ·rw[decide_eq_false e,show i=k by omega];exact⟨rfl,rfl,rfl⟩
theorem AUW:AH ZP 15 (C_Gaus.spec NU):=PW C_Gaus CBZ [] [301] Tryz.func15 (λ_=>by kernel_rfl) (λ_=>AD) (λ(l:List Gau) h=>CUI l (show l.length<1073741824/\True from h).1) (λ_=>RA rfl rfl) _
theorem AQK:AH ZP 20 AKF:=OG xL1 hL1 λx _=>WP (A:=ann 8 []) (ren:=[]) (fz:=[]) Tryz.func20 (by kernel_rfl) AD (by
 show BOQ x;rw[BVW]<;> dsimp only[go_sem];simp)
theorem CSH(r:Rtg)(h1:r.b.length<1073741824)(h:r.l.length<1073741824):BXF r:=by
 rw[CLB]<;> dsimp only[go_sem];simp only[CC,CU,Int.toNat_zero]
 refine⟨h1,⟨default,trivial⟩,⟨λhlt=>⟨⟨⟨by omega,by omega⟩,by omega,by omega,by omega,by omega,by omega⟩,1,⟨(BF (a:=0) (by omega)).symm,rfl,rfl,λi hi=>by rw[show i=0 by omega];exact⟨rfl,rfl,rfl,rfl⟩⟩,⟨by omega,by omega⟩,by omega⟩,λhge=>by omega⟩,λk ⟨k1,k2⟩=>⟨λhlt=>⟨⟨⟨by omega,by omega⟩,by omega,λh=>(by cases h),by omega,by omega⟩,k+1,⟨(BF (by omega)).symm,rfl,rfl,λi hi=>?_⟩,⟨by omega,by omega⟩,by omega⟩,λhge=>⟨by omega,Nat.le_refl _⟩⟩⟩
 by_cases e:i<k
 ·rw[decide_eq_true e];exact⟨rfl,rfl,rfl,rfl⟩
 ·rw[decide_eq_false e,show i=k by omega];exact⟨rfl,rfl,rfl,rfl⟩
theorem BTL:AH ZP 17 (C_modC.spec dRt1):=PW C_modC CAB [] [301] Tryz.func17 (λ_=>by kernel_rfl) (λ_=>AA ALF (AA AQK AD)) (λ(r:Rtg) h=>CSH r h.1 h.2) (λ_=>RA rfl rfl) _
theorem AXO{x:Ln}{g:Gau}(hx:MI x)(hg:IT g):(bif belR (Ct x g.st) (Rt.mk g.lo 1) then true else belR (Rt.mk g.hi 1) (Ct x g.st))=!NJ x g:=by
 obtain⟨g1,g2,g3,g4,g5⟩:=hg
 have hd:=AFA (t:=g.st) hx
 have hn:=BYY hx ⟨g1,g2⟩
 have m1:=Int.mul_le_mul_of_nonneg_right (show g.lo<=200000 by omega) (Int.le_of_lt hd.1)
 have m2:=Int.mul_le_mul_of_nonneg_right g5 (Int.le_of_lt hd.1)
 have m3:=Int.mul_nonneg g3 (Int.le_of_lt hd.1)
 have m4:=Int.mul_nonneg (show 0<=g.hi by omega) (Int.le_of_lt hd.1)
 unfold belR NJ
 generalize Ct x g.st=r at *
 show (bif decide (wr (r.n*1)<wr (g.lo*r.d)) then true else decide (wr (g.hi*r.d)<wr (r.n*1)))=_
 rw[Int.mul_one,show wr r.n=r.n from HL (by omega) (by omega),show wr (g.lo*r.d)=g.lo*r.d from HL (by omega) (by omega),show wr (g.hi*r.d)=g.hi*r.d from HL (by omega) (by omega)]
 by_cases c1:r.n<g.lo*r.d
 ·rw[decide_eq_true c1,decide_eq_false (show ¬g.lo*r.d<=r.n by omega)];rfl
 ·rw[decide_eq_false c1,decide_eq_true (show g.lo*r.d<=r.n by omega)]
  by_cases c2:g.hi*r.d<r.n
  ·rw[decide_eq_true c2,decide_eq_false (show ¬r.n<=g.hi*r.d by omega)];rfl
  ·rw[decide_eq_false c2,decide_eq_true (show r.n<=g.hi*r.d by omega)];rfl
theorem CTN(a:GR)(h1:a.g.length<1073741824)(h2:a.r.b.length<1073741824)(h3:a.r.l.length<1073741824):CCN a:=by
 rw[CKK]<;> dsimp only[go_sem];simp only[CC,CU]
 rw[show Rtg.mk a.r.b a.r.l=a.r from rfl]
 have em:¬Kz a=0->sX a=[]:=λh=>by unfold sX;rw[show (Kz a==0)=false by simpa using h];rfl
 have facts:Kz a=0->AL a.g=0/\okRt a.r:=λh=>by
  unfold Kz at h
  cases hc:AL a.g==0 with
  |false=>rw[hc] at h;have h:AL a.g=0:=h;rw[h] at hc;cases hc
  |true=>rw[hc] at h;exact⟨by simpa using hc,(C9 h).1⟩
 have pre:∀{k:Nat},Kz a=0->k<a.g.length->(0<=((KB a.r.b (gD a.g k).st:Nat):Int)/\((KB a.r.b (gD a.g k).st:Nat):Int)<a.r.l.length)/\MI (gD a.r.l (KB a.r.b (gD a.g k).st))/\IT (gD a.g k):=λ{k} h hk=>by
  obtain⟨f1,f2,f3,f4,f5⟩:=facts h
  have hle:KB a.r.b (gD a.g k).st<=a.r.b.length:=List.countP_le_length
  exact⟨⟨by omega,by omega⟩,f4 _ (BU (by omega)),(JU f1).2 _ (BU hk)⟩
 have cn:∀(m i:Nat),i<a.g.length/\a.g.length-i=m/\psI a (i+1) []->∃j:Nat,(j:Int)=IntKind.i64.wrap ((i:Int)+1)/\psI a j []/\a.g.length-j<m:=λm i ⟨b1,b2,b3⟩=>⟨i+1,(BF (by omega)).symm,b3,by omega⟩
 have co:∀(m:Nat) (x:KI),x.k<a.g.length/\a.g.length-x.k=m/\psI a (x.k+1) x.l->∃y:KI,(y.l.length=x.l.length/\(y.k:Int)=IntKind.i64.wrap ((x.k:Int)+1)/\y.l.length=x.l.length/\∀i,i<y.l.length->gD y.l i=gD x.l i)/\psI a y.k y.l/\a.g.length-y.k<m:=λm x ⟨b1,b2,b3⟩=>⟨⟨x.k+1,x.l⟩,⟨rfl,(BF (by omega)).symm,rfl,λ_ _=>rfl⟩,b3,by show a.g.length-(x.k+1)<m;omega⟩
 have fin:∀{l:List Int},Kz a=0->l=vS a a.g.length->sX a=l:=λ{l} h1 h2=>by unfold sX;rw[h1,h2];rfl
 refine⟨h1,λhc=>?_,λhc=>⟨⟨h2,h3⟩,λhr=>?_,λhr=>?_⟩⟩
 ·have e:Kz a=AL a.g:=by unfold Kz;rw[show (AL a.g==0)=false by simpa using hc];rfl
  rw[em (by rw[e];simpa using hc)];exact⟨rfl,rfl,e⟩
 ·have e:Kz a=HB a.r:=by unfold Kz;rw[show (AL a.g==0)=true by simpa using hc];rfl
  rw[em (by rw[e];simpa using hr)];exact⟨rfl,rfl,e⟩
 ·have e:Kz a=0:=by
   unfold Kz;rw[show (AL a.g==0)=true by simpa using hc];simpa using hr
  refine⟨⟨0,rfl,e,Nat.zero_le _,rfl⟩,λk ⟨k1,k2,k3⟩=>⟨λhlt=>?_,λhge=>?_⟩,λx ⟨x1,x2,x3⟩=>⟨λhlt=>?_,λhge=>?_⟩⟩
  ·have hk:k<a.g.length:=by omega
   obtain⟨p1,p2,p3⟩:=pre k1 hk
   rw[AXO p2 p3]
   refine⟨⟨⟨⟨by omega,by omega⟩,h2,p1,⟨by omega,by omega⟩,p2,p3.1,p3.2.1⟩,⟨⟨by omega,by omega⟩,λ_=>⟨by omega,by omega⟩⟩,λhp=>⟨⟨by omega,by omega,by omega,by omega,by omega⟩,⟨k,[(k:Int)]⟩,⟨rfl,rfl,rfl,λi hi=>by rw[show i=0 by have h1:i<1:=hi;omega];rfl⟩,hk,rfl,k1,hk,?_⟩,λhp=>⟨k,rfl,hk,rfl,k1,hk,?_⟩⟩,cn _,co _⟩
   ·show [(k:Int)]=vS a (k+1)
    rw[Hl,if_pos (show notP a k=true from hp),<-k3];rfl
   ·rw[Hl,if_neg (show ¬notP a k=true by unfold notP;rw[hp];simp)];exact k3
  ·have ee:sX a=[]:=fin k1 (by rw[k3,show k=a.g.length by omega])
   rw[ee];exact⟨rfl,rfl,k1⟩
  ·have hk:x.k<a.g.length:=by omega
   have hxl:=ADE a x.k
   rw[<-x3] at hxl
   obtain⟨p1,p2,p3⟩:=pre x1 hk
   rw[AXO p2 p3]
   refine⟨⟨⟨⟨by omega,by omega⟩,h2,p1,⟨by omega,by omega⟩,p2,p3.1,p3.2.1⟩,⟨⟨by omega,by omega⟩,λ_=>⟨by omega,by omega⟩⟩,λhp=>⟨⟨by omega,λh=>(by cases h),by omega,by omega⟩,⟨x.k,x.l ++ [(x.k:Int)]⟩,⟨by simp,rfl,by simp,CBH _ _⟩,hk,rfl,x1,hk,?_⟩,λhp=>⟨⟨x.k,x.l⟩,⟨rfl,rfl,rfl,λ_ _=>rfl⟩,hk,rfl,x1,hk,?_⟩⟩,cn _,co _⟩
   ·show x.l ++ _=vS a (x.k+1)
    rw[Hl,if_pos (show notP a x.k=true from hp),<-x3]
   ·show x.l=vS a (x.k+1)
    rw[Hl,if_neg (show ¬notP a x.k=true by unfold notP;rw[hp];simp)];exact x3
  ·have ee:sX a=x.l:=fin x1 (by rw[x3,show x.k=a.g.length by omega])
   rw[ee];exact⟨rfl,Nat.le_refl _,λ_ _=>rfl,x1⟩
theorem BSS:AH ZP 24 (C_Passes.spec dGR):=PW C_Passes CBQ [] [301] Tryz.func24 (λ_=>by kernel_rfl) (λ_=>AA Vt (AA AKY (AA iQ (AA AJH (AA A3 AD))))) (λ(a:GR) h=>CTN a h.1 h.2.1 h.2.2) (λ_=>RA rfl rfl) _
structure PaA where
 l:List Gau
 b:List Int
 z:List Int
 m:Int
 k:List (List Int)
def xPa(a:PaA):List AVal:=[.d (AT a.l),.d (AZ a.b),.d (AZ a.z),.int a.m,.d (eLL a.k)]
structure PaI(a:PaA)(i:Nat):Prop where
 hl:a.l.length<=26
 hb:a.b.length<=27
 hz:a.z.length<=5
 hk:a.k.length<=27
 hi:i<=a.k.length
 hs:∀j,j<i->(gD a.k j).length<=5
def pa4(a:PaA):Shape:={ α:=Nat,dflt:=0,T:=λi=>⟨[(0,.d (AT a.l)),(1,.d (AZ a.b)),(2,.d (AZ a.z)),(3,.int a.m),(4,.d (eLL a.k)),(11,.int i)],[]⟩,inv:=λi=>PaI a i,meas:=λi=>a.k.length-i }
def A_Pa(a:PaA):Ann:={ ann 233 [(11,ADK),(12,C_cdG.spec NU),(13,C_cdI.spec dIs1),(28,C_cdLL.spec dLL1),(15,C_Gaus.spec NU),(29,C_Through.spec dGB),(30,C_rThru.spec dGB),(31,C_Rate.spec NU),(32,C_rParts.spec NU),(33,C_Knots.spec NU),(24,C_Passes.spec dGR),(17,C_modC.spec dRt1),(34,C_rProv.spec dPVd),(35,C_Knot.spec dGK),(36,C_rKnot.spec dGK),(37,C_Proves.spec dPV),(26,C_smG.spec dGs2),(25,C_smI.spec dIs2),(38,C_smLL.spec dLL2)] with loops:=λid=>if id=4 then some [pa4 a] else none }
def V_Pa(a:PaA):Prop:=AS ZP (A_Pa a) Tryz.f6 (AE Tryz.f6) (xPa a) (AB []) (.bool true) [] [] []
abbrev Hp:=PaA.l
abbrev Qm:=PaA.b
abbrev YW:=PaA.z
abbrev zG:=PaA.k
abbrev CGO:=@BEq.beq Bool (@instBEqOfDecidableEq Bool instDecidableEqBool)
abbrev Tp a b c:=Hd a b Un c
abbrev BHZ a b:=AWN a b aN
abbrev Xm a:=BHZ a aN
abbrev Co a:=sC (Hp a)
abbrev BAJ a b c d:=PV.mk (Co a) b c d
abbrev AWF a b:=BAJ a (PaA.m a) b hd8
abbrev AHH a b(c:Nat->Nat):=sW a (λi=>AZ (KJ b (c i)))
abbrev AIE a b:=AHH a b (λi=>i)
abbrev bD a:=FH (zG a)
abbrev Gr a:=AIE (bD a) (zG a)
abbrev YN a:=FH (Gr a)
abbrev Nf a:=AIE (YN a) (Gr a)
abbrev AKV a:=AWF a (Nf a)
abbrev BAV a b:=CGO (Rs (AKV a)) (Rs (AWF b (Gr b)))
abbrev nA a b c:=BHZ a (BAV b c)
abbrev Xn a b:=VS (jM (AKV a)) (jM (AWF b (Gr b)))
abbrev Ss a b c d e f:=FA a (zB b c d e f)
abbrev lS a b:=MB (KJ a b)
abbrev QJ a:=FH (Nf a)
abbrev TU a:=FI (YW a)
abbrev XZ a:=FI (Qm a)
abbrev Do a:=KV (Co a)
abbrev Bb a:=Xv (Co a) (Hp a)
abbrev Ba a:=Zf (Co a) (Hp a)
abbrev dF a b:=And a (Br b)
abbrev Z1 a:=AK (PaA.m a)
abbrev oY a b:=not (CGO a b)
abbrev rH a b:=BKM (Co a) b
abbrev BCA a:=AEN (Co a)
abbrev AYM a:=FH (BCA a)
abbrev qZ a b:=AIE (AYM a) (BCA b)
abbrev Ua a:=R8 (Co a)
abbrev K4 a b:=ARM (FI a) b
abbrev gO a:=rZ (Ua a)
abbrev lC a:=Ce (Ua a)
attribute [go_sem] Hp Qm YW zG CGO Tp BHZ Xm Co BAJ AWF AHH AIE bD Gr YN Nf AKV BAV nA Xn Ss lS QJ TU XZ Do Bb Ba dF Z1 oY rH BCA AYM qZ Ua K4 gO lC
theorem CZN(a:PaA):(V_Pa a)=(Hd (JR (oM (EP (NO (CH (Hp a)) 14) (UO (CH (Hp a)) 24)) (NO (CH (Hp a)) 26) (NO (GZ (Qm a)) 27)) (NO (GZ (YW a)) 5)) (NO (bD a) 27) UN (HU (λi=>And (XY (Hp a) (BK (AP (Hp a)) (IW (Qm a)) (EZ (Qm a)) (IW (YW a)) (EZ (YW a)) (Z1 a) (DR (bD a)) (AG (λj=>gT j (bD a) (zG a) j)) (BX i))) (PaI a i)) (λi=>An (PaI a i) i (bD a) (CR i (bD a)) (NO (GZ (KJ (zG a) i)) 5) UN (λj=>EO (XY (Hp a) (BK (AP (Hp a)) (IW (Qm a)) (EZ (Qm a)) (IW (YW a)) (EZ (YW a)) (Z1 a) (DR (bD a)) (AG (λk=>gT k (bD a) (zG a) k)) (AJ j i))) (PaI a j) (bD a) j i) (AR (AR (AY (Hp a)) (BJ (Hp a)) (Al (HV (Hp a))) (EA (Qm a)) (DO (CM (Qm a)) (Al (LV (Qm a))) (EA (YW a)) (CM (YW a)) (Al (LV (YW a))) (DU (YN a) (bD a)) (λj=>Mv j (YN a) (Gr a) j (zG a) j) (QY (Br (YN a)) (λj=>HJ j (YN a) (lS (Gr a) j))) HO)) (xA (Hp a) (HV (Hp a))) (zB (Ba a) (Bb a) (EA (XZ a)) (CM (XZ a)) (And (Fz (Co a)) (lF (XZ a)))) (Sd (Ba a) (Bb a) (Qm a) (CM (Qm a)) (Do a) (LV (Qm a))) (Tp (hd23 (V0 (Co a) (FI (XZ a))) (V0 (Co a) (XZ a))) (oY (Wj (GB.mk (Co a) (FI (XZ a)))) (Wj (GB.mk (Co a) (XZ a)))) (CFY (BD (Ba a) (Bb a) (Do a) (IN (gSm (Co a)))) (Dd (Ba a) (Bb a) (Do a)) (Tp (JR (BTE (Qh (Hg (Co a))) aN) (Qh (S0 (Ua a)))) (hd23 (BO (AYM a)) (hd47 0 (Dv (IS (Ua a))))) (FD (OJ (Hg (Co a))) (AW (Dq (lC a) (Ua a)) (Cq (lC a) (Ua a)) (Sk (gO a) (Ua a)) (AG (λj=>Ov j (gO a) (KX (Ua a) j))) (dF (MB (lC a)) (CO (gO a))) (BK (Ba a) (Bb a) (EA (lC a)) (CM (lC a)) (qJ (gO a)) (lH (dG (gO a)) (gO a)) (Do a) (LV (lC a)) (Br (dG (gO a))))) (Tp (RR (cE (GR.mk (Co a) (K4 (lC a) (Jg (gO a)))))) (Ru (GZ (Xe (GR.mk (Co a) (K4 (lC a) (Jg (gO a))))))) (TC (CY (Ba a) (Bb a) (BP (IS (Ua a))) (DU (FH (qZ a a)) (AYM a)) (AG (λj=>Mv j (FH (qZ a a)) (qZ a a) j (BCA a) j)) (dF (Do a) (FH (qZ a a))) (AG (λj=>HJ j (FH (qZ a a)) (lS (qZ a a) j)))) (JR (RR (jM (BAJ a (S0 (Ua a)) (qZ a a) hd8))) (not (Rs (BAJ a (S0 (Ua a)) (qZ a a) hd8)))) Un (AO (Sd (Ba a) (Bb a) (TU a) (CM (TU a)) (Do a) (LV (TU a))) (Sd (Ba a) (Bb a) (YW a) (CM (YW a)) (Do a) (LV (YW a))) (Tp (hd23 (tJ (rH a (TU a))) (tJ (rH a (YW a)))) (oY (vF (rH a (TU a))) (vF (rH a (YW a)))) (BD (CY (Ba a) (Bb a) (Z1 a) (DU (QJ a) (YN a)) (AG (λj=>Mv j (QJ a) (Nf a) j (Gr a) j)) (And (dF (Do a) (QJ a)) (FA (pvN (AKV a)) (qT (QJ a)))) (AG (λj=>HJ j (QJ a) (lS (Nf a) j)))) (CY (Ba a) (Bb a) (Z1 a) (DU (YN a) (bD a)) (AG (λj=>Mv j (YN a) (Gr a) j (zG a) j)) (dF (Do a) (YN a)) (AG (λj=>HJ j (YN a) (lS (Gr a) j)))) (BD (Ss (EP (Xn a a) (BAV a a)) (Ba a) (Bb a) (HQ (Co a) (Hp a)) (EK (Co a) (Hp a)) (Do a)) (Ss (nA (Xn a a) a a) (EA (XZ a)) (CM (XZ a)) (M1 (XZ a) (Qm a)) (P3 (XZ a) (Qm a)) (LV (XZ a))) (Ss (EP (nA (Xn a a) a a) aN) (EA (TU a)) (CM (TU a)) (M1 (TU a) (YW a)) (P3 (TU a) (YW a)) (LV (TU a))) (Ss (Xm (nA (Xn a a) a a)) (DU (QJ a) (YN a)) (AG (λj=>Mv j (QJ a) (Nf a) j (Gr a) j)) (DU (QJ a) (bD a)) (AG (λj=>Mv j (QJ a) (Nf a) j (zG a) j)) (QY (Br (QJ a)) (λj=>HJ j (QJ a) (lS (Nf a) j))))) (Va aN (Xm (Xm (nA (Xn a a) a a))))))))) (AO (Sd (Ba a) (Bb a) (TU a) (CM (TU a)) (Do a) (LV (TU a))) (Sd (Ba a) (Bb a) (YW a) (CM (YW a)) (Do a) (LV (YW a))) (Tp (hd23 (tJ (rH a (TU a))) (tJ (rH a (YW a)))) (oY (vF (rH a (TU a))) (vF (rH a (YW a)))) (BD (CY (Ba a) (Bb a) (Z1 a) (DU (QJ a) (YN a)) (AG (λj=>Mv j (QJ a) (Nf a) j (Gr a) j)) (And (dF (Do a) (QJ a)) (FA (pvN (AKV a)) (qT (QJ a)))) (AG (λj=>HJ j (QJ a) (lS (Nf a) j)))) (CY (Ba a) (Bb a) (Z1 a) (DU (YN a) (bD a)) (AG (λj=>Mv j (YN a) (Gr a) j (zG a) j)) (dF (Do a) (YN a)) (AG (λj=>HJ j (YN a) (lS (Gr a) j)))) (BD (Ss (EP (Xn a a) (BAV a a)) (Ba a) (Bb a) (HQ (Co a) (Hp a)) (EK (Co a) (Hp a)) (Do a)) (Ss (nA (Xn a a) a a) (EA (XZ a)) (CM (XZ a)) (M1 (XZ a) (Qm a)) (P3 (XZ a) (Qm a)) (LV (XZ a))) (Ss (EP (nA (Xn a a) a a) aN) (EA (TU a)) (CM (TU a)) (M1 (TU a) (YW a)) (P3 (TU a) (YW a)) (LV (TU a))) (Ss (Xm (nA (Xn a a) a a)) (DU (QJ a) (YN a)) (AG (λj=>Mv j (QJ a) (Nf a) j (Gr a) j)) (DU (QJ a) (bD a)) (AG (λj=>Mv j (QJ a) (Nf a) j (zG a) j)) (QY (Br (QJ a)) (λj=>HJ j (QJ a) (lS (Nf a) j))))) (Va aN (Xm (Xm (nA (Xn a a) a a))))))))))))))):=by kernel_rfl
theorem p_Pa(a:PaA)(hg:gSm a.l=true)(hp:pvN ⟨a.l,a.m,a.k,false⟩=true->a.k.length<20):V_Pa a:=by
 rw[CZN]<;> dsimp only[go_sem];simp only[CC,CU,CUR,BBW]
 intro hb
 have hl:a.l.length<=26/\a.b.length<=27/\a.z.length<=5/\a.k.length<=27:=by
  by_cases h1:(a.k.length:Int)>27
  ·rw[decide_eq_true h1] at hb;simp at hb
  ·by_cases h2:(a.z.length:Int)>5
   ·rw[decide_eq_true h2] at hb;simp at hb
   ·by_cases h3:(a.b.length:Int)>27
    ·rw[decide_eq_true h3] at hb;simp at hb
    ·by_cases h4:(a.l.length:Int)>26
     ·rw[decide_eq_true h4] at hb;simp at hb
     ·omega
 obtain⟨l1,l2,l3,l4⟩:=hl
 have k1:a.l.length<1073741824:=by omega
 have k2:a.b.length<1073741824:=by omega
 have k3:a.z.length<1073741824:=by omega
 have k4:a.k.length<1073741824:=by omega
 have k5:a.l.length<4611686018427387904:=by omega
 have k6:a.b.length<4611686018427387904:=by omega
 obtain⟨f1,f2,f3⟩:=BUU a.l
 have f4:(FT a.l).r.l.length<1073741824:=by omega
 have f5:(FT a.l).r.b.length<1073741824:=by omega
 have f6:(FT a.l).k.length<1073741824:=by omega
 have f7:IntKind.i64.wrap (((FT a.l).r.l.length:Int)-1)=((FT a.l).r.l.length:Int)-1:=HL (by omega) (by omega)
 have f8:=CSP a.l
 rw[f7]
 refine⟨⟨0,rfl,⟨l1,l2,l3,l4,Nat.zero_le _,λj hj=>absurd hj (Nat.not_lt_zero _)⟩⟩,λx hX=>⟨λhlt=>⟨⟨by omega,hlt⟩,λhs=>⟨x+1,(BF (by omega)).symm,⟨l1,l2,l3,l4,by omega,λj hj=>?_⟩,by omega⟩⟩,λhge=>?_⟩⟩
 ·by_cases q:j<x
  ·exact hX.hs j q
  ·obtain rfl:j=x:=by omega
   omega
 have hs:∀i,i<a.k.length->(gD a.k i).length<1073741824:=λi hi=>by
  have:=hX.hs i (by omega)
  omega
 by_cases he:(FT a.l).e=0
 ·obtain⟨hc,W⟩:=BCU he
  obtain⟨p1,p2⟩:=CHK W hc
  obtain⟨p3,p4⟩:=CHU he
  simp[p1,p2,p3,p4,he,k1,k2,k3,k4,k5,k6,f1,f4,f5,f6]
  exact⟨hs,hg,f8,hp,hs⟩
 ·simp[he,k1,k2,k3,k4,k5,k6,f1,f4,f5,f6]
  exact⟨hs,hg,hp,hs⟩
theorem CAX(a:PaA)(hg:gSm a.l=true)(hp:pvN ⟨a.l,a.m,a.k,false⟩=true->a.k.length<20):FnT ZP 6 (xPa a) (AB []) (.bool true) []:=WP (A:=A_Pa a) (ren:=[]) (fz:=[]) Tryz.func6 (by kernel_rfl) (AA ACZ (AA BKG (AA ALF (AA CHQ (AA AUW (AA BLQ (AA BYD (AA BSC (AA BVN (AA BFX (AA BSS (AA BTL (AA BXG (AA BOU (AA CDM (AA BUS (AA BHL (AA BBC (AA CKW AD))))))))))))))))))) (p_Pa a hg hp)
end Go.Bal
