/- Package rating: the reference's gaugings and ratings; Passes. -/
import Derived.Test.YtoihhodbkimedaaGreatRLn3
set_option linter.unusedVariables false
set_option linter.unusedSimpArgs false
namespace Go.Bal
open Go Go.Sym Go.Proofs
def C_Gaus:Ctr:={ α:=List Gau,xs:=λl=>[.d (BX l)],val:=λl=>.d (BX l),pre:=λl=>[l.length<1073741824/\True] }
def ga3n(l:List Gau):Shape:={ α:=One,dflt:=default,T:=λ_=>⟨[(0,.d (BX l)),(3,.d ZU),(4,.int 0)],[]⟩,inv:=λ_=>True,meas:=λ_=>l.length+1 }
def ga3o(l:List Gau):Shape:={ α:=Nat,dflt:=0,T:=λi=>⟨[(0,.d (BX l)),(3,.own 301 3 0 i),(4,.int i)],[(301,.live (.row 3 i λj=>jI (gD l j)))]⟩,inv:=λi=>1<=i/\i<=l.length,meas:=λi=>l.length-i,again:=[(301,6096)] }
def BXH(l:List Gau):Ann:={ ann 19 [] with mt:=λid=>id==5,loops:=λid=>if id=3 then some [ga3n l,ga3o l] else none }
def BSV(l:List Gau):Prop:=BQ Try.prog (BXH l) BJD (AI BJD) (C_Gaus.xs l) (AD []) (C_Gaus.val l) [] [] [301]
theorem CFZ(l:List Gau):(BSV l)=(KC (Dg (YT l AL DH BY)) (XB (λi=>FL FP (Jf (EY l)) (BJ (TL (CI l)) Iy Gh MP MU ZC) (FB (λj=>Ar (MY l (Fc (GE j) (EA j 0) (λk=>AT k j (Ry (AH l k) (AH l HB) l k l HB l)))) (Df j (FX j l)) l j (ZG l))) (cU (Ff l)))) (λi=>OW (Df i (FX i l)) i l (BJ (IB i l) (YV i 3) Gh MD (OC i) (ZL i 24)) (FB (λj=>HR (MY l (Fc (HC j i) (BS j i) (λk=>AT k j (ZZ (AH l k) (JQ k i (AH l k) (AH l i)) l k (JQ k i (AP l k) (AP l i)) k (JQ k i (AS l k) (AS l i)))))) (Df j (FX j l)) l j i)) (KC (CF l i) (Kl i) (λj=>BR j l (Ry (AH l j) (AH l (BP j)) l j l (BP j) l))))):=by kernel_rfl
def BMB:=pD dL1 λx=>.d (eLn x)
def BOE(x:Ln):Prop:=BQ Try.prog (ann 8 []) AZK (AI AZK) (xL1 x) (AD []) (.d (eLn x)) [] [] []
theorem BVY(x:Ln):(BOE x)=(And (Aa x) (HL (LY x) (LW x) (MN x))):=by kernel_rfl
def C_modC:Ctr:={ α:=Rtg,xs:=λr=>[.d (eRtg r)],val:=λr=>.d (eRtg r),pre:=λr=>[r.b.length<1073741824/\r.l.length<1073741824] }
def mcH(r:Rtg)(v:AVal):List (Nat×HCell):=[(1000,rtgC r),(1016,.live (.box [.d ZU,.d ZU])),(2064,.live (.box [.d (CZ r.b),v]))]
def mcS(i:AVal):List (Nat×AVal):=[(1,.bptr 1000 0),(2,.bptr 1016 0),(3,.bptr 2064 0),(4,i)]
def mc3n(r:Rtg):Shape:={ α:=One,dflt:=default,T:=λ_=>⟨mcS (.int 0),mcH r (.d ZU)⟩,inv:=λ_=>True,meas:=λ_=>r.l.length+1 }
def mc3o(r:Rtg):Shape:={ α:=Nat,dflt:=0,T:=λi=>⟨mcS (.int i),mcH r (.own 301 4 0 i) ++ [(301,.live (.row 4 i λj=>eLn (gD r.l j)))]⟩,inv:=λi=>1<=i/\i<=r.l.length,meas:=λi=>r.l.length-i,again:=[(301,6144)] }
def CBO(r:Rtg):Ann:={ ann 28 [(ACL,C_cdI.spec dIs1),(AZP,BMB)] with mt:=λid=>id==5,loops:=λid=>if id=3 then some [mc3n r,mc3o r] else none }
def BYW(r:Rtg):Prop:=BQ Try.prog (CBO r) AOK (AI AOK) (C_modC.xs r) (AD []) (C_modC.val r) [] [] [301]
theorem CIS(r:Rtg):(BYW r)=(VV (As (IA (TO r)) (FA (TO r)) (HS (TO r))) (Dg (AF BY (Tm r) (Uu r) (BL (JV r)) (nA (AK (λi=>Fp i (JV r) (RF r i))) (CU DH (AY (TO r) (Qq r)) (BM (TO r) (Qq r)) AL (λi=>Hb i 0 XL))))) (XB (λi=>FL FP (Jf (AQ (JV r))) (BJ (TL (JV r)) (Ak 4) (VO 4) MP MU (OA 32)) (FB (λj=>LN (CA (AQ j) (DU 0) (Tm r) (RS (Uu r) (BL (JV r)) (λk=>Fp k (JV r) (RF r k)) AL (SC DH AL (Tm r) (Yz (Uu r) AL (GE j) (AK (λk=>QE k j (RF r k) (RF r HB))))))) (Df j (BU j (JV r))) (JV r) j (EO (JV r)))) (And (Tm r) (Jm (Uu r) (MV (JV r)))))) (λi=>PI (Df i (BU i (JV r))) i (JV r) (BJ (IR i (JV r)) (YV i 4) (VO 4) MD (OC i) (ZL i 32)) (FB (λj=>EV (CA (AQ j) (Kz i) (Tm r) (RS (Uu r) (BL (JV r)) (λk=>Fp k (JV r) (RF r k)) AL (SC DH AL (Tm r) (Yz (Uu r) AL (HC j i) (AK (λk=>GA k j (UU (RF r k) (JQ k i (OV (RF r k)) (OV (RF r i)))) (Fm (RF r k) (JQ k i (LY (RF r k)) (LY (RF r i))) (JQ k i (LW (RF r k)) (LW (RF r i))) (JQ k i (MN (RF r k)) (MN (RF r i)))))))))) (Df j (BU j (JV r))) (JV r) j i)) (CU (Tm r) (Uu r) (AR (JV r) i) (Kl i) (λj=>QE j (JV r) (RF r j) (RF r (BP j)))))):=by kernel_rfl
def rsS(a:GR)(v:AVal)(k:Nat):List (Nat×AVal):=[(0,.d (BX a.g)),(3,.bptr 1000 0),(8,v),(9,.int k)]
def rs9n(a:GR):Shape:={ α:=Nat,dflt:=0,T:=λk=>⟨rsS a (.d ZU) k,[(1000,rtgC a.r)]⟩,inv:=λk=>psI a k [],meas:=λk=>a.g.length-k }
def rs9o(a:GR):Shape:={ α:=KI,dflt:=default,T:=λx=>⟨rsS a (.own 301 1 0 x.l.length) x.k,[(1000,rtgC a.r),(301,.live (rowI x.l))]⟩,inv:=λx=>psI a x.k x.l,meas:=λx=>a.g.length-x.k }
def CUO(a:GR)(m:Nat):Shape:={ α:=Nat,dflt:=0,T:=λk=>⟨rsS a (.d ZU) k,[(1000,rtgC a.r)]⟩,inv:=λk=>k<a.g.length/\a.g.length-k=m/\psI a (k+1) [],meas:=λ_=>0 }
def CLA(a:GR)(m:Nat)(f:List (Nat×Nat)):Shape:={ α:=KI,dflt:=default,T:=λx=>⟨rsS a (.own 301 1 0 x.l.length) x.k,[(1000,rtgC a.r),(301,.live (rowI x.l))]⟩,inv:=λx=>x.k<a.g.length/\a.g.length-x.k=m/\psI a (x.k+1) x.l,meas:=λ_=>0,first:=f }
def BTQ(a:GR):Ann:={ ann 70 [(Tc,C_rCheck.spec WJ),(AWP,C_rChkR.spec dRt1),(AKY,C_rPart.spec dIX),(BFT,ART),(BFS,BYV)] with mt:=λid=>id==13,loops:=λid=>if id=9 then some [rs9n a,rs9o a] else none,cutIn:=λgs id=>if id=10 then some [CUO a (gs.getD 0 0),CLA a (gs.getD 0 0) [(301,14048)],CLA a (gs.getD 0 0) []] else none }
def BTE(a:GR):Prop:=BQ Try.prog (BTQ a) BIA (AI BIA) (xGR a) (AD []) (C_Passes.val a) [] [] [301]
abbrev yW:=@MK Ln
abbrev OJ:=GR.g
abbrev cQ:=qP
abbrev tX:=GR.r
abbrev APT:=@Exists KI
abbrev TX:=KI.l
abbrev GZ:=KI.k
abbrev BBV:=λ(f:KI->Prop)=>∀(x:KI),f x
abbrev Ue a:=CP (cQ a)
abbrev gE a b c:=Kc a (H7 b c)
abbrev gO a b c:=gE (TX a) b c
abbrev Dc a b:=FX a (OJ b)
abbrev ARO a b c d e f g h:=AX a b c d e f g b h
abbrev rN a b:=RF (tX a) b
abbrev W7 a:=JV (tX a)
abbrev Xa a b c d:=Fp a (W7 b) (rN c d)
abbrev Wq a:=BL (W7 a)
abbrev dC a:=TO (tX a)
abbrev aW a:=FC (dC a)
abbrev Xg a:=CX (dC a)
abbrev Tu a:=EO (GZ a)
abbrev fG a b c:=VR (OJ a) b c
abbrev dJ a b:=RD a (OJ b)
abbrev Jb a b:=AH (OJ a) b
abbrev ARS a:=CT (dC a)
abbrev AQK a b c:=Et (ARS a) (Jb b c)
abbrev fT a b c d:=rN a (AQK b c d)
abbrev gA a b:=IB a (OJ b)
abbrev Xq a(b:Nat->Ln):=yW (JV a) b
attribute [go_sem] yW OJ cQ tX APT TX GZ BBV Ue gE gO Dc ARO rN W7 Xa Wq dC aW Xg Tu fG dJ Jb ARS AQK fT gA Xq
theorem CFL(a:GR):(BTE a)=(VE (OJ a) (FN (OJ a)) (CS (Cq (OJ a)) (Yd (eU (L0 a)) (AO (cQ a) (Ao (OJ a)))) (UN (BJ (IA (dC a)) (FA (dC a)) (AR (ID (Xq (tX a) (λi=>rN a i))) (W7 a)) (AK (λi=>QE i (ID (Xq (tX a) (λj=>rN a j))) (RG (Xq (tX a) (λj=>rN a j)) i) (rN a i))) (HS (dC a)) (II (ID (Xq (tX a) (λi=>rN a i))))) (FI (ABL (Rtg.mk (ARS a) (Xq (tX a) (λi=>rN a i))))) (Yd (eU (L0 a)) (AO (cQ a) (ABL (Rtg.mk (ARS a) (Xq (tX a) (λi=>rN a i)))))) (Ji (FB (λi=>And (FO (AZ (OJ a)) (BN (OJ a)) AL DH (BD i) (Xg a) (aW a) (Wq a) (λj=>Xa j a a j)) (Ey (cQ a) (Dc i a) (gE My a i)))) (λi=>OW (Ey (cQ a) (Dc i a) (gE My a i)) i (OJ a) (DE (gA i a) (JR (IA (dC a)) (FA (dC a)) (AM (Jb a i)) (dL (dC a)) (IR (AQK a a i) (W7 a)) (gA i a) (ZN (fT a a a i)) (Jb a i) (GU (Jb a i))) (And (gA i a) (EX (not (belR (uJ (fT a a a i) (Jb a i)) (Kg (AP (OJ a) i)))) (gA i a))) (VJ (MS (belR (uJ (fT a a a i) (Jb a i)) (Kg (AP (OJ a) i))) (belR (Kg (AS (OJ a) i)) (uJ (fT a a a i) (Jb a i)))) (SR Qj 1 MP MU (OA 8)) (APT (λj=>BJ (MY (OJ a) (ARO AL (GE (CG (TX j))) (CB (GZ j) i) (Xg a) (aW a) (Wq a) (AK (λk=>Xa k a a k)) (AK (λk=>Nb k (TX j) k (AQ i))))) (dJ (GZ j) a) (fG a (GZ j) i) (Ue a) (Dc (Tu j) a) (gO j a (Tu j)))) (λj=>BJ (FO (AZ (OJ a)) (BN (OJ a)) AL DH (CB j i) (Xg a) (aW a) (Wq a) (λk=>Xa k a a k)) (dJ j a) (fG a j i) (Ue a) (Dc (EO j) a) (gE My a (EO j))))) (Jm (AK (λj=>BV (AF (dJ j a) (fG a j i) (Ue a) (Dc (EO j) a) (gE My a (EO j))) (FB (λk=>HR (FO (AZ (OJ a)) (BN (OJ a)) AL DH (BS k j) (Xg a) (aW a) (Wq a) (λl=>Xa l a a l)) (Ey (cQ a) (Dc k a) (gE My a k)) (OJ a) k i)))) (BBV (λj=>BV (AF (dJ (GZ j) a) (fG a (GZ j) i) (Ue a) (Dc (Tu j) a) (gO j a (Tu j))) (APT (λk=>HR (MY (OJ a) (ARO AL (AY (TX k) (TX j)) (BS (GZ k) (GZ j)) (Xg a) (aW a) (Wq a) (AK (λl=>Xa l a a l)) (BM (TX k) (TX j)))) (Ey (cQ a) (Dc (GZ k) a) (gO k a (GZ k))) (OJ a) (GZ k) i))))) (Yd (eU (L0 a)) (Ue a))) (BBV (λi=>OW (Ey (cQ a) (Dc (GZ i) a) (gO i a (GZ i))) (GZ i) (OJ a) (DE (gA (GZ i) a) (JR (IA (dC a)) (FA (dC a)) (AM (Jb a (GZ i))) (dL (dC a)) (IR (AQK a a (GZ i)) (W7 a)) (gA (GZ i) a) (ZN (fT a a a (GZ i))) (Jb a (GZ i)) (GU (Jb a (GZ i)))) (And (gA (GZ i) a) (EX (not (belR (uJ (fT a a a (GZ i)) (Jb a (GZ i))) (Kg (AP (OJ a) (GZ i))))) (gA (GZ i) a))) (CL (MS (belR (uJ (fT a a a (GZ i)) (Jb a (GZ i))) (Kg (AP (OJ a) (GZ i)))) (belR (Kg (AS (OJ a) (GZ i))) (uJ (fT a a a (GZ i)) (Jb a (GZ i))))) (SR (And (CX (TX i)) (DF 0 (TX i) (BL 1))) 1 MD (BU (Ht (TX i)) 9223372036854775807) (OR (Ht (TX i)) 8)) (APT (λj=>BJ (MY (OJ a) (ARO AL (HC (CG (TX j)) (CG (TX i))) (CB (GZ j) (GZ i)) (Xg a) (aW a) (Wq a) (AK (λk=>Xa k a a k)) (AK (λk=>Nb k (TX j) k (JQ k (CG (TX i)) (CM (TX i) k) (AQ (GZ i))))))) (dJ (GZ j) a) (fG a (GZ j) (GZ i)) (Ue a) (Dc (Tu j) a) (gO j a (Tu j)))) (APT (λj=>BJ (MY (OJ a) (ARO AL (AY (TX j) (TX i)) (CB (GZ j) (GZ i)) (Xg a) (aW a) (Wq a) (AK (λk=>Xa k a a k)) (BM (TX j) (TX i)))) (dJ (GZ j) a) (fG a (GZ j) (GZ i)) (Ue a) (Dc (Tu j) a) (gO j a (Tu j)))))) (Jm (AK (λj=>BV (AF (dJ j a) (fG a j (GZ i)) (Ue a) (Dc (EO j) a) (gE My a (EO j))) (FB (λk=>HR (FO (AZ (OJ a)) (BN (OJ a)) AL DH (BS k j) (Xg a) (aW a) (Wq a) (λl=>Xa l a a l)) (Ey (cQ a) (Dc k a) (gE My a k)) (OJ a) k (GZ i))))) (BBV (λj=>BV (AF (dJ (GZ j) a) (fG a (GZ j) (GZ i)) (Ue a) (Dc (Tu j) a) (gO j a (Tu j))) (APT (λk=>HR (MY (OJ a) (ARO AL (AY (TX k) (TX j)) (BS (GZ k) (GZ j)) (Xg a) (aW a) (Wq a) (AK (λl=>Xa l a a l)) (BM (TX k) (TX j)))) (Ey (cQ a) (Dc (GZ k) a) (gO k a (GZ k))) (OJ a) (GZ k) (GZ i)))))) (AN (AY (L0 a) (TX i)) (JF (BP (CG (TX i))) (TX i)) (AK (λj=>GH j (L0 a) (TX i) (BP j))) (Ue a)))))))):=by kernel_rfl
theorem CQK(l:List Gau)(h:l.length<1073741824):BSV l:=by
 rw[CFZ]<;> delta JT XL EE EC DP GD JG CS AO AR AK BV BZ AQ BU DD ES LX EF UM CI EZ FB FP EU LM Vu XB Jv Mz AG DG AF AT AH FF CA CF AM BL GQ JM Cm cU Ky AP BR AS AW DX EO DU CR BP BC HH CQ HL AL OK AZ EP ED BW EL FX HI JA CL EA Hb EX RH DV ZZ EM GF BJ BN FD MW ON HC HB Ks FL DH BS JQ BY FH EY NB Cz GE Db RN Ar OA VO ZG IB MC ML OR HR UP QA KC TQ MY YS MD MU OC MP Df OW ZL Ak TL Zc Gh Lm ZC YV Kl Fc Ff Iy Dg Ry YT Jf;simp only[CC,eq_self,implies_true,forall_const,Int.toNat_zero]
 refine⟨⟨default,trivial⟩,⟨λhlt=>⟨⟨⟨by omega,by omega⟩,by omega,by omega,by omega,by omega,by omega⟩,1,⟨rfl,(CN (a:=0) (by omega)).symm,rfl,λi hi=>by rw[show i=0 by omega];exact⟨rfl,rfl,rfl⟩⟩,⟨by omega,by omega⟩,by omega⟩,λhge=>by omega⟩,λk ⟨k1,k2⟩=>⟨λhlt=>⟨⟨⟨by omega,by omega⟩,by omega,λh=>(by cases h),by omega,by omega⟩,k+1,⟨rfl,(CN (by omega)).symm,rfl,λi hi=>?_⟩,⟨by omega,by omega⟩,by omega⟩,λhge=>⟨by omega,Nat.le_refl _⟩⟩⟩
 by_cases e:i<k
 ·rw[decide_eq_true e];exact⟨rfl,rfl,rfl⟩
 ·rw[decide_eq_false e,show i=k by omega];exact⟨rfl,rfl,rfl⟩
theorem CHM:AJ Try.prog BHW (C_Gaus.spec WJ):=VD C_Gaus BXH [] [301] CHL (λ_=>by kernel_rfl) (λ_=>AE) (λ(l:List Gau) h=>CQK l (show l.length<1073741824/\True from h).1) (λ_=>WK rfl rfl) _
theorem BZT:AJ Try.prog AZP BMB:=UX xL1 hL1 λx _=>Mn (A:=ann 8 []) (ren:=[]) (fz:=[]) BVD (by kernel_rfl) AE (by
 show BOE x;rw[BVY]<;> delta OV LY LW MN AO AG CA AM GQ HH HL Aa;simp)
theorem CPZ(r:Rtg)(h1:r.b.length<1073741824)(h:r.l.length<1073741824):BYW r:=by
 rw[CIS]<;> delta JT XL OV LY LW MN GD JG CS AO AR CG AK BV BZ CM AQ BU DD ES LX EF NK UM FB FP EU TO ID RG LM Vu XB Jv Mz AG JO IE DG AF AT FF CA AM CT Jm BL GQ JM Cm Ky SC Yz DF DX EO DU CR BP BC HH GA HL IC AN AL RF GI ED AY BW JV EL GC HI CX JD II UU HG CL CU PF Hb EX RH DV GH PG IH BJ BM FC FD LN Aa MW HC HB SL Ks LL FL Ac EV IA DH ZX JQ BY FH FA NB Cz HS GE Db RN OA VO MC MV ML OR VV UP IR QA TQ YS MD MU dH OC Fp Fm MP nA RS Df ZL Ak TL Lm Qq YV Kl QE Uu PI Tm Dg Kz Jf As;simp only[CC,eq_self,implies_true,forall_const,Int.toNat_zero]
 refine⟨h1,⟨default,trivial⟩,⟨λhlt=>⟨⟨⟨by omega,by omega⟩,by omega,by omega,by omega,by omega,by omega⟩,1,⟨(CN (a:=0) (by omega)).symm,rfl,rfl,λi hi=>by rw[show i=0 by omega];exact⟨rfl,rfl,rfl,rfl⟩⟩,⟨by omega,by omega⟩,by omega⟩,λhge=>by omega⟩,λk ⟨k1,k2⟩=>⟨λhlt=>⟨⟨⟨by omega,by omega⟩,by omega,λh=>(by cases h),by omega,by omega⟩,k+1,⟨(CN (by omega)).symm,rfl,rfl,λi hi=>?_⟩,⟨by omega,by omega⟩,by omega⟩,λhge=>⟨by omega,Nat.le_refl _⟩⟩⟩
 by_cases e:i<k
 ·rw[decide_eq_true e];exact⟨rfl,rfl,rfl,rfl⟩
 ·rw[decide_eq_false e,show i=k by omega];exact⟨rfl,rfl,rfl,rfl⟩
theorem CIB:AJ Try.prog AOJ (C_modC.spec dRt1):=VD C_modC CBO [] [301] BQC (λ_=>by kernel_rfl) (λ_=>AC BHK (AC BZT AE)) (λ(r:Rtg) h=>CPZ r h.1 h.2) (λ_=>WK rfl rfl) _
theorem BLO{x:Ln}{g:Gau}(hx:PJ x)(hg:RK g):(bif belR (Wc x g.st) (Rt.mk g.lo 1) then true else belR (Rt.mk g.hi 1) (Wc x g.st))=!LB x g:=by
 obtain⟨g1,g2,g3,g4,g5⟩:=hg
 have hd:=AWO (t:=g.st) hx
 have hn:=CSV hx ⟨g1,g2⟩
 have m1:=Int.mul_le_mul_of_nonneg_right (show g.lo<=200000 by omega) (Int.le_of_lt hd.1)
 have m2:=Int.mul_le_mul_of_nonneg_right g5 (Int.le_of_lt hd.1)
 have m3:=Int.mul_nonneg g3 (Int.le_of_lt hd.1)
 have m4:=Int.mul_nonneg (show 0<=g.hi by omega) (Int.le_of_lt hd.1)
 unfold belR LB
 generalize Wc x g.st=r at *
 show (bif decide (wr (r.n*1)<wr (g.lo*r.d)) then true else decide (wr (g.hi*r.d)<wr (r.n*1)))=_
 rw[Int.mul_one,show wr r.n=r.n from JH (by omega) (by omega),show wr (g.lo*r.d)=g.lo*r.d from JH (by omega) (by omega),show wr (g.hi*r.d)=g.hi*r.d from JH (by omega) (by omega)]
 by_cases c1:r.n<g.lo*r.d
 ·rw[decide_eq_true c1,decide_eq_false (show ¬g.lo*r.d<=r.n by omega)];rfl
 ·rw[decide_eq_false c1,decide_eq_true (show g.lo*r.d<=r.n by omega)]
  by_cases c2:g.hi*r.d<r.n
  ·rw[decide_eq_true c2,decide_eq_false (show ¬r.n<=g.hi*r.d by omega)];rfl
  ·rw[decide_eq_false c2,decide_eq_true (show r.n<=g.hi*r.d by omega)];rfl
theorem CNH(a:GR)(h1:a.g.length<1073741824)(h2:a.r.b.length<1073741824)(h3:a.r.l.length<1073741824):BTE a:=by
 rw[CFL]<;> delta JT qD XL EE EC DP OV LY LW MN GD WI JG CS AO AR CG AK BV BZ CM AQ BU DD ES LX EF NK uJ CI EZ FB LZ FP Ep TO ABL ID RG LM My Jv Mz yW Kc OJ cQ tX APT TX GZ BBV AG GT JO GV IE DG AF AT AH FF CA CF BH AM CT Jm BL GQ JM Ky Yd AP BR AS AW DF DX EO DU CR AX BP BC HH GA CQ HL IC AN AL RF OK AZ ARO EP GI ED AY BW JV HU EL FX GC HI CX JD II UU JA HG CL PF GU EA Hb EX HY dC CP DV Nb EM GH PG IH GF FE CB BJ BN BM FC EW FM FK FD rN Aa MW ON HC SL MI Ks FL RD Ac MS CE IA DH BS JF ZX JQ Xq dU BD FH Jb BB EY FA HZ NB DY Cz Ht HS GE FO Db FN DE Ey Ar FI OA VO VR IB ARS MC W7 MV OR HR AQK UP IR Ao fT MY YS MD Dc MU JR SR gE Fz Fp Fm MP Ii QP OW Ue Tu UN aW Wq Kg VJ QE Xg Vc Cq Ji gA dJ eU ZN VE Qj Xa gO fG dL;simp only[CC,eq_self,implies_true,forall_const]
 rw[show Rtg.mk a.r.b a.r.l=a.r from rfl]
 have em:¬qP a=0->L0 a=[]:=λh=>by unfold L0;rw[show (qP a==0)=false by simpa using h];rfl
 have facts:qP a=0->AV a.g=0/\okRt a.r:=λh=>by
  unfold qP at h
  cases hc:AV a.g==0 with
  |false=>rw[hc] at h;have h:AV a.g=0:=h;rw[h] at hc;cases hc
  |true=>rw[hc] at h;exact⟨by simpa using hc,(BQK h).1⟩
 have pre:∀{k:Nat},qP a=0->k<a.g.length->(0<=((Et a.r.b (gD a.g k).st:Nat):Int)/\((Et a.r.b (gD a.g k).st:Nat):Int)<a.r.l.length)/\PJ (gD a.r.l (Et a.r.b (gD a.g k).st))/\RK (gD a.g k):=λ{k} h hk=>by
  obtain⟨f1,f2,f3,f4,f5⟩:=facts h
  have hle:Et a.r.b (gD a.g k).st<=a.r.b.length:=List.countP_le_length
  exact⟨⟨by omega,by omega⟩,f4 _ (CV (by omega)),(NV f1).2 _ (CV hk)⟩
 have cn:∀(m i:Nat),i<a.g.length/\a.g.length-i=m/\psI a (i+1) []->∃j:Nat,(j:Int)=IntKind.i64.wrap ((i:Int)+1)/\psI a j []/\a.g.length-j<m:=λm i ⟨b1,b2,b3⟩=>⟨i+1,(CN (by omega)).symm,b3,by omega⟩
 have co:∀(m:Nat) (x:KI),x.k<a.g.length/\a.g.length-x.k=m/\psI a (x.k+1) x.l->∃y:KI,(y.l.length=x.l.length/\(y.k:Int)=IntKind.i64.wrap ((x.k:Int)+1)/\y.l.length=x.l.length/\∀i,i<y.l.length->gD y.l i=gD x.l i)/\psI a y.k y.l/\a.g.length-y.k<m:=λm x ⟨b1,b2,b3⟩=>⟨⟨x.k+1,x.l⟩,⟨rfl,(CN (by omega)).symm,rfl,λ_ _=>rfl⟩,b3,by show a.g.length-(x.k+1)<m;omega⟩
 have fin:∀{l:List Int},qP a=0->l=H7 a a.g.length->L0 a=l:=λ{l} h1 h2=>by unfold L0;rw[h1,h2];rfl
 refine⟨h1,λhc=>?_,λhc=>⟨⟨h2,h3⟩,λhr=>?_,λhr=>?_⟩⟩
 ·have e:qP a=AV a.g:=by unfold qP;rw[show (AV a.g==0)=false by simpa using hc];rfl
  rw[em (by rw[e];simpa using hc)];exact⟨rfl,rfl,e⟩
 ·have e:qP a=Eg a.r:=by unfold qP;rw[show (AV a.g==0)=true by simpa using hc];rfl
  rw[em (by rw[e];simpa using hr)];exact⟨rfl,rfl,e⟩
 ·have e:qP a=0:=by
   unfold qP;rw[show (AV a.g==0)=true by simpa using hc];simpa using hr
  refine⟨⟨0,rfl,e,Nat.zero_le _,rfl⟩,λk ⟨k1,k2,k3⟩=>⟨λhlt=>?_,λhge=>?_⟩,λx ⟨x1,x2,x3⟩=>⟨λhlt=>?_,λhge=>?_⟩⟩
  ·have hk:k<a.g.length:=by omega
   obtain⟨p1,p2,p3⟩:=pre k1 hk
   rw[BLO p2 p3]
   refine⟨⟨⟨⟨by omega,by omega⟩,h2,p1,⟨by omega,by omega⟩,p2,p3.1,p3.2.1⟩,⟨⟨by omega,by omega⟩,λ_=>⟨by omega,by omega⟩⟩,λhp=>⟨⟨by omega,by omega,by omega,by omega,by omega⟩,⟨k,[(k:Int)]⟩,⟨rfl,rfl,rfl,λi hi=>by rw[show i=0 by have h1:i<1:=hi;omega];rfl⟩,hk,rfl,k1,hk,?_⟩,λhp=>⟨k,rfl,hk,rfl,k1,hk,?_⟩⟩,cn _,co _⟩
   ·show [(k:Int)]=H7 a (k+1)
    rw[vR,if_pos (show notP a k=true from hp),<-k3];rfl
   ·rw[vR,if_neg (show ¬notP a k=true by unfold notP;rw[hp];simp)];exact k3
  ·have ee:L0 a=[]:=fin k1 (by rw[k3,show k=a.g.length by omega])
   rw[ee];exact⟨rfl,rfl,k1⟩
  ·have hk:x.k<a.g.length:=by omega
   have hxl:=BYL a x.k
   rw[<-x3] at hxl
   obtain⟨p1,p2,p3⟩:=pre x1 hk
   rw[BLO p2 p3]
   refine⟨⟨⟨⟨by omega,by omega⟩,h2,p1,⟨by omega,by omega⟩,p2,p3.1,p3.2.1⟩,⟨⟨by omega,by omega⟩,λ_=>⟨by omega,by omega⟩⟩,λhp=>⟨⟨by omega,λh=>(by cases h),by omega,by omega⟩,⟨x.k,x.l ++ [(x.k:Int)]⟩,⟨by simp,rfl,by simp,CMZ _ _⟩,hk,rfl,x1,hk,?_⟩,λhp=>⟨⟨x.k,x.l⟩,⟨rfl,rfl,rfl,λ_ _=>rfl⟩,hk,rfl,x1,hk,?_⟩⟩,cn _,co _⟩
   ·show x.l ++ _=H7 a (x.k+1)
    rw[vR,if_pos (show notP a x.k=true from hp),<-x3]
   ·show x.l=H7 a (x.k+1)
    rw[vR,if_neg (show ¬notP a x.k=true by unfold notP;rw[hp];simp)];exact x3
  ·have ee:L0 a=x.l:=fin x1 (by rw[x3,show x.k=a.g.length by omega])
   rw[ee];exact⟨rfl,Nat.le_refl _,λ_ _=>rfl,x1⟩
theorem CHR:AJ Try.prog BJQ (C_Passes.spec dGR):=VD C_Passes BTQ [] [301] CIV (λ_=>by kernel_rfl) (λ_=>AC kM (AC CAS (AC BDA (AC CFW (AC CFK AE))))) (λ(a:GR) h=>CNH a h.1 h.2.1 h.2.2) (λ_=>WK rfl rfl) _
end Go.Bal
